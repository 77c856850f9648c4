import PyProof.Rows.All
import Wide.All
import OpenK.AllK
import Wide.FinOn
import PySem.Syntax
import HandS.Lambda
import HandS.ForMost
import HandS.Flow
import HandS.Exc
import HandS.TryOnly
import HandS.ExcOwn
import HandS.IsInst
import HandS.Walk
import HandS.TupAny
import HandS.Style
import HandS.Zip
import KE.KDictZip
import KE.KItemsList
import HandS.ListItems
import HandS.TupMul
import HandS.Deep
import HandS.Wide
import HandS.ForDict
import PyProof.WalksMore
import PyProof.Rows.SumAny
import HandS.Text
import HandS.SortInts
import HandS.More
import HandS.Small
import HandS.ExcCtx
import HandS.Conv
import KE.GoesMore
import KE.GoesEnum
import HandS.Iter
import HandS.Zip0
import HandS.SetFor
import HandS.HotCalls
import HandS.ExcIs
import HandS.Head0
import HandS.Head1
import HandS.Head2
import HandS.HeadEnd
import HandS.HeadHook1
import HandS.HeadHook2
import HandS.HeadHook3
import HandS.HeadHook4
import HandS.EndTab
import HandS.HeadWalk
import PySem.Challenge.RW_boardforged_k21_whole_gate_frames
set_option Elab.async false
set_option linter.all false
/-! Ev -/
set_option linter.all false
set_option maxRecDepth 100000
/-! A small interpreter of the plain part of Python that the program uses: values without identity, slots. -/
namespace BF
open PySem

/-- values -/
inductive D where
  | non | bl (b : Bool) | int (i : Int) | str (x : Str)
  | tup (xs : List D) | lst (xs : List D) | dic (kvs : List (D × D))
  | fn (f : Nat) | frz (xs : List D)
  deriving Inhabited

inductive Op2 where
  | add | sub | mul | fdiv | mod | pow | shl | shr | band | bor | bxor
inductive Cm where
  | eq | ne | lt | le | gt | ge | is | isn | isin | notin
inductive Bi where
  | len | abs | int | str | list | tuple | all | any | sum | sorted | min1 | max1 | min2 | max2
  | isInt | isBool | isStr | isTuple | isList | dict1
inductive Mt where
  | join | index | count | get1 | get2
inductive Mm where
  | append | pop0 | pop1

/-- targets -/
inductive T where
  | var (i : Nat) | tup (ts : List T)

mutual
inductive E where
  | var (i : Nat) | rv (i : Nat) | cst (d : D) | fn (f : Nat)
  | tup (es : Es) | lst (es : Es)
  | bin (op : Op2) (a b : E) | neg (a : E) | not (a : E)
  | and (a b : E) | or (a b : E)
  | cmp (op : Cm) (a b : E) | chain (op op' : Cm) (a b c : E)
  | ite (c a b : E)
  | call (f : Nat) (as : Es) | cal (i : Nat) (as : Es)
  | act (i : Nat) | lam (f : Nat) (b : E)
  | bi (b : Bi) (as : Es)
  | mt (m : Mt) (a : E) (as : Es) | mm (m : Mm) (i : Nat) (as : Es)
  | sub (a b : E) | sl (a : E) (lo hi : Eo) | rev (a : E)
  | lc (own : List Nat) (elt : E) (t : T) (it : I) (c : Eo)
  | dic (es : Es)
  | isx (i : Nat) (c : Nat)
  | om (m : Mt) (a : E) (as : Es) | lof (t : Bool) (it : I)
  | bad
inductive Es where
  | nil | cons (e : E) (es : Es)
inductive Eo where
  | none | some (e : E)
inductive I where
  | val (e : E) | lst (e : E) | rng1 (a : E) | rng2 (a b : E) | enum (a : E) | zip (a b : E) | rng3 (a b c : E) | items (a : E) | bad
end

mutual
inductive S where
  | expr (e : E) | asg (t : T) (e : E) | asgr (i : Nat) (e : E)
  | par (is : List (Nat × Bool)) (es : Es)
  | seti (i : Nat) (k e : E)
  | ifs (c : E) (a b : Ss) | for (t : T) (it : I) (b : Ss) | while (c : E) (b : Ss)
  | ret (e : E) | retr (i : Nat) | retN | raise (c : Nat) | tryx (b : Ss) (c : Nat) (i : Option Nat) (h : Ss)
  | acts
  | pass | cont | brk | bad
inductive Ss where
  | nil | cons (s : S) (ss : Ss)
end

abbrev Sd := List (Option D)
inductive R (α : Type) where
  | ok (a : α) | exc (c : Nat) | bad
def R.bind {α β : Type} : R α → (α → R β) → R β
  | .ok a, f => f a
  | .exc c, _ => .exc c
  | .bad, _ => .bad
inductive Fl where
  | nx | br | ct | rt (d : D)

abbrev Fns := Nat → List D → R (D × List D)

def SZ : Nat := 16777216

/-! ### equality -/
mutual
def deq : D → D → Bool
  | .non, .non => true
  | .bl a, .bl b => a == b
  | .bl a, .int j => (if a then 1 else 0) == j
  | .int i, .bl b => i == (if b then 1 else 0)
  | .int i, .int j => i == j
  | .str x, .str y => x == y
  | .lst xs, .lst ys => deqs xs ys
  | .tup xs, .tup ys => deqs xs ys
  | _, _ => false
def deqs : List D → List D → Bool
  | [], [] => true
  | x :: xs, y :: ys => deq x y && deqs xs ys
  | _, _ => false
end
/-- what may be compared at any depth: at most n deep -/
def flat : D → Bool
  | .non => true | .bl _ => true | .int _ => true | .str _ => true | _ => false
mutual
def dp : Nat → D → Bool
  | _, .non => true
  | _, .bl _ => true
  | _, .int _ => true
  | _, .str x => x.cps.all (· < 0x110000)
  | n, .lst xs => (match n with | 0 => false | n + 1 => dps n xs)
  | n, .tup xs => (match n with | 0 => false | n + 1 => dps n xs)
  | _, _ => false
def dps : Nat → List D → Bool
  | _, [] => true
  | n, x :: xs => dp n x && dps n xs
end

/-! ### operators -/
def opI (op : Op2) (i j : Int) : Option Int :=
  match op with
  | .add => some (i + j)
  | .sub => some (i - j)
  | .mul => if (-(2 ^ 64) < i ∧ i < 2 ^ 64) ∨ (-(2 ^ 64) < j ∧ j < 2 ^ 64) then some (i * j) else none
  | .fdiv => if 0 < j ∧ j.natAbs.log2 < 9000 then some (i / j) else none
  | .mod => if 0 < j then some (i % j) else none
  | .pow => if 0 ≤ j ∧ j ≤ 1000000 ∧ i.natAbs < 2 ^ 64 then some (i ^ j.toNat) else none
  | .shl => if 0 ≤ j ∧ j ≤ 1000000 ∧ i.natAbs < 2 ^ 64 then some (i * 2 ^ j.toNat) else none
  | .shr => if 0 ≤ j then some (i / 2 ^ j.toNat) else none
  | .band => if 0 ≤ i ∧ 0 ≤ j then some ((i.toNat &&& j.toNat : Nat) : Int) else none
  | .bor => if 0 ≤ i ∧ 0 ≤ j then some ((i.toNat ||| j.toNat : Nat) : Int) else none
  | .bxor => if 0 ≤ i ∧ 0 ≤ j then some ((i.toNat ^^^ j.toNat : Nat) : Int) else none
def rep (k : Int) (xs : List D) : List D := (List.replicate k.toNat xs).flatten
def bop (op : Op2) (a b : D) : Option D :=
  match a, b with
  | .int i, .int j => (opI op i j).map .int
  | .lst xs, .lst ys => (match op with
    | .add => if xs.length + ys.length ≤ SZ then some (.lst (xs ++ ys)) else none
    | _ => none)
  | .tup xs, .tup ys => (match op with
    | .add => if xs.length + ys.length ≤ SZ then some (.tup (xs ++ ys)) else none
    | _ => none)
  | .str x, .str y => (match op with
    | .add => if x.length + y.length ≤ SZ then some (.str (x ++ y)) else none
    | _ => none)
  | .lst xs, .int k => (match op with
    | .mul => if -(2 ^ 63) ≤ k ∧ k < 2 ^ 63 ∧ xs.length * k.toNat ≤ SZ then some (.lst (rep k xs)) else none
    | _ => none)
  | .tup xs, .int k => (match op with
    | .mul => if -1000 ≤ k ∧ k ≤ 1000 ∧ xs.length ≤ 1000 then some (.tup (rep k xs)) else none
    | _ => none)
  | _, _ => none
/-- truth -/
def tru : D → Option Bool
  | .non => some false
  | .bl b => some b
  | .int i => some (i != 0)
  | .str x => if x.length ≤ SZ then some ((x.length : Int) != 0) else none
  | .dic xs => some (!xs.isEmpty)
  | .tup xs => some (!xs.isEmpty)
  | .lst xs => some (!xs.isEmpty)
  | _ => none
/-- scalars that may be compared whatever they are -/
def scalD : D → D → Bool
  | .non, .non => true | .non, .int _ => true | .int _, .non => true | .non, .bl _ => true | .bl _, .non => true | .non, .str _ => true | .str _, .non => true
  | .int _, .int _ => true | .bl _, .bl _ => true | .str _, .str _ => true
  | .int _, .str _ => true | .str _, .int _ => true | .bl _, .str _ => true | .str _, .bl _ => true
  | _, _ => false
/-- lists of dints as such -/
def dints : List D → Option (List Int)
  | [] => some []
  | .int i :: r => (dints r).map (i :: ·)
  | _ => none
def bls : List D → Option (List Bool)
  | [] => some []
  | .bl i :: r => (bls r).map (i :: ·)
  | _ => none
def dstrs : List D → Option (List Str)
  | [] => some []
  | .str i :: r => (dstrs r).map (i :: ·)
  | _ => none
def lexLt : List Int → List Int → Bool
  | [], [] => false
  | [], _ :: _ => true
  | _ :: _, [] => false
  | x :: xs, y :: ys => if x = y then lexLt xs ys else decide (x < y)
def ceq (a b : D) : Option Bool := if scalD a b || (dp 60 a && dp 60 b) then some (deq a b) else none
def itemsOf : D → Option (List D)
  | .tup xs => some xs
  | .lst xs => some xs
  | .frz xs => some xs
  | _ => none
def lstsOf : D → Option (List D)
  | .lst xs => some xs
  | .frz xs => some xs
  | _ => none
def zipsOf : D → D → Option (List D × List D)
  | .tup xs, .tup ys => some (xs, ys)
  | .lst xs, .lst ys => some (xs, ys)
  | _, _ => none
def cin (a b : D) : Option Bool :=
  match b with
  | .tup xs => if flat a && xs.all flat then some (xs.any fun y => deq y a) else none
  | .lst xs => if (if flat a then xs.all flat else dp 60 a && dps 59 xs) then some (xs.any fun y => deq y a) else none
  | .dic kvs => (match a with
    | .int _ => some (kvs.any fun q => deq q.1 a)
    | .str _ => some (kvs.any fun q => deq q.1 a)
    | _ => none)
  | _ => none
def cmpD (op : Cm) (a b : D) : Option Bool :=
  match op with
  | .eq => ceq a b
  | .ne => (ceq a b).map (!·)
  | .is => (match b with
    | .non => some (match a with | .non => true | _ => false)
    | .bl k => (match a with | .bl j => some (decide (j = k)) | _ => none)
    | _ => none)
  | .isn => (match b with
    | .non => some (match a with | .non => false | _ => true)
    | .bl k => (match a with | .bl j => some (!decide (j = k)) | _ => none)
    | _ => none)
  | .isin => cin a b
  | .notin => (cin a b).map (!·)
  | .lt => (match a, b with
    | .int i, .int j => some (decide (i < j))
    | .tup xs, .tup ys => (match dints xs, dints ys with
      | some is, some js => some (lexLt is js)
      | _, _ => none)
    | _, _ => none)
  | .le => (match a, b with
    | .int i, .int j => some (decide (i ≤ j))
    | _, _ => none)
  | .gt => (match a, b with
    | .int i, .int j => some (decide (j < i))
    | _, _ => none)
  | .ge => (match a, b with
    | .int i, .int j => some (decide (j ≤ i))
    | _, _ => none)
/-- the place that an index of any sign means -/
def ixn (n : Nat) (i : Int) : Option Nat := if 0 ≤ i then (if i < n then some i.toNat else none) else if -(n : Int) ≤ i then some (i + n).toNat else none
def six (n d : Nat) : Option Int → Nat
  | none => d
  | some v => if v < 0 then (v + (n : Int)).toNat else min v.toNat n
def cut (xs : List D) (lo hi : Option Int) : List D := (xs.drop (six xs.length 0 lo)).take (six xs.length xs.length hi - six xs.length 0 lo)
def keyD (a : D) : Bool := match a with | .int _ => true | .str _ => true | _ => false
def dget (kvs : List (D × D)) (k : D) : Option D := (kvs.find? fun q => deq q.1 k).map (·.2)
def dput (kvs : List (D × D)) (k v : D) : List (D × D) := if (kvs.any fun q => deq q.1 k) = true then kvs.map (fun q => if deq q.1 k = true then (q.1, v) else q) else kvs ++ [(k, v)]
def subD (a b : D) : Option D :=
  match a with
  | .tup xs => (match b with | .int i => (ixn xs.length i).bind fun j => xs[j]? | _ => none)
  | .lst xs => (match b with | .int i => (ixn xs.length i).bind fun j => xs[j]? | _ => none)
  | .dic kvs => if keyD b then dget kvs b else none
  | .str x => (match b with | .int i => if x.length ≤ SZ then (ixn x.cps.toList.length i).bind fun j => (x.cps.toList[j]?).map fun c => D.str ⟨#[c]⟩ else none | _ => none)
  | _ => none
def minL : List Int → Option Int
  | [] => none
  | x :: xs => some (xs.foldl min x)
def maxL : List Int → Option Int
  | [] => none
  | x :: xs => some (xs.foldl max x)
def ins (x : Int) : List Int → List Int
  | [] => [x]
  | y :: r => if x ≤ y then x :: y :: r else y :: ins x r
def isort : List Int → List Int
  | [] => []
  | x :: r => ins x (isort r)
def intL (xs : List Int) : List D := xs.map .int
/-- pairs of a key and a value -/
def pairsD : List D → Option (List (D × D))
  | [] => some []
  | .tup [k, v] :: r => if keyD k then (pairsD r).map ((k, v) :: ·) else none
  | _ => none
/-- a key, its value, a key, .. -/
def upD : List D → Option (List (D × D))
  | [] => some []
  | k :: v :: r => if keyD k then (upD r).map ((k, v) :: ·) else none
  | _ => none
def putsD (kvs more : List (D × D)) : List (D × D) := more.foldl (fun a p => dput a p.1 p.2) kvs
/-- built-in functions, the arguments by values -/
def biD (b : Bi) (as : List D) : Option D :=
  match b, as with
  | .len, [.str x] => if x.length ≤ SZ then some (.int x.length) else none
  | .len, [.tup xs] => some (.int xs.length)
  | .len, [.lst xs] => some (.int xs.length)
  | .len, [.dic xs] => some (.int xs.length)
  | .abs, [.int i] => some (.int (if i < 0 then -i else i))
  | .int, [.int i] => some (.int i)
  | .int, [.bl i] => some (.int (if i then 1 else 0))
  | .list, [.tup xs] => some (.lst xs)
  | .list, [.lst xs] => some (.lst xs)
  | .list, [.frz xs] => some (.lst xs)
  | .tuple, [.tup xs] => some (.tup xs)
  | .tuple, [.lst xs] => some (.tup xs)
  | .all, [.lst xs] => (bls xs).map fun bs => .bl (bs.all id)
  | .any, [.lst xs] => (bls xs).map fun bs => .bl (bs.any id)
  | .sum, [.lst xs] => (dints xs).map fun is => .int is.sum
  | .sorted, [.lst xs] => (dints xs).map fun is => .lst (intL (isort is))
  | .min1, [.lst xs] => ((dints xs).bind minL).map .int
  | .max1, [.lst xs] => ((dints xs).bind maxL).map .int
  | .min2, [.int i, .int j] => some (.int (if j < i then j else i))
  | .max2, [.int i, .int j] => some (.int (if j > i then j else i))
  | .sum, [.tup xs] => (dints xs).map fun is => .int is.sum
  | .dict1, [.lst xs] => (pairsD xs).map fun ps => .dic (putsD [] ps)
  | .dict1, [.dic kvs] => some (.dic kvs)
  | .isInt, [a] => (match a with | .int _ => some (.bl true) | .bl _ => some (.bl true) | .non => some (.bl false) | .str _ => some (.bl false) | .tup _ => some (.bl false) | .lst _ => some (.bl false) | _ => none)
  | .isBool, [a] => (match a with | .bl _ => some (.bl true) | .int _ => some (.bl false) | .non => some (.bl false) | .str _ => some (.bl false) | .tup _ => some (.bl false) | .lst _ => some (.bl false) | _ => none)
  | .isStr, [a] => (match a with | .str _ => some (.bl true) | .int _ => some (.bl false) | .bl _ => some (.bl false) | .non => some (.bl false) | .tup _ => some (.bl false) | .lst _ => some (.bl false) | _ => none)
  | .isTuple, [a] => (match a with | .tup _ => some (.bl true) | .int _ => some (.bl false) | .bl _ => some (.bl false) | .non => some (.bl false) | .str _ => some (.bl false) | .lst _ => some (.bl false) | _ => none)
  | .isList, [a] => (match a with | .lst _ => some (.bl true) | .int _ => some (.bl false) | .bl _ => some (.bl false) | .non => some (.bl false) | .str _ => some (.bl false) | .tup _ => some (.bl false) | _ => none)
  | _, _ => none
def joinS (a : Str) (ys : List Str) : Str := Str.join a ys
def mtD (m : Mt) (a : D) (as : List D) : Option D :=
  match m, a, as with
  | .join, .str x, [b] => ((itemsOf b).bind dstrs).bind fun ys => if (ys.map (·.length)).sum + ys.length * x.length ≤ SZ then some (.str (joinS x ys)) else none
  | _, _, _ => none
/-- methods of lists and dicts that change nothing -/
def omT (m : Mt) (a : D) : Bool := match m, a with
  | .index, .lst _ => true
  | .count, .lst _ => true
  | .get1, .dic _ => true
  | .get2, .dic _ => true
  | _, _ => false
def omD (m : Mt) (a : D) (as : List D) : Option D :=
  match m, a, as with
  | .index, .lst xs, [y] => if dp 60 y && dps 59 xs then (xs.findIdx? fun z => deq z y).map fun j => .int (j : Nat) else none
  | .count, .lst xs, [.int k] => (dints xs).map fun is => .int (is.count k : Nat)
  | .get1, .dic kvs, [k] => if keyD k then some ((dget kvs k).getD .non) else none
  | .get2, .dic kvs, [k, x] => if keyD k then some ((dget kvs k).getD x) else none
  | _, _, _ => none
def rng3N (i j c : Int) : Nat := if 0 < c then ((j - i + (c - 1)) / c).toNat else ((i - j + (-c - 1)) / (-c)).toNat
def rng3L (i j c : Int) : List D := (List.range (rng3N i j c)).map fun (k : Nat) => D.int (i + (k : Int) * c)
def itemsL (kvs : List (D × D)) : List D := kvs.map fun q => D.tup [q.1, q.2]
def isContainer : D → Bool
  | .lst _ => true | .dic _ => true | _ => false
def R.ofO {α : Type} : Option α → R α
  | some a => .ok a
  | none => .bad
def getS (σ : Sd) (i : Nat) : R D := match σ[i]? with
  | some (some d) => .ok d
  | _ => .bad
/-- a mutating method: what it gives, what becomes of the object -/
def mmD (m : Mm) (a : D) (as : List D) : Option (D × D) :=
  match m, a, as with
  | .append, .lst xs, [y] => if xs.length < SZ then some (.non, .lst (xs ++ [y])) else none
  | .pop0, .lst xs, [] => (xs[xs.length - 1]?).map fun y => (y, .lst xs.dropLast)
  | .pop1, .lst xs, [.int i] => if -(2 ^ 63) ≤ i ∧ i < 2 ^ 63 then (ixn xs.length i).bind fun k => (xs[k]?).map fun y => (y, .lst (xs.eraseIdx k)) else none
  | _, _, _ => none
def setD (a k v : D) : Option D :=
  match a with
  | .lst xs => (match k with | .int i => (ixn xs.length i).map fun j => .lst (xs.set j v) | _ => none)
  | .dic kvs => if keyD k && decide (kvs.length < SZ) then some (.dic (dput kvs k v)) else none
  | _ => none
mutual
def asg : T → D → Sd → R Sd
  | .var i, d, σ => .ok (σ.set i (some d))
  | .tup ts, d, σ => (match itemsOf d with
    | some xs => if xs.length = ts.length then asgs ts xs σ else .bad
    | none => .bad)
def asgs : List T → List D → Sd → R Sd
  | [], [], σ => .ok σ
  | t :: ts, d :: ds, σ => (asg t d σ).bind fun σ1 => asgs ts ds σ1
  | _, _, _ => .bad
end
def wipeD (σ : Sd) : List Nat → Sd
  | [] => σ
  | v :: vs => (wipeD σ vs).set v none
/-- own slots: those of the first state, all others of the second -/
def back (vs : List Nat) (σ0 σ : Sd) : Sd := match vs with
  | [] => σ
  | v :: vs => (back vs σ0 σ).set v ((σ0[v]?).getD none)
/-- the parameters' ways: by value, lent, changed -/
inductive Md where
  | s | b | m
  deriving DecidableEq
structure Fd where
  ps : List Md
  ns : Nat
  own : List Nat
  bor : List Nat
  fresh : Bool
  body : Ss
  hd : Bool := false
/-- what the evaluation leans on -/
structure Lv where
  tb : List Fd
  own : List Nat
  sub : Nat → Nat → Bool
  F : Fns
  F2 : Option Fns
  Hd : Nat → R D → R D
  th : R D
  hld : Option Nat
  fr : Bool
def putOuts : List Nat → List D → Sd → R Sd
  | [], [], σ => .ok σ
  | i :: is, d :: ds, σ => putOuts is ds (σ.set i (some d))
  | _, _, _ => .bad
def rangeL (lo hi : Int) : List D := (List.range (hi - lo).toNat).map fun (k : Nat) => D.int (lo + k)
def rngOk (i : Int) : Bool := decide (-(2 ^ 62) ≤ i) && decide (i < 2 ^ 62)
def enumL (xs : List D) : List D := (List.range xs.length).zip xs |>.map fun q => D.tup [.int (q.1 : Nat), q.2]
def zipL (xs ys : List D) : List D := (xs.zip ys).map fun q => D.tup [q.1, q.2]

/-- a fold over the items of a comprehension: what one turn does with the slots and the list so far -/
def lcGo (f : D → Sd → R (Option D × Sd)) : List D → Sd → List D → R (List D × Sd)
  | [], σ, acc => .ok (acc, σ)
  | x :: xs, σ, acc => (f x σ).bind fun q => match q.1 with
    | some y => if acc.length < SZ then lcGo f xs q.2 (acc ++ [y]) else .bad
    | none => lcGo f xs q.2 acc

def isStrD : D → Bool
  | .str _ => true
  | _ => false
/-- no error may leave -/
def nox {α : Type} : R α → R α
  | .exc _ => .bad
  | r => r
def isTupD : D → Bool
  | .tup _ => true
  | _ => false
def isLstD : D → Bool
  | .lst _ => true
  | _ => false
/-- lent: a restricted name may be read -/
def lent (e : E) (r : R (D × Sd)) (σ : Sd) : R (D × Sd) := match e with
  | .rv i => (getS σ i).bind fun d => .ok (d, σ)
  | _ => r
/-- a lent name is read as it stands at last -/
def rr (e : E) (d : D) (σ : Sd) : R D := match e with
  | .rv i => getS σ i
  | _ => .ok d
def rrs : Es → List D → Sd → R (List D)
  | .nil, [], _ => .ok []
  | .cons e es, d :: ds, σ => (rr e d σ).bind fun x => (rrs es ds σ).bind fun xs => .ok (x :: xs)
  | _, _, _ => .bad
def isRv : E → Bool
  | .rv _ => true
  | _ => false
/-- the slots that a call's arguments of the way m name -/
def outsOf : List Md → Es → List Nat
  | .m :: ps, .cons (.rv i) es => i :: outsOf ps es
  | _ :: ps, .cons _ es => outsOf ps es
  | _, _ => []
def nodupB : List Nat → Bool
  | [] => true
  | x :: r => !r.contains x && nodupB r
/-- the arguments fit the parameters' ways: ms the slots that the call changes -/
def modesOk (own ms : List Nat) : List Md → Es → Bool
  | [], .nil => true
  | .s :: ps, .cons e es => !isRv e && modesOk own ms ps es
  | .b :: ps, .cons e es => (match e with
    | .rv i => !ms.contains i
    | _ => true) && modesOk own ms ps es
  | .m :: ps, .cons e es => (match e with
    | .rv i => own.contains i
    | _ => false) && modesOk own ms ps es
  | _, _ => false
def plainAs : Es → Bool
  | .nil => true
  | .cons e es => !isRv e && plainAs es
mutual
def ev : E → Lv → Sd → R (D × Sd)
  | .var i, _, σ => (getS σ i).bind fun d => .ok (d, σ)
  | .rv _, _, _ => .bad
  | .cst d, _, σ => .ok (d, σ)
  | .fn f, _, σ => .ok (.fn f, σ)
  | .tup es, l, σ => (evs es l σ).bind fun q => if q.1.length ≤ SZ then .ok (.tup q.1, q.2) else .bad
  | .lst es, l, σ => (evs es l σ).bind fun q => if q.1.length ≤ SZ then .ok (.lst q.1, q.2) else .bad
  | .bin op a b, l, σ => (lent a (ev a l σ) σ).bind fun p => (lent b (ev b l p.2) p.2).bind fun q => (rr a p.1 q.2).bind fun x => (R.ofO (bop op x q.1)).bind fun d => .ok (d, q.2)
  | .neg a, l, σ => (ev a l σ).bind fun p => match p.1 with
    | .int i => .ok (.int (-i), p.2)
    | _ => .bad
  | .not a, l, σ => (lent a (ev a l σ) σ).bind fun p => (R.ofO (tru p.1)).bind fun k => .ok (.bl (!k), p.2)
  | .and a b, l, σ => (ev a l σ).bind fun p => (R.ofO (tru p.1)).bind fun k => if k = true then ev b l p.2 else .ok p
  | .or a b, l, σ => (ev a l σ).bind fun p => (R.ofO (tru p.1)).bind fun k => if k = true then .ok p else ev b l p.2
  | .cmp op a b, l, σ => (lent a (ev a l σ) σ).bind fun p => (lent b (ev b l p.2) p.2).bind fun q => (rr a p.1 q.2).bind fun x => (R.ofO (cmpD op x q.1)).bind fun k => .ok (.bl k, q.2)
  | .chain op op' a b c, l, σ => (lent a (ev a l σ) σ).bind fun p => (ev b l p.2).bind fun q => (rr a p.1 q.2).bind fun x => (R.ofO (cmpD op x q.1)).bind fun k =>
    if k = true then (lent c (ev c l q.2) q.2).bind fun r => (R.ofO (cmpD op' q.1 r.1)).bind fun k' => .ok (.bl k', r.2) else .ok (.bl false, q.2)
  | .ite c a b, l, σ => (lent c (ev c l σ) σ).bind fun p => (R.ofO (tru p.1)).bind fun k => if k = true then ev a l p.2 else ev b l p.2
  | .call f as, l, σ => match l.tb[f]? with
    | none => .bad
    | some fd => if modesOk l.own (outsOf fd.ps as) fd.ps as && nodupB (outsOf fd.ps as) then
        (evbs as l σ).bind fun q => (rrs as q.1 q.2).bind fun ds => (l.F f ds).bind fun r => (putOuts (outsOf fd.ps as) r.2 q.2).bind fun σ' => .ok (r.1, σ')
      else .bad
  | .cal i as, l, σ => (getS σ i).bind fun d => match d with
    | .fn f => (match l.tb[f]? with
      | none => .bad
      | some fd => if modesOk [] (outsOf fd.ps as) fd.ps as && nodupB (outsOf fd.ps as) then
        (evbs as l σ).bind fun q => (rrs as q.1 q.2).bind fun ds => (l.F f ds).bind fun r => (putOuts (outsOf fd.ps as) r.2 q.2).bind fun σ' => .ok (r.1, σ') else .bad)
    | _ => .bad
  | .act _, _, _ => .bad
  | .lam f b, l, σ => match l.F2 with
    | none => .bad
    | some F2 => match ev b { l with own := [], F := F2, F2 := none, Hd := fun _ _ => .bad, th := .bad } σ with
      | .ok q => (l.Hd f (.ok q.1)).bind fun d => .ok (d, σ)
      | .exc c => (l.Hd f (.exc c)).bind fun d => .ok (d, σ)
      | .bad => .bad
  | .bi b as, l, σ => (evbs as l σ).bind fun q => (rrs as q.1 q.2).bind fun ds => (R.ofO (biD b ds)).bind fun d => .ok (d, q.2)
  | .mt m a as, l, σ => (ev a l σ).bind fun p => if isStrD p.1 then (evbs as l p.2).bind fun q => (rrs as q.1 q.2).bind fun ds => (R.ofO (mtD m p.1 ds)).bind fun d => .ok (d, q.2) else .bad
  | .mm m i as, l, σ => (getS σ i).bind fun a0 => if isLstD a0 then (evs as l σ).bind fun q => (getS q.2 i).bind fun a => (R.ofO (mmD m a q.1)).bind fun r => .ok (r.1, q.2.set i (some r.2)) else .bad
  | .sub a b, l, σ => (lent a (ev a l σ) σ).bind fun p => (ev b l p.2).bind fun q => (rr a p.1 q.2).bind fun x => (R.ofO (subD x q.1)).bind fun d => .ok (d, q.2)
  | .sl a lo hi, l, σ => (lent a (ev a l σ) σ).bind fun p => (evo lo l p.2).bind fun q => (evo hi l q.2).bind fun r => (rr a p.1 r.2).bind fun x => match x with
    | .tup xs => .ok (.tup (cut xs q.1 r.1), r.2)
    | .lst xs => .ok (.lst (cut xs q.1 r.1), r.2)
    | _ => .bad
  | .rev a, l, σ => (lent a (ev a l σ) σ).bind fun p => match p.1 with
    | .tup xs => .ok (.tup xs.reverse, p.2)
    | .lst xs => .ok (.lst xs.reverse, p.2)
    | _ => .bad
  | .lc own elt t it c, l, σ => (evi it l σ).bind fun p => if l.hld.isSome && !p.1.all isTupD then .bad else (nox (lcGo (fun x σ => (asg t x (wipeD σ own)).bind fun σ1 => (evc c { l with th := .bad } σ1).bind fun q => if q.1 = true then (ev elt { l with th := .bad } q.2).bind fun r => .ok (some r.1, r.2) else .ok (none, q.2)) p.1 p.2 [])).bind fun q => .ok (.lst q.1, back own σ q.2)
  | .dic es, l, σ => (evs es l σ).bind fun q => (R.ofO (upD q.1)).bind fun ps => if decide (ps.length ≤ 15) then .ok (.dic (putsD [] ps), q.2) else .bad
  | .om m a as, l, σ => (lent a (ev a l σ) σ).bind fun p => if omT m p.1 then (evs as l p.2).bind fun q => (rr a p.1 q.2).bind fun x => (R.ofO (omD m x q.1)).bind fun d => .ok (d, q.2) else .bad
  | .lof t it, l, σ => (evi it l σ).bind fun p => if p.1.length ≤ SZ then .ok (if t then .tup p.1 else .lst p.1, p.2) else .bad
  | .isx _ c, l, σ => match l.hld with
    | some k => .ok (.bl (l.sub k c), σ)
    | none => .bad
  | .bad, _, _ => .bad
def evs : Es → Lv → Sd → R (List D × Sd)
  | .nil, _, σ => .ok ([], σ)
  | .cons e es, l, σ => (ev e l σ).bind fun p => (evs es l p.2).bind fun q => .ok (p.1 :: q.1, q.2)
def evbs : Es → Lv → Sd → R (List D × Sd)
  | .nil, _, σ => .ok ([], σ)
  | .cons e es, l, σ => (lent e (ev e l σ) σ).bind fun p => (evbs es l p.2).bind fun q => .ok (p.1 :: q.1, q.2)
def evo : Eo → Lv → Sd → R (Option Int × Sd)
  | .none, _, σ => .ok (none, σ)
  | .some e, l, σ => (ev e l σ).bind fun p => match p.1 with
    | .int i => .ok (some i, p.2)
    | _ => .bad
def evc : Eo → Lv → Sd → R (Bool × Sd)
  | .none, _, σ => .ok (true, σ)
  | .some e, l, σ => (lent e (ev e l σ) σ).bind fun p => (R.ofO (tru p.1)).bind fun k => .ok (k, p.2)
def evi : I → Lv → Sd → R (List D × Sd)
  | .val e, l, σ => (ev e l σ).bind fun p => (R.ofO (itemsOf p.1)).bind fun xs => .ok (xs, p.2)
  | .lst e, l, σ => (ev e l σ).bind fun p => (R.ofO (lstsOf p.1)).bind fun xs => .ok (xs, p.2)
  | .rng1 a, l, σ => (ev a l σ).bind fun p => match p.1 with
    | .int j => if rngOk j then .ok (rangeL 0 j, p.2) else .bad
    | _ => .bad
  | .rng2 a b, l, σ => (ev a l σ).bind fun p => (ev b l p.2).bind fun q => match p.1, q.1 with
    | .int i, .int j => if rngOk i && rngOk j then .ok (rangeL i j, q.2) else .bad
    | _, _ => .bad
  | .enum a, l, σ => (ev a l σ).bind fun p => (R.ofO (itemsOf p.1)).bind fun xs => .ok (enumL xs, p.2)
  | .zip a b, l, σ => (ev a l σ).bind fun p => (ev b l p.2).bind fun q => (R.ofO (zipsOf p.1 q.1)).bind fun xs => .ok (zipL xs.1 xs.2, q.2)
  | .rng3 a b c, l, σ => (ev a l σ).bind fun p => (ev b l p.2).bind fun q => (ev c l q.2).bind fun r => match p.1, q.1, r.1 with
    | .int i, .int j, .int k => if rngOk i && rngOk j && decide (k = -1) then .ok (rng3L i j k, r.2) else .bad
    | _, _, _ => .bad
  | .items a, l, σ => (lent a (ev a l σ) σ).bind fun p => match p.1 with
    | .dic kvs => .ok (itemsL kvs, p.2)
    | _ => .bad
  | .bad, _, _ => .bad
end

/-! ### statements -/
def forGo (f : D → Sd → R (Fl × Sd)) : List D → Sd → R (Fl × Sd)
  | [], σ => .ok (.nx, σ)
  | x :: xs, σ => (f x σ).bind fun q => match q.1 with
    | .nx => forGo f xs q.2
    | .ct => forGo f xs q.2
    | .br => .ok (.nx, q.2)
    | .rt d => .ok (.rt d, q.2)
/-- a while: c the test, f the body -/
def whGo (c : Sd → R (Bool × Sd)) (f : Sd → R (Fl × Sd)) : Nat → Sd → R (Fl × Sd)
  | 0, _ => .bad
  | n + 1, σ => (c σ).bind fun p => if p.1 = true then (f p.2).bind fun q => (match q.1 with
      | .nx => whGo c f n q.2
      | .ct => whGo c f n q.2
      | .br => .ok (.nx, q.2)
      | .rt d => .ok (.rt d, q.2))
    else .ok (.nx, p.2)
def WF : Nat := 1000000
/-- several names at once; a restricted one takes a container alone -/
def setAll : List (Nat × Bool) → List D → Sd → R Sd
  | [], [], σ => .ok σ
  | i :: is, d :: ds, σ => if i.2 && !isContainer d then .bad else setAll is ds (σ.set i.1 (some d))
  | _, _, _ => .bad
/-- what gives a new list (or a dict) -/
def freshE (fr : Nat → Bool) : E → Bool
  | .lst _ => true
  | .lc .. => true
  | .dic .. => true
  | .bin .. => true
  | .sl .. => true
  | .rev .. => true
  | .bi .list _ => true
  | .bi .sorted _ => true
  | .bi .dict1 _ => true
  | .lof t _ => !t
  | .ite _ a b => freshE fr a && freshE fr b
  | .call f _ => fr f
  | _ => false
def parOk (fr : Nat → Bool) : List (Nat × Bool) → Es → Bool
  | [], .nil => true
  | i :: is, .cons e es => (!i.2 || freshE fr e) && parOk fr is es
  | _, _ => false
def frOf (tb : List Fd) (f : Nat) : Bool := match tb[f]? with
  | some fd => fd.fresh
  | none => false
mutual
def ex : S → Lv → Sd → R (Fl × Sd)
  | .expr e, l, σ => (ev e l σ).bind fun p => .ok (.nx, p.2)
  | .asg t e, l, σ => (ev e l σ).bind fun p => (asg t p.1 p.2).bind fun σ' => .ok (.nx, σ')
  | .asgr i e, l, σ => if freshE (frOf l.tb) e then (ev e l σ).bind fun p => if isContainer p.1 then .ok (.nx, p.2.set i (some p.1)) else .bad else .bad
  | .par is es, l, σ => if parOk (frOf l.tb) is es then (evs es l σ).bind fun p => (setAll is p.1 p.2).bind fun σ' => .ok (.nx, σ')
    else .bad
  | .seti i k e, l, σ => (ev e l σ).bind fun p => (getS p.2 i).bind fun _ => (ev k l p.2).bind fun q => (getS q.2 i).bind fun a => (R.ofO (setD a q.1 p.1)).bind fun b => .ok (.nx, q.2.set i (some b))
  | .ifs c a b, l, σ => (lent c (ev c l σ) σ).bind fun p => (R.ofO (tru p.1)).bind fun k => if k = true then exs a l p.2 else exs b l p.2
  | .for t it b, l, σ => (evi it l σ).bind fun p => forGo (fun x σ => (asg t x σ).bind fun σ1 => exs b l σ1) p.1 p.2
  | .while c b, l, σ => whGo (fun σ => (lent c (ev c l σ) σ).bind fun p => (R.ofO (tru p.1)).bind fun k => .ok (k, p.2)) (fun σ => exs b l σ) WF σ
  | .ret e, l, σ => (ev e l σ).bind fun p => if l.fr && !freshE (frOf l.tb) e && isContainer p.1 then .bad else .ok (.rt p.1, p.2)
  | .retr i, _, σ => (getS σ i).bind fun d => .ok (.rt d, σ)
  | .retN, _, σ => .ok (.rt .non, σ)
  | .raise c, _, _ => .exc c
  | .tryx b c i h, l, σ => if l.hld.isSome then .bad else match exs b l σ with
    | .ok q => .ok q
    | .exc c' => if l.sub c' c then (match exs h { l with hld := some c' } (List.replicate σ.length none) with
        | .ok q => .ok (q.1, match i with
          | some i => q.2.set i none
          | none => q.2)
        | _ => .bad) else .exc c'
    | .bad => .bad
  | .acts, l, σ => l.th.bind fun _ => .ok (.nx, σ)
  | .pass, _, σ => .ok (.nx, σ)
  | .cont, _, σ => .ok (.ct, σ)
  | .brk, _, σ => .ok (.br, σ)
  | .bad, _, _ => .bad
def exs : Ss → Lv → Sd → R (Fl × Sd)
  | .nil, _, σ => .ok (.nx, σ)
  | .cons s ss, l, σ => (ex s l σ).bind fun q => match q.1 with
    | .nx => exs ss l q.2
    | f => .ok (f, q.2)
end
/-! ### functions -/
def start (fd : Fd) (as : List D) : Sd := as.map some ++ List.replicate (fd.ns - as.length) none
def mSlots : List Md → Nat → List Nat
  | [], _ => []
  | .m :: ps, i => i :: mSlots ps (i + 1)
  | _ :: ps, i => mSlots ps (i + 1)
def getAll (σ : Sd) : List Nat → R (List D)
  | [] => .ok []
  | i :: is => (getS σ i).bind fun d => (getAll σ is).bind fun ds => .ok (d :: ds)
def finish (fd : Fd) (r : R (Fl × Sd)) : R (D × List D) := r.bind fun q => (match q.1 with
    | .rt d => R.ok d
    | .nx => R.ok .non
    | _ => R.bad).bind fun d => (getAll q.2 (mSlots fd.ps 0)).bind fun ds => .ok (d, ds)
def runFd (tb : List Fd) (sub : Nat → Nat → Bool) (F : Fns) (F2 : Option Fns) (Hd : Nat → R D → R D) (th : R D) (f : Nat) (as : List D) : R (D × List D) :=
  match tb[f]? with
  | none => .bad
  | some fd => if as.length = fd.ps.length then finish fd (exs fd.body ⟨tb, fd.own, sub, F, F2, Hd, th, none, fd.fresh⟩ (start fd as)) else .bad
/-- a def that calls what it got -/
def runHd (tb : List Fd) (sub : Nat → Nat → Bool) (f : Nat) (r : R D) : R D :=
  match tb[f]? with
  | none => .bad
  | some fd => if fd.ps = [.b] ∧ fd.hd = true then (finish fd (exs fd.body ⟨tb, fd.own, sub, fun _ _ => .bad, none, fun _ _ => .bad, r, none, fd.fresh⟩ (List.replicate fd.ns none))).bind fun q => .ok q.1 else .bad
/-- three levels -/
def Ts (tb : List Fd) (sub : Nat → Nat → Bool) : Nat → Fns × Option Fns × Option Fns
  | 0 => (fun _ _ => .bad, none, none)
  | n + 1 => (runFd tb sub (Ts tb sub n).1 (Ts tb sub n).2.2 (runHd tb sub) .bad, some (Ts tb sub n).1, (Ts tb sub n).2.1)
def Fs (tb : List Fd) (sub : Nat → Nat → Bool) (n : Nat) : Fns := (Ts tb sub n).1
end BF

/-! Tr -/
set_option linter.all false
set_option maxRecDepth 100000
/-! From the text to the small form. -/
namespace BF
open PySem

structure Tc where
  N : List Str
  own : List Nat
  bor : List Nat
  np : Nat
  fns : List Str
  con : List (Str × D)
  excs : List Str
  sc : Scope
  hld : Option Nat
  hx : Bool
  lm : Bool

def slotGo (x : Str) : List Str → Nat → Option Nat
  | [], _ => none
  | y :: r, i => if y = x then some i else slotGo x r (i + 1)
def Tc.slot (c : Tc) (x : Str) : Option Nat := slotGo x c.N 0
def Tc.res (c : Tc) (i : Nat) : Bool := c.own.contains i || c.bor.contains i || c.hld == some i
def Tc.glob (c : Tc) (x : Str) : Bool := match c.sc.names.lookup x with
  | some .globalImplicit => true
  | _ => false
def Tc.vis (c : Tc) (x : Str) : Bool := match c.sc.names.lookup x with
  | some .local => true
  | some .cell => true
  | some .free => true
  | _ => false
def okNm (x : Str) : Bool := !(x == ("__debug__" : Str)) && !(x == ("__classdict__" : Str))
def trName (c : Tc) (x : Str) : E :=
  if okNm x then
    if c.vis x then (match c.slot x with
      | some i => if c.hld = some i then .bad else if c.res i then .rv i else .var i
      | none => .bad)
    else if c.glob x then (match slotGo x c.fns 0 with
      | some f => .fn f
      | none => (match c.con.lookup x with
        | some d => .cst d
        | none => .bad))
    else .bad
  else .bad
def op2 : Operator → Option Op2
  | .Add => some .add | .Sub => some .sub | .Mult => some .mul | .FloorDiv => some .fdiv | .Mod => some .mod | .Pow => some .pow
  | .LShift => some .shl | .RShift => some .shr | .BitAnd => some .band | .BitOr => some .bor | .BitXor => some .bxor
  | _ => none
def cm : CmpOp → Cm
  | .Eq => .eq | .NotEq => .ne | .Lt => .lt | .LtE => .le | .Gt => .gt | .GtE => .ge | .Is => .is | .IsNot => .isn | .In => .isin | .NotIn => .notin
/-- built-in functions of one argument -/
def bi1 (f : Str) : Option Bi :=
  if f = ("len" : Str) then some .len else if f = ("abs" : Str) then some .abs else if f = ("int" : Str) then some .int
  else if f = ("list" : Str) then some .list else if f = ("tuple" : Str) then some .tuple else if f = ("all" : Str) then some .all else if f = ("any" : Str) then some .any
  else if f = ("dict" : Str) then some .dict1
  else if f = ("sum" : Str) then some .sum else if f = ("sorted" : Str) then some .sorted else if f = ("min" : Str) then some .min1 else if f = ("max" : Str) then some .max1
  else none
def bi2 (f : Str) : Option Bi := if f = ("min" : Str) then some .min2 else if f = ("max" : Str) then some .max2 else none
def isT (f : Str) : Option Bi :=
  if f = ("int" : Str) then some .isInt else if f = ("bool" : Str) then some .isBool else if f = ("str" : Str) then some .isStr
  else if f = ("tuple" : Str) then some .isTuple else if f = ("list" : Str) then some .isList else none
mutual
def trT : Nat → Tc → Expr → Option T
  | 0, _, _ => none
  | n + 1, c, e => match e with
    | .Name x _ => if okNm x && (c.sc.names.lookup x = some .local || c.sc.names.lookup x = some .cell) then (match c.slot x with
      | some i => if c.res i then none else some (.var i)
      | none => none) else none
    | .Tuple es _ _ => (trTs n c es).map .tup
    | _ => none
def trTs : Nat → Tc → List Expr → Option (List T)
  | 0, _, _ => none
  | _ + 1, _, [] => some []
  | n + 1, c, e :: es => match trT n c e, trTs n c es with
    | some t, some ts => some (t :: ts)
    | _, _ => none
end
mutual
def slotsT : T → List Nat
  | .var i => [i]
  | .tup ts => slotsTs ts
def slotsTs : List T → List Nat
  | [] => []
  | t :: ts => slotsT t ++ slotsTs ts
end
/-- the block's own names with their places -/
def ownOf (N : List Str) : List (Str × NameKind) → List (Str × Nat)
  | [] => []
  | (x, k) :: r => (match k with
    | .local => (match slotGo x N 0 with | some i => (x, i) :: ownOf N r | none => ownOf N r)
    | .cell => (match slotGo x N 0 with | some i => (x, i) :: ownOf N r | none => ownOf N r)
    | _ => ownOf N r)
def noArgs : Arguments → Bool
  | ⟨[], [], none, [], [], none, []⟩ => true
  | _ => false
def noStarT : Expr → Bool
  | .Starred .. => false
  | _ => true
def notLcT : Expr → Bool
  | .ListComp .. => false
  | .SetComp .. => false
  | .DictComp .. => false
  | _ => true
def isVarT : T → Bool
  | .var _ => true
  | _ => false
def flatT : T → Bool
  | .var _ => true
  | .tup ts => ts.all isVarT
/-- the classes with an __init__ of their own: not raised here -/
def initful : List Str := [("TooMany" : Str), ("BadText" : Str)]
def plainX (x : Str) : Bool := !initful.contains x
/-- an expression that is no bound super -/
def notBase : Expr → Bool
  | .Call (.Name _ _) [] [] _ => false
  | _ => true
/-- the iterator gives what the target takes -/
def fitI (hot : Bool) : I → T → Bool
  | .val _, _ => !hot
  | .lst _, t => flatT t
  | .rng1 _, _ => !hot
  | .rng2 _ _, _ => !hot
  | .rng3 _ _ _, _ => !hot
  | .enum _, .tup _ => !hot
  | .zip _ _, .tup _ => !hot
  | _, _ => false
def notSet : Expr → Bool
  | .Set .. => false
  | _ => true
def notSl : Expr → Bool
  | .Slice .. => false
  | _ => true

/-- list(range(..)), tuple(range(..)), list(zip(..)), list(d.items()) -/
def mkLof (c : Tc) (x : Str) (a : Expr) (g : Expr → E) : Option E := match a with
  | .Call (.Name y _) as [] _ => if c.glob y && as.all noStarT && okNm y then
      if y = ("range" : Str) && (x = ("list" : Str) || x = ("tuple" : Str)) then (match as with
        | [p] => some (.lof (x == ("tuple" : Str)) (.rng1 (g p)))
        | [p, q] => some (.lof (x == ("tuple" : Str)) (.rng2 (g p) (g q)))
        | _ => some .bad)
      else if y = ("zip" : Str) && x = ("list" : Str) then (match as with
        | [p, q] => some (.lof false (.zip (g p) (g q)))
        | _ => some .bad)
      else none
    else none
  | .Call (.Attribute o m ap) [] [] p => if x = ("list" : Str) && m = ("items" : Str) then (if (ap.endLine == p.line) && notBase o then some (.lof false (.items (g o))) else some .bad) else none
  | _ => none
/-- f(..), f a built-in function or isinstance -/
def mkBlt (c : Tc) (x : Str) (as : List Expr) (g : Expr → E) (gs : List Expr → Es) : E :=
  match as with
  | [a] => if c.hld.isSome then .bad else (match mkLof c x a g with
    | some e => e
    | none => (match bi1 x with
      | some b => .bi b (gs [a])
      | none => .bad))
  | [a, b] => if x = ("isinstance" : Str) then
      (match b with
      | .Name y _ => if okNm y && c.glob y then (match slotGo y c.excs 0 with
          | some k => (match a with
            | .Name z _ => if okNm z && c.vis z then (match c.slot z with
              | some i => if c.hld = some i && c.hx then .isx i k else .bad
              | none => .bad) else .bad
            | _ => .bad)
          | none => (match isT y with
            | some t => .bi t (.cons (g a) .nil)
            | none => .bad)) else .bad
      | _ => .bad)
    else if c.hld.isSome then .bad else (match bi2 x with
    | some o => .bi o (gs [a, b])
    | none => .bad)
  | _ => .bad
def isLam : List Expr → Option (Arguments × Expr × Scope)
  | [.Lambda ps b sc _] => some (ps, b, sc)
  | _ => none
def mkCall (c : Tc) (x : Str) (as : List Expr) (g : Expr → E) (gs : List Expr → Es) (gl : Scope → Expr → E) : E :=
  if okNm x && as.all noStarT then
    if c.vis x then (match c.slot x with
      | some i => if c.res i || c.hld.isSome then .bad else (match as with
        | [] => .act i
        | a :: r => .cal i (gs (a :: r)))
      | none => .bad)
    else if c.glob x then (match slotGo x c.fns 0 with
      | some f => if c.hld.isSome then .bad else (match isLam as with
        | some (ps, b, sc) => if c.lm && noArgs ps && LamX.lamSB c.sc sc then .lam f (gl sc b) else .bad
        | none => .call f (gs as))
      | none => mkBlt c x as g gs)
    else .bad
  else .bad
def mkMeth (c : Tc) (o : Expr) (m : Str) (as : List Expr) (g : Expr → E) : E :=
  if as.all noStarT then
    if m = ("append" : Str) then (match o with
      | .Name x _ => if okNm x && c.vis x then (match c.slot x with
        | some i => if c.own.contains i then (match as with
          | [a] => .mm .append i (.cons (g a) .nil)
          | _ => .bad) else .bad
        | none => .bad) else .bad
      | _ => .bad)
    else if m = ("pop" : Str) then (match o with
      | .Name x _ => if okNm x && c.vis x then (match c.slot x with
        | some i => if c.own.contains i then (match as with
          | [] => .mm .pop0 i .nil
          | [a] => .mm .pop1 i (.cons (g a) .nil)
          | _ => .bad) else .bad
        | none => .bad) else .bad
      | _ => .bad)
    else if m = ("join" : Str) then (match o with
      | .Constant k j p => (match as with
        | [a] => .mt .join (g (.Constant k j p)) (.cons (g a) .nil)
        | _ => .bad)
      | _ => .bad)
    else if c.hld.isSome || !notBase o then .bad
    else if m = ("index" : Str) then (match as with
      | [a] => .om .index (g o) (.cons (g a) .nil)
      | _ => .bad)
    else if m = ("count" : Str) then (match as with
      | [a] => .om .count (g o) (.cons (g a) .nil)
      | _ => .bad)
    else if m = ("get" : Str) then (match as with
      | [_] => .bad
      | [a, b] => .om .get2 (g o) (.cons (g a) (.cons (g b) .nil))
      | _ => .bad)
    else .bad
  else .bad
def mkR (as : List Expr) (g : Expr → E) : I := match as with
  | [a] => .rng1 (g a)
  | [a, b] => .rng2 (g a) (g b)
  | [a, b, d] => .rng3 (g a) (g b) (g d)
  | _ => .bad
def mkN (as : List Expr) (g : Expr → E) : I := match as with
  | [a] => .enum (g a)
  | _ => .bad
def mkZ (as : List Expr) (g : Expr → E) : I := match as with
  | [a, b] => .zip (g a) (g b)
  | _ => .bad
def mkI (c : Tc) (e : Expr) (g : Expr → E) : I := match e with
  | .Call (.Name x _) as [] _ => if as.all noStarT then
      if x = ("range" : Str) && c.glob x then mkR as g
      else if x = ("enumerate" : Str) && c.glob x then mkN as g
      else if x = ("zip" : Str) && c.glob x then mkZ as g
      else .val (g e)
    else .bad
  | e => if c.hld.isSome then .lst (g e) else .val (g e)
/-- [elt for t in it if ..] -/
def mkLc (c : Tc) (gs : List Comprehension) (scope : Scope) (gt : Tc → Expr → Option T) (ge : Tc → E) (gi : Expr → I) (gc : Tc → Expr → E) : E := match gs with
  | [⟨t, it, ifs, a⟩] =>
    if a = 0 && notSet it && (c.hld.isNone || c.hx) && L2.blkC c.N c.sc scope (ownOf c.N scope.names) then
      (match gt { c with sc := L2.relS scope c.sc, hx := false } t with
      | some tt => if (slotsT tt).all (fun i => ((ownOf c.N scope.names).map (·.2)).contains i) && ((ownOf c.N scope.names).map (·.2)).all (fun i => !c.res i) && fitI c.hld.isSome (gi it) tt then
          (match ifs with
          | [] => .lc ((ownOf c.N scope.names).map (·.2)) (ge { c with sc := L2.relS scope c.sc, hx := false }) tt (gi it) .none
          | [i] => .lc ((ownOf c.N scope.names).map (·.2)) (ge { c with sc := L2.relS scope c.sc, hx := false }) tt (gi it) (.some (gc { c with sc := L2.relS scope c.sc, hx := false } i))
          | _ => .bad)
        else .bad
      | none => .bad)
    else .bad
  | _ => .bad
/-- k : v, .. as k, v, .. -/
def dictEs : List (Option Expr) → List Expr → Option (List Expr)
  | [], [] => some []
  | some k :: ks, v :: vs => if notLcT k && notLcT v then (dictEs ks vs).map fun r => k :: v :: r else none
  | _, _ => none
/-- the slice [::-1] -/
def isBack (lo hi : Option Expr) (e : Expr) : Bool := match lo, hi, e with
  | none, none, .UnaryOp .USub (.Constant (.int 1) _ _) _ => true
  | _, _, _ => false
mutual
def tr : Nat → Tc → Expr → E
  | 0, _, _ => .bad
  | n + 1, c, e => match e with
    | .Constant k _ _ => (match k with
      | .none => .cst .non
      | .bool b => .cst (.bl b)
      | .int i => .cst (.int i)
      | .str s => .cst (.str s)
      | _ => .bad)
    | .Name x _ => trName c x
    | .Tuple es _ _ => .tup (trs n c es)
    | .List es _ => .lst (trs n c es)
    | .BinOp a op b _ => (match op2 op with
      | some o => .bin o (tr n c a) (tr n c b)
      | none => .bad)
    | .UnaryOp op a _ => (match op with
      | .Not => .not (tr n c a)
      | .USub => .neg (tr n c a)
      | _ => .bad)
    | .BoolOp op vs _ => trB n c op vs
    | .Compare a ops bs _ => (match ops, bs with
      | [op], [b] => if notSet b then .cmp (cm op) (tr n c a) (tr n c b) else .bad
      | [op, op'], [b, d] => if notSet d then .chain (cm op) (cm op') (tr n c a) (tr n c b) (tr n c d) else .bad
      | _, _ => .bad)
    | .IfExp t a b _ => .ite (tr n c t) (tr n c a) (tr n c b)
    | .Subscript a s _ => (match s with
      | .Slice lo hi st _ => (match st with
        | none => .sl (tr n c a) (trO n c lo) (trO n c hi)
        | some e => if isBack lo hi e then .rev (tr n c a) else .bad)
      | s => .sub (tr n c a) (tr n c s))
    | .Dict ks vs _ => (match (if ks.length ≤ 15 then dictEs ks vs else none) with
      | some es => .dic (trs n c es)
      | none => .bad)
    | .ListComp elt gs scope _ => mkLc c gs scope (trT n) (fun c' => tr n c' elt) (trI n c) (fun c' i => tr n c' i)
    | .Call f as ks p => (match ks with
      | [] => (match f with
        | .Name x _ => trCall n c x as
        | .Attribute o m ap => if ap.endLine == p.line then trMeth n c o m as else .bad
        | _ => .bad)
      | _ => .bad)
    | _ => .bad
def trs : Nat → Tc → List Expr → Es
  | 0, _, _ => .cons .bad .nil
  | _ + 1, _, [] => .nil
  | n + 1, c, e :: es => .cons (tr n c e) (trs n c es)
def trO : Nat → Tc → Option Expr → Eo
  | 0, _, _ => .some .bad
  | _ + 1, _, none => .none
  | n + 1, c, some e => .some (tr n c e)
def trB : Nat → Tc → BoolOp → List Expr → E
  | 0, _, _, _ => .bad
  | n + 1, c, op, vs => match vs with
    | [] => .bad
    | [a] => tr n c a
    | a :: b :: r => (match op with
      | .And => .and (tr n c a) (trB n c .And (b :: r))
      | .Or => .or (tr n c a) (trB n c .Or (b :: r)))
def trCall : Nat → Tc → Str → List Expr → E
  | 0, _, _, _ => .bad
  | n + 1, c, x, as => mkCall c x as (tr n c) (trs n c) (fun sc b => tr n { c with sc := sc, own := [], bor := c.own ++ c.bor, hld := none, hx := false, lm := false } b)
def trMeth : Nat → Tc → Expr → Str → List Expr → E
  | 0, _, _, _, _ => .bad
  | n + 1, c, o, m, as => mkMeth c o m as (tr n c)
def trI : Nat → Tc → Expr → I
  | 0, _, _ => .bad
  | n + 1, c, e => mkI c e (tr n c)
end
/-- what the stores of a, b = x, y are: none: not told; some none: by a tuple -/
def swapM (sc : Scope) (ts vs : List Expr) : Option (Option (List Str)) :=
  if !(ts.length == 2 || ts.length == 3) || vs.length != ts.length then some none
  else if vs.any fun | .Starred .. => true | _ => false then some none
  else
    let ln := ((ts.head?).map fun t => t.pos.line).getD 0
    let names := ts.filterMap fun
      | .Name id pos => if sc.names.lookup id == some .local && pos.line == ln then some id else none
      | _ => none
    if names.length != ts.length || names.eraseDups.length != names.length then some none
    else if vs.all (foldedForSure 8) then some none
    else if vs.all (constantsAlone 8) then none
    else some (some names)
/-- a plain place for a name that is the def's own -/
def plcOf (c : Tc) (x : Str) : Option Nat := if okNm x && decide (c.sc.names.lookup x = some .local) then (match c.slot x with
  | some i => if c.res i then none else some i
  | none => none) else none
def mkNm (c : Tc) (x : Str) (v : Expr) (g : Expr → E) : S :=
  if okNm x && (decide (c.sc.names.lookup x = some .local) || decide (c.sc.names.lookup x = some .cell)) && (notLcT v || c.hld.isNone) then (match c.slot x with
    | some i => if c.hld == some i then .bad else if c.own.contains i then (if decide (c.np ≤ i) then .asgr i (g v) else .bad) else if c.res i then .bad else .asg (.var i) (g v)
    | none => .bad)
  else .bad
def mkSub (c : Tc) (o k v : Expr) (g : Expr → E) : S := match o with
  | .Name x _ => if okNm x && c.vis x && notSl k && notLcT v then (match c.slot x with
    | some i => if c.own.contains i then .seti i (g k) (g v) else .bad
    | none => .bad) else .bad
  | _ => .bad
/-- a place: plain, or one's own -/
def plcF (c : Tc) (x : Str) : Option (Nat × Bool) := match plcOf c x with
  | some i => some (i, false)
  | none => if okNm x && decide (c.sc.names.lookup x = some .local) then (match c.slot x with
    | some i => if c.own.contains i && decide (c.np ≤ i) && !(c.hld == some i) then some (i, true) else none
    | none => none) else none
def mkPar (c : Tc) (es : List Expr) (ns : List Str) (vs : List Expr) (gs : List Expr → Es) : S := match es with
  | [.Name x _, .Name y _] => (match vs with
    | [a, b] => if ns = [x, y] then (match plcF c x, plcF c y with
      | some i, some j => if i.1 = j.1 then .bad else .par [i, j] (gs [a, b])
      | _, _ => .bad) else .bad
    | _ => .bad)
  | [.Name x _, .Name y _, .Name z _] => (match vs with
    | [a, b, d] => if ns = [x, y, z] then (match plcF c x, plcF c y, plcF c z with
      | some i, some j, some m => if i.1 = j.1 || i.1 = m.1 || j.1 = m.1 then .bad else .par [i, j, m] (gs [a, b, d])
      | _, _, _ => .bad) else .bad
    | _ => .bad)
  | _ => .bad
/-- a place by any road -/
def plcN (c : Tc) : Expr → Option (Nat × Bool)
  | .Name x _ => if okNm x && (decide (c.sc.names.lookup x = some .local) || decide (c.sc.names.lookup x = some .cell)) then (match c.slot x with
    | some i => if c.hld == some i then none else if c.own.contains i then (if decide (c.np ≤ i) then some (i, true) else none) else if c.res i then none else some (i, false)
    | none => none) else none
  | _ => none
def plcNs (c : Tc) : List Expr → Option (List (Nat × Bool))
  | [] => some []
  | e :: es => match plcN c e, plcNs c es with
    | some i, some is => some (i :: is)
    | _, _ => none
/-- .. by a tuple that is taken apart -/
def mkParN (c : Tc) (es vs : List Expr) (gs : List Expr → Es) : S := match plcNs c es with
  | some is => if decide (es.length = vs.length) && decide (es.length ≤ 60) then .par is (gs vs) else .bad
  | none => .bad
def isTup : Expr → Option (List Expr)
  | .Tuple vs _ _ => some vs
  | _ => none
def mkTup (c : Tc) (es : List Expr) (t v : Expr) (g : Expr → E) (gs : List Expr → Es) (gt : Expr → Option T) : S :=
  if c.hld.isSome || !notLcT v then .bad else
  match isTup v with
  | some vs => (match swapM c.sc es vs with
    | none => .bad
    | some none => (match gt t with
      | some tt => .asg tt (g v)
      | none => mkParN c es vs gs)
    | some (some ns) => mkPar c es ns vs gs)
  | none => (match gt t with
    | some tt => .asg tt (g v)
    | none => .bad)
def mkAsg (c : Tc) (ts : List Expr) (v : Expr) (g : Expr → E) (gs : List Expr → Es) (gt : Expr → Option T) : S := match ts with
  | [.Name x _] => mkNm c x v g
  | [.Subscript o k _] => mkSub c o k v g
  | [.Tuple es k p] => mkTup c es (.Tuple es k p) v g gs gt
  | _ => .bad
/-- the call of what the def got -/
def isAct (c : Tc) : Expr → Bool
  | .Call (.Name x _) [] [] _ => okNm x && c.vis x && decide (c.slot x = some 0) && c.bor.contains 0 && !c.hld.isSome
  | _ => false
def mkExpr (c : Tc) (e : Expr) (g : Expr → E) : S := if isAct c e then .acts else if notLcT e then .expr (g e) else .bad
def mkRet (c : Tc) (e : Expr) (g : Expr → E) : S := match e with
  | .Name x p => if okNm x && c.vis x then (match c.slot x with
    | some i => if c.own.contains i && decide (c.np ≤ i) then .retr i else .ret (g (.Name x p))
    | none => .bad) else .ret (g (.Name x p))
  | e => .ret (g e)
def mkFor (c : Tc) (t it : Expr) (b : Ss) (gi : Expr → I) (gt : Expr → Option T) : S :=
  if notSet it && !c.hld.isSome then (match gt t with
    | some tt => if fitI false (gi it) tt then .for tt (gi it) b else .bad
    | none => .bad) else .bad
def mkRaise (c : Tc) (e : Expr) : S := if c.hld.isSome then .bad else match e with
  | .Call (.Name x _) [.Constant (.str _) _ _] [] _ => if okNm x && c.glob x && plainX x then (match slotGo x c.excs 0 with
    | some k => .raise k
    | none => .bad) else .bad
  | _ => .bad
def mkTry (c : Tc) (b : Ss) (hs : List ExceptHandler) (gh : Tc → List Stmt → Ss) : S := match hs with
  | [.ExceptHandler (some (.Name x _)) (some y) (h0 :: h) _] => if okNm x && c.glob x && c.hld.isNone && plainX x && decide (c.sc.names.lookup y = some .local) then (match slotGo x c.excs 0 with
    | some k => (match c.slot y with
      | some i => if c.res i then .bad else .tryx b k (some i) (gh { c with hld := some i, hx := true } (h0 :: h))
      | none => .bad)
    | none => .bad) else .bad
  | _ => .bad
mutual
def trS : Nat → Tc → Stmt → S
  | 0, _, _ => .bad
  | n + 1, c, s => match s with
    | .Expr e _ => mkExpr c e (tr n c)
    | .Pass _ => .pass
    | .Continue _ => .cont
    | .Break _ => .brk
    | .Return v _ => (match v with
      | none => .retN
      | some e => mkRet c e (tr n c))
    | .If t a b _ => .ifs (tr n c t) (trSs n c a) (trSs n c b)
    | .For t it b o _ => if o.isEmpty then mkFor c t it (trSs n c b) (trI n c) (trT n c) else .bad
    | .While t b o _ => if o.isEmpty && !c.hld.isSome then .while (tr n c t) (trSs n c b) else .bad
    | .Raise e k _ => (match k with
      | none => (match e with
        | some e => mkRaise c e
        | none => .bad)
      | some _ => .bad)
    | .Try b hs o f _ => if o.isEmpty && f.isEmpty then mkTry c (trSs n c b) hs (fun c' h => trSs n c' h) else .bad
    | .Assign ts v _ => mkAsg c ts v (tr n c) (trs n c) (trT n c)
    | _ => .bad
def trSs : Nat → Tc → List Stmt → Ss
  | 0, _, _ => .cons .bad .nil
  | _ + 1, _, [] => .nil
  | n + 1, c, s :: ss => .cons (trS n c s) (trSs n c ss)
end
def trFd (fns : List Str) (con : List (Str × D)) (excs : List Str) (lm : Bool) (N : List Str) (fd : Fd) (body : List Stmt) (sc : Scope) : Ss :=
  trSs 100 ⟨N, fd.own, fd.bor, fd.ps.length, fns, con, excs, sc, none, false, lm⟩ body
end BF

/-! Rel -/
set_option Elab.async false
set_option linter.all false
set_option maxRecDepth 100000
set_option maxHeartbeats 2000000
namespace BF
open PySem L2

/-- what the relation leans on: the written part, where the defs and the classes stand, the tables of code objects -/
structure Wd where
  K : PySem.W.Frag
  fad : Nat → Addr
  cad : Nat → Addr
  T : List (Addr × Str)
  tb : List Fd
  sub : Nat → Nat → Bool

def KeyR : D → Key → Prop
  | .int i, k => k = .inl i
  | .str x, k => k = .inr x
  | _, _ => False

mutual
inductive Rep (Z : Wd) (H : Hp) : D → V → Prop
  | non : Rep Z H .non .non
  | bl (b : Bool) : Rep Z H (.bl b) (.bl b)
  | int (i : Int) : Rep Z H (.int i) (.int i)
  | str (x : Str) : Rep Z H (.str x) (.str x)
  | tup {a : Addr} {vs : List V} {xs : List D} : SqT Z.K H a vs → Reps Z H xs vs → Rep Z H (.tup xs) (.ref a)
  | lst {a : Addr} {vs : List V} {xs : List D} : H a = some (.lst vs) → Reps Z H xs vs → Rep Z H (.lst xs) (.ref a)
  | frz {a : Addr} {vs : List V} {xs : List D} : SqL Z.K H a vs → Reps Z H xs vs → Rep Z H (.frz xs) (.ref a)
  | dic {a : Addr} {ks : List (Key × V)} {kvs : List (D × D)} : H a = some (.dK ks) → RepK Z H kvs ks → Rep Z H (.dic kvs) (.ref a)
  | fn (f : Nat) : Rep Z H (.fn f) (.ref (Z.fad f))
inductive Reps (Z : Wd) (H : Hp) : List D → List V → Prop
  | nil : Reps Z H [] []
  | cons {d : D} {v : V} {ds : List D} {vs : List V} : Rep Z H d v → Reps Z H ds vs → Reps Z H (d :: ds) (v :: vs)
inductive RepK (Z : Wd) (H : Hp) : List (D × D) → List (Key × V) → Prop
  | nil : RepK Z H [] []
  | cons {k d : D} {q : Key} {v : V} {ds : List (D × D)} {vs : List (Key × V)} : KeyR k q → Rep Z H d v → RepK Z H ds vs → RepK Z H ((k, d) :: ds) ((q, v) :: vs)
end

/-- more stands there -/
def Le (H H' : Hp) : Prop := ∀ a o, H a = some o → H' a = some o
theorem Le.refl (H : Hp) : Le H H := fun _ _ h => h
theorem Le.trans {A B C : Hp} (h : Le A B) (k : Le B C) : Le A C := fun a o e => k a o (h a o e)
theorem Le.rd {H H' : Hp} (h : Le H H') {a : Addr} {u : HO} (r : Rd H a u) : Rd H' a u := by
  rcases r with r | ⟨o, r⟩
  · exact .inl (h _ _ r)
  · exact .inr ⟨o, h _ _ r⟩
theorem Le.sqT {K : PySem.W.Frag} {H H' : Hp} (h : Le H H') {a : Addr} {xs : List V} (s : SqT K H a xs) : SqT K H' a xs := by
  rcases s with r | r
  · exact .inl (h.rd r)
  · exact .inr r
theorem Le.sqL {K : PySem.W.Frag} {H H' : Hp} (h : Le H H') {a : Addr} {xs : List V} (s : SqL K H a xs) : SqL K H' a xs := by
  rcases s with r | r
  · exact .inl (h.rd r)
  · exact .inr r
mutual
theorem Rep.le {Z : Wd} {H H' : Hp} (h : Le H H') : ∀ {d : D} {v : V}, Rep Z H d v → Rep Z H' d v
  | _, _, .non => .non
  | _, _, .bl b => .bl b
  | _, _, .int b => .int b
  | _, _, .str b => .str b
  | _, _, .tup s r => .tup (h.sqT s) (Reps.le h r)
  | _, _, .lst s r => .lst (h _ _ s) (Reps.le h r)
  | _, _, .frz s r => .frz (h.sqL s) (Reps.le h r)
  | _, _, .dic s r => .dic (h _ _ s) (RepK.le h r)
  | _, _, .fn f => .fn f
theorem Reps.le {Z : Wd} {H H' : Hp} (h : Le H H') : ∀ {d : List D} {v : List V}, Reps Z H d v → Reps Z H' d v
  | _, _, .nil => .nil
  | _, _, .cons a b => .cons (Rep.le h a) (Reps.le h b)
theorem RepK.le {Z : Wd} {H H' : Hp} (h : Le H H') : ∀ {d : List (D × D)} {v : List (Key × V)}, RepK Z H d v → RepK Z H' d v
  | _, _, .nil => .nil
  | _, _, .cons k a b => .cons k (Rep.le h a) (RepK.le h b)
end
theorem Reps.length {Z : Wd} {H : Hp} : ∀ {d : List D} {v : List V}, Reps Z H d v → d.length = v.length
  | _, _, .nil => rfl
  | _, _, .cons _ b => by simp [Reps.length b]
theorem Reps.append {Z : Wd} {H : Hp} : ∀ {d e : List D} {v w : List V}, Reps Z H d v → Reps Z H e w → Reps Z H (d ++ e) (v ++ w)
  | _, _, _, _, .nil, r => r
  | _, _, _, _, .cons a b, r => .cons a (Reps.append b r)
theorem Reps.get {Z : Wd} {H : Hp} : ∀ {d : List D} {v : List V} {i : Nat} {x : D}, Reps Z H d v → d[i]? = some x → ∃ y, v[i]? = some y ∧ Rep Z H x y
  | _, _, _, _, .nil, e => by simp at e
  | _, _, 0, _, .cons a _, e => by simp at e; subst e; exact ⟨_, rfl, a⟩
  | _, _, i + 1, x, .cons _ b, e => by
    obtain ⟨y, h1, h2⟩ := Reps.get (i := i) (x := x) b (by simpa using e)
    exact ⟨y, by simpa using h1, h2⟩
theorem Reps.getV {Z : Wd} {H : Hp} : ∀ {d : List D} {v : List V} {i : Nat} {y : V}, Reps Z H d v → v[i]? = some y → ∃ x, d[i]? = some x ∧ Rep Z H x y
  | _, _, _, _, .nil, e => by simp at e
  | _, _, 0, _, .cons a _, e => by simp at e; subst e; exact ⟨_, rfl, a⟩
  | _, _, i + 1, x, .cons _ b, e => by
    obtain ⟨y, h1, h2⟩ := Reps.getV (i := i) (y := x) b (by simpa using e)
    exact ⟨y, by simpa using h1, h2⟩
theorem Reps.set {Z : Wd} {H : Hp} {x : D} {y : V} (r : Rep Z H x y) : ∀ {d : List D} {v : List V} (i : Nat), Reps Z H d v → Reps Z H (d.set i x) (v.set i y)
  | _, _, _, .nil => .nil
  | _, _, 0, .cons _ b => .cons r b
  | _, _, i + 1, .cons a b => .cons a (Reps.set r i b)
theorem Reps.take {Z : Wd} {H : Hp} : ∀ {d : List D} {v : List V} (n : Nat), Reps Z H d v → Reps Z H (d.take n) (v.take n)
  | _, _, 0, _ => .nil
  | _, _, _ + 1, .nil => .nil
  | _, _, n + 1, .cons a b => .cons a (Reps.take n b)
theorem Reps.drop {Z : Wd} {H : Hp} : ∀ {d : List D} {v : List V} (n : Nat), Reps Z H d v → Reps Z H (d.drop n) (v.drop n)
  | _, _, 0, r => r
  | _, _, _ + 1, .nil => .nil
  | _, _, n + 1, .cons a b => Reps.drop n b
theorem Reps.rev {Z : Wd} {H : Hp} : ∀ {d : List D} {v : List V}, Reps Z H d v → Reps Z H d.reverse v.reverse
  | _, _, .nil => .nil
  | _, _, .cons a b => by rw [List.reverse_cons, List.reverse_cons]; exact (Reps.rev b).append (.cons a .nil)
theorem Reps.erase {Z : Wd} {H : Hp} : ∀ {d : List D} {v : List V} (n : Nat), Reps Z H d v → Reps Z H (d.eraseIdx n) (v.eraseIdx n)
  | _, _, _, .nil => .nil
  | _, _, 0, .cons a b => b
  | _, _, n + 1, .cons a b => .cons a (Reps.erase n b)
theorem Reps.rep {Z : Wd} {H : Hp} {d : List D} {v : List V} (r : Reps Z H d v) : ∀ k : Nat, Reps Z H (List.replicate k d).flatten (List.replicate k v).flatten
  | 0 => .nil
  | k + 1 => by rw [List.replicate_succ, List.replicate_succ, List.flatten_cons, List.flatten_cons]; exact r.append (Reps.rep r k)

/-! ### what is hidden -/
/-- no table of code objects -/
def NT (o : HO) : Prop := ∀ ps, o ≠ .tbl ps
theorem nt_lst {xs : List V} : NT (.lst xs) := fun _ h => nomatch h
theorem nt_tup {xs : List V} : NT (.tup xs) := fun _ h => nomatch h
theorem nt_dK {xs : List (Key × V)} : NT (.dK xs) := fun _ h => nomatch h
noncomputable def hide (H : Hp) (O : Addr → Prop) : Hp := fun a => @ite _ (O a ∨ ∃ ps, H a = some (.tbl ps)) (Classical.propDecidable _) none (H a)
theorem hide_some {H : Hp} {O : Addr → Prop} {a : Addr} {o : HO} : hide H O a = some o ↔ (¬ O a ∧ NT o) ∧ H a = some o := by
  unfold hide
  by_cases h : O a ∨ ∃ ps, H a = some (.tbl ps)
  · rw [if_pos h]
    refine ⟨fun q => (by simp at q), fun q => ?_⟩
    rcases h with h | ⟨ps, h⟩
    · exact absurd h q.1.1
    · rw [q.2] at h
      exact absurd (by simpa using h) (q.1.2 ps)
  · rw [if_neg h]
    refine ⟨fun q => ⟨⟨fun z => h (.inl z), fun ps e => h (.inr ⟨ps, by rw [q, e]⟩)⟩, q⟩, fun q => q.2⟩
theorem hide_le (H : Hp) (O : Addr → Prop) : Le (hide H O) H := fun _ _ e => (hide_some.mp e).2
theorem hide_mono {H H' : Hp} {O O' : Addr → Prop} (h : ∀ a o, H a = some o → NT o → ¬ O a → H' a = some o ∧ ¬ O' a) : Le (hide H O) (hide H' O') := fun a o e =>
  let ⟨⟨n, t⟩, q⟩ := hide_some.mp e
  let ⟨q', n'⟩ := h a o q t n
  hide_some.mpr ⟨⟨n', t⟩, q'⟩
theorem hide_less {H : Hp} {O O' : Addr → Prop} (h : ∀ a, O' a → O a) : Le (hide H O) (hide H O') := hide_mono fun a o e t n => ⟨e, fun z => n (h a z)⟩

/-! ### slots -/
/-- a container that stands at a, its parts apart from what is hidden -/
def Cont (Z : Wd) (H G : Hp) (d : D) (a : Addr) : Prop := match d with
  | .lst xs => ∃ vs, H a = some (.lst vs) ∧ Reps Z G xs vs
  | .dic kvs => ∃ ks, H a = some (.dK ks) ∧ RepK Z G kvs ks
  | _ => False
theorem Cont.rep {Z : Wd} {H G : Hp} {d : D} {a : Addr} (l : Le G H) (c : Cont Z H G d a) : Rep Z H d (.ref a) := by
  cases d with
  | lst xs => obtain ⟨vs, h, r⟩ := c; exact .lst h (r.le l)
  | dic kvs => obtain ⟨ks, h, r⟩ := c; exact .dic h (r.le l)
  | _ => exact c.elim
theorem Cont.mono {Z : Wd} {H G H' G' : Hp} {d : D} {a : Addr} (l : Le G G') (e : ∀ o, H a = some o → H' a = some o) (c : Cont Z H G d a) : Cont Z H' G' d a := by
  cases d with
  | lst xs => obtain ⟨vs, h, r⟩ := c; exact ⟨vs, e _ h, r.le l⟩
  | dic kvs => obtain ⟨ks, h, r⟩ := c; exact ⟨ks, e _ h, r.le l⟩
  | _ => exact c.elim
theorem Cont.monoN {Z : Wd} {H G H' G' : Hp} {d : D} {a : Addr} (l : Le G G') (e : ∀ o, H a = some o → NT o → H' a = some o) (c : Cont Z H G d a) : Cont Z H' G' d a := by
  cases d with
  | lst xs => obtain ⟨vs, h, r⟩ := c; exact ⟨vs, e _ h nt_lst, r.le l⟩
  | dic kvs => obtain ⟨ks, h, r⟩ := c; exact ⟨ks, e _ h nt_dK, r.le l⟩
  | _ => exact c.elim
/-- a value that is lent: plain, or a container of one's own -/
def RB (Z : Wd) (H : Hp) (O : Addr → Prop) (d : D) (v : V) : Prop := Rep Z (hide H O) d v ∨ ∃ a, v = .ref a ∧ O a ∧ Cont Z H (hide H O) d a
theorem RB.rep {Z : Wd} {H : Hp} {O : Addr → Prop} {d : D} {v : V} (r : RB Z H O d v) : Rep Z H d v := by
  rcases r with r | ⟨a, rfl, _, c⟩
  · exact r.le (hide_le H O)
  · exact c.rep (hide_le H O)
theorem RB.tup {Z : Wd} {H : Hp} {O : Addr → Prop} {xs : List D} {v : V} (r : RB Z H O (.tup xs) v) : ∃ a vs, v = .ref a ∧ SqT Z.K H a vs ∧ Reps Z (hide H O) xs vs := by
  rcases r with r | ⟨a, rfl, _, c⟩
  · cases r with
    | tup s q => exact ⟨_, _, rfl, (hide_le H O).sqT s, q⟩
  · exact c.elim
theorem RB.lst {Z : Wd} {H : Hp} {O : Addr → Prop} {xs : List D} {v : V} (r : RB Z H O (.lst xs) v) : ∃ a vs, v = .ref a ∧ H a = some (.lst vs) ∧ Reps Z (hide H O) xs vs := by
  rcases r with r | ⟨a, rfl, _, c⟩
  · cases r with
    | lst s q => exact ⟨_, _, rfl, hide_le H O _ _ s, q⟩
  · obtain ⟨vs, h, q⟩ := c; exact ⟨a, vs, rfl, h, q⟩
theorem RB.dic {Z : Wd} {H : Hp} {O : Addr → Prop} {xs : List (D × D)} {v : V} (r : RB Z H O (.dic xs) v) : ∃ a vs, v = .ref a ∧ H a = some (.dK vs) ∧ RepK Z (hide H O) xs vs := by
  rcases r with r | ⟨a, rfl, _, c⟩
  · cases r with
    | dic s q => exact ⟨_, _, rfl, hide_le H O _ _ s, q⟩
  · obtain ⟨vs, h, q⟩ := c; exact ⟨a, vs, rfl, h, q⟩
theorem RB.frz {Z : Wd} {H : Hp} {O : Addr → Prop} {xs : List D} {v : V} (r : RB Z H O (.frz xs) v) : ∃ a vs, v = .ref a ∧ SqL Z.K H a vs ∧ Reps Z (hide H O) xs vs := by
  rcases r with r | ⟨a, rfl, _, c⟩
  · cases r with
    | frz s q => exact ⟨_, _, rfl, (hide_le H O).sqL s, q⟩
  · exact c.elim
/-- .. and the container is one of N -/
def RBx (N : Addr → Prop) (Z : Wd) (H : Hp) (O : Addr → Prop) (d : D) (v : V) : Prop := Rep Z (hide H O) d v ∨ ∃ a, v = .ref a ∧ O a ∧ N a ∧ Cont Z H (hide H O) d a
theorem RBx.rb {N : Addr → Prop} {Z : Wd} {H : Hp} {O : Addr → Prop} {d : D} {v : V} (r : RBx N Z H O d v) : RB Z H O d v := by
  rcases r with r | ⟨a, e, o, _, c⟩
  · exact .inl r
  · exact .inr ⟨a, e, o, c⟩
/-- the places that are restricted -/
structure Pl where
  own : List Nat
  bor : List Nat
  hold : Option (Nat × V)
  lock : Addr → Prop
/-- an address that no restricted place of one's own holds -/
def NotOwn (c : Pl) (σ : St) (a : Addr) : Prop := ∀ i ∈ c.own, σ[i]? ≠ some (some (.ref a))
/-- .. nor a new list that grows -/
def Apart (c : Pl) (σ : St) (a : Addr) : Prop := NotOwn c σ a ∧ ¬ c.lock a
structure RelS (Z : Wd) (c : Pl) (O : Addr → Prop) (σd : Sd) (σ : St) (H : Hp) : Prop where
  len : σd.length = σ.length
  dom : ∀ a, O a → ∃ o, H a = some o ∧ NT o
  tab : LamX.Tabs Z.T H
  own : ∀ i ∈ c.own, ∀ a, σ[i]? = some (some (.ref a)) → O a
  inj : ∀ i ∈ c.own, ∀ j ∈ c.own, ∀ a, σ[i]? = some (some (.ref a)) → σ[j]? = some (some (.ref a)) → i = j
  slot : ∀ i d, σd[i]? = some (some d) → ∃ v, σ[i]? = some (some v) ∧ (i ∈ c.own → ∃ a, v = .ref a ∧ Cont Z H (hide H O) d a) ∧ (i ∉ c.own → i ∈ c.bor → RBx (Apart c σ) Z H O d v) ∧ (i ∉ c.own → i ∉ c.bor → Rep Z (hide H O) d v)
  hold : ∀ i v, c.hold = some (i, v) → σ[i]? = some (some v)
/-- behind an expression -/
def KeepE (c : Pl) (σ : St) (H H' : Hp) : Prop := ∀ a o, H a = some o → NT o → NotOwn c σ a → H' a = some o
theorem KeepE.refl {c : Pl} {σ : St} {H : Hp} : KeepE c σ H H := fun _ _ h _ _ => h
theorem KeepE.trans {c : Pl} {σ : St} {A B C : Hp} (h : KeepE c σ A B) (k : KeepE c σ B C) : KeepE c σ A C := fun a o e t n => k a o (h a o e t n) t n
theorem RelS.notOwn {Z : Wd} {c : Pl} {O : Addr → Prop} {σd : Sd} {σ : St} {H : Hp} (r : RelS Z c O σd σ H) {a : Addr} (n : ¬ O a) : NotOwn c σ a := fun i hi e => n (r.own i hi a e)
/-- what is seen stays -/
theorem RelS.le {Z : Wd} {c : Pl} {O : Addr → Prop} {σd : Sd} {σ : St} {H H' : Hp} (r : RelS Z c O σd σ H) (k : KeepE c σ H H') : Le (hide H O) (hide H' O) :=
  hide_mono fun a o e t n => ⟨k a o e t (r.notOwn n), n⟩
/-- a lent value stays, if it is none of one's own places -/
theorem RelS.weak {Z : Wd} {c : Pl} {O : Addr → Prop} {σd σd' : Sd} {σ : St} {H : Hp} (r : RelS Z c O σd σ H) (hl : σd'.length = σd.length) (h : ∀ (i : Nat) d, σd'[i]? = some (some d) → σd[i]? = some (some d)) : RelS Z c O σd' σ H :=
  ⟨hl.trans r.len, r.dom, r.tab, r.own, r.inj, fun i d e => r.slot i d (h i d e), r.hold⟩
theorem RelS.nones {Z : Wd} {c : Pl} {O : Addr → Prop} {σd : Sd} {σ : St} {H : Hp} (r : RelS Z c O σd σ H) : RelS Z c O (List.replicate σd.length none) σ H :=
  r.weak (by simp) fun i d e => by
    rw [List.getElem?_replicate] at e
    split at e <;> simp at e
/-- the heap grows, one's own places stay as they are -/
theorem RelS.grow {Z : Wd} {c : Pl} {O : Addr → Prop} {σd : Sd} {σ : St} {H H' : Hp} (r : RelS Z c O σd σ H) (l : Le H H') : RelS Z c O σd σ H' :=
  have g : Le (hide H O) (hide H' O) := hide_mono fun a o e t n => ⟨l a o e, n⟩
  ⟨r.len, fun a h => let ⟨o, e, t⟩ := r.dom a h; ⟨o, l a o e, t⟩, r.tab.ext l, r.own, r.inj, fun i d e => by
    obtain ⟨v, h1, h2, h3, h4⟩ := r.slot i d e
    refine ⟨v, h1, fun z => ?_, fun z1 z2 => ?_, fun z1 z2 => (h4 z1 z2).le g⟩
    · obtain ⟨a, ea, c⟩ := h2 z
      exact ⟨a, ea, c.mono g fun o q => l a o q⟩
    · rcases h3 z1 z2 with q | ⟨a, ea, oa, na, c⟩
      · exact .inl (q.le g)
      · exact .inr ⟨a, ea, oa, na, c.mono g fun o q => l a o q⟩, r.hold⟩
theorem le_upd {H : Hp} {p : Addr} {o : HO} (h : H p = none) : Le H (upd H p o) := fun a u e => by rw [upd_ne (ne_of_none e h)]; exact e
theorem KeepE.of_le {c : Pl} {σ : St} {H H' : Hp} (l : Le H H') : KeepE c σ H H' := fun a o e _ _ => l a o e
def plus (O : Addr → Prop) (a : Addr) : Addr → Prop := fun b => O b ∨ b = a
theorem plus_le {H : Hp} {O : Addr → Prop} {p : Addr} (o : HO) (h : H p = none) : Le (hide H O) (hide (upd H p o) (plus O p)) := hide_mono fun a u e t n =>
  have z : a ≠ p := ne_of_none e h
  ⟨by rw [upd_ne z]; exact e, fun q => q.elim n z⟩
theorem plus_less {H : Hp} {O : Addr → Prop} {p : Addr} : Le (hide H (plus O p)) (hide H O) := hide_less fun _ h => .inl h
/-- a new object that is one's own from now on -/
theorem RelS.plus {Z : Wd} {c : Pl} {O : Addr → Prop} {σd : Sd} {σ : St} {H : Hp} (r : RelS Z c O σd σ H) {p : Addr} (hp : H p = none) (o : HO) (t : NT o) : RelS Z c (plus O p) σd σ (upd H p o) := by
  have l := le_upd (o := o) hp
  have g := plus_le (O := O) o hp
  refine ⟨r.len, fun a h => ?_, r.tab.ext l, fun i hi a e => .inl (r.own i hi a e), r.inj, fun i d e => ?_, r.hold⟩
  · rcases h with h | rfl
    · obtain ⟨u, e, t⟩ := r.dom a h; exact ⟨u, l a u e, t⟩
    · exact ⟨o, upd_same, t⟩
  · obtain ⟨v, h1, h2, h3, h4⟩ := r.slot i d e
    refine ⟨v, h1, fun z => ?_, fun z1 z2 => ?_, fun z1 z2 => (h4 z1 z2).le g⟩
    · obtain ⟨a, ea, ct⟩ := h2 z
      exact ⟨a, ea, ct.mono g fun u q => l a u q⟩
    · rcases h3 z1 z2 with q | ⟨a, ea, oa, na, ct⟩
      · exact .inl (q.le g)
      · exact .inr ⟨a, ea, .inl oa, na, ct.mono g fun u q => l a u q⟩
/-- nothing stands there (but a table) -/
def Fre (H : Hp) (a : Addr) : Prop := ∀ o, H a = some o → ¬ NT o
theorem fre_none {H : Hp} {a : Addr} (h : H a = none) : Fre H a := fun o e => by rw [h] at e; cases e
/-- what is new behind was new ahead -/
theorem RelS.back {Z : Wd} {c : Pl} {O : Addr → Prop} {σd σd' : Sd} {σ : St} {H H' : Hp} (r0 : RelS Z c O σd σ H) (r : RelS Z c O σd' σ H') (k : KeepE c σ H H') {p : Addr} (hp : Fre H' p) : Fre H p := fun o e t => by
  by_cases ho : O p
  · obtain ⟨u, q, t'⟩ := r.dom p ho
    exact hp u q t'
  · exact hp o (k p o e t (r0.notOwn ho)) t
/-- D is a list that grows -/
def lk (c : Pl) (D : Addr) : Pl := { c with lock := plus c.lock D }
theorem lk_notOwn {c : Pl} {σ : St} {D a : Addr} : NotOwn (lk c D) σ a ↔ NotOwn c σ a := Iff.rfl
theorem RelS.locked {Z : Wd} {c : Pl} {O : Addr → Prop} {σd : Sd} {σ : St} {H : Hp} (r : RelS Z c O σd σ H) {D : Addr} (hD : H D = none) (o : HO) (t : NT o) : RelS Z (lk c D) (BF.plus O D) σd σ (upd H D o) := by
  have r2 := r.plus hD o t
  refine ⟨r2.len, r2.dom, r2.tab, r2.own, r2.inj, fun i d e => ?_, r2.hold⟩
  obtain ⟨v, h1, h2, h3, h4⟩ := r2.slot i d e
  refine ⟨v, h1, h2, fun z1 z2 => ?_, h4⟩
  -- the container was there ahead of D
  obtain ⟨w, k1, k2, k3, k4⟩ := r.slot i d e
  rw [h1] at k1
  obtain rfl : v = w := by simpa using k1
  rcases k3 z1 z2 with q | ⟨a, ea, oa, na, ct⟩
  · exact .inl (q.le (plus_le o hD))
  · have ne : a ≠ D := fun z => by
      obtain ⟨u, eu, _⟩ := r.dom a oa
      rw [z, hD] at eu; cases eu
    exact .inr ⟨a, ea, .inl oa, ⟨na.1, fun z => z.elim na.2 ne⟩, ct.mono (plus_le o hD) fun u q => by rw [upd_ne ne]; exact q⟩
theorem RelS.unlk {Z : Wd} {c : Pl} {O : Addr → Prop} {σd : Sd} {σ : St} {H : Hp} {A : Addr} (r : RelS Z (lk c A) O σd σ H) : RelS Z c O σd σ H := ⟨r.len, r.dom, r.tab, r.own, r.inj, fun i d e => by
  obtain ⟨v, h1, h2, h3, h4⟩ := r.slot i d e
  refine ⟨v, h1, h2, fun z1 z2 => ?_, h4⟩
  rcases h3 z1 z2 with q | ⟨a, ea, oa, na, ct⟩
  · exact .inl q
  · exact .inr ⟨a, ea, oa, ⟨na.1, fun z => na.2 (.inl z)⟩, ct⟩, r.hold⟩
/-- what is told of a new container -/
def FrR (Z : Wd) (c : Pl) (O : Addr → Prop) (σ : St) (H0 H' : Hp) (σd : Sd) (d : D) (v : V) : Prop := isContainer d = true → ∃ a, v = .ref a ∧ Fre H0 a ∧ Cont Z H' (hide H' (BF.plus O a)) d a ∧ RelS Z (lk c a) (BF.plus O a) σd σ H'
end BF

/-! Go -/
set_option Elab.async false
set_option linter.all false
set_option maxRecDepth 100000
set_option maxHeartbeats 2000000
namespace BF
open PySem L2

/-- what a result r from the state (σ, H) on must lead to: K behind a value, W behind an error -/
def Go {β : Type} (Z : Wd) (c : Pl) (W : WX) (r : R (β × Sd)) (O : Addr → Prop) (σ : St) (H : Hp) (K : β → Sd → Hp → Prop) : Prop :=
  match r with
  | .ok q => ∀ H', RelS Z c O q.2 σ H' → KeepE c σ H H' → K q.1 q.2 H'
  | .exc k => ∀ H', RelS Z c O (List.replicate σ.length none) σ H' → KeepE c σ H H' → W (.ref (Z.cad k)) none σ H'
  | .bad => False
section
variable {Z : Wd} {c : Pl} {W : WX} {O : Addr → Prop} {σ : St} {H : Hp} {β γ : Type}
theorem Go.imp {r : R (β × Sd)} {K K' : β → Sd → Hp → Prop} (h : Go Z c W r O σ H K) (i : ∀ b σd H', r = .ok (b, σd) → RelS Z c O σd σ H' → KeepE c σ H H' → K b σd H' → K' b σd H') : Go Z c W r O σ H K' := by
  cases r with
  | ok q => exact fun H' hr hk => i q.1 q.2 H' rfl hr hk (h H' hr hk)
  | exc k => exact h
  | bad => exact h
theorem Go.bind {r : R (β × Sd)} {g : β × Sd → R (γ × Sd)} {K : γ → Sd → Hp → Prop} (h : Go Z c W (r.bind g) O σ H K) : Go Z c W r O σ H fun b σd H' => Go Z c W (g (b, σd)) O σ H' K := by
  cases r with
  | ok q =>
    intro H' hr hk
    show Go Z c W (g q) O σ H' K
    have h' : Go Z c W (g q) O σ H K := h
    revert h'
    generalize g q = r2
    intro h'
    cases r2 with
    | ok q2 => exact fun H2 hr2 hk2 => h' H2 hr2 (hk.trans hk2)
    | exc k => exact fun H2 hr2 hk2 => h' H2 hr2 (hk.trans hk2)
    | bad => exact h'
  | exc k => exact h
  | bad => exact h
/-- a step that stores nothing -/
theorem Go.pure {α : Type} {r : R α} {g : α → R (γ × Sd)} {K : γ → Sd → Hp → Prop} (h : Go Z c W (r.bind g) O σ H K) (hp : ∀ k, r ≠ .exc k) : ∃ a, r = .ok a ∧ Go Z c W (g a) O σ H K := by
  cases r with
  | ok a => exact ⟨a, rfl, h⟩
  | exc k => exact absurd rfl (hp k)
  | bad => exact h.elim
theorem ofO_ne {α : Type} {o : Option α} : ∀ k, R.ofO o ≠ .exc k := by cases o <;> intro k e <;> simp [R.ofO] at e
theorem ofO_ok {α : Type} {o : Option α} {a : α} (h : R.ofO o = .ok a) : o = some a := by cases o <;> simp [R.ofO] at h; rw [h]
theorem Go.opt {α : Type} {o : Option α} {g : α → R (γ × Sd)} {K : γ → Sd → Hp → Prop} (h : Go Z c W ((R.ofO o).bind g) O σ H K) : ∃ a, o = some a ∧ Go Z c W (g a) O σ H K := by
  obtain ⟨a, e, q⟩ := h.pure ofO_ne
  exact ⟨a, ofO_ok e, q⟩
theorem getS_ne {σd : Sd} {i : Nat} : ∀ k, getS σd i ≠ .exc k := by
  intro k e
  unfold getS at e
  split at e <;> simp at e
theorem getS_ok {σd : Sd} {i : Nat} {d : D} (h : getS σd i = .ok d) : σd[i]? = some (some d) := by
  unfold getS at h
  split at h
  · rename_i d' e
    simp at h
    rw [e, h]
  · simp at h
theorem Go.get {σd : Sd} {i : Nat} {g : D → R (γ × Sd)} {K : γ → Sd → Hp → Prop} (h : Go Z c W ((getS σd i).bind g) O σ H K) : ∃ d, σd[i]? = some (some d) ∧ Go Z c W (g d) O σ H K := by
  obtain ⟨a, e, q⟩ := h.pure getS_ne
  exact ⟨a, getS_ok e, q⟩
theorem Go.ok {q : β × Sd} {K : β → Sd → Hp → Prop} (h : Go Z c W (.ok q) O σ H K) {H' : Hp} (hr : RelS Z c O q.2 σ H') (hk : KeepE c σ H H') : K q.1 q.2 H' := h H' hr hk
theorem Go.iff {p : Prop} [Decidable p] {r : R (β × Sd)} {K : β → Sd → Hp → Prop} (h : Go Z c W (if p then r else .bad) O σ H K) : p ∧ Go Z c W r O σ H K := by
  by_cases hp : p
  · rw [if_pos hp] at h; exact ⟨hp, h⟩
  · rw [if_neg hp] at h; exact h.elim
end

/-- how a value is told -/
abbrev Tl := Hp → Hp → D → V → Prop
/-- plain: what is seen -/
def tP (Z : Wd) (O : Addr → Prop) : Tl := fun _ H' d v => Rep Z (hide H' O) d v
/-- lent -/
def tL (Z : Wd) (O : Addr → Prop) : Tl := fun _ H' d v => RB Z H' O d v
/-- the reading of what f gives -/
def TEe (Z : Wd) (c : Pl) (W : WX) (P : (Addr → Prop) → Tl) (f : Sd → R (D × Sd)) : TE := fun σ H Q => ∃ O σd, RelS Z c O σd σ H ∧ Go Z c W (f σd) O σ H fun d _ H' => ∀ v, P O H H' d v → Q v H'
/-- .. of a list -/
def TAe (Z : Wd) (c : Pl) (W : WX) (f : Sd → R (List D × Sd)) : TA := fun σ H Q => ∃ O σd, RelS Z c O σd σ H ∧ Go Z c W (f σd) O σ H fun ds _ H' => ∀ vs, Reps Z (hide H' O) ds vs → Q vs H'
/-- .. of a test -/
def TTe (Z : Wd) (c : Pl) (W : WX) (f : Sd → R (Bool × Sd)) : TT := fun σ H Q => ∃ O σd, RelS Z c O σd σ H ∧ Go Z c W (f σd) O σ H fun k _ H' => Q k H'
/-- the values of arguments that may be lent: at the end of all -/
def ArgL (Z : Wd) (c : Pl) (O : Addr → Prop) (σ : St) (H : Hp) : Es → List D → List V → Prop
  | .nil, [], [] => True
  | .cons e es, d :: ds, v :: vs => (match e with
      | .rv i => σ[i]? = some (some v)
      | _ => Rep Z (hide H O) d v) ∧ ArgL Z c O σ H es ds vs
  | _, _, _ => False
def TLe (Z : Wd) (c : Pl) (W : WX) (es : Es) (f : Sd → R (List D × Sd)) : TA := fun σ H Q => ∃ O σd, RelS Z c O σd σ H ∧ Go Z c W (f σd) O σ H fun ds _ H' => ∀ vs, ArgL Z c O σ H' es ds vs → Q vs H'

theorem _root_.L2.PE.weak {X : Cx} {e : Expr} {t t' : TE} (h : PE X e t) (i : ∀ σ H Q, t' σ H Q → t σ H Q) : PE X e t' := ⟨fun pins s σ H Q I q => h.run pins s σ H Q I (i σ H Q q)⟩
theorem _root_.L2.PT.weak {X : Cx} {e : Expr} {t t' : TT} (h : PT X e t) (i : ∀ σ H Q, t' σ H Q → t σ H Q) : PT X e t' := ⟨fun pins s σ H Q I q => h.run pins s σ H Q I (i σ H Q q)⟩
theorem _root_.L2.PA.weak {X : Cx} {e : List Expr} {t t' : TA} (h : PA X e t) (i : ∀ σ H Q, t' σ H Q → t σ H Q) : PA X e t' := ⟨fun pos pins s σ H Q I q => h.run pos pins s σ H Q I (i σ H Q q)⟩
theorem _root_.L2.PS.weak {X : Cx} {e : Stmt} {t t' : TS} (h : PS X e t) (i : ∀ D σ H, t' D σ H → t D σ H) : PS X e t' := ⟨fun pins s σ H D I q => h.run pins s σ H D I (i D σ H q)⟩
theorem _root_.L2.PSs.weak {X : Cx} {e : List Stmt} {t t' : TS} (h : PSs X e t) (i : ∀ D σ H, t' D σ H → t D σ H) : PSs X e t' := ⟨fun pins s σ H D I q => h.run pins s σ H D I (i D σ H q)⟩
theorem _root_.L2.PE.none {X : Cx} {e : Expr} {t : TE} (h : ∀ σ H Q, ¬ t σ H Q) : PE X e t := ⟨fun pins s σ H Q I q => absurd q (h σ H Q)⟩
theorem _root_.L2.PT.none {X : Cx} {e : Expr} {t : TT} (h : ∀ σ H Q, ¬ t σ H Q) : PT X e t := ⟨fun pins s σ H Q I q => absurd q (h σ H Q)⟩
theorem _root_.L2.PA.none {X : Cx} {e : List Expr} {t : TA} (h : ∀ σ H Q, ¬ t σ H Q) : PA X e t := ⟨fun pos pins s σ H Q I q => absurd q (h σ H Q)⟩
theorem _root_.L2.PS.none {X : Cx} {e : Stmt} {t : TS} (h : ∀ D σ H, ¬ t D σ H) : PS X e t := ⟨fun pins s σ H D I q => absurd q (h D σ H)⟩
theorem _root_.L2.PSs.none {X : Cx} {e : List Stmt} {t : TS} (h : ∀ D σ H, ¬ t D σ H) : PSs X e t := ⟨fun pins s σ H D I q => absurd q (h D σ H)⟩
/-- .. of what gives a new container, if it gives one: H0 the heap ahead of it -/
def KF (Z : Wd) (c : Pl) (O : Addr → Prop) (σ : L2.St) (H0 : Hp) (Q : VK) : D → Sd → Hp → Prop := fun d σd H' => ∀ v, FrR Z c O σ H0 H' σd d v → Rep Z (hide H' O) d v → Q v H'
def TFe (Z : Wd) (c : Pl) (W : WX) (f : Sd → R (D × Sd)) : TE := fun σ H Q => ∃ O σd, RelS Z c O σd σ H ∧ Go Z c W (f σd) O σ H (KF Z c O σ H Q)
theorem _root_.L2.PE.ofF {X : Cx} {e : Expr} {Z : Wd} {c : Pl} {W : WX} {f : Sd → R (D × Sd)} (h : PE X e (TFe Z c W f)) : PE X e (TEe Z c W (tP Z) f) := h.weak fun σ H Q ⟨O, σd, r, g⟩ => ⟨O, σd, r, g.imp fun d σ1 H1 _ _ _ q v _ rv => q v rv⟩
/-- a value told -/
abbrev RetF (Z : Wd) (c : Pl) (W : WX) (O : Addr → Prop) (σ : L2.St) (H0 : Hp) (σd : Sd) (H : Hp) (d : D) (Q : VK) : Prop := Go Z c W (.ok (d, σd)) O σ H (KF Z c O σ H0 Q)
theorem RetF.done {Z : Wd} {c : Pl} {W : WX} {O : Addr → Prop} {σ : L2.St} {H0 H : Hp} {σd : Sd} {d : D} {Q : VK} (g : RetF Z c W O σ H0 σd H d Q) (r : RelS Z c O σd σ H) (n : isContainer d = false) {v : V} (hv : Rep Z (hide H O) d v) : Q v H :=
  g.ok r KeepE.refl v (fun h => by rw [n] at h; cases h) hv
theorem RetF.newT {Z : Wd} {c : Pl} {W : WX} {O : Addr → Prop} {σ : L2.St} {H0 H : Hp} {σd : Sd} {xs : List D} {vs : List V} {Q : VK} (g : RetF Z c W O σ H0 σd H (.tup xs) Q) (r : RelS Z c O σd σ H) (rs : Reps Z (hide H O) xs vs) : ∀ p, H p = none → Q (.ref p) (upd H p (.tup vs)) := fun p hp => by
  have np : ¬ O p := fun h => by
    obtain ⟨u, e, _⟩ := r.dom p h
    rw [hp] at e; cases e
  have l := le_upd (o := .tup vs) hp
  have g2 : Le (hide H O) (hide (upd H p (.tup vs)) O) := hide_mono fun a u e t n => ⟨l a u e, n⟩
  exact g.ok (r.grow l) (KeepE.of_le l) _ (fun h => by cases h) (.tup (.inl (.inl (hide_some.mpr ⟨⟨np, nt_tup⟩, upd_same⟩))) (rs.le g2))
theorem RetF.newL {Z : Wd} {c : Pl} {W : WX} {O : Addr → Prop} {σ : L2.St} {H0 H : Hp} {σd : Sd} {xs : List D} {vs : List V} {Q : VK} (g : RetF Z c W O σ H0 σd H (.lst xs) Q) (r : RelS Z c O σd σ H) (hb : ∀ p, Fre H p → Fre H0 p) (rs : Reps Z (hide H O) xs vs) : ∀ p, H p = none → Q (.ref p) (upd H p (.lst vs)) := fun p hp => by
  have np : ¬ O p := fun h => by
    obtain ⟨u, e, _⟩ := r.dom p h
    rw [hp] at e; cases e
  have l := le_upd (o := .lst vs) hp
  have g2 : Le (hide H O) (hide (upd H p (.lst vs)) O) := hide_mono fun a u e t n => ⟨l a u e, n⟩
  exact g.ok (r.grow l) (KeepE.of_le l) _ (fun _ => ⟨p, rfl, hb p (fre_none hp), ⟨vs, upd_same, rs.le (plus_le _ hp)⟩, r.locked hp _ nt_lst⟩) (.lst (hide_some.mpr ⟨⟨np, nt_lst⟩, upd_same⟩) (rs.le g2))
theorem TEe.bad {Z : Wd} {c : Pl} {W : WX} {P : (Addr → Prop) → Tl} {f : Sd → R (D × Sd)} (h : ∀ σ, f σ = .bad) : ∀ σ H Q, ¬ TEe Z c W P f σ H Q := fun σ H Q ⟨O, σd, _, q⟩ => by rw [h] at q; exact q
end BF

/-! Snd1 -/
set_option Elab.async false
set_option linter.all false
set_option maxRecDepth 100000
set_option maxHeartbeats 2000000
namespace BF
open PySem L2

theorem SZ_eq : SZ = sizeLine := by rfl
section
variable {Z : Wd} {c : Pl} {W : WX} {O : Addr → Prop} {σ : L2.St} {σd : Sd} {H H' : Hp} {X : Cx}

/-- a new object -/
theorem RelS.new (r : RelS Z c O σd σ H) {p : Addr} (hp : H p = none) (o : HO) (t : NT o) : RelS Z c O σd σ (upd H p o) ∧ KeepE c σ H (upd H p o) ∧ ¬ O p ∧ Le (hide H O) (hide (upd H p o) O) ∧ hide (upd H p o) O p = some o := by
  have np : ¬ O p := fun h => by
    obtain ⟨u, e, _⟩ := r.dom p h
    rw [hp] at e; cases e
  have l := le_upd (o := o) hp
  exact ⟨r.grow l, KeepE.of_le l, np, hide_mono fun a u e t n => ⟨l a u e, n⟩, hide_some.mpr ⟨⟨np, t⟩, upd_same⟩⟩
/-- at an alloc: what is asked -/
theorem Go.alloc {β : Type} {q : β × Sd} {K : β → Sd → Hp → Prop} (h : Go Z c W (.ok q) O σ H K) (r : RelS Z c O q.2 σ H) {p : Addr} (hp : H p = none) (o : HO) (t : NT o) : K q.1 q.2 (upd H p o) :=
  h.ok (r.new hp o t).1 (r.new hp o t).2.1

/-! ### constants, names -/
theorem s_cst {e : Expr} {d : D} {v : V} {l : Lv} (h : PE X e (tC v)) (r : ∀ H, Rep Z H d v) : PE X e (TEe Z c W (tP Z) (ev (.cst d) l)) :=
  h.weak fun σ H Q ⟨O, σd, hr, hg⟩ => hg.ok hr KeepE.refl v (r _)
theorem s_fn {e : Expr} {f : Nat} {l : Lv} (h : PE X e (tC (.ref (Z.fad f)))) : PE X e (TEe Z c W (tP Z) (ev (.fn f) l)) :=
  h.weak fun σ H Q ⟨O, σd, hr, hg⟩ => hg.ok hr KeepE.refl _ (.fn f)
theorem s_var {e : Expr} {i : Nat} {l : Lv} (h : PE X e (tVar i)) (n1 : i ∉ c.own) (n2 : i ∉ c.bor) : PE X e (TEe Z c W (tP Z) (ev (.var i) l)) :=
  h.weak fun σ H Q ⟨O, σd, hr, hg⟩ => by
    obtain ⟨d, e1, hg⟩ := Go.get hg
    obtain ⟨v, e2, _, _, h4⟩ := hr.slot i d e1
    exact ⟨v, e2, hg.ok hr KeepE.refl v (h4 n1 n2)⟩
/-- a lent name -/
theorem s_rv {e : Expr} {i : Nat} {r : R (D × Sd)} (h : PE X e (tVar i)) (n : i ∈ c.own ∨ i ∈ c.bor) : PE X e (TEe Z c W (tL Z) (fun σ => lent (.rv i) r σ)) :=
  h.weak fun σ H Q ⟨O, σd, hr, hg⟩ => by
    obtain ⟨d, e1, hg⟩ := Go.get (show Go Z c W ((getS σd i).bind fun d => .ok (d, σd)) O σ H _ from hg)
    obtain ⟨v, e2, h2, h3, h4⟩ := hr.slot i d e1
    refine ⟨v, e2, hg.ok hr KeepE.refl v ?_⟩
    by_cases ho : i ∈ c.own
    · obtain ⟨a, ea, ct⟩ := h2 ho
      exact .inr ⟨a, ea, hr.own i ho a (by rw [e2, ea]), ct⟩
    · rcases n with n | n
      · exact absurd n ho
      · exact (h3 ho n).rb
theorem s_lent {e : Expr} {k : E} {f : Sd → R (D × Sd)} (h : PE X e (TEe Z c W (tP Z) f)) (n : isRv k = false) : PE X e (TEe Z c W (tL Z) (fun σ => lent k (f σ) σ)) :=
  h.weak fun σ H Q ⟨O, σd, hr, hg⟩ => ⟨O, σd, hr, by
    have e : lent k (f σd) σd = f σd := by cases k <;> first | rfl | (simp [isRv] at n)
    dsimp only at hg
    rw [e] at hg
    exact hg.imp fun d σ1 H1 _ _ _ q v r => q v (.inl r)⟩
/-! ### lists of expressions -/
theorem s_nil : PA X [] (TAe Z c W (evs .nil l)) := pa_nil.weak fun σ H Q ⟨O, σd, hr, hg⟩ => hg.ok hr KeepE.refl [] .nil
theorem s_cons {e : Expr} {es : List Expr} {k : E} {ks : Es} {l : Lv} (h : PE X e (TEe Z c W (tP Z) (ev k l))) (t : PA X es (TAe Z c W (evs ks l))) (hs : starEach (e :: es) X.env = (false, eval e X.env) :: starEach es X.env) :
    PA X (e :: es) (TAe Z c W (evs (.cons k ks) l)) := (pa_cons h t hs).weak fun σ H Q ⟨O, σd, hr, hg⟩ => by
  refine ⟨O, σd, hr, (Go.bind (r := ev k l σd) hg).imp fun d σ1 H1 _ r1 k1 g v rv => ⟨O, σ1, r1, (Go.bind (r := evs ks l σ1) g).imp fun ds σ2 H2 _ r2 k2 g2 vs rs => ?_⟩⟩
  exact g2.ok r2 KeepE.refl _ (.cons (rv.le (r1.le k2)) rs)
theorem argL_nil : ArgL Z c O σ H .nil [] [] := trivial
theorem s_nilL {l : Lv} : PA X [] (TLe Z c W .nil (evbs .nil l)) := pa_nil.weak fun σ H Q ⟨O, σd, hr, hg⟩ => hg.ok hr KeepE.refl [] trivial
theorem s_consL {e : Expr} {es : List Expr} {k : E} {ks : Es} {l : Lv} (h : (isRv k = false ∧ PE X e (TEe Z c W (tP Z) (ev k l))) ∨ (∃ i, k = .rv i ∧ PE X e (tVar i))) (t : PA X es (TLe Z c W ks (evbs ks l))) (hs : starEach (e :: es) X.env = (false, eval e X.env) :: starEach es X.env) :
    PA X (e :: es) (TLe Z c W (.cons k ks) (evbs (.cons k ks) l)) := by
  rcases h with ⟨n, h⟩ | ⟨i, rfl, h⟩
  · refine (pa_cons h t hs).weak fun σ H Q ⟨O, σd, hr, hg⟩ => ?_
    have e1 : lent k (ev k l σd) σd = ev k l σd := by cases k <;> first | rfl | (simp [isRv] at n)
    have hg' : Go Z c W ((ev k l σd).bind fun p => (evbs ks l p.2).bind fun q => .ok (p.1 :: q.1, q.2)) O σ H (fun ds _ H' => ∀ vs, ArgL Z c O σ H' (.cons k ks) ds vs → Q vs H') := by
      rw [← e1]; exact hg
    refine ⟨O, σd, hr, (Go.bind (r := ev k l σd) hg').imp fun d σ1 H1 _ r1 k1 g v rv => ⟨O, σ1, r1, (Go.bind (r := evbs ks l σ1) g).imp fun ds σ2 H2 _ r2 k2 g2 vs rs => ?_⟩⟩
    refine g2.ok r2 KeepE.refl (v :: vs) ⟨?_, rs⟩
    have q := rv.le (r1.le k2)
    cases k <;> first | exact q | (simp [isRv] at n)
  · refine (pa_cons h t hs).weak fun σ H Q ⟨O, σd, hr, hg⟩ => ?_
    obtain ⟨d, ed, hg⟩ := Go.get (g := fun d => (evbs ks l σd).bind fun q => .ok (d :: q.1, q.2)) (by
      have e1 : evbs (.cons (.rv i) ks) l σd = ((getS σd i).bind fun d => (evbs ks l σd).bind fun q => .ok (d :: q.1, q.2)) := by
        show ((getS σd i).bind fun d => R.ok (d, σd)).bind _ = _
        cases getS σd i <;> rfl
      rw [← e1]; exact hg)
    obtain ⟨v, e2, _⟩ := hr.slot i d ed
    refine ⟨v, e2, O, σd, hr, (Go.bind (r := evbs ks l σd) hg).imp fun ds σ2 H2 _ r2 k2 g2 vs rs => g2.ok r2 KeepE.refl (v :: vs) ⟨e2, rs⟩⟩
/-! ### displays -/
theorem s_tup {es : List Expr} {ks : Es} {l : Lv} {x1 pos} (h : PA X es (TAe Z c W (evs ks l))) (hK : X.K = Z.K) : PE X (.Tuple es x1 pos) (TEe Z c W (tP Z) (ev (.tup ks) l)) :=
  (pe_tup h).weak fun σ H Q ⟨O, σd, hr, hg⟩ => ⟨O, σd, hr, (Go.bind (r := evs ks l σd) hg).imp fun ds σ1 H1 _ r1 k1 g vs rs => by
    obtain ⟨hl, g⟩ := g.iff
    have hl' : vs.length ≤ sizeLine := by rw [← rs.length]; exact hl
    refine ⟨hl', fun p hp => ?_⟩
    obtain ⟨a1, a2, a3, a4, a5⟩ := r1.new hp (.tup vs) nt_tup
    exact g.ok a1 a2 _ (.tup (.inl (.inl a5)) (rs.le a4))⟩
theorem s_lst {es : List Expr} {ks : Es} {l : Lv} {pos} (h : PA X es (TAe Z c W (evs ks l))) : PE X (.List es pos) (TFe Z c W (ev (.lst ks) l)) :=
  (pe_lst h).weak fun σ H Q ⟨O, σd, hr, hg⟩ => ⟨O, σd, hr, (Go.bind (r := evs ks l σd) hg).imp fun ds σ1 H1 _ r1 k1 g vs rs => by
    obtain ⟨hl, g⟩ := g.iff
    have hl' : vs.length ≤ sizeLine := by rw [← rs.length]; exact hl
    exact ⟨hl', RetF.newL g r1 (fun p hp => hr.back r1 k1 hp) rs⟩⟩
/-! ### two operands -/
/-- the left operand, as it stands behind the right one -/
theorem rr_ok {k : E} {d x : D} {v : V} (hr : RelS Z c O σd σ H) (e : rr k d σd = .ok x) (h : match k with | .rv i => σ[i]? = some (some v) | _ => Rep Z (hide H O) d v) (ho : ∀ i, k = .rv i → i ∈ c.own ∨ i ∈ c.bor) : RB Z H O x v := by
  cases k with
  | rv i =>
    obtain ⟨w, e2, h2, h3, h4⟩ := hr.slot i x (getS_ok e)
    have e2' : some (some w) = some (some v) := by rw [← e2]; exact h
    obtain rfl : w = v := by simpa using e2'
    by_cases hw : i ∈ c.own
    · obtain ⟨a, ea, ct⟩ := h2 hw
      exact .inr ⟨a, ea, hr.own i hw a (by rw [e2, ea]), ct⟩
    · rcases ho i rfl with n | n
      · exact absurd n hw
      · exact (h3 hw n).rb
  | _ =>
    have e' : d = x := by simpa [rr] using e
    subst e'
    exact .inl h
theorem rr_ne {k : E} {d : D} : ∀ q, rr k d σd ≠ .exc q := by
  intro q e
  cases k <;> first | (exact getS_ne q e) | (simp [rr] at e)
/-- an operand: plain, or a restricted name -/
structure Opd (X : Cx) (Z : Wd) (c : Pl) (W : WX) (l : Lv) (e : Expr) (k : E) : Prop where
  at_ : (isRv k = false ∧ PE X e (TEe Z c W (tP Z) (ev k l))) ∨ (∃ i, k = .rv i ∧ PE X e (tVar i) ∧ (i ∈ c.own ∨ i ∈ c.bor))
theorem Opd.rvIn {l : Lv} {e : Expr} {k : E} (h : Opd X Z c W l e k) : ∀ i, k = .rv i → i ∈ c.own ∨ i ∈ c.bor := fun i ei => by
  rcases h.at_ with ⟨n, _⟩ | ⟨j, ej, _, q⟩
  · rw [ei] at n; simp [isRv] at n
  · rw [ei] at ej
    obtain rfl : i = j := by simpa using ej
    exact q
theorem Opd.lent {l : Lv} {e : Expr} {k : E} (h : Opd X Z c W l e k) : PE X e (TEe Z c W (tL Z) (fun σ => lent k (ev k l σ) σ)) := by
  rcases h.at_ with ⟨n, h⟩ | ⟨i, rfl, h, q⟩
  · exact s_lent h n
  · exact s_rv h q
/-- a relation that is kept while others are evaluated -/
def tK (Z : Wd) (O : Addr → Prop) (σ : L2.St) (k : E) (H : Hp) (d : D) (v : V) : Prop := match k with
  | .rv i => σ[i]? = some (some v)
  | _ => Rep Z (hide H O) d v
def TKe (Z : Wd) (c : Pl) (W : WX) (k : E) (f : Sd → R (D × Sd)) : TE := fun σ H Q => ∃ O σd, RelS Z c O σd σ H ∧ Go Z c W (f σd) O σ H fun d _ H' => ∀ v, tK Z O σ k H' d v → Q v H'
theorem Opd.kept {l : Lv} {e : Expr} {k : E} (h : Opd X Z c W l e k) : PE X e (TKe Z c W k (fun σ => BF.lent k (ev k l σ) σ)) := by
  rcases h.at_ with ⟨n, h⟩ | ⟨i, rfl, h, q⟩
  · refine h.weak fun σ H Q ⟨O, σd, hr, hg⟩ => ⟨O, σd, hr, ?_⟩
    have e1 : BF.lent k (ev k l σd) σd = ev k l σd := by cases k <;> first | rfl | (simp [isRv] at n)
    dsimp only at hg
    rw [e1] at hg
    refine hg.imp fun d σ1 H1 _ _ _ q v r => q v ?_
    cases k <;> first | exact r | (simp [isRv] at n)
  · refine h.weak fun σ H Q ⟨O, σd, hr, hg⟩ => ?_
    obtain ⟨d, ed, hg⟩ := Go.get (show Go Z c W ((getS σd i).bind fun d => .ok (d, σd)) O σ H _ from hg)
    obtain ⟨v, e2, _⟩ := hr.slot i d ed
    exact ⟨v, e2, hg.ok hr KeepE.refl v e2⟩
theorem tK_keep {k : E} {d : D} {v : V} (hr : RelS Z c O σd σ H) (hk : KeepE c σ H H') (t : tK Z O σ k H d v) : tK Z O σ k H' d v := by
  cases k <;> first | exact t | exact Rep.le (hr.le hk) t
/-- a two-place operation by values: r must be shown of the values told -/
theorem s_op2 {a b : Expr} {ka kb : E} {l : Lv} {r : R2} {f : D → D → Option D} {e : Expr} (ha : Opd X Z c W l a ka) (hb : Opd X Z c W l b kb) (hp : ∀ ta tb, PE X a ta → PE X b tb → PE X e (tOp r ta tb))
    (hr : ∀ O σd σ H0 H da db d va vb Q, RelS Z c O σd σ H → (∀ p, Fre H p → Fre H0 p) → RB Z H O da va → RB Z H O db vb → f da db = some d → RetF Z c W O σ H0 σd H d Q → r va vb H Q) :
    PE X e (TFe Z c W (fun σ => (BF.lent ka (ev ka l σ) σ).bind fun p => (BF.lent kb (ev kb l p.2) p.2).bind fun q => (rr ka p.1 q.2).bind fun x => (R.ofO (f x q.1)).bind fun d => .ok (d, q.2))) :=
  (hp _ _ ha.kept hb.lent).weak fun σ H Q ⟨O, σd, h0, hg⟩ => by
    refine ⟨O, σd, h0, (Go.bind (r := BF.lent ka (ev ka l σd) σd) hg).imp fun da σ1 H1 _ r1 k1 g va tka => ⟨O, σ1, r1, (Go.bind (r := BF.lent kb (ev kb l σ1) σ1) g).imp fun db σ2 H2 _ r2 k2 g2 vb rb => ?_⟩⟩
    obtain ⟨x, ex, g3⟩ := g2.pure rr_ne
    obtain ⟨d, ed, g4⟩ := g3.opt
    exact hr O σ2 σ H H2 x db d va vb Q r2 (fun p hp => h0.back r2 (k1.trans k2) hp) (rr_ok r2 ex (by have t := tK_keep r1 k2 tka; cases ka <;> exact t) ha.rvIn) rb ed g4
end
end BF

/-! ZipL -/
set_option Elab.async false
set_option linter.all false
set_option maxRecDepth 100000
set_option maxHeartbeats 2000000
/-! list(zip(a, b)): a, b lists or tuples -/
namespace BF
open PySem PySem.W RZ
open PySem.Sem (wp)
/-- an iterator of a tuple (true) or a list (false) -/
def ItB (b : Bool) (h : Heap) (it l : Addr) (i : Nat) : Prop := match b with
  | true => h.IsTupleIter it l i
  | false => h.IsListIter it l i
def SqB (b : Bool) (h : Heap) (l : Addr) (xs : Array Value) : Prop := match b with
  | true => h.IsTuple l xs
  | false => h.IsList l xs
section
variable {prog : Program} {w : World} {A : Around} {E : Value → Shared → Prop} {s : Shared} {h h' : Heap} {b c : Bool}
theorem ItB.at {it l : Addr} {i : Nat} (q : ItB b h it l i) (k : ∀ o, h.get? it = some o → h'.get? it = some o) : ItB b h' it l i := by
  cases b
  · exact Heap.IsListIter.at q k
  · exact Heap.IsTupleIter.at q k
theorem ItB.there {it l : Addr} {i : Nat} (q : ItB b h it l i) : ∃ o, h.get? it = some o := by
  cases b <;> · obtain ⟨o, e, _⟩ := q; exact ⟨o, e⟩
theorem SqB.at {l : Addr} {xs : Array Value} (q : SqB b h l xs) (k : ∀ o, h.get? l = some o → h'.get? l = some o) : SqB b h' l xs := by
  cases b
  · exact Heap.IsList.at q k
  · obtain ⟨o, e, r⟩ := q; exact ⟨o, k o e, r⟩
theorem SqB.there {l : Addr} {xs : Array Value} (q : SqB b h l xs) : ∃ o, h.get? l = some o := by
  cases b <;> · obtain ⟨o, e, _⟩ := q; exact ⟨o, e⟩
theorem ItB.ext {it l a : Addr} {i : Nat} (q : ItB b h it l i) (k : Heap.ExtBut a h h') (n : it ≠ a) : ItB b h' it l i := q.at fun o e => k _ _ n e
theorem SqB.ext {l a : Addr} {xs : Array Value} (q : SqB b h l xs) (k : Heap.ExtBut a h h') (n : l ≠ a) : SqB b h' l xs := q.at fun o e => k _ _ n e
theorem nextB_item {it l : Addr} {i : Nat} {items : Array Value} {x : Value} {Q : Value → Shared → Prop} (hit : ItB b s.heap it l i) (hl : SqB b s.heap l items) (hx : items[i]? = some x)
    (hQ : ∀ h', ItB b h' it l (i + 1) → Heap.SameBut it s.heap h' → Q x { s with heap := h' }) : wpAny (model prog w) A (Builtin.SmallTypes.nextOf (.ref it)) Q E s := by
  cases b
  · exact wpAny_nextOf_list_item hit hl hx hQ
  · exact nextOf_tuple_item hit hl hx hQ
theorem nextB_end {it l : Addr} {i : Nat} {items : Array Value} {Q : Value → Shared → Prop} (hh : A.handled = none) (hit : ItB b s.heap it l i) (hl : SqB b s.heap l items) (hx : items[i]? = none)
    (hE : ∀ h' e, Heap.ExtBut it s.heap h' → (∃ o, h'.get? e = some o ∧ o.cls = .type "StopIteration") → E (.ref e) { s with heap := h' }) : wpAny (model prog w) A (Builtin.SmallTypes.nextOf (.ref it)) Q E s := by
  cases b
  · exact wpAny_nextOf_list_end hh hit hl hx hE
  · exact nextOf_tuple_end hh hit hl hx hE
/-- a zip amid its way: i pairs handed out -/
structure ZSt (b c : Bool) (h : Heap) (z TI TO i1 i2 l1 l2 S : Addr) (xs ys : Array Value) (i : Nat) : Prop where
  hTI : IsPair h TI (.ref i1) (.ref i2)
  h1 : ItB b h i1 l1 i
  h2 : ItB c h i2 l2 i
  hl1 : SqB b h l1 xs
  hl2 : SqB c h l2 ys
  hz : (IsZip h z TI TO .none ∧ ∃ a b, IsPair h TO a b) ∨ ∃ T f oT, IsZipHeld h z TI TO T f ∧ h.get? T = some oT ∧ T ≠ z ∧ T ≠ i1 ∧ T ≠ i2 ∧ T ≠ S
theorem zl_first {z TI TO i1 i2 l1 l2 : Addr} {k1 k2 : Nat} {xs ys : Array Value} {x y a d : Value} {Q : Value → Shared → Prop} (D : ZipApart z TI TO i1 i2 l1 l2)
    (hz : IsZip s.heap z TI TO .none) (hTI : IsPair s.heap TI (.ref i1) (.ref i2)) (hTO : IsPair s.heap TO a d)
    (h1 : ItB b s.heap i1 l1 k1) (h2 : ItB c s.heap i2 l2 k2) (hl1 : SqB b s.heap l1 xs) (hl2 : SqB c s.heap l2 ys) (hx : xs[k1]? = some x) (hy : ys[k2]? = some y)
    (hQ : ∀ h', IsZip h' z TI TO (rawInt s.heap.objs.size) → ItB b h' i1 l1 (k1 + 1) → ItB c h' i2 l2 (k2 + 1) → IsPair h' s.heap.objs.size x y → h'.objs.size = s.heap.objs.size + 1 →
      (∀ c o, c ≠ z → c ≠ TO → c ≠ i1 → c ≠ i2 → s.heap.get? c = some o → h'.get? c = some o) → Q (.ref s.heap.objs.size) { s with heap := h' }) :
    wpAny (model prog w) A (Builtin.«zip.__next__» ⟨[.ref z], []⟩) (fun fin s' => ∃ v, fin = .done (.ret v) ∧ Q v s') E s := by
  show wpAny _ _ (field (.ref z) 2 >>= _) _ _ _
  refine wpAny_bind (wpAny_field hz rfl (x := .bool false) rfl ?_)
  show wpAny _ _ (field (.ref z) 3 >>= _) _ _ _
  refine wpAny_bind (wpAny_field hz rfl (x := .ref TI) rfl ?_)
  refine wpAny_bind (wpAny_seqItems hTI rfl ?_)
  show wpAny _ _ (Builtin.SmallTypes.ownedTupleIsFree (.ref z) >>= _) _ _ _
  refine wpAny_bind ?_
  unfold Builtin.SmallTypes.ownedTupleIsFree
  refine wpAny_bind (wpAny_field hz rfl (x := .none) rfl (wpAny_pure ?_))
  simp only [if_true]
  refine wpAny_bind (wpAny_rule ?_)
  refine wpAny_bind (wpAny_field hz rfl (x := .ref TO) rfl ?_)
  refine wpAny_bind (wpAny_setField_rec hz (by simp) fun h₁ hz₁ hs₁ => ?_)
  replace hz₁ : IsZip h₁ z TI TO .ellipsis := hz₁
  refine wpAny_bind ?_
  simp only [List.zipIdx_cons, List.zipIdx_nil, List.forIn_cons, List.forIn_nil]
  refine wpAny_bind (wpAny_bind (wpAny_onRaise ?_))
  show wpAny _ _ (Builtin.SmallTypes.nextOf (.ref i1) >>= _) _ _ _
  refine wpAny_bind (nextB_item (h1.ext hs₁.extBut D.i1z) (hl1.ext hs₁.extBut D.l1z) hx fun h₂ h1₂ hs₂ => wpAny_pure ?_)
  have hTO₂ : IsPair h₂ TO a d := hs₂.extBut _ _ D.TOi1 (hs₁.extBut _ _ D.TOz hTO)
  refine wpAny_bind (wpAny_seqItems hTO₂ rfl ?_)
  refine wpAny_bind (wpAny_updateSeq_pair hTO₂ fun h₃ hTO₃ hs₃ => ?_)
  replace hTO₃ : IsPair h₃ TO x d := hTO₃
  refine wpAny_bind (wpAny_letGo (wpAny_pure ?_))
  refine wpAny_bind (wpAny_bind (wpAny_onRaise ?_))
  show wpAny _ _ (Builtin.SmallTypes.nextOf (.ref i2) >>= _) _ _ _
  refine wpAny_bind (nextB_item (((h2.ext hs₁.extBut D.i2z).ext hs₂.extBut D.i12.symm).ext hs₃.extBut D.TOi2.symm)
    (((hl2.ext hs₁.extBut D.l2z).ext hs₂.extBut D.l2i1).ext hs₃.extBut D.l2TO) hy fun h₄ h2₄ hs₄ => wpAny_pure ?_)
  have hTO₄ : IsPair h₄ TO x d := hs₄.extBut _ _ D.TOi2 hTO₃
  refine wpAny_bind (wpAny_seqItems hTO₄ rfl ?_)
  refine wpAny_bind (wpAny_updateSeq_pair hTO₄ fun h₅ hTO₅ hs₅ => ?_)
  replace hTO₅ : IsPair h₅ TO x y := hTO₅
  refine wpAny_bind (wpAny_letGo (wpAny_pure (wpAny_pure ?_)))
  refine wpAny_bind (wpAny_seqItems hTO₅ rfl ?_)
  refine wpAny_bind (wpAny_newTuple ?_)
  have hsz : h₅.objs.size = s.heap.objs.size := by rw [hs₅.1, hs₄.1, hs₃.1, hs₂.1, hs₁.1]
  have hz₅ : IsZip h₅ z TI TO .ellipsis := hs₅.extBut _ _ D.TOz.symm (hs₄.extBut _ _ D.i2z.symm (hs₃.extBut _ _ D.TOz.symm (hs₂.extBut _ _ D.i1z.symm hz₁)))
  have hk₅ : ∀ c o, c ≠ z → c ≠ TO → c ≠ i1 → c ≠ i2 → s.heap.get? c = some o → h₅.get? c = some o := fun c o c1 c2 c3 c4 e =>
    hs₅.extBut _ _ c2 (hs₄.extBut _ _ c4 (hs₃.extBut _ _ c2 (hs₂.extBut _ _ c3 (hs₁.extBut _ _ c1 e))))
  have h1₅ : ItB b h₅ i1 l1 (k1 + 1) := ((h1₂.ext hs₃.extBut D.TOi1.symm).ext hs₄.extBut D.i12).ext hs₅.extBut D.TOi1.symm
  have h2₅ : ItB c h₅ i2 l2 (k2 + 1) := h2₄.ext hs₅.extBut D.TOi2.symm
  have hzlt : z < h₅.objs.size := Heap.lt_size hz₅
  show wpAny _ _ (Builtin.SmallTypes.ownedTupleHandOut (.ref z) (.ref h₅.objs.size) >>= _) _ _ _
  refine wpAny_bind ?_
  unfold Builtin.SmallTypes.ownedTupleHandOut
  have hz₆ : IsZip (h₅.push { cls := .type "tuple", data := .seq #[x, y] }) z TI TO .ellipsis := Heap.get?_push_of_some _ hz₅
  refine wpAny_bind (wpAny_setField_rec hz₆ (by simp) fun h₇ hz₇ hs₇ => ?_)
  replace hz₇ : IsZip h₇ z TI TO (rawInt h₅.objs.size) := hz₇
  refine wpAny_setField_rec hz₇ (by simp) fun h₈ hz₈ hs₈ => ?_
  replace hz₈ : IsZip h₈ z TI TO (rawInt h₅.objs.size) := hz₈
  have up : ∀ c o, c ≠ z → h₅.get? c = some o → h₈.get? c = some o := fun c o c1 e => hs₈.extBut _ _ c1 (hs₇.extBut _ _ c1 (Heap.get?_push_of_some _ e))
  have hT₈ : IsPair h₈ h₅.objs.size x y := hs₈.extBut _ _ (Nat.ne_of_gt hzlt) (hs₇.extBut _ _ (Nat.ne_of_gt hzlt) (Heap.get?_push_size _ rfl))
  have hz8 : h₈.objs.size = h₅.objs.size + 1 := by rw [hs₈.1, hs₇.1, Heap.size_push]
  rw [hsz] at hz₈ hT₈ hz8
  refine wpAny_pure ⟨_, rfl, ?_⟩
  show Q (.ref h₅.objs.size) _
  rw [hsz]
  exact hQ h₈ hz₈ (h1₅.at fun o e => up _ o D.i1z e) (h2₅.at fun o e => up _ o D.i2z e) hT₈ hz8 fun c o c1 c2 c3 c4 e => up c o c1 (hk₅ c o c1 c2 c3 c4 e)
theorem zl_firstEnd {z TI TO i1 i2 l1 l2 : Addr} {k1 k2 : Nat} {xs ys : Array Value} {a d : Value} {Q : Fin → Shared → Prop} (hh : A.handled = none) (D : ZipApart z TI TO i1 i2 l1 l2)
    (hz : IsZip s.heap z TI TO .none) (hTI : IsPair s.heap TI (.ref i1) (.ref i2)) (hTO : IsPair s.heap TO a d)
    (h1 : ItB b s.heap i1 l1 k1) (h2 : ItB c s.heap i2 l2 k2) (hl1 : SqB b s.heap l1 xs) (hl2 : SqB c s.heap l2 ys) (hend : xs[k1]? = none ∨ ys[k2]? = none)
    (hE : ∀ h' e, (∀ c o, c ≠ z → c ≠ TO → c ≠ i1 → c ≠ i2 → s.heap.get? c = some o → h'.get? c = some o) → (∃ o, h'.get? e = some o ∧ o.cls = .type "StopIteration") → E (.ref e) { s with heap := h' }) :
    wpAny (model prog w) A (Builtin.«zip.__next__» ⟨[.ref z], []⟩) Q E s := by
  show wpAny _ _ (field (.ref z) 2 >>= _) _ _ _
  refine wpAny_bind (wpAny_field hz rfl (x := .bool false) rfl ?_)
  show wpAny _ _ (field (.ref z) 3 >>= _) _ _ _
  refine wpAny_bind (wpAny_field hz rfl (x := .ref TI) rfl ?_)
  refine wpAny_bind (wpAny_seqItems hTI rfl ?_)
  show wpAny _ _ (Builtin.SmallTypes.ownedTupleIsFree (.ref z) >>= _) _ _ _
  refine wpAny_bind ?_
  unfold Builtin.SmallTypes.ownedTupleIsFree
  refine wpAny_bind (wpAny_field hz rfl (x := .none) rfl (wpAny_pure ?_))
  simp only [if_true]
  refine wpAny_bind (wpAny_rule ?_)
  refine wpAny_bind (wpAny_field hz rfl (x := .ref TO) rfl ?_)
  refine wpAny_bind (wpAny_setField_rec hz (by simp) fun h₁ hz₁ hs₁ => ?_)
  replace hz₁ : IsZip h₁ z TI TO .ellipsis := hz₁
  refine wpAny_bind ?_
  simp only [List.zipIdx_cons, List.zipIdx_nil, List.forIn_cons, List.forIn_nil]
  refine wpAny_bind (wpAny_bind (wpAny_onRaise ?_))
  show wpAny _ _ (Builtin.SmallTypes.nextOf (.ref i1) >>= _) _ _ _
  cases hx : xs[k1]? with
  | none =>
    refine wpAny_bind (nextB_end hh (h1.ext hs₁.extBut D.i1z) (hl1.ext hs₁.extBut D.l1z) hx fun h₂ e hs₂ he => ?_)
    obtain ⟨oe, hoe, hce⟩ := he
    have hz₂ : IsZip h₂ z TI TO .ellipsis := hs₂ _ _ D.i1z.symm hz₁
    have hez : e ≠ z := fun x => by subst x; rw [hz₂] at hoe; cases hoe; simp at hce
    refine wpAny_setField_rec hz₂ (by simp) fun h₃ _ hs₃ => hE h₃ e (fun c o c1 _ c3 _ x => hs₃.extBut _ _ c1 (hs₂ _ _ c3 (hs₁.extBut _ _ c1 x))) ⟨oe, hs₃.extBut _ _ hez hoe, hce⟩
  | some x =>
    have hy : ys[k2]? = none := by rcases hend with h | h; rw [hx] at h; cases h; exact h
    refine wpAny_bind (nextB_item (h1.ext hs₁.extBut D.i1z) (hl1.ext hs₁.extBut D.l1z) hx fun h₂ h1₂ hs₂ => wpAny_pure ?_)
    have hTO₂ : IsPair h₂ TO a d := hs₂.extBut _ _ D.TOi1 (hs₁.extBut _ _ D.TOz hTO)
    refine wpAny_bind (wpAny_seqItems hTO₂ rfl ?_)
    refine wpAny_bind (wpAny_updateSeq_pair hTO₂ fun h₃ hTO₃ hs₃ => ?_)
    refine wpAny_bind (wpAny_letGo (wpAny_pure ?_))
    refine wpAny_bind (wpAny_bind (wpAny_onRaise ?_))
    show wpAny _ _ (Builtin.SmallTypes.nextOf (.ref i2) >>= _) _ _ _
    refine wpAny_bind (nextB_end hh (((h2.ext hs₁.extBut D.i2z).ext hs₂.extBut D.i12.symm).ext hs₃.extBut D.TOi2.symm)
      (((hl2.ext hs₁.extBut D.l2z).ext hs₂.extBut D.l2i1).ext hs₃.extBut D.l2TO) hy fun h₄ e hs₄ he => ?_)
    obtain ⟨oe, hoe, hce⟩ := he
    have hz₄ : IsZip h₄ z TI TO .ellipsis := hs₄ _ _ D.i2z.symm (hs₃.extBut _ _ D.TOz.symm (hs₂.extBut _ _ D.i1z.symm hz₁))
    have hez : e ≠ z := fun x => by subst x; rw [hz₄] at hoe; cases hoe; simp at hce
    refine wpAny_setField_rec hz₄ (by simp) fun h₅ _ hs₅ => hE h₅ e (fun c o c1 c2 c3 c4 x => hs₅.extBut _ _ c1 (hs₄ _ _ c4 (hs₃.extBut _ _ c2 (hs₂.extBut _ _ c3 (hs₁.extBut _ _ c1 x))))) ⟨oe, hs₅.extBut _ _ hez hoe, hce⟩
theorem zl_held {z TI TO T i1 i2 l1 l2 : Addr} {f : Bool} {oT : Obj} {k1 k2 : Nat} {xs ys : Array Value} {x y : Value} {Q : Value → Shared → Prop} (D : ZipApart z TI TO i1 i2 l1 l2)
    (hz : IsZipHeld s.heap z TI TO T f) (hT : s.heap.get? T = some oT) (hTI : IsPair s.heap TI (.ref i1) (.ref i2))
    (h1 : ItB b s.heap i1 l1 k1) (h2 : ItB c s.heap i2 l2 k2) (hl1 : SqB b s.heap l1 xs) (hl2 : SqB c s.heap l2 ys) (hx : xs[k1]? = some x) (hy : ys[k2]? = some y)
    (hQ : ∀ h', IsZipHeld h' z TI TO T true → ItB b h' i1 l1 (k1 + 1) → ItB c h' i2 l2 (k2 + 1) → IsPair h' s.heap.objs.size x y → h'.objs.size = s.heap.objs.size + 1 →
      (∀ c o, c ≠ z → c ≠ i1 → c ≠ i2 → s.heap.get? c = some o → h'.get? c = some o) → Q (.ref s.heap.objs.size) { s with heap := h' }) :
    wpAny (model prog w) A (Builtin.«zip.__next__» ⟨[.ref z], []⟩) (fun fin s' => ∃ v, fin = .done (.ret v) ∧ Q v s') E s := by
  show wpAny _ _ (field (.ref z) 2 >>= _) _ _ _
  refine wpAny_bind (wpAny_field hz rfl (x := .bool false) rfl ?_)
  show wpAny _ _ (field (.ref z) 3 >>= _) _ _ _
  refine wpAny_bind (wpAny_field hz rfl (x := .ref TI) rfl ?_)
  refine wpAny_bind (wpAny_seqItems hTI rfl ?_)
  show wpAny _ _ (Builtin.SmallTypes.ownedTupleIsFree (.ref z) >>= _) _ _ _
  refine wpAny_bind (wpAny_tupleHeld_zip hz hT fun h₁ hz₁ hs₁ => ?_)
  simp only [Bool.false_eq_true, if_false]
  refine wpAny_bind ?_
  rw [← Array.forIn_toList]
  simp only [List.forIn_cons, List.forIn_nil]
  refine wpAny_bind (wpAny_bind (wpAny_holding ?_))
  show wpAny _ _ (Builtin.SmallTypes.nextOf (.ref i1) >>= _) _ _ _
  refine wpAny_bind (nextB_item (s := { s with heap := h₁ }) (h1.ext hs₁.extBut D.i1z) (hl1.ext hs₁.extBut D.l1z) hx fun h₂ h1₂ hs₂ => wpAny_pure ?_)
  refine wpAny_pure ?_
  refine wpAny_bind (wpAny_bind (wpAny_holding ?_))
  show wpAny _ _ (Builtin.SmallTypes.nextOf (.ref i2) >>= _) _ _ _
  refine wpAny_bind (nextB_item (s := { s with heap := h₂ }) ((h2.ext hs₁.extBut D.i2z).ext hs₂.extBut D.i12.symm) ((hl2.ext hs₁.extBut D.l2z).ext hs₂.extBut D.l2i1) hy fun h₃ h2₃ hs₃ => wpAny_pure ?_)
  refine wpAny_pure (wpAny_pure ?_)
  show wpAny _ _ (newTuple [x, y] >>= _) _ _ _
  refine wpAny_bind (wpAny_newTuple ?_)
  have hsz : h₃.objs.size = s.heap.objs.size := by rw [hs₃.1, hs₂.1, hs₁.1]
  have hz₃ : IsZipHeld h₃ z TI TO T true := hs₃.extBut _ _ D.i2z.symm (hs₂.extBut _ _ D.i1z.symm hz₁)
  have hk : ∀ c o, c ≠ z → c ≠ i1 → c ≠ i2 → s.heap.get? c = some o → h₃.get? c = some o := fun c o c1 c2 c3 e => hs₃.extBut _ _ c3 (hs₂.extBut _ _ c2 (hs₁.extBut _ _ c1 e))
  have h1₃ : ItB b h₃ i1 l1 (k1 + 1) := h1₂.ext hs₃.extBut D.i12
  refine wpAny_pure ⟨_, rfl, ?_⟩
  show Q (.ref h₃.objs.size) _
  have hp : IsPair (h₃.push { cls := .type "tuple", data := .seq #[x, y] }) h₃.objs.size x y := Heap.get?_push_size _ rfl
  have hz4 : (h₃.push { cls := .type "tuple", data := .seq #[x, y] }).objs.size = h₃.objs.size + 1 := Heap.size_push ..
  rw [hsz] at hp hz4 ⊢
  exact hQ _ (Heap.get?_push_of_some _ hz₃) (h1₃.at fun o e => Heap.get?_push_of_some _ e) (h2₃.at fun o e => Heap.get?_push_of_some _ e) hp hz4 fun c o c1 c2 c3 e => Heap.get?_push_of_some _ (hk c o c1 c2 c3 e)
theorem zl_heldEnd {z TI TO T i1 i2 l1 l2 : Addr} {f : Bool} {oT : Obj} {k1 k2 : Nat} {xs ys : Array Value} {Q : Fin → Shared → Prop} (hh : A.handled = none) (D : ZipApart z TI TO i1 i2 l1 l2)
    (hz : IsZipHeld s.heap z TI TO T f) (hT : s.heap.get? T = some oT) (hTI : IsPair s.heap TI (.ref i1) (.ref i2))
    (h1 : ItB b s.heap i1 l1 k1) (h2 : ItB c s.heap i2 l2 k2) (hl1 : SqB b s.heap l1 xs) (hl2 : SqB c s.heap l2 ys) (hend : xs[k1]? = none ∨ ys[k2]? = none)
    (hE : ∀ h' e, (∀ c o, c ≠ z → c ≠ i1 → c ≠ i2 → s.heap.get? c = some o → h'.get? c = some o) → (∃ o, h'.get? e = some o ∧ o.cls = .type "StopIteration") → E (.ref e) { s with heap := h' }) :
    wpAny (model prog w) A (Builtin.«zip.__next__» ⟨[.ref z], []⟩) Q E s := by
  show wpAny _ _ (field (.ref z) 2 >>= _) _ _ _
  refine wpAny_bind (wpAny_field hz rfl (x := .bool false) rfl ?_)
  show wpAny _ _ (field (.ref z) 3 >>= _) _ _ _
  refine wpAny_bind (wpAny_field hz rfl (x := .ref TI) rfl ?_)
  refine wpAny_bind (wpAny_seqItems hTI rfl ?_)
  show wpAny _ _ (Builtin.SmallTypes.ownedTupleIsFree (.ref z) >>= _) _ _ _
  refine wpAny_bind (wpAny_tupleHeld_zip hz hT fun h₁ hz₁ hs₁ => ?_)
  simp only [Bool.false_eq_true, if_false]
  refine wpAny_bind ?_
  rw [← Array.forIn_toList]
  simp only [List.forIn_cons, List.forIn_nil]
  refine wpAny_bind (wpAny_bind (wpAny_holding ?_))
  show wpAny _ _ (Builtin.SmallTypes.nextOf (.ref i1) >>= _) _ _ _
  cases hx : xs[k1]? with
  | none =>
    refine wpAny_bind (nextB_end (s := { s with heap := h₁ }) hh (h1.ext hs₁.extBut D.i1z) (hl1.ext hs₁.extBut D.l1z) hx fun h₂ e hs₂ he => ?_)
    exact hE h₂ e (fun c o c1 c2 _ x => hs₂ _ _ c2 (hs₁.extBut _ _ c1 x)) he
  | some x =>
    have hy : ys[k2]? = none := by rcases hend with h | h; rw [hx] at h; cases h; exact h
    refine wpAny_bind (nextB_item (s := { s with heap := h₁ }) (h1.ext hs₁.extBut D.i1z) (hl1.ext hs₁.extBut D.l1z) hx fun h₂ h1₂ hs₂ => wpAny_pure ?_)
    refine wpAny_pure ?_
    refine wpAny_bind (wpAny_bind (wpAny_holding ?_))
    show wpAny _ _ (Builtin.SmallTypes.nextOf (.ref i2) >>= _) _ _ _
    refine wpAny_bind (nextB_end (s := { s with heap := h₂ }) hh ((h2.ext hs₁.extBut D.i2z).ext hs₂.extBut D.i12.symm) ((hl2.ext hs₁.extBut D.l2z).ext hs₂.extBut D.l2i1) hy fun h₃ e hs₃ he => ?_)
    exact hE h₃ e (fun c o c1 c2 c3 x => hs₃ _ _ c3 (hs₂.extBut _ _ c2 (hs₁.extBut _ _ c1 x))) he
/-- one turn -/
theorem zl_item {z TI TO i1 i2 l1 l2 S : Addr} {i : Nat} {xs ys : Array Value} {x y : Value} {Q : Option Value → Shared → Prop} (D : ZipApart z TI TO i1 i2 l1 l2) (st : ZSt b c s.heap z TI TO i1 i2 l1 l2 S xs ys i)
    (hS : S < s.heap.objs.size) (hx : xs[i]? = some x) (hy : ys[i]? = some y)
    (hQ : ∀ h', ZSt b c h' z TI TO i1 i2 l1 l2 S xs ys (i + 1) → IsPair h' s.heap.objs.size x y → h'.objs.size = s.heap.objs.size + 1 →
      (∀ c o, c ≠ z → c ≠ TO → c ≠ i1 → c ≠ i2 → s.heap.get? c = some o → h'.get? c = some o) → Q (some (.ref s.heap.objs.size)) { s with heap := h' }) :
    wpAny (model prog w) A (pyNext (.ref z)) Q E s := by
  obtain ⟨hTI, h1, h2, hl1, hl2, hz⟩ := st
  have lt : ∀ {c o}, s.heap.get? c = some o → s.heap.objs.size ≠ c := fun e => Nat.ne_of_gt (Heap.lt_size e)
  have n1 : s.heap.objs.size ≠ i1 := let ⟨_, e⟩ := h1.there; lt e
  have n2 : s.heap.objs.size ≠ i2 := let ⟨_, e⟩ := h2.there; lt e
  rcases hz with ⟨hz, a, d, hTO⟩ | ⟨T, f, oT, hz, hT, r1, r2, r3, r4⟩
  · have hTy : s.TypeIs (.ref z) "zip" := ⟨_, hz, rfl⟩
    unfold pyNext
    refine wpAny_bind (wpAny_attempt (wpAny_callSpecial?_slot (name := Str.ofString "__next__") hTy F.slot_zip_next
      (wpAny_call_entry F.slot_zip_next hTy F.entry_zip_next
        (zl_first D hz hTI hTO h1 h2 hl1 hl2 hx hy fun h' a1 a3 a4 a5 a6 hk => wpAny_pure (hQ h' ?_ a5 a6 hk)) (F.args_zip_next_1 _))))
    exact ⟨hk _ _ D.TIz D.TITO D.TIi1 D.TIi2 hTI, a3, a4, hl1.at fun o e => hk _ o D.l1z D.l1TO D.l1i1 D.l1i2 e, hl2.at fun o e => hk _ o D.l2z D.l2TO D.l2i1 D.l2i2 e,
      .inr ⟨s.heap.objs.size, false, _, a1, a5, lt hz, n1, n2, Nat.ne_of_gt hS⟩⟩
  · have hTy : s.TypeIs (.ref z) "zip" := ⟨_, hz, rfl⟩
    unfold pyNext
    refine wpAny_bind (wpAny_attempt (wpAny_callSpecial?_slot (name := Str.ofString "__next__") hTy F.slot_zip_next
      (wpAny_call_entry F.slot_zip_next hTy F.entry_zip_next
        (zl_held D hz hT hTI h1 h2 hl1 hl2 hx hy fun h' a1 a3 a4 a5 a6 hk => wpAny_pure (hQ h' ?_ a5 a6 fun c o c1 _ c3 c4 e => hk c o c1 c3 c4 e)) (F.args_zip_next_1 _))))
    exact ⟨hk _ _ D.TIz D.TIi1 D.TIi2 hTI, a3, a4, hl1.at fun o e => hk _ o D.l1z D.l1i1 D.l1i2 e, hl2.at fun o e => hk _ o D.l2z D.l2i1 D.l2i2 e,
      .inr ⟨T, true, oT, a1, hk _ _ r1 r2 r3 hT, r1, r2, r3, r4⟩⟩
theorem zl_done {z TI TO i1 i2 l1 l2 S : Addr} {i : Nat} {xs ys : Array Value} {Q : Option Value → Shared → Prop} (hh : A.handled = none) (D : ZipApart z TI TO i1 i2 l1 l2) (st : ZSt b c s.heap z TI TO i1 i2 l1 l2 S xs ys i)
    (hend : xs[i]? = none ∨ ys[i]? = none) (hQ : ∀ h', (∀ c o, c ≠ z → c ≠ TO → c ≠ i1 → c ≠ i2 → s.heap.get? c = some o → h'.get? c = some o) → Q none { s with heap := h' }) :
    wpAny (model prog w) A (pyNext (.ref z)) Q E s := by
  obtain ⟨hTI, h1, h2, hl1, hl2, hz⟩ := st
  rcases hz with ⟨hz, a, d, hTO⟩ | ⟨T, f, oT, hz, hT, r1, r2, r3, r4⟩
  · have hTy : s.TypeIs (.ref z) "zip" := ⟨_, hz, rfl⟩
    unfold pyNext
    refine wpAny_bind (wpAny_attempt (wpAny_callSpecial?_slot (name := Str.ofString "__next__") hTy F.slot_zip_next
      (wpAny_call_entry F.slot_zip_next hTy F.entry_zip_next (zl_firstEnd hh D hz hTI hTO h1 h2 hl1 hl2 hend fun h' e hk he => ?_) (F.args_zip_next_1 _))))
    obtain ⟨o, ho, hc⟩ := he
    refine wpAny_bind (wpAny_isInstance (T := "StopIteration") (b := true) ⟨o, ho, hc⟩ isSubtype_stop ?_)
    exact wpAny_pure (hQ _ hk)
  · have hTy : s.TypeIs (.ref z) "zip" := ⟨_, hz, rfl⟩
    unfold pyNext
    refine wpAny_bind (wpAny_attempt (wpAny_callSpecial?_slot (name := Str.ofString "__next__") hTy F.slot_zip_next
      (wpAny_call_entry F.slot_zip_next hTy F.entry_zip_next (zl_heldEnd hh D hz hT hTI h1 h2 hl1 hl2 hend fun h' e hk he => ?_) (F.args_zip_next_1 _))))
    obtain ⟨o, ho, hc⟩ := he
    refine wpAny_bind (wpAny_isInstance (T := "StopIteration") (b := true) ⟨o, ho, hc⟩ isSubtype_stop ?_)
    exact wpAny_pure (hQ _ fun c o c1 _ c3 c4 e => hk c o c1 c3 c4 e)
/-- the pairs so far -/
structure ZG (xs ys : Array Value) (lo : Addr) (h : Heap) (as : List Addr) : Prop where
  rise : as.Pairwise (· < ·)
  above : ∀ a ∈ as, lo ≤ a
  pairs : ∀ (j : Nat) (a : Addr), as[j]? = some a → ∃ x y, xs[j]? = some x ∧ ys[j]? = some y ∧ IsPair h a x y
theorem ZG.there {xs ys : Array Value} {lo : Addr} {h : Heap} {as : List Addr} (g : ZG xs ys lo h as) {a : Addr} (ha : a ∈ as) : a < h.objs.size := by
  obtain ⟨j, hj⟩ := List.mem_iff_getElem?.mp ha
  obtain ⟨_, _, _, _, e⟩ := g.pairs j a hj
  exact Heap.lt_size e
end
section
variable {prog : Program} {w : World} {A : Around} {s : Shared} {R : Result → Shared → Prop} {b c : Bool}
theorem zl_loop {S z TI TO i1 i2 l1 l2 lo : Addr} {xs ys : Array Value} (hh : A.handled = none) (D : ZipApart z TI TO i1 i2 l1 l2) (hSl : S < lo) (hzl : z < lo) (hTIl : TI < lo) (hTOl : TO < lo) (h1l : i1 < lo) (h2l : i2 < lo) (hSz : S ≠ z) (hSTI : S ≠ TI) (hSTO : S ≠ TO) (hS1 : S ≠ i1) (hS2 : S ≠ i2) (hSl1 : l1 ≠ S) (hSl2 : l2 ≠ S) (hn : xs.size ≤ sizeLine) (res : Value) {h₁ : Heap}
    (hR : ∀ h' tk acc k as, (∀ b o, b ≠ S → b ≠ z → b ≠ TO → b ≠ i1 → b ≠ i2 → h₁.get? b = some o → h'.get? b = some o) → h'.get? S = some { cls := .type "list", dict := none, data := .seq acc k, slots := #[] } → as.length = min xs.size ys.size → ZG xs ys lo h' as →
      acc.toList = as.map Value.ref → R (.ok (.ret res)) { s with heap := h', toks := tk }) :
    ∀ (k i : Nat) (h : Heap) (tk cc : Nat) (acc : Array Value) (as : List Addr), min xs.size ys.size - i = k → i ≤ min xs.size ys.size → ZSt b c h z TI TO i1 i2 l1 l2 S xs ys i → (∀ b o, b ≠ S → b ≠ z → b ≠ TO → b ≠ i1 → b ≠ i2 → h₁.get? b = some o → h.get? b = some o) →
      h.get? S = some { cls := .type "list", dict := none, data := .seq acc cc, slots := #[] } → acc.toList = as.map Value.ref → as.length = i → ZG xs ys lo h as → lo ≤ h.objs.size →
      codeAny (model prog w) A (.builtin "list.extend.loop" ⟨[.ref S, .ref z, res], []⟩) R { s with heap := h, toks := tk } := by
  intro k
  induction k with
  | zero =>
    intro i h tk cc acc as hk hi hst hkeep hS hacc hal hG hIs
    have hin : i = min xs.size ys.size := by omega
    refine codeAny_builtin PySem.F.entry_extend_loop ?_
    rw [Around.under_plainId PySem.F.plain_extend_loop _]
    show wpAny _ A.in1 (pyNext (.ref z) >>= _) _ _ _
    have hend : xs[i]? = none ∨ ys[i]? = none := by
      rcases Nat.le_total xs.size ys.size with q | q
      · exact .inl (Array.getElem?_eq_none (by omega))
      · exact .inr (Array.getElem?_eq_none (by omega))
    refine wpAny_bind (zl_done (s := { s with heap := h, toks := tk }) (A := A.in1) hh D hst hend fun h' he => ?_)
    refine wpAny_pure (hR h' tk acc cc as (fun b o n1 n2 n3 n4 n5 e => he b o n2 n3 n4 n5 (hkeep b o n1 n2 n3 n4 n5 e)) (he S _ hSz hSTO hS1 hS2 hS) (by omega) ⟨hG.rise, hG.above, fun j a hj => ?_⟩ hacc)
    obtain ⟨x, y, e1, e2, e3⟩ := hG.pairs j a hj
    have ha := hG.above a (List.mem_of_getElem? hj)
    have up_ : ∀ {q : Addr}, q < lo → a ≠ q := fun q => Nat.ne_of_gt (Nat.lt_of_lt_of_le q ha)
    exact ⟨x, y, e1, e2, he a _ (up_ hzl) (up_ hTOl) (up_ h1l) (up_ h2l) e3⟩
  | succ k ih =>
    intro i h tk cc acc as hk hi hst hkeep hS hacc hal hG hIs
    have hlx : i < xs.size := by omega
    have hly : i < ys.size := by omega
    have hx := Array.getElem?_eq_getElem hlx
    have hy := Array.getElem?_eq_getElem hly
    have hsz : acc.size = i := by rw [← Array.length_toList, hacc, List.length_map, hal]
    refine codeAny_builtin PySem.F.entry_extend_loop ?_
    rw [Around.under_plainId PySem.F.plain_extend_loop _]
    show wpAny _ A.in1 (pyNext (.ref z) >>= _) _ _ _
    refine wpAny_bind (zl_item (s := { s with heap := h, toks := tk }) D hst (Heap.lt_size hS) hx hy fun h' hst' ht hz hkp => ?_)
    dsimp only at ht hz hkp ⊢
    have hS' := hkp S _ hSz hSTO hS1 hS2 hS
    have up : ∀ b o, b ≠ S → h'.get? b = some o → (h'.update S (Obj.mapSeq (·.push (Value.ref h.objs.size)))).get? b = some o := fun b o hb e => (Heap.get?_update_other _ _ (Ne.symm hb)).trans e
    have hSl' : S < h.objs.size := Heap.lt_size hS
    have upst : ZSt b c (h'.update S (Obj.mapSeq (·.push (Value.ref h.objs.size)))) z TI TO i1 i2 l1 l2 S xs ys (i + 1) := by
      obtain ⟨a1, a2, a3, a4, a5, a6⟩ := hst'
      refine ⟨up _ _ hSTI.symm a1, a2.at fun o e => up _ o hS1.symm e, a3.at fun o e => up _ o hS2.symm e, a4.at fun o e => up _ o hSl1 e, a5.at fun o e => up _ o hSl2 e, ?_⟩
      rcases a6 with ⟨q1, a, d, q2⟩ | ⟨T, f, oT, q1, q2, r1, r2, r3, r4⟩
      · exact .inl ⟨up _ _ hSz.symm q1, a, d, up _ _ hSTO.symm q2⟩
      · exact .inr ⟨T, f, oT, up _ _ hSz.symm q1, up _ _ r4 q2, r1, r2, r3, r4⟩
    show wpAny _ A.in1 (updateSeq S (·.push (Value.ref h.objs.size)) >>= _) _ _ _
    refine wpAny_bind ?_
    refine wpAny_updateSeq hS' rfl (wpAny_pure ⟨plainId_quiet PySem.F.plain_extend_loop _, ih (i + 1) _ tk _ (acc.push (Value.ref h.objs.size)) (as ++ [h.objs.size]) (by omega) (by omega) upst
      (fun b o n1 n2 n3 n4 n5 e => up b o n1 (hkp b o n2 n3 n4 n5 (hkeep b o n1 n2 n3 n4 n5 e))) (Heap.get?_update_self _ hS' rfl) (by rw [Array.toList_push, hacc, List.map_append]; rfl) (by rw [List.length_append, hal]; rfl) ⟨?_, ?_, ?_⟩ ?_⟩) (by rw [hsz]; omega) (by show (acc.push (Value.ref h.objs.size)).size ≤ sizeLine + 1; rw [Array.size_push, hsz]; omega)
    · refine List.pairwise_append.mpr ⟨hG.rise, List.pairwise_singleton _ _, fun a ha b hb => ?_⟩
      rw [List.mem_singleton.mp hb]
      exact hG.there ha
    · intro a ha
      rcases List.mem_append.mp ha with ha | ha
      · exact hG.above a ha
      · rw [List.mem_singleton.mp ha]; exact hIs
    · intro j q hj
      rcases Nat.lt_trichotomy j as.length with h1 | h1 | h1
      · rw [List.getElem?_append_left h1] at hj
        obtain ⟨x', y', e1, e2, e3⟩ := hG.pairs j q hj
        have hb := hG.above q (List.mem_of_getElem? hj)
        have up_ : ∀ {r : Addr}, r < lo → q ≠ r := fun r => Nat.ne_of_gt (Nat.lt_of_lt_of_le r hb)
        exact ⟨x', y', e1, e2, up q _ (up_ hSl) (hkp q _ (up_ hzl) (up_ hTOl) (up_ h1l) (up_ h2l) e3)⟩
      · subst h1
        have hb : h.objs.size = q := by simpa using hj
        subst hb
        exact ⟨_, _, by rw [hal]; exact hx, by rw [hal]; exact hy, up _ _ (Nat.ne_of_gt hSl') ht⟩
      · have hnone : (as ++ [h.objs.size])[j]? = none := List.getElem?_eq_none (by rw [List.length_append, List.length_singleton]; omega)
        rw [hnone] at hj; cases hj
    · have e : (h'.update S (Obj.mapSeq (·.push (Value.ref h.objs.size)))).get? h.objs.size = _ := up _ _ (Nat.ne_of_gt hSl') ht
      exact Nat.le_trans hIs (Nat.le_of_lt (Heap.lt_size e))
end

theorem zip_no_len : typeLookup (.type "zip") "__len__" = pure none := am_miss_of_fast (by decide +kernel)
theorem zip_no_hint : typeLookup (.type "zip") "__length_hint__" = pure none := am_miss_of_fast (by decide +kernel)
section
variable {prog : Program} {w : World} {A : Around} {E : Value → Shared → Prop} {s : Shared} {b c : Bool}
theorem zl_hint {z : Addr} (hT : s.TypeIs (.ref z) "zip") {Q : Bool → Shared → Prop} (h : ∀ k, Q k s) : wpAny (model prog w) A (Builtin.List.listLengthHint (.ref z)) Q E s := by
  unfold Builtin.List.listLengthHint
  refine wpAny_bind (wpAny_specialOf hT zip_no_len ?_)
  show wpAny _ _ (specialOf (Value.ref z) (Str.ofString "__length_hint__") >>= _) _ _ _
  refine wpAny_bind (wpAny_specialOf hT zip_no_hint ?_)
  exact wpAny_pure (h _)
theorem zl_call {z TI TO i1 i2 l1 l2 : Addr} {xs ys : Array Value} {Q : Value → Shared → Prop} (hh : A.handled = none) (D : ZipApart z TI TO i1 i2 l1 l2)
    (hst : ∀ S, S ≥ s.heap.objs.size → ZSt b c s.heap z TI TO i1 i2 l1 l2 S xs ys 0) (hzT : IsZip s.heap z TI TO .none) (hTO : ∃ o, s.heap.get? TO = some o) (hn : xs.size ≤ sizeLine)
    (hQ : ∀ h' tk acc k as, (∀ b o, b ≠ z → b ≠ TO → b ≠ i1 → b ≠ i2 → s.heap.get? b = some o → h'.get? b = some o) → h'.get? s.heap.objs.size = some { cls := .type "list", dict := none, data := .seq acc k, slots := #[] } → as.length = min xs.size ys.size → ZG xs ys (s.heap.objs.size + 1) h' as →
      acc.toList = as.map Value.ref → Q (.ref s.heap.objs.size) { s with heap := h', toks := tk }) :
    wpAny (model prog w) A (call (.type "list") [.ref z]) Q E s := by
  have st0 := hst _ (Nat.le_refl _)
  have ltz : z < s.heap.objs.size := Heap.lt_size hzT
  have ltTI : TI < s.heap.objs.size := Heap.lt_size st0.hTI
  have ltTO : TO < s.heap.objs.size := let ⟨_, e⟩ := hTO; Heap.lt_size e
  have lt1 : i1 < s.heap.objs.size := let ⟨_, e⟩ := st0.h1.there; Heap.lt_size e
  have lt2 : i2 < s.heap.objs.size := let ⟨_, e⟩ := st0.h2.there; Heap.lt_size e
  have ltl1 : l1 < s.heap.objs.size := let ⟨_, e⟩ := st0.hl1.there; Heap.lt_size e
  have ltl2 : l2 < s.heap.objs.size := let ⟨_, e⟩ := st0.hl2.there; Heap.lt_size e
  refine callType_codes (Q₁ := fun obj s₁ => obj = .ref s.heap.objs.size ∧ s₁ = { s with heap := s.heap.push { cls := .type "list", data := .seq #[] } }) PySem.F.called_list (PySem.F.typeCall_list_1 _) PySem.F.entry_list_init
    (code_list_new _ ⟨rfl, rfl⟩) fun obj s₁ h₁ => ?_
  obtain ⟨rfl, rfl⟩ := h₁
  have hS : (s.heap.push { cls := .type "list", data := .seq #[] }).get? s.heap.objs.size = some { cls := .type "list", data := .seq #[] } := Heap.get?_push_size _ rfl
  refine ⟨⟨_, hS, rfl⟩, PySem.F.args_list_init_2 _ _, ?_⟩
  show wpAny _ A.in1.in1 (do let old ← Builtin.List.listItems (.ref s.heap.objs.size); Builtin.List.listUpdate (.ref s.heap.objs.size) (fun _ => #[]); letGo old.toList.reverse; Builtin.List.listExtendWith (.ref s.heap.objs.size) (.ref z) .none) _ _ _
  refine wpAny_bind ?_
  unfold Builtin.List.listItems
  refine wpAny_bind (wpAny_seqItems hS rfl (wpAny_pure ?_))
  show wpAny _ A.in1.in1 (updateSeq s.heap.objs.size (fun _ => #[]) >>= fun _ => letGo (#[] : Array Value).toList.reverse >>= fun _ => Builtin.List.listExtendWith (.ref s.heap.objs.size) (.ref z) .none) _ _ _
  refine wpAny_bind (wpAny_updateSeq hS rfl ?_)
  have hS2 := Heap.get?_update_self (Obj.mapSeq (fun _ => (#[] : Array Value))) hS rfl
  refine wpAny_bind (wpAny_letGo ?_)
  unfold Builtin.List.listExtendWith
  have up : ∀ (h : Heap) (f : Obj → Obj), (∀ b o, s.heap.get? b = some o → h.get? b = some o) → ∀ b o, s.heap.get? b = some o → (h.update s.heap.objs.size f).get? b = some o := fun h f q b o e =>
    (Heap.get?_update_other _ _ (Ne.symm (Nat.ne_of_lt (Heap.lt_size e)))).trans (q b o e)
  have k1 : ∀ b o, s.heap.get? b = some o → (s.heap.push { cls := .type "list", data := .seq #[] }).get? b = some o := fun b o e => Heap.get?_push_of_some _ e
  have k2 := up _ (Obj.mapSeq (fun _ => (#[] : Array Value))) k1
  refine wpAny_bind (wpAny_typeOf (T := "zip") ⟨_, k2 _ _ hzT, rfl⟩ ?_)
  have h1 : Builtin.List.listSameRef (.ref s.heap.objs.size) (.ref z) = false := by simp [Builtin.List.listSameRef, Nat.ne_of_gt ltz]
  have h2 : (Value.type "zip" == Value.type "list") = false := by decide
  have h3 : (Value.type "zip" == Value.type "tuple") = false := by decide
  simp only [h1, h2, h3, Bool.or_false, Bool.false_eq_true, if_false]
  refine wpAny_bind (wpAny_pyIter_zip (k2 _ _ hzT) ?_)
  have key : ∀ (h : Heap) (c₁ tk : Nat), (∀ b o, s.heap.get? b = some o → h.get? b = some o) → h.get? s.heap.objs.size = some { cls := .type "list", data := .seq #[] c₁ } → codeAny (model prog w) A.in1 (.builtin "list.extend.loop" ⟨[.ref s.heap.objs.size, .ref z, .none], []⟩) (wants (fun r s₂ => r = Value.none ∧ Q (.ref s.heap.objs.size) s₂) E) { s with heap := h, toks := tk } := by
    intro h c₁ tk hk hS₁
    have st : ZSt b c h z TI TO i1 i2 l1 l2 s.heap.objs.size xs ys 0 := by
      obtain ⟨a1, a2, a3, a4, a5, a6⟩ := st0
      refine ⟨hk _ _ a1, a2.at fun o e => hk _ o e, a3.at fun o e => hk _ o e, a4.at fun o e => hk _ o e, a5.at fun o e => hk _ o e, ?_⟩
      rcases a6 with ⟨q1, a, d, q2⟩ | ⟨T, f, oT, q1, q2, r1, r2, r3, r4⟩
      · exact .inl ⟨hk _ _ q1, a, d, hk _ _ q2⟩
      · exact .inr ⟨T, f, oT, hk _ _ q1, hk _ _ q2, r1, r2, r3, r4⟩
    have hlt : s.heap.objs.size < h.objs.size := Heap.lt_size hS₁
    have up1 : ∀ {q : Addr}, q < s.heap.objs.size → q < s.heap.objs.size + 1 := fun q => Nat.lt_succ_of_lt q
    exact zl_loop (s := s) (A := A.in1) (lo := s.heap.objs.size + 1) (R := wants (fun r s₂ => r = Value.none ∧ Q (.ref s.heap.objs.size) s₂) E) (h₁ := s.heap) hh D (Nat.lt_succ_self _) (up1 ltz) (up1 ltTI) (up1 ltTO) (up1 lt1) (up1 lt2) (Nat.ne_of_gt ltz) (Nat.ne_of_gt ltTI) (Nat.ne_of_gt ltTO) (Nat.ne_of_gt lt1) (Nat.ne_of_gt lt2) (Nat.ne_of_lt ltl1) (Nat.ne_of_lt ltl2) hn .none
      (fun h' tk' acc k as hk' hS' hl hG hacc => ⟨rfl, hQ h' tk' acc k as (fun b o n2 n3 n4 n5 e => hk' b o (Nat.ne_of_lt (Heap.lt_size e)) n2 n3 n4 n5 e) hS' hl hG hacc⟩)
      (min xs.size ys.size) 0 h tk c₁ #[] [] (Nat.sub_zero _) (Nat.zero_le _) st (fun b o _ _ _ _ _ e => hk b o e) hS₁ rfl rfl ⟨List.Pairwise.nil, (fun _ ha => nomatch ha), (fun j a hj => by simp at hj)⟩ hlt
  refine wpAny_bind (wpAny_holding (zl_hint ⟨_, k2 _ _ hzT, rfl⟩ fun k => ?_))
  refine wpAny_ite_split (fun _ => ?_) (fun _ => wpAny_pure ⟨plainId_quiet PySem.F.plain_extend_loop _, key _ _ _ k2 hS2⟩)
  refine wpAny_bind (wpAny_rule ?_)
  refine wpAny_bind ?_
  show wpAny _ A.in1.in1 (updateSeq s.heap.objs.size (·.push .none) >>= fun _ => updateSeq s.heap.objs.size (·.pop)) _ _ _
  refine wpAny_bind (wpAny_updateSeq hS2 rfl ?_)
  have hS3 := Heap.get?_update_self (Obj.mapSeq (·.push Value.none)) hS2 rfl
  refine wpAny_updateSeq (hz := by seq_fits) hS3 rfl ?_
  have hS4 := Heap.get?_update_self (Obj.mapSeq (·.pop)) hS3 rfl
  exact wpAny_pure ⟨plainId_quiet PySem.F.plain_extend_loop _, key _ _ _ (up _ (Obj.mapSeq (·.pop)) (up _ (Obj.mapSeq (·.push Value.none)) k2)) hS4⟩
end
end BF

/-! MulT -/
set_option Elab.async false
set_option linter.all false
set_option maxRecDepth 100000
set_option maxHeartbeats 4000000
/-! tuple * int where the tuple is empty or the number is at most one -/
namespace BF
open PySem PySem.Spec PyProof.Rows L2
theorem tuple_mulS (l : Addr) (items : Array Value) (n : Nat) (dd : Option Addr) (sl : Array (Option Value)) (x : Int) (u : Tok) (c0 : (decide (x < -(2 ^ 63)) || decide (x ≥ 2 ^ 63)) = false) (c1 : (items.isEmpty || x == 1) = true) :
    Meets (Builtin.«tuple.__mul__» ⟨[.ref l, .int x u], []⟩) (fun _ R s => s.heap.get? l = some { cls := .type "tuple", dict := dd, data := .seq items n, slots := sl } ∧ R (.ok (.ret (Value.ref l))) s) :=
  .of_wp fun prog w A R s h => by
    obtain ⟨hp, g, d, tk, os⟩ := s
    obtain ⟨hl, h⟩ := h
    have f1 := AutoSeq1.idx_int
    wp_walk using wpAny_loadPart' hl
    repeat (first
      | (refine wpAny_ite_false (decide_eq_false (by rw [c0]; exact Bool.false_ne_true)) ?_; wp_walk using wpAny_loadPart' hl)
      | (refine wpAny_ite_true (decide_eq_true c1) ?_; wp_walk using wpAny_loadPart' hl))
    exact ⟨_, rfl, h⟩
theorem tuple_mulE (l : Addr) (items : Array Value) (n : Nat) (dd : Option Addr) (sl : Array (Option Value)) (x : Int) (u : Tok) (c0 : (decide (x < -(2 ^ 63)) || decide (x ≥ 2 ^ 63)) = false) (c1 : (items.isEmpty || x == 1) = false) (c2 : (decide (x ≤ 0) || items.isEmpty) = true) :
    Meets (Builtin.«tuple.__mul__» ⟨[.ref l, .int x u], []⟩) (fun _ R s => s.heap.get? l = some { cls := .type "tuple", dict := dd, data := .seq items n, slots := sl } ∧
      R (.ok (.ret (Value.ref s.heap.objs.size))) { s with heap := s.heap.push { cls := Value.type "tuple", data := Data.seq #[] }, toks := s.toks }) :=
  .of_wp fun prog w A R s h => by
    obtain ⟨hp, g, d, tk, os⟩ := s
    obtain ⟨hl, h⟩ := h
    have f1 := AutoSeq1.idx_int
    wp_walk using wpAny_loadPart' hl
    repeat (first
      | (refine wpAny_ite_false (decide_eq_false (by rw [c0]; exact Bool.false_ne_true)) ?_; wp_walk using wpAny_loadPart' hl)
      | (refine wpAny_ite_false (decide_eq_false (by rw [c1]; exact Bool.false_ne_true)) ?_; wp_walk using wpAny_loadPart' hl)
      | (refine wpAny_ite_true (decide_eq_true c2) ?_; wp_walk using wpAny_loadPart' hl))
    exact ⟨_, rfl, h⟩
def rRepU (K : PySem.W.Frag) : R2 := fun x y H Q => ∃ l k xs, x = .ref l ∧ y = .int k ∧ SqT K H l xs ∧ -1000 ≤ k ∧ k ≤ 1000 ∧ (xs = [] ∨ k ≤ 1) ∧ ((xs = [] ∨ k = 1) → Q (.ref l) H) ∧ (xs ≠ [] → k ≤ 0 → ∀ p, H p = none → Q (.ref p) (upd H p (.tup [])))
section
variable {X : Cx}
theorem op_repU : OpR X (binaryOp .Mult) (rRepU X.K) := by
  intro pins s σ H x y v u Q I rx ry h
  obtain ⟨l, k, xs, rfl, rfl, hT, h1, h2, h3, q1, q2⟩ := h
  cases rx
  obtain ⟨t, rfl⟩ := ry
  obtain ⟨its, r, ⟨⟨cls, dd, data, sl⟩, ho, hc, n, hd⟩, hs⟩ := I.tuple hT
  simp only at hc hd
  subst hc hd
  have hle : its.length = xs.length := r.length.symm
  have c0 : (decide (k < -(2 ^ 63)) || decide (k ≥ 2 ^ 63)) = false := by
    rw [decide_eq_false (by omega), decide_eq_false (by omega)] <;> rfl
  have hi : its.toArray.isEmpty = decide (xs = []) := by
    cases its with
    | nil =>
      have : xs = [] := List.eq_nil_of_length_eq_zero hle.symm
      rw [this]; rfl
    | cons a b =>
      have : xs ≠ [] := fun e => by rw [e] at hle; simp at hle
      rw [decide_eq_false this]; rfl
  by_cases hx : xs = [] ∨ k = 1
  · have c1 : (its.toArray.isEmpty || k == 1) = true := by
      rw [hi]
      rcases hx with e | e
      · rw [decide_eq_true e]; rfl
      · rw [e, Bool.or_comm]; rfl
    refine wpAny_binaryOp_repeat_ref (T := "tuple") (U := "int") (by decide) ⟨_, ho, rfl⟩ (fun s' => typeIs_int s' k t) noFill_tuple_mul F.fills_int_mul F.slot_int_rmul repeat_tuple F.slot_int_index.lookup
      (call_meets F.slot_int_rmul (typeIs_int s k t) F.entry_int_rmul (F.args_int_rmul_2 _ _) (int_rmul_tuple k t l its.toArray n dd sl)
        ⟨ho, rfl, ⟨_, ho, rfl⟩, call_meets F.slot_tuple_mul ⟨_, ho, rfl⟩ F.entry_tuple_mul (F.args_tuple_mul_2 _ _) (tuple_mulS l its.toArray n dd sl k t c0 c1) ⟨ho, ?_⟩⟩)
    exact ⟨.ref l, H, I, rfl, q1 hx⟩
  · have hxn : xs ≠ [] := fun e => hx (.inl e)
    have hk1 : k ≠ 1 := fun e => hx (.inr e)
    have hk : k ≤ 0 := by
      rcases h3 with e | e
      · exact absurd e hxn
      · omega
    have c1 : (its.toArray.isEmpty || k == 1) = false := by
      rw [hi, decide_eq_false hxn, Bool.false_or]
      exact beq_eq_false_iff_ne.mpr hk1
    have c2 : (decide (k ≤ 0) || its.toArray.isEmpty) = true := by
      rw [decide_eq_true hk]; rfl
    refine wpAny_binaryOp_repeat_ref (T := "tuple") (U := "int") (by decide) ⟨_, ho, rfl⟩ (fun s' => typeIs_int s' k t) noFill_tuple_mul F.fills_int_mul F.slot_int_rmul repeat_tuple F.slot_int_index.lookup
      (call_meets F.slot_int_rmul (typeIs_int s k t) F.entry_int_rmul (F.args_int_rmul_2 _ _) (int_rmul_tuple k t l its.toArray n dd sl)
        ⟨ho, rfl, ⟨_, ho, rfl⟩, call_meets F.slot_tuple_mul ⟨_, ho, rfl⟩ F.entry_tuple_mul (F.args_tuple_mul_2 _ _) (tuple_mulE l its.toArray n dd sl k t c0 c1 c2) ⟨ho, ?_⟩⟩)
    refine ⟨.ref s.heap.objs.size, _, I.laid (t' := s.toks) (o := .tup []) (fun b ob q => Heap.get?_push_of_some _ q) (Nat.le_refl _) ?_, rfl, q2 hxn hk _ (I.hok.fresh (Nat.le_refl _))⟩
    exact ⟨Nat.zero_le _, _, .nil, IsTup.new _ _⟩
end
end BF

/-! Snd2 -/
set_option Elab.async false
set_option linter.all false
set_option maxRecDepth 100000
set_option maxHeartbeats 2000000
namespace BF
open PySem L2

section
variable {Z : Wd} {c : Pl} {W : WX} {O : Addr → Prop} {σ : L2.St} {σd : Sd} {H H' : Hp} {X : Cx}
/-! ### values by their kinds -/
theorem RB.non {v : V} (r : RB Z H O .non v) : v = .non := by cases r.rep; rfl
theorem RB.bl {b : Bool} {v : V} (r : RB Z H O (.bl b) v) : v = .bl b := by cases r.rep; rfl
theorem RB.int {i : Int} {v : V} (r : RB Z H O (.int i) v) : v = .int i := by cases r.rep; rfl
theorem RB.str {i : Str} {v : V} (r : RB Z H O (.str i) v) : v = .str i := by cases r.rep; rfl

/-! ### operators -/
def mapOp : Op2 → Operator
  | .add => .Add | .sub => .Sub | .mul => .Mult | .fdiv => .FloorDiv | .mod => .Mod | .pow => .Pow | .shl => .LShift | .shr => .RShift | .band => .BitAnd | .bor => .BitOr | .bxor => .BitXor
theorem op2_map {o : Operator} {k : Op2} (h : op2 o = some k) : mapOp k = o := by
  cases o <;> simp [op2] at h <;> subst h <;> rfl
theorem bitAnd_nn {i j : Int} (hi : 0 ≤ i) (hj : 0 ≤ j) : Builtin.bitAnd i j = ((i.toNat &&& j.toNat : Nat) : Int) := by
  unfold Builtin.bitAnd
  rw [decide_eq_true hi, decide_eq_true hj]
theorem bitNot_neg {i : Int} (hi : 0 ≤ i) : ¬ 0 ≤ Builtin.bitNot i := by unfold Builtin.bitNot; omega
theorem bitOr_nn {i j : Int} (hi : 0 ≤ i) (hj : 0 ≤ j) : Builtin.bitOr i j = ((i.toNat ||| j.toNat : Nat) : Int) := by
  unfold Builtin.bitOr Builtin.bitAnd
  rw [decide_eq_false (bitNot_neg hi), decide_eq_false (bitNot_neg hj)]
  have e1 : Builtin.bitNot (Builtin.bitNot i) = i := by unfold Builtin.bitNot; omega
  have e2 : Builtin.bitNot (Builtin.bitNot j) = j := by unfold Builtin.bitNot; omega
  show Builtin.bitNot (Builtin.bitNot _) = _
  rw [e1, e2]
  unfold Builtin.bitNot
  omega
theorem and_add_orN : ∀ (n a b : Nat), a ≤ n → (a ||| b) = (a ^^^ b) + (a &&& b)
  | 0, a, b, h => by
    obtain rfl : a = 0 := by omega
    simp
  | n + 1, a, b, h => by
    have ih := fun h' => and_add_orN n (a / 2) (b / 2) h'
    by_cases h0 : a = 0
    · subst h0; simp
    have ih := ih (by omega)
    have e1 := @Nat.or_div_two a b
    have e2 := @Nat.xor_div_two a b
    have e3 := @Nat.and_div_two a b
    have f1 := @Nat.and_mod_two_eq_one a b
    have f2 := @Nat.or_mod_two_eq_one a b
    have f3 := @Nat.xor_mod_two_eq_one a b
    rw [← e1, ← e2, ← e3] at ih
    omega
theorem and_add_or (a b : Nat) : (a ||| b) = (a ^^^ b) + (a &&& b) := and_add_orN a a b (Nat.le_refl _)
theorem bitXor_nn {i j : Int} (hi : 0 ≤ i) (hj : 0 ≤ j) : Builtin.bitXor i j = ((i.toNat ^^^ j.toNat : Nat) : Int) := by
  unfold Builtin.bitXor
  rw [bitOr_nn hi hj, bitAnd_nn hi hj, and_add_or]
  omega
/-- what is asked of two values at an operator -/
def rBin (K : PySem.W.Frag) (o : Op2) : R2 := match o with
  | .add => fun x y H Q => ((rI0 (fun i j => .int (i + j)) x y H Q ∨ rCat x y H Q) ∨ rCatA K x y H Q) ∨ (∃ i j, x = .str i ∧ y = .str j ∧ i.length + j.length ≤ sizeLine ∧ Q (.str (i ++ j)) H)
  | .sub => rI0 fun i j => .int (i - j)
  | .mul => fun x y H Q => (rI CMul (fun i j => .int (i * j)) x y H Q ∨ rRep x y H Q) ∨ rRepT K x y H Q ∨ rRepU K x y H Q
  | .fdiv => rI CDivW fun i j => .int (i / j)
  | .mod => rI (fun _ j => 0 < j) fun i j => .int (i % j)
  | .pow => rI CPow fun i j => .int (i ^ j.toNat)
  | .shl => rI CPow fun i j => .int (i * 2 ^ j.toNat)
  | .shr => rI (fun _ j => 0 ≤ j) fun i j => .int (i / 2 ^ j.toNat)
  | .band => rI0 fun i j => .int (Builtin.bitAnd i j)
  | .bor => rI0 fun i j => .int (Builtin.bitOr i j)
  | .bxor => rI0 fun i j => .int (Builtin.bitXor i j)
theorem opR_bin (o : Op2) : OpR X (binaryOp (mapOp o)) (rBin X.K o) := by
  cases o
  · exact ((op_add.or op_cat).or op_catA).or op_add_str
  · exact op_sub
  · exact (op_mul.or op_rep).or (op_repT.or op_repU)
  · exact op_fdivW
  · exact op_mod
  · exact op_pow
  · exact op_shl
  · exact op_shr
  · exact op_and
  · exact op_or
  · exact op_xor
theorem Go.done {d : D} {Q : VK} (g : Go Z c W (.ok (d, σd)) O σ H (fun d _ H' => ∀ v, Rep Z (hide H' O) d v → Q v H')) (r : RelS Z c O σd σ H) {v : V} (hv : Rep Z (hide H O) d v) : Q v H := g.ok r KeepE.refl v hv
theorem Go.new {d : D} {Q : VK} (g : Go Z c W (.ok (d, σd)) O σ H (fun d _ H' => ∀ v, Rep Z (hide H' O) d v → Q v H')) (r : RelS Z c O σd σ H) (o : HO) (t : NT o) (h : ∀ p G, Le (hide H O) G → G p = some o → Rep Z G d (.ref p)) : ∀ p, H p = none → Q (.ref p) (upd H p o) := fun p hp => by
  obtain ⟨a1, a2, a3, a4, a5⟩ := r.new hp o t
  exact g.ok a1 a2 _ (h p _ a4 a5)
theorem bin_ok (hK : X.K = Z.K) {o : Op2} {da db d : D} {va vb : V} {Q : VK} {H0 : Hp} (r : RelS Z c O σd σ H) (hb0 : ∀ p, Fre H p → Fre H0 p) (ra : RB Z H O da va) (rb : RB Z H O db vb) (e : bop o da db = some d)
    (g : RetF Z c W O σ H0 σd H d Q) : rBin X.K o va vb H Q := by
  cases da with
  | int i =>
    cases db with
    | int j =>
      obtain rfl := ra.int
      obtain rfl := rb.int
      have e' : (opI o i j).map D.int = some d := e
      obtain ⟨k, ek, rfl⟩ := Option.map_eq_some_iff.mp e'
      have q := g.done r rfl (.int k)
      cases o <;> simp only [opI] at ek
      · cases ek; exact .inl (.inl (.inl ⟨i, j, rfl, rfl, q⟩))
      · cases ek; exact ⟨i, j, rfl, rfl, q⟩
      · split at ek
        · rename_i hc; cases ek; exact .inl (.inl ⟨i, j, rfl, rfl, hc, q⟩)
        · cases ek
      · split at ek
        · rename_i hc; cases ek; exact ⟨i, j, rfl, rfl, hc, q⟩
        · cases ek
      · split at ek
        · rename_i hc; cases ek; exact ⟨i, j, rfl, rfl, hc, q⟩
        · cases ek
      · split at ek
        · rename_i hc; cases ek; exact ⟨i, j, rfl, rfl, hc, q⟩
        · cases ek
      · split at ek
        · rename_i hc; cases ek; exact ⟨i, j, rfl, rfl, hc, q⟩
        · cases ek
      · split at ek
        · rename_i hc; cases ek; exact ⟨i, j, rfl, rfl, hc, q⟩
        · cases ek
      · split at ek
        · rename_i hc; cases ek; exact ⟨i, j, rfl, rfl, (show Q (.int (Builtin.bitAnd i j)) H by rw [bitAnd_nn hc.1 hc.2]; exact q)⟩
        · cases ek
      · split at ek
        · rename_i hc; cases ek; exact ⟨i, j, rfl, rfl, (show Q (.int (Builtin.bitOr i j)) H by rw [bitOr_nn hc.1 hc.2]; exact q)⟩
        · cases ek
      · split at ek
        · rename_i hc; cases ek; exact ⟨i, j, rfl, rfl, (show Q (.int (Builtin.bitXor i j)) H by rw [bitXor_nn hc.1 hc.2]; exact q)⟩
        · cases ek
    | _ => simp [bop] at e
  | str x =>
    cases db with
    | str y =>
      obtain rfl := ra.str
      obtain rfl := rb.str
      cases o <;> simp only [bop] at e <;> try (cases e; done)
      split at e
      · rename_i hc; cases e; exact .inr ⟨x, y, rfl, rfl, hc, g.done r rfl (.str _)⟩
      · cases e
    | _ => simp [bop] at e
  | lst xs =>
    obtain ⟨a, vs, rfl, ha, rs⟩ := ra.lst
    cases db with
    | lst ys =>
      obtain ⟨b, ws, rfl, hb, ss⟩ := rb.lst
      cases o <;> simp only [bop] at e <;> try (cases e; done)
      split at e
      · rename_i hc
        cases e
        refine .inl (.inl (.inr ⟨a, b, vs, ws, rfl, rfl, ha, hb, by rw [← rs.length, ← ss.length]; exact hc, ?_⟩))
        exact g.newL r hb0 (rs.append ss)
      · cases e
    | int k =>
      obtain rfl := rb.int
      cases o <;> simp only [bop] at e <;> try (cases e; done)
      split at e
      · rename_i hc
        cases e
        refine .inl (.inr ⟨a, k, vs, rfl, rfl, ha, hc.1, hc.2.1, by rw [← rs.length]; exact hc.2.2, ?_⟩)
        exact g.newL r hb0 (rs.rep k.toNat)
      · cases e
    | _ => simp [bop] at e
  | tup xs =>
    obtain ⟨a, vs, rfl, ha, rs⟩ := ra.tup
    rw [← hK] at ha
    cases db with
    | tup ys =>
      obtain ⟨b, ws, rfl, hb, ss⟩ := rb.tup
      rw [← hK] at hb
      cases o <;> simp only [bop] at e <;> try (cases e; done)
      split at e
      · rename_i hc
        cases e
        refine .inl (.inr ⟨a, b, vs, ws, rfl, rfl, ha, hb, by rw [← rs.length, ← ss.length]; exact hc, fun h1 => ?_, fun h1 h2 => ?_, fun h1 h2 => ?_⟩)
        · subst h1
          cases rs
          rw [List.nil_append] at g
          rcases rb with rb | ⟨b', eb, _, cb⟩
          · exact g.done r rfl rb
          · exact cb.elim
        · subst h2
          cases ss
          rw [List.append_nil] at g
          rcases ra with ra | ⟨b', eb, _, cb⟩
          · exact g.done r rfl ra
          · exact cb.elim
        · exact g.newT r (rs.append ss)
      · cases e
    | int k =>
      obtain rfl := rb.int
      cases o <;> simp only [bop] at e <;> try (cases e; done)
      split at e
      · rename_i hc
        cases e
        by_cases hz : vs = [] ∨ k ≤ 1
        · refine .inr (.inr ⟨a, k, vs, rfl, rfl, ha, hc.1, hc.2.1, hz, fun h => ?_, fun h1 h2 => ?_⟩)
          · have ex : rep k xs = xs := by
              unfold rep
              rcases h with h | h
              · subst h
                cases rs
                induction k.toNat with
                | zero => rfl
                | succ m ih => rw [List.replicate_succ, List.flatten_cons, ih]; rfl
              · subst h
                show (xs ++ []) = xs
                rw [List.append_nil]
            rw [ex] at g
            rcases ra with ra | ⟨b', eb, _, cb⟩
            · exact g.done r rfl ra
            · exact cb.elim
          · have ex : rep k xs = [] := by
              unfold rep
              rw [show k.toNat = 0 by omega]
              rfl
            rw [ex] at g
            exact g.newT r .nil
        · have hz1 : vs ≠ [] := fun e => hz (.inl e)
          have hz2 : 2 ≤ k := by
            refine Decidable.byContradiction fun e => hz (.inr ?_)
            omega
          exact .inr (.inl ⟨a, k, vs, rfl, rfl, ha, hz1, hz2, hc.2.1, by rw [← rs.length]; exact hc.2.2, g.newT r (rs.rep k.toNat)⟩)
      · cases e
    | _ => simp [bop] at e
  | _ => simp [bop] at e
theorem s_bin (hK : X.K = Z.K) {o : Op2} {a b : Expr} {ka kb : E} {l : Lv} {pos : Pos} (ha : Opd X Z c W l a ka) (hb : Opd X Z c W l b kb) : PE X (.BinOp a (mapOp o) b pos) (TFe Z c W (ev (.bin o ka kb) l)) :=
  s_op2 ha hb (fun ta tb h1 h2 => pe_op (opR_bin o) h1 h2) fun O σd σ H0 H da db d va vb Q r h0 ra rb e g => bin_ok hK r h0 ra rb e g
end
end BF

/-! Snd3 -/
set_option Elab.async false
set_option linter.all false
set_option maxRecDepth 100000
set_option maxHeartbeats 2000000
namespace BF
open PySem L2

/-! ### data -/
mutual
def toPy : D → PyData
  | .bl b => .bool b
  | .int i => .int i
  | .str x => .str x
  | .tup xs => .tuple (toPys xs)
  | .lst xs => .list (toPys xs)
  | _ => .none
def toPys : List D → List PyData
  | [] => []
  | x :: xs => toPy x :: toPys xs
end
mutual
theorem dp_ok : ∀ (n : Nat) (d : D), dp n d = true → (toPy d).canLay0 = true ∧ (toPy d).depth ≤ n
  | n, .non, _ => ⟨by simp [toPy, PyData.canLay0], by simp [toPy, PyData.depth]⟩
  | n, .bl b, _ => ⟨by simp [toPy, PyData.canLay0], by simp [toPy, PyData.depth]⟩
  | n, .int b, _ => ⟨by simp [toPy, PyData.canLay0], by simp [toPy, PyData.depth]⟩
  | n, .str b, h => ⟨by simp only [dp] at h; simp only [toPy, PyData.canLay0, PyData.strOk]; exact h, by simp [toPy, PyData.depth]⟩
  | 0, .tup xs, h => by simp [dp] at h
  | 0, .lst xs, h => by simp [dp] at h
  | n + 1, .tup xs, h => by
    obtain ⟨h1, h2⟩ := dps_ok n xs (by simpa [dp] using h)
    exact ⟨by simpa [toPy, PyData.canLay0] using h1, by simp only [toPy, PyData.depth]; omega⟩
  | n + 1, .lst xs, h => by
    obtain ⟨h1, h2⟩ := dps_ok n xs (by simpa [dp] using h)
    exact ⟨by simpa [toPy, PyData.canLay0] using h1, by simp only [toPy, PyData.depth]; omega⟩
  | n, .dic _, h => by cases n <;> simp [dp] at h
  | n, .fn _, h => by cases n <;> simp [dp] at h
  | n, .frz _, h => by cases n <;> simp [dp] at h
theorem dps_ok : ∀ (n : Nat) (d : List D), dps n d = true → PyData.canLayAll0 (toPys d) = true ∧ PyData.depthAll (toPys d) ≤ n
  | n, [], _ => ⟨by simp [toPys, PyData.canLayAll0], by simp [toPys, PyData.depthAll]⟩
  | n, x :: xs, h => by
    have h' : dp n x = true ∧ dps n xs = true := by simpa [dps] using h
    obtain ⟨a1, a2⟩ := dp_ok n x h'.1
    obtain ⟨b1, b2⟩ := dps_ok n xs h'.2
    exact ⟨by simp [toPys, PyData.canLayAll0, a1, b1], by simp only [toPys, PyData.depthAll]; omega⟩
end
theorem dp_shaped {d : D} (h : dp 60 d = true) : SeqAt.shaped (toPy d) = true := by
  obtain ⟨a, b⟩ := dp_ok 60 d h
  unfold SeqAt.shaped
  rw [a, decide_eq_true (by omega)]
  rfl
mutual
theorem Rep.dp {Z : Wd} {H : Hp} : ∀ (n : Nat) (d : D) (v : V), Rep Z H d v → BF.dp n d = true → Dp Z.K H v (toPy d)
  | n, .non, _, .non, _ => by simp only [toPy]; exact .non
  | n, .bl b, _, .bl _, _ => by simp only [toPy]; exact .bl b
  | n, .int b, _, .int _, _ => by simp only [toPy]; exact .int b
  | n, .str b, _, .str _, h => by simp only [toPy]; exact .str b
  | 0, .tup xs, _, _, h => by simp [BF.dp] at h
  | 0, .lst xs, _, _, h => by simp [BF.dp] at h
  | n + 1, .tup xs, _, .tup s r, h => by simp only [toPy]; exact .tup s (Reps.dp n xs _ r (by simpa [BF.dp] using h))
  | n + 1, .lst xs, _, .lst s r, h => by simp only [toPy]; exact .lst (SqL.of s) (Reps.dp n xs _ r (by simpa [BF.dp] using h))
  | n, .dic _, _, _, h => by cases n <;> simp [BF.dp] at h
  | n, .fn _, _, _, h => by cases n <;> simp [BF.dp] at h
  | n, .frz _, _, _, h => by cases n <;> simp [BF.dp] at h
theorem Reps.dp {Z : Wd} {H : Hp} : ∀ (n : Nat) (d : List D) (v : List V), Reps Z H d v → dps n d = true → DpAll Z.K H v (toPys d)
  | n, [], _, .nil, _ => by simp only [toPys]; exact .nil
  | n, x :: xs, _, .cons a b, h => by
    have h' : BF.dp n x = true ∧ dps n xs = true := by simpa [dps] using h
    simp only [toPys]
    exact .cons (Rep.dp n x _ a h'.1) (Reps.dp n xs _ b h'.2)
end
mutual
theorem deq_py : ∀ (n m : Nat) (a b : D), dp n a = true → dp m b = true → deq a b = PyData.eqv (toPy a) (toPy b)
  | n, m, a, b, ha, hb => by
    cases a <;> cases b <;> first
      | (simp [dp] at ha; done) | (simp [dp] at hb; done)
      | (simp only [deq, toPy, PyData.eqv]; done)
      | (cases n <;> simp [dp] at ha; done) | (cases m <;> simp [dp] at hb; done)
      | skip
    · rename_i xs ys
      cases n with
      | zero => simp [dp] at ha
      | succ n => cases m with
        | zero => simp [dp] at hb
        | succ m =>
          simp only [deq, toPy, PyData.eqv]
          exact deqs_py n m xs ys (by simpa [dp] using ha) (by simpa [dp] using hb)
    · rename_i xs ys
      cases n with
      | zero => simp [dp] at ha
      | succ n => cases m with
        | zero => simp [dp] at hb
        | succ m =>
          simp only [deq, toPy, PyData.eqv]
          exact deqs_py n m xs ys (by simpa [dp] using ha) (by simpa [dp] using hb)
theorem deqs_py : ∀ (n m : Nat) (a b : List D), dps n a = true → dps m b = true → deqs a b = PyData.eqvAll (toPys a) (toPys b)
  | n, m, [], [], _, _ => by simp [deqs, toPys, PyData.eqvAll]
  | n, m, [], _ :: _, _, _ => by simp [deqs, toPys, PyData.eqvAll]
  | n, m, _ :: _, [], _, _ => by simp [deqs, toPys, PyData.eqvAll]
  | n, m, x :: xs, y :: ys, ha, hb => by
    have h1 : dp n x = true ∧ dps n xs = true := by simpa [dps] using ha
    have h2 : dp m y = true ∧ dps m ys = true := by simpa [dps] using hb
    simp only [deqs, toPys, PyData.eqvAll, deq_py n m x y h1.1 h2.1, deqs_py n m xs ys h1.2 h2.2]
end
end BF

/-! Snd4 -/
set_option Elab.async false
set_option linter.all false
set_option maxRecDepth 100000
set_option maxHeartbeats 2000000
namespace BF
open PySem L2

section
variable {Z : Wd} {c : Pl} {W : WX} {O : Addr → Prop} {σ : L2.St} {σd : Sd} {H H' : Hp} {X : Cx}
/-! ### dicts with int and text keys -/
theorem keyR_kV {k : D} {q : Key} (h : KeyR k q) : Rep Z H k (kV q) := by
  cases k <;> simp [KeyR] at h <;> subst h
  · exact .int _
  · exact .str _
theorem key_of_rep {k : D} {v : V} (hk : keyD k = true) (r : Rep Z H k v) : ∃ q, KeyR k q ∧ v = kV q := by
  cases k <;> simp [keyD] at hk <;> cases r
  · exact ⟨.inl _, rfl, rfl⟩
  · exact ⟨.inr _, rfl, rfl⟩
theorem deq_key {a b : D} {p q : Key} (ha : KeyR a p) (hb : KeyR b q) : deq a b = decide (p = q) := by
  cases a <;> simp [KeyR] at ha <;> cases b <;> simp [KeyR] at hb <;> subst ha <;> subst hb
  · rename_i i j
    simp only [deq]
    by_cases h : i = j
    · subst h; simp
    · simp [h]
  · simp [deq]
  · simp [deq]
  · rename_i i j
    simp only [deq]
    by_cases h : i = j
    · subst h; simp
    · simp [h]
theorem dget_val : ∀ {kvs : List (D × D)} {ks : List (Key × V)} {k : D} {q : Key}, RepK Z H kvs ks → KeyR k q → (match dget kvs k with
    | some d => ∃ v, valV ks q = some v ∧ Rep Z H d v
    | none => valV ks q = none)
  | [], _, k, q, .nil, _ => by simp [dget, valV]
  | (k', d) :: kvs, _, k, q, .cons (q := q') (v := v) h1 h2 h3, hk => by
    have ih := dget_val h3 hk
    have e := deq_key h1 hk
    unfold dget at ih ⊢
    rw [List.find?_cons]
    by_cases hq : q' = q
    · subst hq
      have e' : deq k' k = true := by rw [e]; simp
      simp only [e', Option.map_some]
      exact ⟨v, valV_pos rfl, h2⟩
    · have e' : deq k' k = false := by rw [e]; simp [hq]
      simp only [e']
      rw [valV_neg hq]
      exact ih
theorem dget_any : ∀ {kvs : List (D × D)} {k : D}, (kvs.any fun q => deq q.1 k) = (dget kvs k).isSome
  | [], _ => rfl
  | q :: r, k => by
    unfold dget
    rw [List.any_cons, List.find?_cons, dget_any]
    unfold dget
    cases deq q.1 k <;> simp
def rDIn (neg : Bool) : R2 := fun x y H Q => ∃ a o, y = .ref a ∧ DGet H a x o ∧ Q (.bl (if neg then !o.isSome else o.isSome)) H
theorem op_dIn (hu : X.A.units + 1 < cLine) : OpR X (compareOp .In) (rDIn false) := by
  intro pins s σ H x y v u Q I rx ry h
  obtain ⟨a, o, rfl, g, q⟩ := h
  obtain rfl : u = Value.ref a := ry
  exact d_in hu I g rx fun s' I' => ⟨.bl o.isSome, H, I', rfl, q⟩
theorem op_dNotIn (hu : X.A.units + 1 < cLine) : OpR X (compareOp .NotIn) (rDIn true) := by
  intro pins s σ H x y v u Q I rx ry h
  obtain ⟨a, o, rfl, g, q⟩ := h
  obtain rfl : u = Value.ref a := ry
  exact d_notIn hu I g rx fun s' I' => ⟨.bl (!o.isSome), H, I', rfl, q⟩
/-! ### comparisons -/
def mapCm : Cm → CmpOp
  | .eq => .Eq | .ne => .NotEq | .lt => .Lt | .le => .LtE | .gt => .Gt | .ge => .GtE | .is => .Is | .isn => .IsNot | .isin => .In | .notin => .NotIn
theorem mapCm_cm (o : CmpOp) : mapCm (cm o) = o := by cases o <;> rfl
def rIsB (neg : Bool) : R2 := fun x y H Q => ∃ i j, x = .bl i ∧ y = .bl j ∧ Q (.bl (if neg then !decide (i = j) else decide (i = j))) H
theorem op_isB : OpR X (compareOp .Is) (rIsB false) := by
  intro pins s σ H x y v u Q I rx ry h
  obtain ⟨i, j, rfl, rfl, q⟩ := h
  cases (show v = Value.bool i from rx)
  cases (show u = Value.bool j from ry)
  by_cases e : i = j
  · subst e
    exact wpAny_is_self rfl ⟨.bl true, H, I, rfl, by simpa using q⟩
  · exact wpAny_is_other rfl (fun z => e (Value.bool.inj z)) ⟨.bl false, H, I, rfl, by simpa [e] using q⟩
theorem op_isNotB : OpR X (compareOp .IsNot) (rIsB true) := by
  intro pins s σ H x y v u Q I rx ry h
  obtain ⟨i, j, rfl, rfl, q⟩ := h
  cases (show v = Value.bool i from rx)
  cases (show u = Value.bool j from ry)
  by_cases e : i = j
  · subst e
    exact wpAny_isNot_self rfl ⟨.bl false, H, I, rfl, by simpa using q⟩
  · exact wpAny_isNot_other rfl (fun z => e (Value.bool.inj z)) ⟨.bl true, H, I, rfl, by simpa [e] using q⟩
def rCmp (K : PySem.W.Frag) (o : Cm) : R2 := match o with
  | .eq => fun x y H Q => rEq x y H Q ∨ rEqD K x y H Q
  | .ne => fun x y H Q => rNe x y H Q ∨ rNeD K x y H Q
  | .lt => fun x y H Q => rI0 (fun i j => .bl (decide (i < j))) x y H Q ∨ rLtT K x y H Q
  | .le => rI0 fun i j => .bl (decide (i ≤ j))
  | .gt => rI0 fun i j => .bl (decide (j < i))
  | .ge => rI0 fun i j => .bl (decide (j ≤ i))
  | .is => fun x y H Q => (y = .non ∧ Q (.bl (decide (x = .non))) H) ∨ rIsB false x y H Q
  | .isn => fun x y H Q => (y = .non ∧ Q (.bl (!decide (x = .non))) H) ∨ rIsB true x y H Q
  | .isin => fun x y H Q => (rIn K false x y H Q ∨ rDIn false x y H Q) ∨ rInD K x y H Q
  | .notin => fun x y H Q => (rIn K true x y H Q ∨ rDIn true x y H Q) ∨ rNotInD K x y H Q
theorem opR_cmp (hu : X.A.units + 65 < cLine) (o : Cm) : OpR X (compareOp (mapCm o)) (rCmp X.K o) := by
  cases o
  · exact op_eq.or (op_eqD (by omega))
  · exact op_ne.or (op_neD (by omega))
  · exact op_lt.or (op_ltT (by omega))
  · exact op_le
  · exact op_gt
  · exact op_ge
  · exact op_isN.or op_isB
  · exact op_notN.or op_isNotB
  · exact (op_in_seq.or (op_dIn (by omega))).or (op_inD (by omega))
  · exact (op_notIn_seq.or (op_dNotIn (by omega))).or (op_notInD (by omega))
theorem flat_rep {d : D} {v : V} (r : Rep Z H d v) (h : flat d = true) : flatV v = true := by
  cases r <;> first | rfl | (simp [flat] at h)
theorem flats_rep : ∀ {d : List D} {v : List V}, Reps Z H d v → d.all flat = true → v.all flatV = true
  | _, _, .nil, _ => rfl
  | _, _, .cons a b, h => by
    rw [List.all_cons, Bool.and_eq_true] at h
    rw [List.all_cons, flat_rep a h.1, flats_rep b h.2]
    rfl
theorem deq_flat {a b : D} {va vb : V} (ra : Rep Z H a va) (rb : Rep Z H b vb) (ha : flat a = true) (hb : flat b = true) : deq a b = eqV va vb := by
  cases ra <;> first | (simp [flat] at ha; done) | skip
  all_goals (cases rb <;> first | (simp [flat] at hb; done) | (simp [deq, eqV]))
theorem any_flat : ∀ {xs : List D} {vs : List V} {a : D} {va : V}, Reps Z H xs vs → Rep Z H a va → xs.all flat = true → flat a = true → (xs.any fun y => deq y a) = inV va vs
  | _, _, _, _, .nil, _, _, _ => rfl
  | _, _, a, va, .cons h t, ra, hx, hf => by
    have h' := hx
    rw [List.all_cons, Bool.and_eq_true] at h'
    unfold inV
    rw [List.any_cons, List.any_cons, deq_flat h ra h'.1 hf, any_flat t ra h'.2 hf]
    rfl
theorem scal_ok {a b : D} {va vb : V} (ra : Rep Z H a va) (rb : Rep Z H b vb) (h : scalD a b = true) : scal va vb = true ∧ deq a b = decide (va = vb) := by
  cases ra <;> first | (simp [scalD] at h; done) | skip
  all_goals (cases rb <;> first | (simp [scalD] at h; done) | skip)
  all_goals (refine ⟨rfl, ?_⟩; simp only [deq]; first | (rw [dec_int]; done) | (rw [dec_bl]; done) | (rw [dec_str]; done) | (simp; done))
theorem ints_rep : ∀ {xs : List D} {vs : List V} {is : List Int}, Reps Z H xs vs → dints xs = some is → vs = is.map V.int
  | _, _, is, .nil, e => by simp [dints] at e; subst e; rfl
  | x :: xs, _, is, .cons a b, e => by
    cases x <;> simp [dints] at e
    obtain ⟨is', e1, rfl⟩ := e
    cases a
    rw [ints_rep b e1]
    rfl
theorem lexLt_eq : ∀ xs ys : List Int, lexLt xs ys = HT.lexLt xs ys
  | [], [] => rfl
  | [], _ :: _ => rfl
  | _ :: _, [] => rfl
  | x :: xs, y :: ys => by unfold lexLt HT.lexLt; rw [lexLt_eq xs ys]
theorem any_deep : ∀ (n m : Nat) (xs : List D) (a : D), dps n xs = true → dp m a = true → (xs.any fun y => deq y a) = (toPys xs).any fun z => PyData.eqv z (toPy a)
  | n, m, [], a, _, _ => rfl
  | n, m, x :: xs, a, h, ha => by
    have h' : dp n x = true ∧ dps n xs = true := by simpa [dps] using h
    simp only [toPys, List.any_cons]
    rw [deq_py n m x a h'.1 ha, any_deep n m xs a h'.2 ha]
theorem dps_shaped {xs : List D} (h : dps 59 xs = true) : SeqAt.shaped (.list (toPys xs)) = true := dp_shaped (d := .lst xs) (by simpa [dp] using h)
theorem rep_deepL (hK : X.K = Z.K) {a : Addr} {vs : List V} {xs : List D} (ha : H a = some (.lst vs)) (rs : Reps Z H xs vs) (h : dps 59 xs = true) : Dp X.K H (.ref a) (.list (toPys xs)) := by
  rw [hK]
  exact .lst (SqL.of ha) (Reps.dp 59 xs vs rs h)
theorem cmp_ok (hK : X.K = Z.K) {o : Cm} {da db : D} {k : Bool} {va vb : V} {Q : VK} (r : RelS Z c O σd σ H) (ra : RB Z H O da va) (rb : RB Z H O db vb) (e : cmpD o da db = some k) (q : Q (.bl k) H) : rCmp X.K o va vb H Q := by
  have qa := ra.rep
  have qb := rb.rep
  have eqC : ∀ {k' : Bool}, ceq da db = some k' → (scal va vb = true ∧ k' = decide (va = vb)) ∨ (∃ d e, Dp X.K H va d ∧ Dp X.K H vb e ∧ SeqAt.shaped d = true ∧ SeqAt.shaped e = true ∧ k' = PyData.eqv d e) := by
    intro k' e
    unfold ceq at e
    split at e
    · rename_i hc
      cases e
      by_cases hs : scalD da db = true
      · obtain ⟨s1, s2⟩ := scal_ok qa qb hs
        exact .inl ⟨s1, s2⟩
      · have hd : dp 60 da = true ∧ dp 60 db = true := by
          rcases Bool.or_eq_true_iff.mp hc with z | z
          · exact absurd z hs
          · exact Bool.and_eq_true_iff.mp z
        rw [hK]
        exact .inr ⟨_, _, Rep.dp 60 da va qa hd.1, Rep.dp 60 db vb qb hd.2, dp_shaped hd.1, dp_shaped hd.2, deq_py 60 60 da db hd.1 hd.2⟩
    · cases e
  have inC : ∀ {k' : Bool} {neg : Bool} {Q : VK}, cin da db = some k' → Q (.bl (if neg then !k' else k')) H → (rIn X.K neg va vb H Q ∨ rDIn neg va vb H Q) ∨ (if neg then rNotInD X.K va vb H Q else rInD X.K va vb H Q) := by
    intro k' neg Q e q
    unfold cin at e
    cases db with
    | tup xs =>
      obtain ⟨a, vs, rfl, ha, rs⟩ := rb.tup
      simp only at e
      split at e
      · rename_i hc
        cases e
        obtain ⟨c1, c2⟩ := Bool.and_eq_true_iff.mp hc
        have rs' := rs.le (hide_le H O)
        rw [hK]
        exact .inl (.inl ⟨a, vs, rfl, .inr ha, flat_rep qa c1, flats_rep rs' c2, by rw [any_flat rs' qa c2 c1] at q; exact q⟩)
      · cases e
    | lst xs =>
      obtain ⟨a, vs, rfl, ha, rs⟩ := rb.lst
      simp only at e
      by_cases hc : (if flat da then xs.all flat else dp 60 da && dps 59 xs) = true
      · rw [if_pos hc] at e
        cases e
        have rs' := rs.le (hide_le H O)
        by_cases hfl : (flat da && xs.all flat) = true
        · obtain ⟨c1, c2⟩ := Bool.and_eq_true_iff.mp hfl
          exact .inl (.inl ⟨a, vs, rfl, .inl (SqL.of ha), flat_rep qa c1, flats_rep rs' c2, by rw [any_flat rs' qa c2 c1] at q; exact q⟩)
        · obtain ⟨c1, c2⟩ : dp 60 da = true ∧ dps 59 xs = true := by
            cases hf : flat da with
            | true => rw [hf, if_pos rfl] at hc; rw [hf, hc] at hfl; exact absurd rfl hfl
            | false => rw [hf, if_neg Bool.false_ne_true] at hc; exact Bool.and_eq_true_iff.mp hc
          have d1 : Dp X.K H va (toPy da) := by rw [hK]; exact Rep.dp 60 da va qa c1
          have d2 := rep_deepL hK ha rs' c2
          rw [any_deep 59 60 xs da c2 c1] at q
          refine .inr ?_
          cases neg
          · exact ⟨_, _, d1, d2, dp_shaped c1, dps_shaped c2, q⟩
          · exact ⟨_, _, d1, d2, dp_shaped c1, dps_shaped c2, q⟩
      · rw [if_neg hc] at e; cases e
    | dic kvs =>
      obtain ⟨a, ks, rfl, ha, rs⟩ := rb.dic
      have hk : keyD da = true ∧ k' = (kvs.any fun q => deq q.1 da) := by
        cases da <;> simp at e <;> exact ⟨rfl, by rw [← e]⟩
      obtain ⟨p, hp, rfl⟩ := key_of_rep hk.1 qa
      have z := dget_val rs hp
      have hs : k' = (valV ks p).isSome := by
        rw [hk.2, dget_any]
        revert z
        cases dget kvs da with
        | none => intro z; simp only at z; rw [z]; rfl
        | some d => intro z; obtain ⟨v, e1, _⟩ := z; rw [e1]; rfl
      exact .inl (.inr ⟨a, _, rfl, DGet.k ha, by rw [← hs]; exact q⟩)
    | _ => simp at e
  cases o
  · rcases eqC e with ⟨h1, h2⟩ | ⟨d, e', h1, h2, h3, h4, h5⟩
    · exact .inl ⟨h1, by rw [← h2]; exact q⟩
    · exact .inr ⟨d, e', h1, h2, h3, h4, by rw [← h5]; exact q⟩
  · obtain ⟨k', e1, rfl⟩ := Option.map_eq_some_iff.mp (show (ceq da db).map (!·) = some k from e)
    rcases eqC e1 with ⟨h1, h2⟩ | ⟨d, e', h1, h2, h3, h4, h5⟩
    · exact .inl ⟨h1, by rw [← h2]; exact q⟩
    · exact .inr ⟨d, e', h1, h2, h3, h4, by rw [← h5]; exact q⟩
  · simp only [cmpD] at e
    split at e
    · cases e
      obtain rfl := ra.int
      obtain rfl := rb.int
      exact .inl ⟨_, _, rfl, rfl, q⟩
    · obtain ⟨a, vs, rfl, ha, rs⟩ := ra.tup
      obtain ⟨b, ws, rfl, hb, ss⟩ := rb.tup
      split at e
      · rename_i is js e1 e2
        cases e
        rw [ints_rep rs e1] at ha
        rw [ints_rep ss e2] at hb
        refine .inr ⟨a, b, is, js, rfl, rfl, by rw [hK]; exact ha, by rw [hK]; exact hb, ?_⟩
        rw [← lexLt_eq]; exact q
      · cases e
    · cases e
  · simp only [cmpD] at e
    split at e
    · cases e; obtain rfl := ra.int; obtain rfl := rb.int; exact ⟨_, _, rfl, rfl, q⟩
    · cases e
  · simp only [cmpD] at e
    split at e
    · cases e; obtain rfl := ra.int; obtain rfl := rb.int; exact ⟨_, _, rfl, rfl, q⟩
    · cases e
  · simp only [cmpD] at e
    split at e
    · cases e; obtain rfl := ra.int; obtain rfl := rb.int; exact ⟨_, _, rfl, rfl, q⟩
    · cases e
  · simp only [cmpD] at e
    split at e
    · obtain rfl := rb.non
      cases e
      refine .inl ⟨rfl, ?_⟩
      cases qa <;> exact q
    · obtain rfl := rb.bl
      split at e
      · obtain rfl := ra.bl
        cases e
        exact .inr ⟨_, _, rfl, rfl, q⟩
      · cases e
    · cases e
  · simp only [cmpD] at e
    split at e
    · obtain rfl := rb.non
      cases e
      refine .inl ⟨rfl, ?_⟩
      cases qa <;> exact q
    · obtain rfl := rb.bl
      split at e
      · obtain rfl := ra.bl
        cases e
        exact .inr ⟨_, _, rfl, rfl, q⟩
      · cases e
    · cases e
  · exact inC (neg := false) e q
  · obtain ⟨k', e1, rfl⟩ := Option.map_eq_some_iff.mp (show (cin da db).map (!·) = some k from e)
    exact inC (neg := true) e1 q
theorem cmp_bl {o : Cm} {a b : Expr} {ka kb : E} {l : Lv} {pos : Pos} (hK : X.K = Z.K) (hu : X.A.units + 65 < cLine) (hm : behindInMarks (mapCm o) b = false) (ha : Opd X Z c W l a ka) (hb : Opd X Z c W l b kb) :
    PE X (.Compare a [mapCm o] [b] pos) (TEe Z c W (tP Z) (ev (.cmp o ka kb) l)) :=
  (pe_cmpR (opR_cmp hu o) ha.kept hb.lent hm).weak fun σ H Q ⟨O, σd, h0, hg⟩ => by
    refine ⟨O, σd, h0, (Go.bind (r := BF.lent ka (ev ka l σd) σd) hg).imp fun da σ1 H1 _ r1 k1 g va tka => ⟨O, σ1, r1, (Go.bind (r := BF.lent kb (ev kb l σ1) σ1) g).imp fun db σ2 H2 _ r2 k2 g2 vb rb => ?_⟩⟩
    obtain ⟨x, ex, g3⟩ := g2.pure rr_ne
    obtain ⟨k, ek, g4⟩ := g3.opt
    exact cmp_ok hK r2 (rr_ok r2 ex (by have t := tK_keep r1 k2 tka; cases ka <;> exact t) ha.rvIn) rb ek (g4.done r2 (.bl k))
theorem cmp_tt {o : Cm} {a b : Expr} {ka kb : E} {l : Lv} {pos : Pos} (hK : X.K = Z.K) (hu : X.A.units + 65 < cLine) (hm : behindInMarks (mapCm o) b = false) (ha : Opd X Z c W l a ka) (hb : Opd X Z c W l b kb) :
    PT X (.Compare a [mapCm o] [b] pos) (TTe Z c W (fun σ => (ev (.cmp o ka kb) l σ).bind fun p => (R.ofO (tru p.1)).bind fun k => .ok (k, p.2))) :=
  (pt_cmpR (opR_cmp hu o) ha.kept hb.lent hm).weak fun σ H Q ⟨O, σd, h0, hg⟩ => by
    refine ⟨O, σd, h0, (Go.bind (r := BF.lent ka (ev ka l σd) σd) (Go.bind hg)).imp fun da σ1 H1 _ r1 k1 g va tka => ⟨O, σ1, r1, (Go.bind (r := BF.lent kb (ev kb l σ1) σ1) g).imp fun db σ2 H2 _ r2 k2 g2 vb rb => ?_⟩⟩
    obtain ⟨x, ex, g3⟩ := g2.pure rr_ne
    obtain ⟨k, ek, g4⟩ := g3.opt
    exact cmp_ok hK r2 (rr_ok r2 ex (by have t := tK_keep r1 k2 tka; cases ka <;> exact t) ha.rvIn) rb ek ⟨k, rfl, (g4.ok r2 KeepE.refl).ok r2 KeepE.refl⟩
end
end BF

/-! Snd5 -/
set_option Elab.async false
set_option linter.all false
set_option maxRecDepth 100000
set_option maxHeartbeats 2000000
namespace BF
open PySem L2

section
variable {Z : Wd} {c : Pl} {W : WX} {O : Addr → Prop} {σ : L2.St} {σd : Sd} {H H' : Hp} {X : Cx}
/-! ### truth -/
def testF (k : E) (l : Lv) : Sd → R (Bool × Sd) := fun σ => (BF.lent k (ev k l σ) σ).bind fun p => (R.ofO (tru p.1)).bind fun b => .ok (b, p.2)
theorem isEmpty_reps : ∀ {xs : List D} {vs : List V}, Reps Z H xs vs → (!xs.isEmpty) = !vs.isEmpty
  | _, _, .nil => rfl
  | _, _, .cons _ _ => rfl
theorem isEmpty_repK : ∀ {xs : List (D × D)} {vs : List (Key × V)}, RepK Z H xs vs → (!xs.isEmpty) = !vs.isEmpty
  | _, _, .nil => rfl
  | _, _, .cons _ _ _ => rfl
theorem tru_rb (hK : X.K = Z.K) {d : D} {v : V} {k : Bool} (r : RB Z H O d v) (e : tru d = some k) : TruV X.K v H k := by
  cases d with
  | non => obtain rfl := r.non; simp [tru] at e; subst e; rfl
  | bl b => obtain rfl := r.bl; simp [tru] at e; subst e; rfl
  | int i => obtain rfl := r.int; simp only [tru, Option.some.injEq] at e; subst e; rfl
  | str x =>
    obtain rfl := r.str
    simp only [tru] at e
    split at e
    · rename_i h
      cases e
      exact ⟨h, rfl⟩
    · cases e
  | tup xs =>
    obtain ⟨a, vs, rfl, ha, rs⟩ := r.tup
    simp only [tru, Option.some.injEq] at e
    subst e
    exact .inr (.inl ⟨vs, by rw [hK]; exact ha, isEmpty_reps rs⟩)
  | lst xs =>
    obtain ⟨a, vs, rfl, ha, rs⟩ := r.lst
    simp only [tru, Option.some.injEq] at e
    subst e
    exact .inl ⟨vs, SqL.of ha, isEmpty_reps rs⟩
  | dic xs =>
    obtain ⟨a, vs, rfl, ha, rs⟩ := r.dic
    simp only [tru, Option.some.injEq] at e
    subst e
    exact .inr (.inr ⟨vs, ha, isEmpty_repK rs⟩)
  | _ => simp [tru] at e
theorem tt_gen (hK : X.K = Z.K) {a : Expr} {k : E} {l : Lv} (ha : Opd X Z c W l a k) (he : ∀ whole, isTrue a X.env whole = (do let v ← whole; standAt a.pos; holding [v] (truthy v))) : PT X a (TTe Z c W (testF k l)) :=
  (pt_truth ha.lent he).weak fun σ H Q ⟨O, σd, h0, hg⟩ => ⟨O, σd, h0, (Go.bind (r := BF.lent k (ev k l σd) σd) hg).imp fun d σ1 H1 _ r1 k1 g v rv => by
    obtain ⟨b, eb, g2⟩ := g.opt
    exact ⟨b, tru_rb hK rv eb, g2.ok r1 KeepE.refl⟩⟩
theorem testF_not {k : E} {l : Lv} {σ : Sd} : testF (.not k) l σ = (testF k l σ).bind fun p => .ok (!p.1, p.2) := by
  unfold testF
  show (ev (.not k) l σ).bind _ = _
  show ((BF.lent k (ev k l σ) σ).bind fun p => (R.ofO (tru p.1)).bind fun b => R.ok (D.bl (!b), p.2)).bind _ = _
  cases BF.lent k (ev k l σ) σ with
  | ok q =>
    show ((R.ofO (tru q.1)).bind fun b => R.ok (D.bl (!b), q.2)).bind _ = ((R.ofO (tru q.1)).bind fun b => R.ok (b, q.2)).bind _
    cases R.ofO (tru q.1) <;> rfl
  | exc _ => rfl
  | bad => rfl
theorem tt_not {a : Expr} {k : E} {l : Lv} {pos : Pos} (h : PT X a (TTe Z c W (testF k l))) : PT X (.UnaryOp .Not a pos) (TTe Z c W (testF (.not k) l)) :=
  (pt_not h).weak fun σ H Q ⟨O, σd, h0, hg⟩ => by
    rw [testF_not] at hg
    exact ⟨O, σd, h0, (Go.bind hg).imp fun b σ1 H1 _ r1 k1 g => g.ok r1 KeepE.refl⟩
theorem pe_of_not {a : Expr} {k : E} {l : Lv} {pos : Pos} (hK : X.K = Z.K) (ha : Opd X Z c W l a k) : PE X (.UnaryOp .Not a pos) (TEe Z c W (tP Z) (ev (.not k) l)) :=
  (pe_notT ha.lent).weak fun σ H Q ⟨O, σd, h0, hg⟩ => ⟨O, σd, h0, (Go.bind (r := BF.lent k (ev k l σd) σd) hg).imp fun d σ1 H1 _ r1 k1 g v rv => by
    obtain ⟨b, eb, g2⟩ := g.opt
    exact ⟨b, tru_rb hK rv eb, g2.done r1 (.bl _)⟩⟩
theorem pe_of_neg {a : Expr} {k : E} {l : Lv} {pos : Pos} (h : PE X a (TEe Z c W (tP Z) (ev k l))) : PE X (.UnaryOp .USub a pos) (TEe Z c W (tP Z) (ev (.neg k) l)) :=
  (pe_un un_neg h).weak fun σ H Q ⟨O, σd, h0, hg⟩ => ⟨O, σd, h0, (Go.bind (r := ev k l σd) hg).imp fun d σ1 H1 _ r1 k1 g v rv => by
    cases d with
    | int i => cases rv; exact ⟨i, rfl, g.done r1 (.int _)⟩
    | _ => exact g.elim⟩
/-! ### and, or, if else -/
theorem pe_of_and {a b : Expr} {ka kb : E} {l : Lv} {pos : Pos} {rest : List Expr} (hK : X.K = Z.K) (ha : PE X a (TEe Z c W (tP Z) (ev ka l))) (hb : PE X (.BoolOp .And (b :: rest) pos) (TEe Z c W (tP Z) (ev kb l))) :
    PE X (.BoolOp .And (a :: b :: rest) pos) (TEe Z c W (tP Z) (ev (.and ka kb) l)) :=
  (pe_andT ha hb).weak fun σ H Q ⟨O, σd, h0, hg⟩ => ⟨O, σd, h0, (Go.bind (r := ev ka l σd) hg).imp fun d σ1 H1 _ r1 k1 g v rv => by
    obtain ⟨k, ek, g2⟩ := g.opt
    refine ⟨k, tru_rb (O := O) hK (.inl rv) ek, ?_⟩
    cases k with
    | true => exact ⟨O, σ1, r1, g2⟩
    | false => exact Go.done (show Go Z c W (.ok (d, σ1)) O σ H1 _ from g2) r1 rv⟩
theorem pe_of_or {a b : Expr} {ka kb : E} {l : Lv} {pos : Pos} {rest : List Expr} (hK : X.K = Z.K) (ha : PE X a (TEe Z c W (tP Z) (ev ka l))) (hb : PE X (.BoolOp .Or (b :: rest) pos) (TEe Z c W (tP Z) (ev kb l))) :
    PE X (.BoolOp .Or (a :: b :: rest) pos) (TEe Z c W (tP Z) (ev (.or ka kb) l)) :=
  (pe_orT ha hb).weak fun σ H Q ⟨O, σd, h0, hg⟩ => ⟨O, σd, h0, (Go.bind (r := ev ka l σd) hg).imp fun d σ1 H1 _ r1 k1 g v rv => by
    obtain ⟨k, ek, g2⟩ := g.opt
    refine ⟨k, tru_rb (O := O) hK (.inl rv) ek, ?_⟩
    cases k with
    | true => exact Go.done (show Go Z c W (.ok (d, σ1)) O σ H1 _ from g2) r1 rv
    | false => exact ⟨O, σ1, r1, g2⟩⟩
theorem testF_and {a b : E} {l : Lv} {σ : Sd} (h : isRv a = false) (h' : isRv b = false) : testF (.and a b) l σ = (testF a l σ).bind fun p => if p.1 = true then testF b l p.2 else .ok (false, p.2) := by
  have e1 : ∀ τ, BF.lent a (ev a l τ) τ = ev a l τ := fun τ => by cases a <;> first | rfl | (simp [isRv] at h)
  have e2 : ∀ τ, BF.lent b (ev b l τ) τ = ev b l τ := fun τ => by cases b <;> first | rfl | (simp [isRv] at h')
  have e3 : BF.lent (.and a b) (ev (.and a b) l σ) σ = (ev a l σ).bind fun p => (R.ofO (tru p.1)).bind fun k => if k = true then ev b l p.2 else .ok p := rfl
  unfold testF
  rw [e3, e1]
  cases ev a l σ with
  | ok q =>
    show ((R.ofO (tru q.1)).bind fun k => if k = true then ev b l q.2 else R.ok q).bind _ = ((R.ofO (tru q.1)).bind fun b => R.ok (b, q.2)).bind _
    cases ht : tru q.1 with
    | none => rfl
    | some k =>
      cases k with
      | true => show (ev b l q.2).bind _ = (BF.lent b (ev b l q.2) q.2).bind _; rw [e2]
      | false => show ((R.ofO (tru q.1)).bind fun b => R.ok (b, q.2)) = _; rw [ht]; rfl
  | exc _ => rfl
  | bad => rfl
theorem testF_or {a b : E} {l : Lv} {σ : Sd} (h : isRv a = false) (h' : isRv b = false) : testF (.or a b) l σ = (testF a l σ).bind fun p => if p.1 = true then .ok (true, p.2) else testF b l p.2 := by
  have e1 : ∀ τ, BF.lent a (ev a l τ) τ = ev a l τ := fun τ => by cases a <;> first | rfl | (simp [isRv] at h)
  have e2 : ∀ τ, BF.lent b (ev b l τ) τ = ev b l τ := fun τ => by cases b <;> first | rfl | (simp [isRv] at h')
  have e3 : BF.lent (.or a b) (ev (.or a b) l σ) σ = (ev a l σ).bind fun p => (R.ofO (tru p.1)).bind fun k => if k = true then .ok p else ev b l p.2 := rfl
  unfold testF
  rw [e3, e1]
  cases ev a l σ with
  | ok q =>
    show ((R.ofO (tru q.1)).bind fun k => if k = true then R.ok q else ev b l q.2).bind _ = ((R.ofO (tru q.1)).bind fun b => R.ok (b, q.2)).bind _
    cases ht : tru q.1 with
    | none => rfl
    | some k =>
      cases k with
      | true => show ((R.ofO (tru q.1)).bind fun b => R.ok (b, q.2)) = _; rw [ht]; rfl
      | false => show (ev b l q.2).bind _ = (BF.lent b (ev b l q.2) q.2).bind _; rw [e2]
  | exc _ => rfl
  | bad => rfl
/-- a restricted name in an and, or an or, is bad -/
theorem Go.and_rv {a b : E} {l : Lv} {K : Bool → Sd → Hp → Prop} (h : Go Z c W (testF (.and a b) l σd) O σ H K) : isRv a = false := by
  cases a <;> first | rfl | exact h.elim
theorem Go.or_rv {a b : E} {l : Lv} {K : Bool → Sd → Hp → Prop} (h : Go Z c W (testF (.or a b) l σd) O σ H K) : isRv a = false := by
  cases a <;> first | rfl | exact h.elim
end
end BF

/-! Snd6 -/
set_option Elab.async false
set_option linter.all false
set_option maxRecDepth 100000
set_option maxHeartbeats 2000000
namespace BF
open PySem L2

section
variable {Z : Wd} {c : Pl} {W : WX} {O : Addr → Prop} {σ : L2.St} {σd : Sd} {H H' : Hp} {X : Cx}
theorem Go.and {a b : E} {l : Lv} {K : Bool → Sd → Hp → Prop} (h : Go Z c W (testF (.and a b) l σd) O σ H K) : Go Z c W ((testF a l σd).bind fun p => if p.1 = true then testF b l p.2 else .ok (false, p.2)) O σ H K := by
  have ha := h.and_rv
  cases hb : isRv b with
  | false => rw [testF_and ha hb] at h; exact h
  | true =>
    have e1 : ∀ τ, BF.lent a (ev a l τ) τ = ev a l τ := fun τ => by cases a <;> first | rfl | (simp [isRv] at ha)
    have e3 : BF.lent (.and a b) (ev (.and a b) l σd) σd = (ev a l σd).bind fun p => (R.ofO (tru p.1)).bind fun k => if k = true then ev b l p.2 else .ok p := rfl
    have e4 : ∀ τ, ev b l τ = .bad := fun τ => by cases b <;> first | rfl | (simp [isRv] at hb)
    unfold testF at h ⊢
    rw [e3] at h
    rw [e1]
    revert h
    cases ev a l σd with
    | ok q =>
      intro h
      have h : Go Z c W (((R.ofO (tru q.1)).bind fun k => if k = true then ev b l q.2 else R.ok q).bind fun p => (R.ofO (tru p.1)).bind fun b => R.ok (b, p.2)) O σ H K := h
      show Go Z c W (((R.ofO (tru q.1)).bind fun b => R.ok (b, q.2)).bind _) O σ H K
      revert h
      cases ht : tru q.1 with
      | none => intro h; exact h
      | some k =>
        cases k with
        | true =>
          intro h
          have h : Go Z c W ((ev b l q.2).bind fun p => (R.ofO (tru p.1)).bind fun b => R.ok (b, p.2)) O σ H K := h
          rw [e4] at h
          exact h.elim
        | false =>
          intro h
          have h : Go Z c W ((R.ofO (tru q.1)).bind fun b => R.ok (b, q.2)) O σ H K := h
          rw [ht] at h
          exact h
    | exc _ => intro h; exact h
    | bad => intro h; exact h
theorem Go.or {a b : E} {l : Lv} {K : Bool → Sd → Hp → Prop} (h : Go Z c W (testF (.or a b) l σd) O σ H K) : Go Z c W ((testF a l σd).bind fun p => if p.1 = true then .ok (true, p.2) else testF b l p.2) O σ H K := by
  have ha := h.or_rv
  cases hb : isRv b with
  | false => rw [testF_or ha hb] at h; exact h
  | true =>
    have e1 : ∀ τ, BF.lent a (ev a l τ) τ = ev a l τ := fun τ => by cases a <;> first | rfl | (simp [isRv] at ha)
    have e3 : BF.lent (.or a b) (ev (.or a b) l σd) σd = (ev a l σd).bind fun p => (R.ofO (tru p.1)).bind fun k => if k = true then .ok p else ev b l p.2 := rfl
    have e4 : ∀ τ, ev b l τ = .bad := fun τ => by cases b <;> first | rfl | (simp [isRv] at hb)
    unfold testF at h ⊢
    rw [e3] at h
    rw [e1]
    revert h
    cases ev a l σd with
    | ok q =>
      intro h
      have h : Go Z c W (((R.ofO (tru q.1)).bind fun k => if k = true then R.ok q else ev b l q.2).bind fun p => (R.ofO (tru p.1)).bind fun b => R.ok (b, p.2)) O σ H K := h
      show Go Z c W (((R.ofO (tru q.1)).bind fun b => R.ok (b, q.2)).bind _) O σ H K
      revert h
      cases ht : tru q.1 with
      | none => intro h; exact h
      | some k =>
        cases k with
        | false =>
          intro h
          have h : Go Z c W ((ev b l q.2).bind fun p => (R.ofO (tru p.1)).bind fun b => R.ok (b, p.2)) O σ H K := h
          rw [e4] at h
          exact h.elim
        | true =>
          intro h
          have h : Go Z c W ((R.ofO (tru q.1)).bind fun b => R.ok (b, q.2)) O σ H K := h
          rw [ht] at h
          exact h
    | exc _ => intro h; exact h
    | bad => intro h; exact h
theorem pw_of_and {a b : Expr} {ka kb : E} {l : Lv} {pos : Pos} {rest : List Expr} (ha : PT X a (TTe Z c W (testF ka l))) (hb : PW X (.BoolOp .And (b :: rest) pos) (TTe Z c W (testF kb l))) :
    PW X (.BoolOp .And (a :: b :: rest) pos) (TTe Z c W (testF (.and ka kb) l)) :=
  ⟨fun whole pins s σ H Q I ⟨O, σd, h0, hg⟩ => (pw_and ha hb).run whole pins s σ H Q I ⟨O, σd, h0, (Go.bind (r := testF ka l σd) hg.and).imp fun k σ1 H1 _ r1 k1 g => by
    cases k with
    | true => exact ⟨O, σ1, r1, g⟩
    | false => exact Go.ok (show Go Z c W (.ok (false, σ1)) O σ H1 _ from g) r1 KeepE.refl⟩⟩
theorem pw_of_or {a b : Expr} {ka kb : E} {l : Lv} {pos : Pos} {rest : List Expr} (ha : PT X a (TTe Z c W (testF ka l))) (hb : PW X (.BoolOp .Or (b :: rest) pos) (TTe Z c W (testF kb l))) :
    PW X (.BoolOp .Or (a :: b :: rest) pos) (TTe Z c W (testF (.or ka kb) l)) :=
  ⟨fun whole pins s σ H Q I ⟨O, σd, h0, hg⟩ => (pw_or ha hb).run whole pins s σ H Q I ⟨O, σd, h0, (Go.bind (r := testF ka l σd) hg.or).imp fun k σ1 H1 _ r1 k1 g => by
    cases k with
    | false => exact ⟨O, σ1, r1, g⟩
    | true => exact Go.ok (show Go Z c W (.ok (true, σ1)) O σ H1 _ from g) r1 KeepE.refl⟩⟩
theorem pe_of_ite {t a b : Expr} {kt ka kb : E} {l : Lv} {pos : Pos} (ht : PT X t (TTe Z c W (testF kt l))) (ha : PE X a (TEe Z c W (tP Z) (ev ka l))) (hb : PE X b (TEe Z c W (tP Z) (ev kb l))) :
    PE X (.IfExp t a b pos) (TEe Z c W (tP Z) (ev (.ite kt ka kb) l)) :=
  (pe_ifExp ht ha hb).weak fun σ H Q ⟨O, σd, h0, hg⟩ => by
    have e : ev (.ite kt ka kb) l σd = (testF kt l σd).bind fun p => if p.1 = true then ev ka l p.2 else ev kb l p.2 := by
      show (BF.lent kt (ev kt l σd) σd).bind _ = _
      unfold testF
      cases BF.lent kt (ev kt l σd) σd with
      | ok q => show ((R.ofO (tru q.1)).bind fun k => if k = true then ev ka l q.2 else ev kb l q.2) = ((R.ofO (tru q.1)).bind fun b => R.ok (b, q.2)).bind _; cases tru q.1 <;> rfl
      | exc _ => rfl
      | bad => rfl
    rw [e] at hg
    refine ⟨O, σd, h0, (Go.bind hg).imp fun k σ1 H1 _ r1 k1 g => ?_⟩
    cases k with
    | true => exact ⟨O, σ1, r1, g⟩
    | false => exact ⟨O, σ1, r1, g⟩
theorem testF_ite {t a b : E} {l : Lv} {σ : Sd} : testF (.ite t a b) l σ = (testF t l σ).bind fun p => if p.1 = true then (ev a l p.2).bind fun q => (R.ofO (tru q.1)).bind fun k => .ok (k, q.2) else (ev b l p.2).bind fun q => (R.ofO (tru q.1)).bind fun k => .ok (k, q.2) := by
  unfold testF
  show ((BF.lent t (ev t l σ) σ).bind fun p => (R.ofO (tru p.1)).bind fun k => if k = true then ev a l p.2 else ev b l p.2).bind _ = _
  cases BF.lent t (ev t l σ) σ with
  | ok q =>
    show ((R.ofO (tru q.1)).bind fun k => if k = true then ev a l q.2 else ev b l q.2).bind _ = ((R.ofO (tru q.1)).bind fun b => R.ok (b, q.2)).bind _
    cases tru q.1 with
    | none => rfl
    | some k => cases k <;> rfl
  | exc _ => rfl
  | bad => rfl
theorem Go.lentOf {k : E} {l : Lv} {K : Bool → Sd → Hp → Prop} (h : Go Z c W ((ev k l σd).bind fun q => (R.ofO (tru q.1)).bind fun k => .ok (k, q.2)) O σ H K) : Go Z c W (testF k l σd) O σ H K := by
  cases hk : isRv k with
  | false =>
    have e : BF.lent k (ev k l σd) σd = ev k l σd := by cases k <;> first | rfl | (simp [isRv] at hk)
    unfold testF
    rw [e]
    exact h
  | true => cases k <;> first | exact h.elim | (simp [isRv] at hk)
theorem tt_ite {t a b : Expr} {kt ka kb : E} {l : Lv} {pos : Pos} (ht : PT X t (TTe Z c W (testF kt l))) (ha : PT X a (TTe Z c W (testF ka l))) (hb : PT X b (TTe Z c W (testF kb l))) :
    PT X (.IfExp t a b pos) (TTe Z c W (testF (.ite kt ka kb) l)) :=
  ⟨fun pins s σ H Q I ⟨O, σd, h0, hg⟩ => PyProof.Rows.isTrue_IfExp (by
    rw [testF_ite] at hg
    refine thn (ht.run pins s σ H (fun k H1 => if k = true then TTe Z c W (testF ka l) σ H1 Q else TTe Z c W (testF kb l) σ H1 Q) I ⟨O, σd, h0, (Go.bind hg).imp fun k σ1 H1 _ r1 k1 g => ?_⟩) fun k s1 ⟨H1, I1, q1⟩ => ?_
    · cases k with
      | true => exact ⟨O, σ1, r1, Go.lentOf g⟩
      | false => exact ⟨O, σ1, r1, Go.lentOf g⟩
    · cases k with
      | true => exact ha.run pins s1 σ H1 Q I1 q1
      | false => exact hb.run pins s1 σ H1 Q I1 q1)⟩
/-! ### items -/
theorem sub_any {prog : Program} {w : World} {A : Around} {E : Value → Shared → Prop} {s : Shared} {value slice : Expr} {o i : Value} {T id : String} {Q : Value → Shared → Prop} (hT : s.TypeIs o T)
    (hl : typeLookup (.type T) "__getitem__" = pure (some (.builtin id))) (hs : subscripted slice false o i = operate [o, i] (getItem o i)) (h : wpAny (model prog w) A (getItem o i) Q E s) : wpAny (model prog w) A (PyProof.Rows.subscriptTail value slice o i) Q E s := by
  unfold PyProof.Rows.subscriptTail
  refine wpAny_bind ?_
  rw [PySem.getitemInPython_of_ne hT.not_modules]
  refine wpAny_bind (wpAny_specialOf hT hl ?_)
  have last : wpAny (model prog w) A (subscripted slice false o i) (fun r t => wpAny (model prog w) A (letTemporaryGo value o r >>= fun _ => pure r) Q E t) E s := by
    rw [hs]
    exact wpAny_operating (wpAny_mono h (fun r t q => wpAny_bind (wpAny_letTemporaryGo (wpAny_pure q))) fun _ _ q => q)
  first
    | exact wpAny_pure (wpAny_bind last)
    | exact wpAny_bind (wpAny_pure (wpAny_bind last))
    | exact wpAny_bind last
def rIxD : R2 := fun x y H Q => ∃ a v, x = .ref a ∧ DGet H a y (some v) ∧ Q v H
theorem ix_dict (hu : X.A.units + 1 < cLine) : IxR X rIxD := by
  intro value slice pins s σ H x y v u Q I rx ry h hs
  obtain ⟨a, z, rfl, g, q⟩ := h
  obtain rfl : v = Value.ref a := rx
  exact sub_any (dict_typeIs I g) PySem.F.slot_dict_getitem.lookup hs (d_getItem hu I g ry fun w' s' I' rw' => ⟨z, H, I', rw', q⟩)
def rSub (K : PySem.W.Frag) : R2 := fun x y H Q => ((rIxL K x y H Q ∨ rIxT K x y H Q) ∨ rIxD x y H Q) ∨ rIxS x y H Q
theorem ix_all (hu : X.A.units + 1 < cLine) : IxR X (rSub X.K) := ((ix_list.or ix_tup).or (ix_dict hu)).or ix_str
theorem ixn_eq (n : Nat) (i : Int) : ixn n i = ixN n i := rfl
theorem atI_rep {xs : List D} {vs : List V} {i : Int} {d : D} (r : Reps Z H xs vs) (e : ((ixn xs.length i).bind fun j => xs[j]?) = some d) : ∃ v, atI vs i = some v ∧ Rep Z H d v := by
  unfold atI
  rw [← r.length]
  obtain ⟨j, e1, e2⟩ := Option.bind_eq_some_iff.mp e
  obtain ⟨v, h1, h2⟩ := r.get e2
  exact ⟨v, Option.bind_eq_some_iff.mpr ⟨j, e1, h1⟩, h2⟩
theorem subD_ok (hK : X.K = Z.K) {da db d : D} {va vb : V} {Q : VK} (r : RelS Z c O σd σ H) (ra : RB Z H O da va) (rb : Rep Z (hide H O) db vb) (e : subD da db = some d) (q : ∀ v, Rep Z (hide H O) d v → Q v H) : rSub X.K va vb H Q := by
  unfold subD at e
  cases da with
  | tup xs =>
    obtain ⟨a, vs, rfl, ha, rs⟩ := ra.tup
    cases db with
    | int i =>
      cases rb
      obtain ⟨v, h1, h2⟩ := atI_rep rs e
      exact .inl (.inl (.inr ⟨a, vs, i, v, rfl, rfl, by rw [hK]; exact ha, h1, q v h2⟩))
    | _ => simp at e
  | lst xs =>
    obtain ⟨a, vs, rfl, ha, rs⟩ := ra.lst
    cases db with
    | int i =>
      cases rb
      obtain ⟨v, h1, h2⟩ := atI_rep rs e
      exact .inl (.inl (.inl ⟨a, vs, i, v, rfl, rfl, SqL.of ha, h1, q v h2⟩))
    | _ => simp at e
  | dic kvs =>
    obtain ⟨a, ks, rfl, ha, rs⟩ := ra.dic
    simp only at e
    split at e
    · rename_i hk
      obtain ⟨p, hp, rfl⟩ := key_of_rep hk rb
      have z := dget_val rs hp
      rw [e] at z
      obtain ⟨v, h1, h2⟩ := z
      exact .inl (.inr ⟨a, v, rfl, by rw [← h1]; exact DGet.k ha, q v h2⟩)
    · cases e
  | str x =>
    obtain rfl := ra.str
    cases db with
    | int i =>
      cases rb
      simp only at e
      split at e
      · rename_i hl
        obtain ⟨j, e1, e2⟩ := Option.bind_eq_some_iff.mp e
        obtain ⟨cc, e3, rfl⟩ := Option.map_eq_some_iff.mp e2
        exact .inr ⟨x, i, cc, rfl, rfl, hl, Option.bind_eq_some_iff.mpr ⟨j, e1, e3⟩, q _ (.str _)⟩
      · cases e
    | _ => simp at e
  | _ => simp at e
theorem plainIx_of {b : Expr} (h : notSl b = true) : PlainIx b := by
  intro o i
  cases b <;> first | rfl | (simp [notSl] at h)
theorem pe_of_sub (hK : X.K = Z.K) (hu : X.A.units + 65 < cLine) {a b : Expr} {ka kb : E} {l : Lv} {pos : Pos} (hs : notSl b = true) (ha : Opd X Z c W l a ka) (hb : PE X b (TEe Z c W (tP Z) (ev kb l))) :
    PE X (.Subscript a b pos) (TEe Z c W (tP Z) (ev (.sub ka kb) l)) :=
  (pe_ix (ix_all (by omega)) ha.kept hb (plainIx_of hs)).weak fun σ H Q ⟨O, σd, h0, hg⟩ => by
    refine ⟨O, σd, h0, (Go.bind (r := BF.lent ka (ev ka l σd) σd) hg).imp fun da σ1 H1 _ r1 k1 g va tka => ⟨O, σ1, r1, (Go.bind (r := ev kb l σ1) g).imp fun db σ2 H2 _ r2 k2 g2 vb rb => ?_⟩⟩
    obtain ⟨x, ex, g3⟩ := g2.pure rr_ne
    obtain ⟨d, ed, g4⟩ := g3.opt
    exact subD_ok hK r2 (rr_ok r2 ex (by have t := tK_keep r1 k2 tka; cases ka <;> exact t) ha.rvIn) rb ed fun v rv => g4.done r2 rv
/-! ### slices -/
def TOe (Z : Wd) (c : Pl) (W : WX) (f : Sd → R (Option Int × Sd)) : TO := fun σ H Q => ∃ O σd, RelS Z c O σd σ H ∧ Go Z c W (f σd) O σ H fun o _ H' => Q o H'
theorem po_of_none {l : Lv} : PO X none (TOe Z c W (evo .none l)) := ⟨fun pins s σ H Q I ⟨O, σd, h0, hg⟩ => po_none.run pins s σ H Q I (hg.ok h0 KeepE.refl)⟩
theorem po_of_some {e : Expr} {k : E} {l : Lv} (h : PE X e (TEe Z c W (tP Z) (ev k l))) : PO X (some e) (TOe Z c W (evo (.some k) l)) :=
  ⟨fun pins s σ H Q I ⟨O, σd, h0, hg⟩ => (po_some h).run pins s σ H Q I ⟨O, σd, h0, (Go.bind (r := ev k l σd) hg).imp fun d σ1 H1 _ r1 k1 g v rv => by
    cases d with
    | int i => cases rv; exact ⟨i, rfl, g.ok r1 KeepE.refl⟩
    | _ => exact g.elim⟩⟩
theorem six_eq (n d : Nat) (o : Option Int) : six n d o = HT.sIx n d o := by cases o <;> rfl
theorem cut_reps {xs : List D} {vs : List V} (r : Reps Z H xs vs) (lo hi : Option Int) : Reps Z H (cut xs lo hi) (cutV vs lo hi) := by
  unfold cut cutV
  rw [six_eq, six_eq, r.length]
  exact (r.drop _).take _
def rSlc (K : PySem.W.Frag) : V → Option Int → Option Int → Hp → VK → Prop := fun x lo hi H Q => rSlL K x lo hi H Q ∨ rSlA K x lo hi H Q
theorem cut_whole {vs : List V} {lo hi : Option Int} (h : HT.sIx vs.length 0 lo = 0 ∧ HT.sIx vs.length vs.length hi = vs.length) : cutV vs lo hi = vs := by
  unfold cutV
  rw [h.1, h.2]
  simp
theorem pe_of_sl (hK : X.K = Z.K) {a : Expr} {lo hi : Option Expr} {ka : E} {klo khi : Eo} {l : Lv} {p2 pos : Pos} (ha : Opd X Z c W l a ka) (h1 : PO X lo (TOe Z c W (evo klo l))) (h2 : PO X hi (TOe Z c W (evo khi l))) :
    PE X (.Subscript a (.Slice lo hi none p2) pos) (TFe Z c W (ev (.sl ka klo khi) l)) :=
  (pe_slice (r := rSlc X.K) (sl_list.or sl_tupA) ha.kept h1 h2).weak fun σ H Q ⟨O, σd, h0, hg⟩ => by
    refine ⟨O, σd, h0, (Go.bind (r := BF.lent ka (ev ka l σd) σd) hg).imp fun da σ1 H1 _ r1 k1 g va tka => ⟨O, σ1, r1, (Go.bind (r := evo klo l σ1) g).imp fun o1 σ2 H2 _ r2 k2 g2 => ⟨O, σ2, r2, (Go.bind (r := evo khi l σ2) g2).imp fun o2 σ3 H3 _ r3 k3 g3 => ?_⟩⟩⟩
    obtain ⟨x, ex, g4⟩ := g3.pure rr_ne
    have rx : RB Z H3 O x va := rr_ok r3 ex (by have t := tK_keep r2 k3 (tK_keep r1 k2 tka); cases ka <;> exact t) ha.rvIn
    cases x with
    | tup xs =>
      obtain ⟨a, vs, rfl, hv, rs⟩ := rx.tup
      refine .inr ⟨a, vs, rfl, by rw [hK]; exact hv, fun hw => ?_, fun _ => ?_⟩
      · have z : cut xs o1 o2 = xs := by
          unfold cut
          rw [six_eq, six_eq, rs.length, hw.1, hw.2]
          simp [← rs.length]
        have g5 : RetF Z c W O σ H σ3 H3 (.tup xs) Q := by
          have g6 : RetF Z c W O σ H σ3 H3 (.tup (cut xs o1 o2)) Q := g4
          rw [z] at g6
          exact g6
        refine RetF.done g5 r3 rfl ?_
        rcases rx with q | ⟨_, _, _, q⟩
        · exact q
        · exact q.elim
      · exact RetF.newT g4 r3 (cut_reps rs o1 o2)
    | lst xs =>
      obtain ⟨a, vs, rfl, hv, rs⟩ := rx.lst
      exact .inl ⟨a, vs, rfl, SqL.of hv, RetF.newL g4 r3 (fun p hp => h0.back r3 ((k1.trans k2).trans k3) hp) (cut_reps rs o1 o2)⟩
    | _ => exact g4.elim
end
end BF

/-! RevX -/
set_option Elab.async false
set_option linter.all false
set_option maxRecDepth 100000
set_option maxHeartbeats 2000000
/-! x[::-1] of a tuple, of a list -/
namespace BF
open PySem PySem.Spec PyProof.Rows L2 HT

theorem fm_congr {α β : Type} {f g : α → Option β} : ∀ {l : List α}, (∀ m ∈ l, f m = g m) → l.filterMap f = l.filterMap g
  | [], _ => rfl
  | x :: l, h => by
    rw [List.filterMap_cons, List.filterMap_cons, h x List.mem_cons_self, fm_congr fun m hm => h m (List.mem_cons_of_mem _ hm)]
section
variable {prog : Program} {w : World} {A : Around} {E : Value → Shared → Prop} {s : Shared}
theorem adjust_rev (n : Nat) : Builtin.Slice.sliceAdjust none none (-1) (n : Int) = ((n : Int) - 1, -1) := rfl
theorem places_rev (n : Nat) : Builtin.Slice.slicePlaces ((n : Int) - 1) (-1) (-1) = n := by
  unfold Builtin.Slice.slicePlaces
  rw [if_neg (by decide)]
  by_cases h : (n : Int) - 1 > -1
  · rw [if_pos h, show (-(-1) : Int) = 1 by decide, Int.ediv_one]
    omega
  · rw [if_neg h]
    omega
theorem sliceApplied_rev {sl : Addr} {vk : Value} {n : Nat} {Q : Int × Int × Nat → Shared → Prop} (hs : s.heap.IsSliceOf sl .none .none vk) (pk : IsPart vk (some (-1)))
    (h : Q ((n : Int) - 1, -1, n) s) : wpAny (model prog w) A (Builtin.Slice.sliceApplied (.ref sl) (pure (n : Int))) Q E s := by
  obtain ⟨os, hos, hcs, hds⟩ := id hs
  unfold Builtin.Slice.sliceApplied Builtin.Slice.sliceFields
  refine wpAny_bind (wpAny_bind (wpAny_field hos hds (x := .none) rfl (wpAny_bind (wpAny_field hos hds (x := .none) rfl (wpAny_bind (wpAny_field hos hds (x := vk) rfl (wpAny_pure ?_)))))))
  refine wpAny_bind (slicePart_ pk ?_)
  show wpAny _ _ (if ((-1 : Int) == 0) = true then _ else _) _ _ s
  rw [if_neg (by decide)]
  refine wpAny_bind (slicePart_none (wpAny_bind (slicePart_none (wpAny_bind (wpAny_pure ?_)))))
  show wpAny _ _ (match Builtin.Slice.sliceAdjust none none (-1) (n : Int) with | (lo, hi) => pure (lo, (-1 : Int), Builtin.Slice.slicePlaces lo hi (-1))) _ _ s
  rw [adjust_rev n]
  show wpAny _ _ (pure ((n : Int) - 1, (-1 : Int), Builtin.Slice.slicePlaces ((n : Int) - 1) (-1) (-1))) _ _ s
  rw [places_rev]
  exact wpAny_pure h
theorem pick_rev (xs : Array Value) : ((List.range xs.size).filterMap fun (m : Nat) => xs[(((xs.size : Int) - 1) + (m : Int) * (-1)).toNat]?).toArray = xs.toList.reverse.toArray := by
  congr 1
  have e : ((List.range xs.size).filterMap fun (m : Nat) => xs[(((xs.size : Int) - 1) + (m : Int) * (-1)).toNat]?) = ((List.range xs.size).map fun k => xs.size - 1 - k).filterMap (xs[·]?) := by
    rw [List.filterMap_map]
    apply fm_congr
    intro m hm
    have := List.mem_range.mp hm
    show xs[(((xs.size : Int) - 1) + (m : Int) * (-1)).toNat]? = xs[xs.size - 1 - m]?
    congr 1
    omega
  rw [e]
  have e2 : (List.range xs.size).map (fun k => xs.size - 1 - k) = (List.range xs.size).reverse := by
    apply List.ext_getElem
    · simp
    · intro i h1 h2
      first
      | (simp; done)
      | (rw [List.getElem_map, List.getElem_reverse]; simp)
  rw [e2, List.filterMap_reverse]
  congr 1
  have h := pick_run xs 0 xs.size
  have e3 : (List.range xs.size).map (0 + ·) = List.range xs.size := by
    rw [show ((0 + ·) : Nat → Nat) = id from funext fun k => Nat.zero_add k, List.map_id]
  rw [e3, List.drop_zero, List.take_of_length_le (by rw [Array.length_toList]; exact Nat.le_refl _)] at h
  exact h
theorem getItem_tuple_rev {t sl : Addr} {items : Array Value} {vk : Value} {Q : Value → Shared → Prop} (ht : IsTup s.heap t items) (hs : s.heap.IsSliceOf sl .none .none vk) (pk : IsPart vk (some (-1)))
    (h : Q (.ref s.heap.objs.size) { s with heap := s.heap.push { cls := .type "tuple", data := .seq items.toList.reverse.toArray } })
    (hsz : items.size ≤ sizeLine) : wpAny (model prog w) A (getItem (.ref t) (.ref sl)) Q E s := by
  have htake : sizeOk (.seq items.toList.reverse.toArray) := by
    show items.toList.reverse.toArray.size ≤ sizeLine
    rw [List.size_toArray, List.length_reverse, Array.length_toList]
    omega
  obtain ⟨os, hos, hcs, hds⟩ := id hs
  have hTs : s.TypeIs (.ref sl) "slice" := ⟨os, hos, hcs⟩
  unfold getItem
  try with_reducible refine wpAny_holding ?_
  first | refine wpAny_bind (wpAny_pure ?_) | skip
  refine wpAny_bind (wpAny_sequenceKey ht.typeIs (by decide) ?_)
  refine wpAny_bind (wpAny_callSpecial?_slot (name := Str.ofString "__getitem__") ht.typeIs PyProof.Rows.slot_tuple_getitem
    (wpAny_call_entry PyProof.Rows.slot_tuple_getitem ht.typeIs entry_tuple_getitem ?_ (args_tuple_getitem _ _)))
  show wpAny _ _ (Builtin.Tuple.tupleItemsOf (.ref t) >>= _) _ _ s
  refine wpAny_bind (tupleItemsOf_ ht ?_)
  refine wpAny_bind (wpAny_typeOf hTs ?_)
  rw [if_pos (by decide)]
  refine wpAny_bind (sliceApplied_rev hs pk ?_)
  have hno : ¬ ((((items.size : Int) - 1) == 0 && (-1 : Int) == 1 && items.size == items.size) = true) := by
    intro q
    rw [Bool.and_eq_true, Bool.and_eq_true] at q
    exact absurd q.1.2 (by decide)
  show wpAny _ _ (if (((items.size : Int) - 1) == 0 && (-1 : Int) == 1 && items.size == items.size) = true then _ else _) _ _ s
  rw [if_neg hno, pick_rev]
  first
    | exact wpAny_bind (m := Builtin.Tuple.tupleExact _) (wpAny_newObj_type (wpAny_pure ⟨_, rfl, wpAny_pure h⟩) htake)
    | exact wpAny_bind (m := Builtin.Tuple.tupleExact _) (wpAny_newObj_type (wpAny_bind (wpAny_pure (wpAny_pure ⟨_, rfl, wpAny_pure h⟩))) htake)
    | exact wpAny_bind (wpAny_bind (m := Builtin.Tuple.tupleExact _) (wpAny_newObj_type (wpAny_pure (wpAny_pure ⟨_, rfl, wpAny_pure h⟩)) htake))
    | exact wpAny_bind (wpAny_bind (m := Builtin.Tuple.tupleExact _) (wpAny_newObj_type (wpAny_pure ⟨_, rfl, wpAny_pure h⟩) htake))
theorem pick_revL (items : Array Value) : slicePick items none none (some (-1)) = items.toList.reverse.toArray := by
  have h : slicePick items none none (some (-1)) = ((sliceRange ((items.size : Int) - 1) (-1) (-1)).filterMap (items[·]?)).toArray := by
    unfold slicePick
    rfl
  rw [h, ← pick_rev]
  congr 1
  have e : sliceRange ((items.size : Int) - 1) (-1) (-1) = (List.range items.size).map fun k => items.size - 1 - k := by
    unfold sliceRange
    have h1 : ¬ ((-1 : Int) > 0) := by decide
    by_cases h : (items.size : Int) - 1 > -1
    · have e : ((items.size : Int) - 1 - -1 - -1 - 1) / (- -1) = (items.size : Int) := by
        rw [show (- -1 : Int) = 1 by decide, Int.ediv_one]
        omega
      simp only [h1, if_false, h, if_true, e, Int.toNat_natCast]
      apply List.map_congr_left
      intro k hk
      have := List.mem_range.mp hk
      omega
    · have e : items.size = 0 := by omega
      rw [e]
      simp
  rw [e, List.filterMap_map]
  apply fm_congr
  intro m hm
  have := List.mem_range.mp hm
  show items[items.size - 1 - m]? = _
  congr 1
  omega
end
section
variable {X : Cx} {e : Expr} {te : TE} {p2 pos p3 p4 : Pos} {kk : Nat}
/-- what such a slice is, by values -/
def rRev (K : PySem.W.Frag) : V → Hp → VK → Prop := fun x H Q => (∃ a xs, x = .ref a ∧ SqT K H a xs ∧ ∀ p, H p = none → Q (.ref p) (upd H p (.tup xs.reverse))) ∨ (∃ a xs, x = .ref a ∧ SqL K H a xs ∧ ∀ p, H p = none → Q (.ref p) (upd H p (.lst xs.reverse)))
def tRev (K : PySem.W.Frag) (te : TE) : TE := fun σ H Q => te σ H fun x H1 => rRev K x H1 Q
theorem vals_reverse {xs : List V} {us : List Value} (r : Vals xs us) : Vals xs.reverse us.reverse := by
  induction r with
  | nil => exact .nil
  | cons h _ ih => rw [List.reverse_cons, List.reverse_cons]; exact ih.append (.cons h .nil)
theorem pe_rev (he : PE X e te) : PE X (.Subscript e (.Slice none none (some (.UnaryOp .USub (.Constant (.int 1) kk p4) p3)) p2) pos) (tRev X.K te) := by
  refine ⟨fun pins s σ H Q I h => ?_⟩
  refine Subscript_ (thn (he.run pins s σ H _ I h) fun v s1 ⟨x, H1, I1, r1, q1⟩ => ?_)
  refine wpAny_Slice ?_
  rw [evalPart_none]
  refine wpAny_pure (wpAny_pure ?_)
  rw [evalPart_some]
  have hm : PE X (.UnaryOp .USub (.Constant (.int 1) kk p4) p3) (fun σ H Q => Q (.int (-1)) H) := (pe_un un_neg pe_int).weak fun σ H Q q => ⟨1, rfl, q⟩
  refine thn (hm.run pins s1 σ H1 (fun v H2 => v = .int (-1) ∧ H2 = H1) I1 ⟨rfl, rfl⟩) fun vk s3 ⟨y, H3, I3, pk0, e1, e2⟩ => ?_
  subst e1 e2
  obtain ⟨tk, rfl⟩ := pk0
  have pk : IsPart (Value.int (-1) tk) (some (-1)) := .int (-1) tk
  have I4 : Inv X pins σ H3 { s3 with heap := s3.heap.push { cls := .type "slice", data := .fields #[.none, .none, .int (-1) tk] } } := I3.kept (t' := s3.toks) fun b ob q => Heap.get?_push_of_some _ q
  have hs : ({ s3 with heap := s3.heap.push { cls := .type "slice", data := .fields #[.none, .none, .int (-1) tk] } } : Shared).heap.IsSliceOf s3.heap.objs.size .none .none (.int (-1) tk) := Heap.IsSliceOf.new ..
  show wpAny (model X.prog X.w) X.A (subscriptTail e (.Slice none none (some (.UnaryOp .USub (.Constant (.int 1) kk p4) p3)) p2) v (.ref s3.heap.objs.size)) (EP X pins σ Q) X.xe { s3 with heap := s3.heap.push { cls := .type "slice", data := .fields #[.none, .none, .int (-1) tk] } }
  rcases q1 with ⟨a, xs, rfl, hx, q⟩ | ⟨a, xs, rfl, hx, q⟩
  · cases r1
    obtain ⟨its, r, ht, hz⟩ := I4.tuple hx
    have hlen : its.toArray.size = xs.length := by rw [List.size_toArray]; exact r.length.symm
    refine tail_any (ops := [.ref a, .ref s3.heap.objs.size]) ht.typeIs PyProof.Rows.slot_tuple_getitem.lookup ?_ (by with_unfolding_all rfl)
    refine getItem_tuple_rev ht hs pk ?_ (by rw [hlen]; exact hz)
    refine ⟨.ref _, _, I4.laid (t' := s3.toks) (o := .tup xs.reverse) (fun b ob q => Heap.get?_push_of_some _ q) (Nat.le_refl _) ?_, rfl, q _ (I4.hok.fresh (Nat.le_refl _))⟩
    exact ⟨by rw [List.length_reverse]; exact hz, _, vals_reverse r, IsTup.new _ _⟩
  · cases r1
    obtain ⟨its, r, ht, hz⟩ := I4.list hx
    have hlen := r.length
    refine tail_any (ops := [.ref a, .ref s3.heap.objs.size]) ht.isList.typeIs slot_list_getitem.lookup ?_ (by with_unfolding_all rfl)
    refine wpAny_getItem_list_slice ht.isList hs .none .none pk (by simp) ?_ (by rw [List.size_toArray] <;> omega)
    rw [pick_revL]
    refine ⟨.ref _, _, I4.laid (t' := s3.toks) (o := .lst xs.reverse) (fun b ob q => Heap.get?_push_of_some _ q) (Nat.le_refl _) ?_, rfl, q _ (I4.hok.fresh (Nat.le_refl _))⟩
    exact ⟨by rw [List.length_reverse]; exact hz, _, 0, vals_reverse r, Heap.get?_push_size _ rfl⟩
end
section
variable {Z : Wd} {c : Pl} {W : WX} {X : Cx} {O : Addr → Prop} {σ : L2.St} {H : Hp}
theorem pe_of_rev (hK : X.K = Z.K) {a : Expr} {ka : E} {l : Lv} {p2 pos p3 p4 : Pos} {kk : Nat} (ha : Opd X Z c W l a ka) :
    PE X (.Subscript a (.Slice none none (some (.UnaryOp .USub (.Constant (.int 1) kk p4) p3)) p2) pos) (TFe Z c W (ev (.rev ka) l)) :=
  (pe_rev ha.lent).weak fun σ H Q ⟨O, σd, h0, hg⟩ => by
    refine ⟨O, σd, h0, (Go.bind (r := BF.lent ka (ev ka l σd) σd) hg).imp fun da σ1 H1 _ r1 k1 g va tka => ?_⟩
    have rx : RB Z H1 O da va := tka
    cases da with
    | tup xs =>
      obtain ⟨a, vs, rfl, hv, rs⟩ := rx.tup
      exact .inl ⟨a, vs, rfl, by rw [hK]; exact hv, RetF.newT g r1 rs.rev⟩
    | lst xs =>
      obtain ⟨a, vs, rfl, hv, rs⟩ := rx.lst
      exact .inr ⟨a, vs, rfl, SqL.of hv, RetF.newL g r1 (fun p hp => h0.back r1 k1 hp) rs.rev⟩
    | _ => exact g.elim
end
end BF

/-! SumT -/
set_option Elab.async false
set_option linter.all false
set_option maxRecDepth 100000
set_option maxHeartbeats 4000000
/-! sum of a tuple of numbers -/
namespace BF
open PySem PySem.Spec PyProof.Rows L2
section
variable {prog : Program} {w : World} {A : Around} {E : Value → Shared → Prop} {s : Shared}
theorem sum_tupG {l : Addr} {xs : Array (Int × Tok)} {Q : Value → Shared → Prop} (hh : A.handled = none) (ht : IsTup s.heap l (intItems xs))
    (h : ∀ h' tk t', (∀ b o, s.heap.get? b = some o → h'.get? b = some o) → Q (.int (preSum (numAt xs) xs.size) t') { s with heap := h', toks := tk }) :
    wpAny (model prog w) A (call (.builtin "sum") [.ref l]) Q E s := by
  have hlt : l < s.heap.objs.size := by obtain ⟨_, e, _⟩ := ht; exact Heap.lt_size e
  obtain ⟨ol, hol, hcl, nl, hdl⟩ := id ht
  refine call_sum_walkG (iter_tuple ht ⟨_, _, _, _, _, _, numAt xs, rfl, Walks.tuple (A := A.in1) hh _ l (Nat.ne_of_lt hlt) (intItems xs), ⟨⟨_, Heap.get?_push_size _ rfl, rfl, rfl⟩, ⟨ol, Heap.get?_push_of_some _ hol, hcl, nl, hdl⟩⟩, fun b hb => ?_, (fun _ _ => intItems_at), fun h' tk t' hk => ?_⟩)
  · show b < (s.heap.push _).objs.size
    rw [Heap.size_push]
    rcases List.mem_cons.mp hb with rfl | hb
    · exact Nat.lt_succ_self _
    · rcases List.mem_cons.mp hb with rfl | hb
      · exact Nat.lt_succ_of_lt hlt
      · cases hb
  · have := h h' tk t' (fun b o e => hk b o (fun hm => by
      have := Heap.lt_size e
      rw [List.mem_singleton.mp hm] at this
      exact absurd this (Nat.lt_irrefl _)) (Heap.get?_push_of_some _ e))
    simpa [intItems] using this
theorem sum_rawT {l : Addr} {its : List Value} {ns : List Int} {Q : Value → Shared → Prop} (hh : A.handled = none) (ht : IsTup s.heap l its.toArray) (hi : IntsAre its ns)
    (h : ∀ h' tk t', (∀ b o, s.heap.get? b = some o → h'.get? b = some o) → Q (.int ns.sum t') { s with heap := h', toks := tk }) : wpAny (model prog w) A (call (.builtin "sum") [.ref l]) Q E s := by
  obtain ⟨xs, e⟩ := hi.allInts.items
  have hn : numsOf (intItems xs).toList = ns := by rw [← e]; exact hi.numsOf
  rw [nums_intItems] at hn
  rw [e] at ht
  refine sum_tupG hh ht fun h' tk t' hk => ?_
  have := h h' tk t' hk
  rw [preSum_eq, List.take_of_length_le (by simp), hn]; exact this
end
def rSumT (K : PySem.W.Frag) : List V → Hp → VK → Prop := fun vs H Q => ∃ (a : Addr) (ns : List Int), vs = [V.ref a] ∧ SqT K H a (ns.map V.int) ∧ Q (.int ns.sum) H
section
variable {X : Cx}
theorem cr_sumT (hc : X.calm = true) : CallR X (.builtin "sum") (rSumT X.K) := by
  intro pins s σ H vs us Q I r h
  obtain ⟨a, ns, rfl, hs, q⟩ := h
  obtain ⟨its, rv, ht, _⟩ := I.tuple hs
  rw [Vals.ref1 r]
  exact sum_rawT (I.ok.hd hc) ht rv.ints fun h' tk t' hk => ⟨.int _, H, I.kept hk, ⟨_, rfl⟩, q⟩
end
end BF

/-! Snd7 -/
set_option Elab.async false
set_option linter.all false
set_option maxRecDepth 100000
set_option maxHeartbeats 2000000
namespace BF
open PySem L2

/-! ### arguments without a star -/
def notStar : Expr → Bool
  | .Starred .. => false
  | _ => true
theorem star_cons {e : Expr} {es : List Expr} {env : Env} (h : notStar e = true) : starEach (e :: es) env = (false, eval e env) :: starEach es env := by
  cases e <;> first | rfl | (simp [notStar] at h)
theorem star_any {env : Env} {pos : Pos} : ∀ {es : List Expr}, es.all notStar = true → (backTo pos (starEach es env)).any (·.1) = false
  | [], _ => rfl
  | e :: es, h => by
    rw [List.all_cons, Bool.and_eq_true] at h
    rw [star_cons h.1]
    show (false || (backTo pos (starEach es env)).any (·.1)) = false
    rw [star_any h.2]
    rfl
section
variable {Z : Wd} {c : Pl} {W : WX} {O : Addr → Prop} {σ : L2.St} {σd : Sd} {H H' : Hp} {X : Cx}
def RBs (Z : Wd) (H : Hp) (O : Addr → Prop) : List D → List V → Prop
  | [], [] => True
  | d :: ds, v :: vs => RB Z H O d v ∧ RBs Z H O ds vs
  | _, _ => False
def RvIn (c : Pl) : Es → Prop
  | .nil => True
  | .cons e es => (∀ i, e = .rv i → i ∈ c.own ∨ i ∈ c.bor) ∧ RvIn c es
theorem rrs_ne : ∀ {es : Es} {ds : List D} {σd : Sd} (q : Nat), rrs es ds σd ≠ .exc q
  | .nil, [], _, q => by simp [rrs]
  | .nil, _ :: _, _, q => by simp [rrs]
  | .cons e es, [], _, q => by simp [rrs]
  | .cons e es, d :: ds, σd, q => by
    unfold rrs
    cases h : rr e d σd with
    | ok x =>
      show (rrs es ds σd).bind _ ≠ _
      cases h2 : rrs es ds σd with
      | ok y => intro z; cases z
      | exc k => exact absurd h2 (rrs_ne k)
      | bad => intro z; cases z
    | exc k => exact absurd h (rr_ne k)
    | bad => intro z; cases z
theorem rrs_ok (hr : RelS Z c O σd σ H) : ∀ {es : Es} {ds xs : List D} {vs : List V}, rrs es ds σd = .ok xs → ArgL Z c O σ H es ds vs → RvIn c es → RBs Z H O xs vs
  | .nil, [], xs, [], e, _, _ => by simp [rrs] at e; subst e; trivial
  | .nil, _ :: _, _, _, e, _, _ => by simp [rrs] at e
  | .nil, [], _, _ :: _, _, h, _ => h.elim
  | .cons _ _, [], _, _, e, _, _ => by simp [rrs] at e
  | .cons _ _, _ :: _, _, [], _, h, _ => h.elim
  | .cons k es, d :: ds, xs, v :: vs, e, h, hi => by
    unfold rrs at e
    cases h1 : rr k d σd with
    | ok x =>
      rw [h1] at e
      have e : ((rrs es ds σd).bind fun xs => R.ok (x :: xs)) = .ok xs := e
      cases h2 : rrs es ds σd with
      | ok y =>
        rw [h2] at e
        have e : R.ok (x :: y) = .ok xs := e
        cases e
        refine ⟨rr_ok hr h1 ?_ hi.1, rrs_ok hr h2 h.2 hi.2⟩
        have t := h.1
        cases k <;> exact t
      | exc q => rw [h2] at e; cases e
      | bad => rw [h2] at e; cases e
    | exc q => rw [h1] at e; cases e
    | bad => rw [h1] at e; cases e
structure Oas (X : Cx) (Z : Wd) (c : Pl) (W : WX) (l : Lv) (es : List Expr) (ks : Es) : Prop where
  pa : PA X es (TLe Z c W ks (evbs ks l))
  rv : RvIn c ks
theorem RBs.one {xs : List D} {vs : List V} (h : RBs Z H O xs vs) {x : D} (e : xs = [x]) : ∃ v, vs = [v] ∧ RB Z H O x v := by
  subst e
  match vs, h with
  | [v], h => exact ⟨v, rfl, h.1⟩
theorem RBs.two {xs : List D} {vs : List V} (h : RBs Z H O xs vs) {x y : D} (e : xs = [x, y]) : ∃ v w, vs = [v, w] ∧ RB Z H O x v ∧ RB Z H O y w := by
  subst e
  match vs, h with
  | [v, w], h => exact ⟨v, w, rfl, h.1, h.2.1⟩
/-- what a built-in function gives -/
abbrev Ret (Z : Wd) (c : Pl) (W : WX) (O : Addr → Prop) (σ : L2.St) (σd : Sd) (H : Hp) (d : D) (Q : VK) : Prop := Go Z c W (.ok (d, σd)) O σ H fun d _ H' => ∀ v, Rep Z (hide H' O) d v → Q v H'
theorem s_bi {e : Expr} {es : List Expr} {ks : Es} {l : Lv} {b : Bi} {r : List V → Hp → VK → Prop} (ho : Oas X Z c W l es ks) (hp : ∀ t, PA X es t → PE X e (tCB r t))
    (hr : ∀ O σd σ H0 H xs vs d Q, RelS Z c O σd σ H → (∀ p, Fre H p → Fre H0 p) → RBs Z H O xs vs → biD b xs = some d → RetF Z c W O σ H0 σd H d Q → r vs H Q) : PE X e (TFe Z c W (ev (.bi b ks) l)) :=
  (hp _ ho.pa).weak fun σ H Q ⟨O, σd, h0, hg⟩ => by
    refine ⟨O, σd, h0, (Go.bind (r := evbs ks l σd) hg).imp fun ds σ1 H1 _ r1 k1 g vs av => ?_⟩
    obtain ⟨xs, ex, g2⟩ := g.pure rrs_ne
    obtain ⟨d, ed, g3⟩ := g2.opt
    exact hr O σ1 σ H H1 xs vs d Q r1 (fun p hp => h0.back r1 k1 hp) (rrs_ok r1 ex av ho.rv) ed g3
/-! ### each of them -/
def rB (K : PySem.W.Frag) (b : Bi) : List V → Hp → VK → Prop := match b with
  | .len => fun xs H Q => (∃ x n, xs = [x] ∧ LenV K x H n ∧ Q (.int n) H) ∨ (∃ a kvs, xs = [V.ref a] ∧ H a = some (.dK kvs) ∧ Q (.int kvs.length) H)
  | .abs => fun xs H Q => ∃ i, xs = [.int i] ∧ Q (.int (if i < 0 then -i else i)) H
  | .int => fun xs H Q => (∃ i, xs = [.int i] ∧ Q (.int i) H) ∨ ∃ k, xs = [.bl k] ∧ Q (.int (if k then 1 else 0)) H
  | .list => fun xs H Q => ∃ p ys, xs = [.ref p] ∧ (SqL K H p ys ∨ SqT K H p ys) ∧ ∀ l, H l = none → Q (.ref l) (upd H l (.lst ys))
  | .tuple => fun xs H Q => ∃ p ys, xs = [.ref p] ∧ ((SqL K H p ys ∧ ∀ l, H l = none → Q (.ref l) (upd H l (.tup ys))) ∨ (SqT K H p ys ∧ Q (.ref p) H))
  | .all => rAll K
  | .any => rAny K
  | .sum => fun vs H Q => rSum K vs H Q ∨ rSumT K vs H Q
  | .sorted => rSortedI K
  | .dict1 => fun xs H Q => (∃ (a : Addr) (ps : List Addr) (kvs : List (Key × V)), xs = [.ref a] ∧ SqL K H a (ps.map V.ref) ∧ Paired (fun p kv => SqT K H p [kV kv.1, kv.2]) ps kvs ∧ ∀ p, H p = none → Q (.ref p) (upd H p (.dK (mergeK [] kvs)))) ∨ (∃ (a : Addr) (kvs : List (Key × V)), xs = [.ref a] ∧ Rd H a (.dK kvs) ∧ ∀ p, H p = none → Q (.ref p) (upd H p (.dK kvs)))
  | .min1 => rMin K
  | .max1 => rMax K
  | .min2 => fun xs H Q => ∃ i j, xs = [.int i, .int j] ∧ Q (.int (if j < i then j else i)) H
  | .max2 => fun xs H Q => ∃ i j, xs = [.int i, .int j] ∧ Q (.int (if j > i then j else i)) H
  | _ => fun _ _ _ => False
def bV : Bi → Option Value
  | .len => some (.builtin "len") | .abs => some (.builtin "abs") | .int => some (.type "int") | .list => some (.type "list") | .tuple => some (.type "tuple")
  | .all => some (.builtin "all") | .any => some (.builtin "any") | .sum => some (.builtin "sum") | .sorted => some (.builtin "sorted")
  | .dict1 => some (.type "dict")
  | .min1 => some (.builtin "min") | .max1 => some (.builtin "max") | .min2 => some (.builtin "min") | .max2 => some (.builtin "max")
  | _ => none
theorem callR_b (hc : X.calm = true) {b : Bi} {f : Value} (h : bV b = some f) : CallR X f (rB X.K b) := by
  cases b <;> simp only [bV, Option.some.injEq] at h <;> first | (subst h) | (cases h; done)
  · exact call_len.or call_lenD
  · exact call_abs
  · exact call_int1
  · exact call_list_of
  · exact call_tuple_of
  · exact cr_all hc
  · exact cr_any hc
  · exact (cr_sum hc).or (cr_sumT hc)
  · exact cr_sortedI
  · exact cr_min hc
  · exact cr_max hc
  · exact call_min2 hc
  · exact call_max2 hc
  · exact (call_dictP hc).or call_dictD
theorem bls_rep : ∀ {xs : List D} {vs : List V} {is : List Bool}, Reps Z H xs vs → bls xs = some is → vs = is.map V.bl
  | _, _, is, .nil, e => by simp [bls] at e; subst e; rfl
  | x :: xs, _, is, .cons a b, e => by
    cases x <;> simp [bls] at e
    obtain ⟨is', e1, rfl⟩ := e
    cases a
    rw [bls_rep b e1]
    rfl
theorem reps_ints {is : List Int} : Reps Z H (intL is) (is.map V.int) := by
  induction is with
  | nil => exact .nil
  | cons i is ih => exact .cons (.int i) ih
theorem repK_length : ∀ {xs : List (D × D)} {vs : List (Key × V)}, RepK Z H xs vs → xs.length = vs.length
  | _, _, .nil => rfl
  | _, _, .cons _ _ t => by simp [repK_length t]
theorem ins_perm (x : Int) : ∀ l : List Int, (ins x l).Perm (x :: l)
  | [] => .refl _
  | y :: r => by
    unfold ins
    split
    · exact .refl _
    · exact ((ins_perm x r).cons y).trans (List.Perm.swap x y r)
theorem isort_perm : ∀ l : List Int, (isort l).Perm l
  | [] => .refl _
  | x :: r => (ins_perm x (isort r)).trans ((isort_perm r).cons x)
theorem ins_sorted (x : Int) : ∀ l : List Int, l.Pairwise (· ≤ ·) → (ins x l).Pairwise (· ≤ ·)
  | [], _ => by simp [ins]
  | y :: r, h => by
    obtain ⟨h1, h2⟩ := List.pairwise_cons.mp h
    unfold ins
    split
    · rename_i hx
      refine List.pairwise_cons.mpr ⟨fun z hz => ?_, h⟩
      rcases List.mem_cons.mp hz with rfl | hz
      · exact hx
      · exact Int.le_trans hx (h1 z hz)
    · rename_i hx
      refine List.pairwise_cons.mpr ⟨fun z hz => ?_, ins_sorted x r h2⟩
      rcases List.mem_cons.mp ((ins_perm x r).mem_iff.mp hz) with rfl | hz
      · omega
      · exact h1 z hz
theorem isort_sorted : ∀ l : List Int, (isort l).Pairwise (· ≤ ·)
  | [] => .nil
  | x :: r => ins_sorted x _ (isort_sorted r)
theorem sorted_uniq : ∀ {a b : List Int}, a.Perm b → a.Pairwise (· ≤ ·) → b.Pairwise (· ≤ ·) → a = b
  | [], b, p, _, _ => by rw [List.nil_perm.mp p]
  | x :: a, [], p, _, _ => by simpa using p.length_eq
  | x :: a, y :: b, p, ha, hb => by
    obtain ⟨a1, a2⟩ := List.pairwise_cons.mp ha
    obtain ⟨b1, b2⟩ := List.pairwise_cons.mp hb
    have hxy : x = y := by
      have h1 : x ∈ y :: b := p.mem_iff.mp List.mem_cons_self
      have h2 : y ∈ x :: a := p.mem_iff.mpr List.mem_cons_self
      rcases List.mem_cons.mp h1 with e | h1
      · exact e
      · rcases List.mem_cons.mp h2 with e | h2
        · exact e.symm
        · have := b1 x h1; have := a1 y h2; omega
    subst hxy
    rw [sorted_uniq ((List.perm_cons x).mp p) a2 b2]
theorem foldl_min : ∀ (l : List Int) (x : Int), (l.foldl min x = x ∨ l.foldl min x ∈ l) ∧ l.foldl min x ≤ x ∧ ∀ y ∈ l, l.foldl min x ≤ y
  | [], x => ⟨.inl rfl, Int.le_refl _, fun _ h => nomatch h⟩
  | y :: l, x => by
    obtain ⟨h1, h2, h3⟩ := foldl_min l (min x y)
    simp only [List.foldl_cons]
    refine ⟨?_, by omega, fun z hz => ?_⟩
    · rcases h1 with e | e
      · rw [e]
        rcases Int.le_total x y with h | h
        · exact .inl (by omega)
        · exact .inr (by rw [show min x y = y by omega]; exact List.mem_cons_self)
      · exact .inr (List.mem_cons_of_mem _ e)
    · rcases List.mem_cons.mp hz with rfl | hz
      · omega
      · exact h3 z hz
theorem foldl_max : ∀ (l : List Int) (x : Int), (l.foldl max x = x ∨ l.foldl max x ∈ l) ∧ x ≤ l.foldl max x ∧ ∀ y ∈ l, y ≤ l.foldl max x
  | [], x => ⟨.inl rfl, Int.le_refl _, fun _ h => nomatch h⟩
  | y :: l, x => by
    obtain ⟨h1, h2, h3⟩ := foldl_max l (max x y)
    simp only [List.foldl_cons]
    refine ⟨?_, by omega, fun z hz => ?_⟩
    · rcases h1 with e | e
      · rw [e]
        rcases Int.le_total x y with h | h
        · exact .inr (by rw [show max x y = y by omega]; exact List.mem_cons_self)
        · exact .inl (by omega)
      · exact .inr (List.mem_cons_of_mem _ e)
    · rcases List.mem_cons.mp hz with rfl | hz
      · omega
      · exact h3 z hz
section
variable {Z : Wd} {H : Hp}
theorem repK_any {kvs : List (D × D)} {ks : List (Key × V)} {k : D} {q : Key} (r : RepK Z H kvs ks) (hk : KeyR k q) : (kvs.any fun p => deq p.1 k) = ks.any fun p => decide (p.1 = q) := by
  rw [dget_any, valV_any]
  have h := dget_val r hk
  cases hd : dget kvs k with
  | none => rw [hd] at h; rw [h]; rfl
  | some d => rw [hd] at h; obtain ⟨v, h1, _⟩ := h; rw [h1]; rfl
theorem repK_map {k v : D} {q : Key} {w : V} (hk : KeyR k q) (rv : Rep Z H v w) : ∀ {kvs : List (D × D)} {ks : List (Key × V)}, RepK Z H kvs ks → RepK Z H (kvs.map fun p => if deq p.1 k = true then (p.1, v) else p) (ks.map fun p => if p.1 = q then (p.1, w) else p)
  | _, _, .nil => .nil
  | (k', d) :: kvs, (q', u) :: ks, .cons h1 h2 h3 => by
    have e := deq_key h1 hk
    simp only [List.map_cons]
    by_cases hq : q' = q
    · rw [if_pos (show deq k' k = true by rw [e]; simp [hq]), if_pos hq]
      exact .cons h1 rv (repK_map hk rv h3)
    · rw [if_neg (show ¬ deq k' k = true by rw [e]; simp [hq]), if_neg hq]
      exact .cons h1 h2 (repK_map hk rv h3)
theorem repK_append {k v : D} {q : Key} {w : V} (hk : KeyR k q) (rv : Rep Z H v w) : ∀ {kvs : List (D × D)} {ks : List (Key × V)}, RepK Z H kvs ks → RepK Z H (kvs ++ [(k, v)]) (ks ++ [(q, w)])
  | _, _, .nil => .cons hk rv .nil
  | _, _, .cons h1 h2 h3 => .cons h1 h2 (repK_append hk rv h3)
theorem repK_put {k v : D} {q : Key} {w : V} (hk : KeyR k q) (rv : Rep Z H v w) {kvs : List (D × D)} {ks : List (Key × V)} (r : RepK Z H kvs ks) : RepK Z H (dput kvs k v) (putK ks q w) := by
  unfold dput putK
  rw [repK_any r hk]
  split
  · exact repK_map hk rv r
  · exact repK_append hk rv r
end
theorem repK_puts {more : List (D × D)} : ∀ {ms : List (Key × V)} {kvs : List (D × D)} {ks : List (Key × V)}, RepK Z H more ms → RepK Z H kvs ks → RepK Z H (putsD kvs more) (mergeK ks ms) := by
  induction more with
  | nil => intro ms kvs ks h r; cases h; exact r
  | cons p more ih => intro ms kvs ks h r; cases h with | cons hk rv t => have q := ih t (repK_put hk rv r); exact q
theorem _root_.BF.RetF.newD {Z : Wd} {c : Pl} {W : WX} {O : Addr → Prop} {σ : L2.St} {H0 H : Hp} {σd : Sd} {xs : List (D × D)} {vs : List (Key × V)} {Q : VK} (g : RetF Z c W O σ H0 σd H (.dic xs) Q) (r : RelS Z c O σd σ H) (hb : ∀ p, Fre H p → Fre H0 p) (rs : RepK Z (hide H O) xs vs) : ∀ p, H p = none → Q (.ref p) (upd H p (.dK vs)) := fun p hp => by
  have np : ¬ O p := fun h => by
    obtain ⟨u, e, _⟩ := r.dom p h
    rw [hp] at e; cases e
  have l := le_upd (o := .dK vs) hp
  have g2 : Le (hide H O) (hide (upd H p (.dK vs)) O) := hide_mono fun a u e t n => ⟨l a u e, n⟩
  exact g.ok (r.grow l) (KeepE.of_le l) _ (fun _ => ⟨p, rfl, hb p (fre_none hp), ⟨vs, upd_same, rs.le (plus_le _ hp)⟩, r.locked hp _ nt_dK⟩) (.dic (hide_some.mpr ⟨⟨np, nt_dK⟩, upd_same⟩) (rs.le g2))
theorem pairs_rep : ∀ {xs : List D} {vs : List V} {ps : List (D × D)}, Reps Z (hide H O) xs vs → pairsD xs = some ps → ∃ (as : List Addr) (kvs : List (Key × V)), vs = as.map V.ref ∧ Paired (fun p kv => SqT Z.K H p [kV kv.1, kv.2]) as kvs ∧ RepK Z (hide H O) ps kvs
  | [], _, ps, .nil, e => by simp [pairsD] at e; subst e; exact ⟨[], [], rfl, .nil, .nil⟩
  | x :: xs, _, ps, .cons a b, e => by
    unfold pairsD at e
    split at e
    · rename_i h; cases h
    · rename_i k v r h
      cases h
      split at e
      · rename_i hk
        obtain ⟨ps', e1, rfl⟩ := Option.map_eq_some_iff.mp e
        obtain ⟨as, kvs, rfl, h1, h2⟩ := pairs_rep b e1
        cases a with
        | tup s q =>
          cases q with
          | cons rk q => cases q with
            | cons rv q =>
              cases q
              obtain ⟨kk, hkk, rfl⟩ := key_of_rep hk rk
              exact ⟨_ :: as, (kk, _) :: kvs, rfl, .cons ((hide_le H O).sqT s) h1, .cons hkk rv h2⟩
      · cases e
    · cases e
theorem b_ok (hK : X.K = Z.K) {b : Bi} {xs : List D} {vs : List V} {d : D} {Q : VK} {H0 : Hp} (r : RelS Z c O σd σ H) (hb0 : ∀ p, Fre H p → Fre H0 p) (ra : RBs Z H O xs vs) (e : biD b xs = some d) (hb : (bV b).isSome = true) (q : RetF Z c W O σ H0 σd H d Q) : rB X.K b vs H Q := by
  unfold biD at e
  split at e <;> first | (cases hb; done) | skip
  case h_1 =>
    obtain ⟨v, rfl, rv⟩ := ra.one rfl
    obtain rfl := rv.str
    split at e
    · rename_i h
      cases e
      exact .inl ⟨_, _, rfl, ⟨h, rfl⟩, q.done r rfl (.int _)⟩
    · cases e
  case h_2 =>
    obtain ⟨v, rfl, rv⟩ := ra.one rfl
    obtain ⟨a, ws, rfl, ha, rs⟩ := rv.tup
    cases e
    exact .inl ⟨_, _, rfl, .inr ⟨ws, by rw [hK]; exact ha, rs.length⟩, q.done r rfl (.int _)⟩
  case h_3 =>
    obtain ⟨v, rfl, rv⟩ := ra.one rfl
    obtain ⟨a, ws, rfl, ha, rs⟩ := rv.lst
    cases e
    exact .inl ⟨_, _, rfl, .inl ⟨ws, SqL.of ha, rs.length⟩, q.done r rfl (.int _)⟩
  case h_4 =>
    obtain ⟨v, rfl, rv⟩ := ra.one rfl
    obtain ⟨a, ws, rfl, ha, rs⟩ := rv.dic
    cases e
    rw [repK_length rs] at q
    exact .inr ⟨a, ws, rfl, ha, q.done r rfl (.int _)⟩
  case h_5 =>
    obtain ⟨v, rfl, rv⟩ := ra.one rfl
    obtain rfl := rv.int
    cases e
    exact ⟨_, rfl, q.done r rfl (.int _)⟩
  case h_6 =>
    obtain ⟨v, rfl, rv⟩ := ra.one rfl
    obtain rfl := rv.int
    cases e
    exact .inl ⟨_, rfl, q.done r rfl (.int _)⟩
  case h_7 =>
    obtain ⟨v, rfl, rv⟩ := ra.one rfl
    obtain rfl := rv.bl
    cases e
    exact .inr ⟨_, rfl, q.done r rfl (.int _)⟩
  case h_8 =>
    obtain ⟨v, rfl, rv⟩ := ra.one rfl
    obtain ⟨a, ws, rfl, ha, rs⟩ := rv.tup
    cases e
    exact ⟨a, ws, rfl, .inr (by rw [hK]; exact ha), q.newL r hb0 rs⟩
  case h_9 =>
    obtain ⟨v, rfl, rv⟩ := ra.one rfl
    obtain ⟨a, ws, rfl, ha, rs⟩ := rv.lst
    cases e
    exact ⟨a, ws, rfl, .inl (SqL.of ha), q.newL r hb0 rs⟩
  case h_10 =>
    obtain ⟨v, rfl, rv⟩ := ra.one rfl
    obtain ⟨a, ws, rfl, ha, rs⟩ := rv.frz
    cases e
    exact ⟨a, ws, rfl, .inl (by rw [hK]; exact ha), q.newL r hb0 rs⟩
  case h_11 =>
    obtain ⟨v, rfl, rv⟩ := ra.one rfl
    cases e
    rcases rv with rv | ⟨_, _, _, z⟩
    · cases rv with
      | tup s rs => exact ⟨_, _, rfl, .inr ⟨by rw [hK]; exact (hide_le H O).sqT s, q.done r rfl (.tup s rs)⟩⟩
    · exact z.elim
  case h_12 =>
    obtain ⟨v, rfl, rv⟩ := ra.one rfl
    obtain ⟨a, ws, rfl, ha, rs⟩ := rv.lst
    cases e
    exact ⟨a, ws, rfl, .inl ⟨SqL.of ha, q.newT r rs⟩⟩
  case h_13 =>
    obtain ⟨v, rfl, rv⟩ := ra.one rfl
    obtain ⟨a, ws, rfl, ha, rs⟩ := rv.lst
    obtain ⟨bs, e1, rfl⟩ := Option.map_eq_some_iff.mp e
    rw [bls_rep rs e1] at ha
    exact ⟨a, bs, rfl, SqL.of ha, q.done r rfl (.bl _)⟩
  case h_14 =>
    obtain ⟨v, rfl, rv⟩ := ra.one rfl
    obtain ⟨a, ws, rfl, ha, rs⟩ := rv.lst
    obtain ⟨bs, e1, rfl⟩ := Option.map_eq_some_iff.mp e
    rw [bls_rep rs e1] at ha
    exact ⟨a, bs, rfl, SqL.of ha, q.done r rfl (.bl _)⟩
  case h_15 =>
    obtain ⟨v, rfl, rv⟩ := ra.one rfl
    obtain ⟨a, ws, rfl, ha, rs⟩ := rv.lst
    obtain ⟨bs, e1, rfl⟩ := Option.map_eq_some_iff.mp e
    rw [ints_rep rs e1] at ha
    exact .inl ⟨a, bs, rfl, SqL.of ha, q.done r rfl (.int _)⟩
  case h_16 =>
    obtain ⟨v, rfl, rv⟩ := ra.one rfl
    obtain ⟨a, ws, rfl, ha, rs⟩ := rv.lst
    obtain ⟨is, e1, rfl⟩ := Option.map_eq_some_iff.mp e
    rw [ints_rep rs e1] at ha
    refine ⟨a, is, rfl, SqL.of ha, fun ns p hp hs hn => ?_⟩
    obtain rfl := sorted_uniq (hp.trans (isort_perm is).symm) hs (isort_sorted is)
    exact q.newL r hb0 reps_ints p hn
  case h_17 =>
    obtain ⟨v, rfl, rv⟩ := ra.one rfl
    obtain ⟨a, ws, rfl, ha, rs⟩ := rv.lst
    obtain ⟨m, e1, rfl⟩ := Option.map_eq_some_iff.mp e
    obtain ⟨is, e2, e3⟩ := Option.bind_eq_some_iff.mp e1
    rw [ints_rep rs e2] at ha
    cases is with
    | nil => cases e3
    | cons x xs =>
      cases e3
      obtain ⟨f1, f2, f3⟩ := foldl_min xs x
      refine ⟨a, x :: xs, rfl, SqL.of ha, Nat.succ_pos _, fun m hm hle => ?_⟩
      have e4 : m = xs.foldl min x := by
        have h1 := hle (xs.foldl min x) (by rcases f1 with z | z; rw [z]; exact List.mem_cons_self; exact List.mem_cons_of_mem _ z)
        rcases List.mem_cons.mp hm with rfl | hm
        · omega
        · have := f3 m hm; omega
      rw [e4]
      exact q.done r rfl (.int _)
  case h_18 =>
    obtain ⟨v, rfl, rv⟩ := ra.one rfl
    obtain ⟨a, ws, rfl, ha, rs⟩ := rv.lst
    obtain ⟨m, e1, rfl⟩ := Option.map_eq_some_iff.mp e
    obtain ⟨is, e2, e3⟩ := Option.bind_eq_some_iff.mp e1
    rw [ints_rep rs e2] at ha
    cases is with
    | nil => cases e3
    | cons x xs =>
      cases e3
      obtain ⟨f1, f2, f3⟩ := foldl_max xs x
      refine ⟨a, x :: xs, rfl, SqL.of ha, Nat.succ_pos _, fun m hm hle => ?_⟩
      have e4 : m = xs.foldl max x := by
        have h1 := hle (xs.foldl max x) (by rcases f1 with z | z; rw [z]; exact List.mem_cons_self; exact List.mem_cons_of_mem _ z)
        rcases List.mem_cons.mp hm with rfl | hm
        · omega
        · have := f3 m hm; omega
      rw [e4]
      exact q.done r rfl (.int _)
  case h_19 =>
    obtain ⟨v, w, rfl, rv, rw'⟩ := ra.two rfl
    obtain rfl := rv.int
    obtain rfl := rw'.int
    cases e
    exact ⟨_, _, rfl, q.done r rfl (.int _)⟩
  case h_20 =>
    obtain ⟨v, w, rfl, rv, rw'⟩ := ra.two rfl
    obtain rfl := rv.int
    obtain rfl := rw'.int
    cases e
    exact ⟨_, _, rfl, q.done r rfl (.int _)⟩
  case h_21 =>
    obtain ⟨v, rfl, rv⟩ := ra.one rfl
    obtain ⟨a, ws, rfl, ha, rs⟩ := rv.tup
    obtain ⟨bs, e1, rfl⟩ := Option.map_eq_some_iff.mp e
    rw [ints_rep rs e1] at ha
    exact .inr ⟨a, bs, rfl, by rw [hK]; exact ha, q.done r rfl (.int _)⟩
  case h_22 =>
    obtain ⟨v, rfl, rv⟩ := ra.one rfl
    obtain ⟨a, ws, rfl, ha, rs⟩ := rv.lst
    obtain ⟨ps, e1, rfl⟩ := Option.map_eq_some_iff.mp e
    obtain ⟨as, kvs, rfl, h1, h2⟩ := pairs_rep rs e1
    exact .inl ⟨a, as, kvs, rfl, SqL.of ha, by rw [hK]; exact h1, q.newD r hb0 (repK_puts h2 .nil)⟩
  case h_23 =>
    obtain ⟨v, rfl, rv⟩ := ra.one rfl
    obtain ⟨a, ws, rfl, ha, rs⟩ := rv.dic
    cases e
    exact .inr ⟨a, ws, rfl, .inl ha, q.newD r hb0 rs⟩
  all_goals (cases e; done)
/-! ### isinstance -/
def isB : Bi → Option String
  | .isInt => some "int" | .isBool => some "bool" | .isStr => some "str" | .isTuple => some "tuple" | .isList => some "list" | _ => none
theorem kit_all {K : PySem.W.Frag} : ∀ (b : Bi) (T : String), isB b = some T → ∀ (d : D) (x : D), biD b [d] = some x →
    ∃ (t : String) (k : Bool), x = .bl k ∧ PySem.W.kitOne K (.type t) (.type T) = some k ∧ ((d = .non ∧ t = "NoneType") ∨ (∃ b, d = .bl b ∧ t = "bool") ∨ (∃ i, d = .int i ∧ t = "int") ∨ (∃ s, d = .str s ∧ t = "str") ∨ (∃ xs, d = .tup xs ∧ t = "tuple") ∨ (∃ xs, d = .lst xs ∧ t = "list")) := by
  intro b T hb d x e
  cases b <;> simp only [isB, Option.some.injEq] at hb <;> first | (subst hb) | (cases hb; done)
  all_goals (cases d <;> simp only [biD, Option.some.injEq] at e <;> first | (subst e) | (cases e; done))
  all_goals first
    | exact ⟨"NoneType", _, rfl, kit_ty (by decide +kernel), .inl ⟨rfl, rfl⟩⟩
    | exact ⟨"bool", _, rfl, kit_ty (by decide +kernel), .inr (.inl ⟨_, rfl, rfl⟩)⟩
    | exact ⟨"int", _, rfl, kit_ty (by decide +kernel), .inr (.inr (.inl ⟨_, rfl, rfl⟩))⟩
    | exact ⟨"str", _, rfl, kit_ty (by decide +kernel), .inr (.inr (.inr (.inl ⟨_, rfl, rfl⟩)))⟩
    | exact ⟨"tuple", _, rfl, kit_ty (by decide +kernel), .inr (.inr (.inr (.inr (.inl ⟨_, rfl, rfl⟩))))⟩
    | exact ⟨"list", _, rfl, kit_ty (by decide +kernel), .inr (.inr (.inr (.inr (.inr ⟨_, rfl, rfl⟩))))⟩
theorem tyX_of {d : D} {v : V} {t : String} (r : RB Z H O d v) (h : (d = .non ∧ t = "NoneType") ∨ (∃ b, d = .bl b ∧ t = "bool") ∨ (∃ i, d = .int i ∧ t = "int") ∨ (∃ s, d = .str s ∧ t = "str") ∨ (∃ xs, d = .tup xs ∧ t = "tuple") ∨ (∃ xs, d = .lst xs ∧ t = "list")) : TyX Z.K H v (.type t) := by
  rcases h with ⟨rfl, rfl⟩ | ⟨b, rfl, rfl⟩ | ⟨b, rfl, rfl⟩ | ⟨b, rfl, rfl⟩ | ⟨b, rfl, rfl⟩ | ⟨b, rfl, rfl⟩
  · obtain rfl := r.non; exact .base .non
  · obtain rfl := r.bl; exact .base (.bl _)
  · obtain rfl := r.int; exact .base (.int _)
  · obtain rfl := r.str; exact .base (.str _)
  · obtain ⟨a, vs, rfl, ha, _⟩ := r.tup
    rcases ha with ha | ⟨o, its, n, hk, hc, _⟩
    · rcases ha with ha | ⟨o, ha⟩
      · exact .base (.tup ha)
      · exact .fTuple ha
    · exact .kTuple hk hc
  · obtain ⟨a, vs, rfl, ha, _⟩ := r.lst
    exact .base (.lst ha)
theorem evbs_one {k : E} {l : Lv} {σ : Sd} {β : Type} {g : List D × Sd → R β} : ((evbs (.cons k .nil) l σ).bind fun q => (rrs (.cons k .nil) q.1 q.2).bind fun ds => g (ds, q.2)) = (BF.lent k (ev k l σ) σ).bind fun p => (rr k p.1 p.2).bind fun x => g ([x], p.2) := by
  show ((BF.lent k (ev k l σ) σ).bind fun p => (R.ok ([], p.2)).bind fun q => R.ok (p.1 :: q.1, q.2)).bind _ = _
  cases BF.lent k (ev k l σ) σ with
  | ok q =>
    show ((rr k q.1 q.2).bind fun x => (R.ok []).bind fun xs => R.ok (x :: xs)).bind _ = (rr k q.1 q.2).bind _
    cases rr k q.1 q.2 <;> rfl
  | exc _ => rfl
  | bad => rfl
theorem s_isi (hK : X.K = Z.K) {b : Bi} {T : String} (hb : isB b = some T) {a : Expr} {ka : E} {l : Lv} {y : Str} {e : Expr} {yp : Pos} (ha : Opd X Z c W l a ka) (hy : PE X (.Name y yp) (tC (.ty T))) (hs : notStar a = true)
    (hp : ∀ t, PA X [a, .Name y yp] t → PE X e (tCB (rIsi X.K) t)) : PE X e (TEe Z c W (tP Z) (ev (.bi b (.cons ka .nil)) l)) :=
  (hp _ (pa_cons ha.kept (pa_cons hy pa_nil rfl) (star_cons hs))).weak fun σ H Q ⟨O, σd, h0, hg⟩ => by
    have hg' : Go Z c W ((evbs (.cons ka .nil) l σd).bind fun q => (rrs (.cons ka .nil) q.1 q.2).bind fun ds => (R.ofO (biD b ds)).bind fun d => .ok (d, q.2)) O σ H (fun d _ H' => ∀ v, Rep Z (hide H' O) d v → Q v H') := hg
    rw [evbs_one (g := fun q => (R.ofO (biD b q.1)).bind fun d => .ok (d, q.2))] at hg'
    refine ⟨O, σd, h0, (Go.bind hg').imp fun d σ1 H1 _ r1 k1 g v tk => ?_⟩
    obtain ⟨x, ex, g2⟩ := g.pure rr_ne
    obtain ⟨y, ey, g3⟩ := g2.opt
    have rx : RB Z H1 O x v := rr_ok r1 ex (by have t := tk; cases ka <;> exact t) ha.rvIn
    obtain ⟨t, k, rfl, h1, h2⟩ := kit_all b T hb x y ey
    exact ⟨v, .ty T, .type t, .type T, k, rfl, .ty T, by rw [hK]; exact tyX_of rx h2, h1, g3.done r1 (.bl _)⟩
/-! ### join -/
theorem strs_rep : ∀ {xs : List D} {vs : List V} {is : List Str}, Reps Z H xs vs → dstrs xs = some is → vs = is.map V.str
  | _, _, is, .nil, e => by simp [dstrs] at e; subst e; rfl
  | x :: xs, _, is, .cons a b, e => by
    cases x <;> simp [dstrs] at e
    obtain ⟨is', e1, rfl⟩ := e
    cases a
    rw [strs_rep b e1]
    rfl
theorem pe_of_join (hK : X.K = Z.K) {o a : Expr} {ko ka : E} {l : Lv} {apos pos : Pos} (ho : PE X o (TEe Z c W (tP Z) (ev ko l))) (ha : Opd X Z c W l a ka) (hs : notStar a = true) (hb : attributeBase o "join" X.env (eval o X.env) = eval o X.env) (hl : (apos.endLine == pos.line) = true) :
    PE X (.Call (.Attribute o "join" apos) [a] [] pos) (TEe Z c W (tP Z) (ev (.mt .join ko (.cons ka .nil)) l)) :=
  (pe_join ho ha.kept (by rw [star_cons hs]; rfl) hb hl).weak fun σ H Q ⟨O, σd, h0, hg⟩ => by
    have hg' : Go Z c W ((ev ko l σd).bind fun p => if isStrD p.1 = true then (evbs (.cons ka .nil) l p.2).bind fun q => (rrs (.cons ka .nil) q.1 q.2).bind fun ds => (R.ofO (mtD .join p.1 ds)).bind fun d => .ok (d, q.2) else .bad) O σ H (fun d _ H' => ∀ v, Rep Z (hide H' O) d v → Q v H') := hg
    refine ⟨O, σd, h0, (Go.bind hg').imp fun d σ1 H1 _ r1 k1 g v rv => ?_⟩
    obtain ⟨hd, g⟩ := g.iff
    cases d with
    | str x =>
      cases rv
      rw [evbs_one (g := fun q => (R.ofO (mtD .join (.str x) q.1)).bind fun d => .ok (d, q.2))] at g
      refine ⟨⟨x, rfl⟩, O, σ1, r1, (Go.bind g).imp fun d2 σ2 H2 _ r2 k2 g3 v2 tk2 => ?_⟩
      obtain ⟨y, ey, g5⟩ := g3.pure rr_ne
      obtain ⟨z, ez, g6⟩ := g5.opt
      have ry : RB Z H2 O y v2 := rr_ok r2 ey (by have t := tk2; cases ka <;> exact t) ha.rvIn
      have ez : (((itemsOf y).bind dstrs).bind fun ys => if (ys.map (·.length)).sum + ys.length * x.length ≤ SZ then some (.str (joinS x ys)) else none) = some z := ez
      obtain ⟨ys, e2, e3⟩ := Option.bind_eq_some_iff.mp ez
      obtain ⟨zs, e4, e5⟩ := Option.bind_eq_some_iff.mp e2
      split at e3
      · rename_i hl
        cases e3
        have fin : Q (.str (PySem.Txt.join x ys)) H2 := by
          rw [TL.join_eq]
          exact g6.done r2 (.str _)
        cases y with
        | tup ws =>
          cases e4
          obtain ⟨a, vs, rfl, hv, rs⟩ := ry.tup
          rw [strs_rep rs e5] at hv
          exact ⟨x, a, ys, rfl, rfl, .inr (by rw [hK]; exact hv), hl, fin⟩
        | lst ws =>
          cases e4
          obtain ⟨a, vs, rfl, hv, rs⟩ := ry.lst
          rw [strs_rep rs e5] at hv
          exact ⟨x, a, ys, rfl, rfl, .inl (SqL.of hv), hl, fin⟩
        | frz ws =>
          cases e4
          obtain ⟨a, vs, rfl, hv, rs⟩ := ry.frz
          rw [strs_rep rs e5] at hv
          exact ⟨x, a, ys, rfl, rfl, .inl (by rw [hK]; exact hv), hl, fin⟩
        | _ => cases e4
      · cases e3
    | _ => simp [isStrD] at hd
end
end BF

/-! Snd8 -/
set_option Elab.async false
set_option linter.all false
set_option maxRecDepth 100000
set_option maxHeartbeats 2000000
namespace BF
open PySem L2

/-! ### what a def promises -/
/-- one's own container that stands at the value -/
def RM (Z : Wd) (H : Hp) (O : Addr → Prop) (d : D) (v : V) : Prop := ∃ a, v = .ref a ∧ O a ∧ Cont Z H (hide H O) d a
/-- M: the values of the parameters that are changed -/
def ArgR (Z : Wd) (H : Hp) (O : Addr → Prop) (M : List V) : List Md → List D → List V → Prop
  | [], [], [] => True
  | m :: ps, d :: ds, v :: vs => (match m with
      | .s => Rep Z (hide H O) d v
      | .b => RBx (fun a => V.ref a ∉ M) Z H O d v
      | .m => RM Z H O d v) ∧ ArgR Z H O M ps ds vs
  | _, _, _ => False
def mVals : List Md → List V → List V
  | .m :: ps, v :: vs => v :: mVals ps vs
  | _ :: ps, _ :: vs => mVals ps vs
  | _, _ => []
def OutR (Z : Wd) (H : Hp) (O : Addr → Prop) : List D → List V → Prop
  | [], [] => True
  | d :: ds, v :: vs => RM Z H O d v ∧ OutR Z H O ds vs
  | _, _ => False
/-- what a def gives: fr: a container is new -/
def RetR (Z : Wd) (fr : Bool) (H H' : Hp) (O : Addr → Prop) (d : D) (v : V) (ms : List D) (M : List V) : Prop :=
  (Rep Z (hide H' O) d v ∧ OutR Z H' O ms M) ∧ (fr = true → isContainer d = true → ∃ a, v = .ref a ∧ Fre H a ∧ Cont Z H' (hide H' (plus O a)) d a ∧ OutR Z H' (plus O a) ms M)
def DomO (Z : Wd) (O : Addr → Prop) (H : Hp) : Prop := (∀ a, O a → ∃ o, H a = some o ∧ NT o) ∧ LamX.Tabs Z.T H
def KeepM (M : List V) (H H' : Hp) : Prop := ∀ a o, H a = some o → NT o → V.ref a ∉ M → H' a = some o
def spF (Z : Wd) (fd : Fd) (F : List D → R (D × List D)) : Sp := fun vs H Q E => ∃ O ds, DomO Z O H ∧ ArgR Z H O (mVals fd.ps vs) fd.ps ds vs ∧ (mVals fd.ps vs).Nodup ∧
  match F ds with
  | .ok q => ∀ v H', KeepM (mVals fd.ps vs) H H' → DomO Z O H' → RetR Z fd.fresh H H' O q.1 v q.2 (mVals fd.ps vs) → Q v H'
  | .exc k => ∀ H', KeepM (mVals fd.ps vs) H H' → DomO Z O H' → E (.ref (Z.cad k)) none H'
  | .bad => False
theorem ArgR.length {Z : Wd} {H : Hp} {O : Addr → Prop} {M : List V} : ∀ {ps : List Md} {ds : List D} {vs : List V}, ArgR Z H O M ps ds vs → vs.length = ps.length
  | [], [], [], _ => rfl
  | _ :: _, _ :: _, _ :: _, h => by simp [ArgR.length h.2]
  | [], [], _ :: _, h => h.elim
  | [], _ :: _, _, h => h.elim
  | _ :: _, [], _, h => h.elim
  | _ :: _, _ :: _, [], h => h.elim
section
variable {Z : Wd} {c : Pl} {W : WX} {O : Addr → Prop} {σ : L2.St} {σd : Sd} {H H' : Hp} {X : Cx}
/-! ### the arguments at a call -/
def OutsAt (σ : L2.St) : List Nat → List V → Prop
  | [], [] => True
  | i :: is, v :: vs => σ[i]? = some (some v) ∧ OutsAt σ is vs
  | _, _ => False
/-- the values of the changed arguments stand in their slots -/
theorem outs_vals : ∀ {ps : List Md} {es : Es} {ds : List D} {vs : List V} {own ms : List Nat}, modesOk own ms ps es = true → ArgL Z c O σ H es ds vs → OutsAt σ (outsOf ps es) (mVals ps vs)
  | [], .nil, _, vs, _, _, _, _ => by cases vs <;> trivial
  | [], .cons _ _, _, _, _, _, h, _ => by simp [modesOk] at h
  | m :: _, .nil, _, _, _, _, h, _ => by cases m <;> simp [modesOk] at h
  | m :: ps, .cons k es, [], _, _, _, _, h => h.elim
  | m :: ps, .cons k es, _ :: _, [], _, _, _, h => h.elim
  | m :: ps, .cons k es, d :: ds, v :: vs, own, ms, hm, h => by
    cases m with
    | s => simp only [modesOk, Bool.and_eq_true] at hm; simp only [outsOf, mVals]; exact outs_vals hm.2 h.2
    | b => simp only [modesOk, Bool.and_eq_true] at hm; simp only [outsOf, mVals]; exact outs_vals hm.2 h.2
    | m =>
      simp only [modesOk, Bool.and_eq_true] at hm
      cases k with
      | rv i => exact ⟨h.1, outs_vals hm.2 h.2⟩
      | _ => simp at hm
theorem outs_own : ∀ {ps : List Md} {es : Es} {own ms : List Nat}, modesOk own ms ps es = true → ∀ i ∈ outsOf ps es, i ∈ own
  | [], .nil, _, _, _, _, h => by simp [outsOf] at h
  | [], .cons _ _, _, _, h, _, _ => by simp [modesOk] at h
  | m :: _, .nil, _, _, h, _, _ => by cases m <;> simp [modesOk] at h
  | m :: ps, .cons k es, own, ms, hm, i, hi => by
    cases m with
    | s => simp only [modesOk, Bool.and_eq_true] at hm; simp only [outsOf] at hi; exact outs_own hm.2 i hi
    | b => simp only [modesOk, Bool.and_eq_true] at hm; simp only [outsOf] at hi; exact outs_own hm.2 i hi
    | m =>
      simp only [modesOk, Bool.and_eq_true] at hm
      cases k with
      | rv j =>
        rcases List.mem_cons.mp (show i ∈ j :: outsOf ps es from hi) with rfl | h
        · simpa using hm.1
        · exact outs_own hm.2 i h
      | _ => simp at hm
theorem outsAt_mem {σ : L2.St} : ∀ {is : List Nat} {M : List V} {v : V}, OutsAt σ is M → v ∈ M → ∃ i ∈ is, σ[i]? = some (some v)
  | [], [], _, _, h => nomatch h
  | [], _ :: _, _, h, _ => h.elim
  | _ :: _, [], _, h, _ => h.elim
  | i :: is, w :: M, v, h, hv => by
    rcases List.mem_cons.mp hv with rfl | hv
    · exact ⟨i, List.mem_cons_self, h.1⟩
    · obtain ⟨j, hj, e⟩ := outsAt_mem h.2 hv
      exact ⟨j, List.mem_cons_of_mem _ hj, e⟩
theorem args_ok (hr : RelS Z c O σd σ H) (own ms : List Nat) (M : List V) (ho : ∀ i ∈ own, i ∈ c.own) (hms : ∀ i ∈ ms, i ∈ c.own) (hM : OutsAt σ ms M) : ∀ {ps : List Md} {es : Es} {ds xs : List D} {vs : List V}, modesOk own ms ps es = true → rrs es ds σd = .ok xs → ArgL Z c O σ H es ds vs → RvIn c es → ArgR Z H O M ps xs vs
  | [], .nil, [], xs, [], _, e, _, _ => by simp [rrs] at e; subst e; trivial
  | [], .nil, _ :: _, _, _, _, e, _, _ => by simp [rrs] at e
  | [], .nil, [], _, _ :: _, _, _, h, _ => h.elim
  | [], .cons _ _, _, _, _, h, _, _, _ => by simp [modesOk] at h
  | m :: _, .nil, _, _, _, h, _, _, _ => by cases m <;> simp [modesOk] at h
  | _ :: _, .cons _ _, [], _, _, _, e, _, _ => by simp [rrs] at e
  | _ :: _, .cons _ _, _ :: _, _, [], _, _, h, _ => h.elim
  | m :: ps, .cons k es, d :: ds, xs, v :: vs, hm, e, h, hi => by
    unfold rrs at e
    cases h1 : rr k d σd with
    | ok x =>
      rw [h1] at e
      have e : ((rrs es ds σd).bind fun xs => R.ok (x :: xs)) = .ok xs := e
      cases h2 : rrs es ds σd with
      | ok y =>
        rw [h2] at e
        have e : R.ok (x :: y) = .ok xs := e
        cases e
        cases m with
        | s =>
          simp only [modesOk, Bool.and_eq_true] at hm
          refine ⟨?_, args_ok hr own ms M ho hms hM hm.2 h2 h.2 hi.2⟩
          have t := h.1
          cases k with
          | rv i => simp [isRv] at hm
          | _ => simp [rr] at h1; subst h1; exact t
        | b =>
          simp only [modesOk, Bool.and_eq_true] at hm
          refine ⟨?_, args_ok hr own ms M ho hms hM hm.2 h2 h.2 hi.2⟩
          have t := h.1
          cases k with
          | rv i =>
            have t : σ[i]? = some (some v) := t
            obtain ⟨w, e2, q2, q3, _⟩ := hr.slot i x (getS_ok h1)
            rw [t] at e2
            obtain rfl : v = w := by simpa using e2
            have nms : i ∉ ms := by
              have := hm.1
              simpa using this
            by_cases hio : i ∈ c.own
            · obtain ⟨a, ea, ct⟩ := q2 hio
              refine .inr ⟨a, ea, hr.own i hio a (by rw [t, ea]), fun hv => ?_, ct⟩
              obtain ⟨j, hj, ej⟩ := outsAt_mem hM hv
              exact nms (hr.inj i hio j (hms j hj) a (by rw [t, ea]) ej ▸ hj)
            · rcases hi.1 i rfl with z | z
              · exact absurd z hio
              · rcases q3 hio z with q | ⟨a, ea, oa, na, ct⟩
                · exact .inl q
                · refine .inr ⟨a, ea, oa, fun hv => ?_, ct⟩
                  obtain ⟨j, hj, ej⟩ := outsAt_mem hM hv
                  exact na.1 j (hms j hj) ej
          | _ => simp [rr] at h1; subst h1; exact .inl t
        | m =>
          simp only [modesOk, Bool.and_eq_true] at hm
          refine ⟨?_, args_ok hr own ms M ho hms hM hm.2 h2 h.2 hi.2⟩
          cases k with
          | rv i =>
            have hi' : i ∈ own := by simpa using hm.1
            obtain ⟨w, e2, q2, _, _⟩ := hr.slot i x (getS_ok h1)
            have t : σ[i]? = some (some v) := h.1
            rw [t] at e2
            obtain rfl : v = w := by simpa using e2
            obtain ⟨a, ea, ct⟩ := q2 (ho i hi')
            exact ⟨a, ea, hr.own i (ho i hi') a (by rw [t, ea]), ct⟩
          | _ => simp at hm
      | exc q => rw [h2] at e; cases e
      | bad => rw [h2] at e; cases e
    | exc q => rw [h1] at e; cases e
    | bad => rw [h1] at e; cases e
theorem nodup_of : ∀ {l : List Nat}, nodupB l = true → l.Nodup
  | [], _ => .nil
  | x :: r, h => by
    simp only [nodupB, Bool.and_eq_true] at h
    refine List.nodup_cons.mpr ⟨?_, nodup_of h.2⟩
    have := h.1
    simpa using this
/-- the changed values are apart -/
theorem outs_nodup (hr : RelS Z c O σd σ H) : ∀ {is : List Nat} {M : List V}, OutsAt σ is M → is.Nodup → (∀ i ∈ is, i ∈ c.own) → (∀ v ∈ M, ∃ a, v = .ref a) → M.Nodup
  | [], [], _, _, _, _ => .nil
  | [], _ :: _, h, _, _, _ => h.elim
  | _ :: _, [], h, _, _, _ => h.elim
  | i :: is, v :: M, h, hn, ho, hM => by
    obtain ⟨n1, n2⟩ := List.nodup_cons.mp hn
    refine List.nodup_cons.mpr ⟨fun hv => ?_, outs_nodup hr h.2 n2 (fun j hj => ho j (List.mem_cons_of_mem _ hj)) fun w hw => hM w (List.mem_cons_of_mem _ hw)⟩
    obtain ⟨j, hj, ej⟩ := outsAt_mem h.2 hv
    obtain ⟨a, rfl⟩ := hM v List.mem_cons_self
    exact n1 (hr.inj i (ho i List.mem_cons_self) j (ho j (List.mem_cons_of_mem _ hj)) a h.1 ej ▸ hj)
theorem mVals_ref {M : List V} : ∀ {ps : List Md} {ds : List D} {vs : List V}, ArgR Z H O M ps ds vs → ∀ v ∈ mVals ps vs, ∃ a, v = .ref a
  | [], [], [], _, v, h => nomatch h
  | [], _ :: _, _, h, _, _ => h.elim
  | [], [], _ :: _, h, _, _ => h.elim
  | _ :: _, [], _, h, _, _ => h.elim
  | _ :: _, _ :: _, [], h, _, _ => h.elim
  | m :: ps, d :: ds, v :: vs, h, w, hw => by
    cases m with
    | s => exact mVals_ref h.2 w hw
    | b => exact mVals_ref h.2 w hw
    | m =>
      rcases List.mem_cons.mp (show w ∈ v :: mVals ps vs from hw) with rfl | hw
      · obtain ⟨a, ea, _⟩ := h.1; exact ⟨a, ea⟩
      · exact mVals_ref h.2 w hw
theorem keepM_E {M : List V} {is : List Nat} (hM : OutsAt σ is M) (ho : ∀ i ∈ is, i ∈ c.own) (k : KeepM M H H') : KeepE c σ H H' := fun a o e t n => k a o e t fun hv => by
  obtain ⟨i, hi, ei⟩ := outsAt_mem hM hv
  exact n i (ho i hi) ei
theorem putOuts_len : ∀ {is : List Nat} {ds : List D} {σd σ' : Sd}, putOuts is ds σd = .ok σ' → σ'.length = σd.length
  | [], [], _, _, e => by simp [putOuts] at e; rw [e]
  | [], _ :: _, _, _, e => by simp [putOuts] at e
  | _ :: _, [], _, _, e => by simp [putOuts] at e
  | i :: is, d :: ds, σd, σ', e => by
    have := putOuts_len (show putOuts is ds (σd.set i (some d)) = .ok σ' from e)
    simpa using this
theorem putOuts_at : ∀ {is : List Nat} {ds : List D} {M : List V} {σd σ' : Sd} {i : Nat} {d : D}, putOuts is ds σd = .ok σ' → OutsAt σ is M → OutR Z H O ds M → is.Nodup → σ'[i]? = some (some d) →
    (i ∈ is ∧ ∃ v, v ∈ M ∧ σ[i]? = some (some v) ∧ RM Z H O d v) ∨ (i ∉ is ∧ σd[i]? = some (some d))
  | [], [], _, _, _, i, d, e, _, _, _, h => by simp [putOuts] at e; subst e; exact .inr ⟨by simp, h⟩
  | [], _ :: _, _, _, _, _, _, e, _, _, _, _ => by simp [putOuts] at e
  | _ :: _, [], _, _, _, _, _, e, _, _, _, _ => by simp [putOuts] at e
  | _ :: _, _ :: _, [], _, _, _, _, _, h, _, _, _ => h.elim
  | j :: is, x :: ds, v :: M, σd, σ', i, d, e, h, ho, hn, hi => by
    obtain ⟨n1, n2⟩ := List.nodup_cons.mp hn
    rcases putOuts_at (show putOuts is ds (σd.set j (some x)) = .ok σ' from e) h.2 ho.2 n2 hi with ⟨h1, v', h2, h3⟩ | ⟨h1, h2⟩
    · exact .inl ⟨List.mem_cons_of_mem _ h1, v', List.mem_cons_of_mem _ h2, h3⟩
    · by_cases hij : i = j
      · subst hij
        rw [List.getElem?_set_self'] at h2
        cases hσ : σd[i]? with
        | none => rw [hσ] at h2; simp at h2
        | some z =>
          rw [hσ] at h2
          simp at h2
          subst h2
          exact .inl ⟨List.mem_cons_self, v, List.mem_cons_self, h.1, ho.1⟩
      · rw [List.getElem?_set_ne (Ne.symm hij)] at h2
        exact .inr ⟨fun z => (List.mem_cons.mp z).elim hij h1, h2⟩
/-- behind a call: O' has new addresses alone beside those of O -/
theorem RelS.callN {O' L : Addr → Prop} (hr : RelS Z c O σd σ H) {is : List Nat} {ds : List D} {M : List V} {σ' : Sd} (hO : ∀ b, O b → O' b) (hN : ∀ b o, H b = some o → NT o → ¬ O b → ¬ O' b) (hL : ∀ b, O b → ¬ c.lock b → ¬ L b) (hM : OutsAt σ is M) (ho : ∀ i ∈ is, i ∈ c.own) (hn : is.Nodup) (k : KeepM M H H') (hd : DomO Z O' H') (out : OutR Z H' O' ds M) (e : putOuts is ds σd = .ok σ') : RelS Z { c with lock := L } O' σ' σ H' := by
  have kE := keepM_E hM ho k
  have le : Le (hide H O) (hide H' O') := hide_mono fun a o e t n => ⟨kE a o e t (hr.notOwn n), hN a o e t n⟩
  refine ⟨(putOuts_len e).trans hr.len, hd.1, hd.2, fun i hi a ea => hO a (hr.own i hi a ea), hr.inj, fun i d ei => ?_, hr.hold⟩
  rcases putOuts_at e hM out hn ei with ⟨h1, v, h2, h3, a, ea, oa, ct⟩ | ⟨h1, h2⟩
  · exact ⟨v, h3, fun _ => ⟨a, ea, ct⟩, fun z => absurd (ho i h1) z, fun z => absurd (ho i h1) z⟩
  · obtain ⟨v, q1, q2, q3, q4⟩ := hr.slot i d h2
    refine ⟨v, q1, fun z => ?_, fun z1 z2 => ?_, fun z1 z2 => (q4 z1 z2).le le⟩
    · obtain ⟨a, ea, ct⟩ := q2 z
      refine ⟨a, ea, ct.monoN le fun o q t => k a o q t fun hv => ?_⟩
      obtain ⟨j, hj, ej⟩ := outsAt_mem hM hv
      exact h1 (hr.inj i z j (ho j hj) a (by rw [q1, ea]) ej ▸ hj)
    · rcases q3 z1 z2 with q | ⟨a, ea, oa, na, ct⟩
      · exact .inl (q.le le)
      · exact .inr ⟨a, ea, hO a oa, ⟨na.1, hL a oa na.2⟩, ct.monoN le fun o q t => kE a o q t na.1⟩
theorem RelS.call (hr : RelS Z c O σd σ H) {is : List Nat} {ds : List D} {M : List V} {σ' : Sd} (hM : OutsAt σ is M) (ho : ∀ i ∈ is, i ∈ c.own) (hn : is.Nodup) (k : KeepM M H H') (hd : DomO Z O H') (out : OutR Z H' O ds M) (e : putOuts is ds σd = .ok σ') : RelS Z c O σ' σ H' :=
  hr.callN (L := c.lock) (fun _ h => h) (fun _ _ _ _ h => h) (fun _ _ h => h) hM ho hn k hd out e
end
end BF

/-! Snd9 -/
set_option Elab.async false
set_option linter.all false
set_option maxRecDepth 100000
set_option maxHeartbeats 2000000
namespace BF
open PySem L2

section
variable {Z : Wd} {c : Pl} {W : WX} {O : Addr → Prop} {σ : L2.St} {σd : Sd} {H H' : Hp} {X : Cx}
theorem domO_of (r : RelS Z c O σd σ H) : DomO Z O H := ⟨r.dom, r.tab⟩
/-- the call of a def, from its arguments on -/
theorem call_sp {fd : Fd} {F : List D → R (D × List D)} {ks : Es} {own : List Nat} {H0 : Hp} {ds : List D} {vs : List V} {Q : VK} (hsub : ∀ i ∈ own, i ∈ c.own) (hr : RelS Z c O σd σ H) (hb0 : ∀ p, Fre H p → Fre H0 p) (hw : ∀ q, F q ≠ .bad ∨ True) (av : ArgL Z c O σ H ks ds vs) (hrv : RvIn c ks)
    (hm : modesOk own (outsOf fd.ps ks) fd.ps ks = true) (hn : nodupB (outsOf fd.ps ks) = true)
    (g : Go Z c W ((rrs ks ds σd).bind fun xs => (F xs).bind fun r => (putOuts (outsOf fd.ps ks) r.2 σd).bind fun σ' => .ok (r.1, σ')) O σ H (if fd.fresh then KF Z c O σ H0 Q else fun d _ H' => ∀ v, Rep Z (hide H' O) d v → Q v H')) : spF Z fd F vs H Q (WE W σ) := by
  obtain ⟨xs, ex, g⟩ := g.pure rrs_ne
  have hM := outs_vals hm av
  have hown : ∀ i ∈ outsOf fd.ps ks, i ∈ c.own := fun i hi => hsub i (outs_own hm i hi)
  have ar := args_ok hr own _ _ hsub hown hM hm ex av hrv
  refine ⟨O, xs, domO_of hr, ar, outs_nodup hr hM (nodup_of hn) hown (mVals_ref ar), ?_⟩
  revert g
  cases hF : F xs with
  | bad => intro g; exact g
  | exc k =>
    intro g H' km hd
    have rn : RelS Z c O (List.replicate σ.length none) σ H' := by
      have kE := keepM_E hM hown km
      refine ⟨by simp, hd.1, hd.2, hr.own, hr.inj, fun i d e => ?_, hr.hold⟩
      rw [List.getElem?_replicate] at e
      split at e <;> simp at e
    exact g H' rn (keepM_E hM hown km)
  | ok q =>
    intro g v H' km hd rt
    have g : Go Z c W ((putOuts (outsOf fd.ps ks) q.2 σd).bind fun σ' => .ok (q.1, σ')) O σ H _ := g
    cases hp : putOuts (outsOf fd.ps ks) q.2 σd with
    | ok σ' =>
      rw [hp] at g
      have r' := hr.call hM hown (nodup_of hn) km hd rt.1.2 hp
      have kE := keepM_E hM hown km
      have g := Go.ok (q := (q.1, σ')) g r' kE
      cases hf : fd.fresh with
      | false => rw [hf] at g; exact g v rt.1.1
      | true =>
        rw [hf] at g
        refine g v (fun hc => ?_) rt.1.1
        obtain ⟨a, ea, ha, ct, out⟩ := rt.2 hf hc
        refine ⟨a, ea, hb0 a ha, ct, ?_⟩
        -- the state with the new object as one's own
        have hd' : DomO Z (plus O a) H' := ⟨fun b hb => by
          rcases hb with hb | rfl
          · exact hd.1 b hb
          · rcases hq : q.1 with _ | _ | _ | _ | _ | _ | _ | _ | _ | _ <;> rw [hq] at ct hc <;> first | (simp [isContainer] at hc; done) | skip
            · obtain ⟨vs, e, _⟩ := ct; exact ⟨_, e, nt_lst⟩
            · obtain ⟨vs, e, _⟩ := ct; exact ⟨_, e, nt_dK⟩, hd.2⟩
        exact hr.callN (L := plus c.lock a) (fun b h => .inl h) (fun b o e t n h => h.elim n fun z => by rw [z] at e; exact ha o e t) (fun b ob nb z => z.elim nb fun e => by obtain ⟨o, q, t⟩ := hr.dom b ob; rw [e] at q; exact ha o q t) hM hown (nodup_of hn) km hd' out hp
    | exc k => rw [hp] at g; exact absurd hp (by
        intro z
        have : ∀ (is : List Nat) (ds : List D) (σ : Sd) (k : Nat), putOuts is ds σ ≠ .exc k := by
          intro is
          induction is with
          | nil => intro ds σ k; cases ds <;> simp [putOuts]
          | cons i is ih => intro ds σ k; cases ds with
            | nil => simp [putOuts]
            | cons d ds => simp only [putOuts]; exact ih _ _ _
        exact this _ _ _ _ z)
    | bad => rw [hp] at g; exact g.elim
/-- .. of what gives a new container if fr says so -/
def KG (Z : Wd) (c : Pl) (O : Addr → Prop) (σ : L2.St) (H0 : Hp) (fr : Bool) (Q : VK) : D → Sd → Hp → Prop := if fr then KF Z c O σ H0 Q else fun d _ H' => ∀ v, Rep Z (hide H' O) d v → Q v H'
def TGe (Z : Wd) (c : Pl) (W : WX) (fr : Bool) (f : Sd → R (D × Sd)) : TE := fun σ H Q => ∃ O σd, RelS Z c O σd σ H ∧ Go Z c W (f σd) O σ H (KG Z c O σ H fr Q)
theorem _root_.L2.PE.ofG {e : Expr} {f : Sd → R (D × Sd)} {fr : Bool} (h : PE X e (TGe Z c W fr f)) : PE X e (TEe Z c W (tP Z) f) := by
  cases fr with
  | false => exact h
  | true => exact PE.ofF h
theorem _root_.L2.PE.ofGF {e : Expr} {f : Sd → R (D × Sd)} (h : PE X e (TGe Z c W true f)) : PE X e (TFe Z c W f) := h
theorem pe_callS0 {CX : CXT} {k : Nat} {f : Addr} {fd : FuncData} {ps : List Str} {sp : Sp} {E : L2.St → XK} {x : Str} {p pos : Pos} (F : FnOk X.prog X.w X.K X.mg X.base CX k f fd ps sp) (hr : Room k X.A) (hg : Gl X x) (hm : X.mg x = some (.ref f)) (hk : PySem.W.keepIn X.K (.ref f) = true) (hb : Binds X.K fd ps []) (hx : ∀ σ, PassesAt CX X σ (E σ))
    (hdb : (x == ("__debug__" : Str)) = false) : PE X (.Call (.Name x p) [] [] pos) (tCallS sp E tNil) := by
  refine ⟨fun pins s σ H Q I h => ?_⟩
  refine wpAny_Call_Name_kw (ld_glob I hg hm ?_ hdb)
  exact PySem.W.callWith_K0 I.kIn hk (run_fnS (us := []) F hr hb (hx σ) I .nil h)
/-- what a level's defs are in this body -/
structure FnIn (X : Cx) (Z : Wd) (k : Nat) (f : Nat) (fd : Fd) (F : List D → R (D × List D)) : Prop where
  ex : ∃ (fdt : FuncData) (ps : List Str), FnOk X.prog X.w X.K X.mg X.base (L2N.CX X.prog X.w) k (Z.fad f) fdt ps (spF Z fd F) ∧ Binds X.K fdt ps [] ∧ PySem.W.keepIn X.K (.ref (Z.fad f)) = true
theorem call_go {fd : Fd} {F : List D → R (D × List D)} {ks : Es} {own : List Nat} {H0 : Hp} {ds : List D} {vs : List V} {Q : VK} (hsub : ∀ i ∈ own, i ∈ c.own) (hr : RelS Z c O σd σ H) (hb0 : ∀ p, Fre H p → Fre H0 p) (av : ArgL Z c O σ H ks ds vs) (hrv : RvIn c ks)
    (hm : (modesOk own (outsOf fd.ps ks) fd.ps ks && nodupB (outsOf fd.ps ks)) = true)
    (g : Go Z c W ((rrs ks ds σd).bind fun xs => (F xs).bind fun r => (putOuts (outsOf fd.ps ks) r.2 σd).bind fun σ' => .ok (r.1, σ')) O σ H (KG Z c O σ H0 fd.fresh Q)) : spF Z fd F vs H Q (WE W σ) := by
  rw [Bool.and_eq_true] at hm
  exact call_sp hsub hr hb0 (fun _ => .inr trivial) av hrv hm.1 hm.2 g
theorem pe_of_call {es : List Expr} {ks : Es} {l : Lv} {x : Str} {p pos : Pos} {k f : Nat} {fd : Fd} (hF : FnIn X Z k f fd (l.F f)) (hl : l.tb[f]? = some fd) (hr : Room k X.A) (hg : Gl X x) (hm : X.mg x = some (.ref (Z.fad f))) (tk : L2N.Takes X W)
    (ha : Oas X Z c W l es ks) (hz : es = [] → ks = .nil ∨ ∀ σ, evbs ks l σ = .bad) (hsub : ∀ i ∈ l.own, i ∈ c.own) (hs : es.all notStar = true) (hdb : (x == ("__debug__" : Str)) = false) : PE X (.Call (.Name x p) es [] pos) (TGe Z c W fd.fresh (ev (.call f ks) l)) := by
  obtain ⟨fdt, ps, F, hb, hk⟩ := hF.ex
  have main : ∀ t', (∀ σ H Q, TLe Z c W ks (evbs ks l) σ H Q → t' σ H Q) → PE X (.Call (.Name x p) es [] pos) (tCallS (spF Z fd (l.F f)) (WE W) t') → PE X (.Call (.Name x p) es [] pos) (TGe Z c W fd.fresh (ev (.call f ks) l)) := fun t' ht h => h.weak fun σ H Q ⟨O, σd, h0, hg⟩ => by
    have hg' : Go Z c W (if (modesOk l.own (outsOf fd.ps ks) fd.ps ks && nodupB (outsOf fd.ps ks)) = true then
        (evbs ks l σd).bind fun q => (rrs ks q.1 q.2).bind fun ds => (l.F f ds).bind fun r => (putOuts (outsOf fd.ps ks) r.2 q.2).bind fun σ' => .ok (r.1, σ') else .bad) O σ H (KG Z c O σ H fd.fresh Q) := by
      unfold ev at hg; rw [hl] at hg; exact hg
    obtain ⟨hmo, g⟩ := hg'.iff
    refine ht σ H _ ⟨O, σd, h0, (Go.bind (r := evbs ks l σd) g).imp fun ds σ1 H1 _ r1 k1 g vs av => ?_⟩
    exact call_go hsub r1 (fun p hp => h0.back r1 k1 hp) av ha.rv hmo g
  cases es with
  | nil =>
    refine main tNil (fun σ H Q h => ?_) (pe_callS0 F hr hg hm hk hb (L2N.passAt tk) hdb)
    obtain ⟨O, σd, h0, g⟩ := h
    rcases hz rfl with rfl | hb
    · exact g.ok h0 KeepE.refl [] trivial
    · rw [hb] at g; exact g.elim
  | cons e es =>
    rw [List.all_cons, Bool.and_eq_true] at hs
    exact main _ (fun _ _ _ h => h) (pe_callS F hr hg hm hk hb (L2N.passAt tk) ha.pa hdb (star_cons hs.1) (star_any hs.2))
/-- a call of a local name that holds a def -/
def tCallX (X : Cx) (W : WX) (i k : Nat) (t : TA) : TE := fun σ H Q => ∃ f sp, σ[i]? = some (some (.ref f)) ∧ (∃ (fdt : FuncData) (ps : List Str), FnOk X.prog X.w X.K X.mg X.base (L2N.CX X.prog X.w) k f fdt ps sp ∧ Binds X.K fdt ps [] ∧ PySem.W.keepIn X.K (.ref f) = true) ∧ t σ H fun vs H1 => sp vs H1 Q (WE W σ)
theorem pe_callX {x : Str} {p pos : Pos} {i k : Nat} {e : Expr} {es : List Expr} {t : TA} (hr : Room k X.A) (hN : X.N[i]? = some x) (hv : Vis X.env.scope x) (tk : L2N.Takes X W) (ha : PA X (e :: es) t) (hdb : (x == ("__debug__" : Str)) = false) (hcd : (x == ("__classdict__" : Str)) = false)
    (he : starEach (e :: es) X.env = (false, eval e X.env) :: starEach es X.env) (hpl : (backTo pos (starEach es X.env)).any (·.1) = false) : PE X (.Call (.Name x p) (e :: es) [] pos) (tCallX X W i k t) := by
  refine ⟨fun pins s σ H Q I h => ?_⟩
  obtain ⟨f, sp, hs, ⟨fdt, ps, F, hb, hk⟩, ht⟩ := h
  refine wpAny_Call_Name_kw (thn ((pe_var (pos := p) hN hv hdb hcd).run pins s σ H (fun v H1 => v = .ref f ∧ H1 = H) I ⟨.ref f, hs, rfl, rfl⟩) fun u s1 ⟨v, H1, I1, r1, q1⟩ => ?_)
  obtain ⟨rfl, rfl⟩ := q1
  cases r1
  refine PySem.W.callWith_K (h₀ := X.base) I.ok.mod.kin hk (thn (ha.run pos pins s1 σ _ _ I1 ht) fun us s2 ⟨vs, H2, I2, r, q⟩ => ⟨I2.kIn, ?_⟩) he hpl
  exact run_fnS F hr hb (L2N.passAt tk σ) I2 r q
theorem pe_of_cal {e : Expr} {es : List Expr} {ks : Es} {l : Lv} {x : Str} {p pos : Pos} {i k : Nat} (hF : ∀ f fd, l.tb[f]? = some fd → FnIn X Z k f fd (l.F f)) (hr : Room k X.A) (hN : X.N[i]? = some x) (hv : Vis X.env.scope x) (n1 : i ∉ c.own) (n2 : i ∉ c.bor) (tk : L2N.Takes X W)
    (ha : Oas X Z c W l (e :: es) ks) (hs : (e :: es).all notStar = true) (hdb : (x == ("__debug__" : Str)) = false) (hcd : (x == ("__classdict__" : Str)) = false) : PE X (.Call (.Name x p) (e :: es) [] pos) (TEe Z c W (tP Z) (ev (.cal i ks) l)) := by
  rw [List.all_cons, Bool.and_eq_true] at hs
  refine (pe_callX hr hN hv tk ha.pa hdb hcd (star_cons hs.1) (star_any hs.2)).weak fun σ H Q ⟨O, σd, h0, hg⟩ => ?_
  unfold ev at hg
  obtain ⟨d, ed, hg⟩ := Go.get hg
  cases d with
  | fn f =>
    dsimp only at hg
    cases hf : l.tb[f]? with
    | none => rw [hf] at hg; exact hg.elim
    | some fd =>
      rw [hf] at hg
      obtain ⟨hmo, g⟩ := Go.iff hg
      obtain ⟨v, e2, _, _, h4⟩ := h0.slot i _ ed
      have rv := h4 n1 n2
      cases rv
      refine ⟨_, _, e2, (hF f fd hf).ex, O, σd, h0, (Go.bind (r := evbs ks l σd) g).imp fun ds σ1 H1 _ r1 k1 g vs av => ?_⟩
      refine call_go (own := []) (H0 := H) (fun i hi => nomatch hi) r1 (fun p hp => h0.back r1 k1 hp) av ha.rv hmo ?_
      show Go Z c W _ O σ H1 (KG Z c O σ H fd.fresh Q)
      have g2 : Go Z c W ((rrs ks ds σ1).bind fun xs => (l.F f xs).bind fun r => (putOuts (outsOf fd.ps ks) r.2 σ1).bind fun σ' => .ok (r.1, σ')) O σ H1 (fun d _ H' => ∀ v, Rep Z (hide H' O) d v → Q v H') := g
      refine g2.imp fun d σ2 H2 _ r2 k2 q => ?_
      unfold KG
      cases fd.fresh with
      | false => exact q
      | true => exact fun v _ rv => q v rv
  | _ => exact hg.elim
end
end BF

/-! Snd10 -/
set_option Elab.async false
set_option linter.all false
set_option maxRecDepth 100000
set_option maxHeartbeats 2000000
namespace BF
open PySem L2

section
variable {Z : Wd} {c : Pl} {W : WX} {O : Addr → Prop} {σ : L2.St} {σd : Sd} {H H' : Hp} {X : Cx}
/-- a list or a dict -/
def LD (o : HO) : Prop := (∃ xs, o = .lst xs) ∨ ∃ ks, o = .dK ks
theorem LD.nt {o : HO} (h : LD o) : NT o := by
  rcases h with ⟨xs, rfl⟩ | ⟨xs, rfl⟩
  · exact nt_lst
  · exact nt_dK
theorem tabs_upd {T : List (Addr × Str)} {a : Addr} {o0 o : HO} (h : LamX.Tabs T H) (e : H a = some o0) (t : LD o0) : LamX.Tabs T (upd H a o) := fun p hp => by
  obtain ⟨ps, h1, h2, h3⟩ := h p hp
  have ne1 : p.1 ≠ a := fun z => by
    rw [z, e] at h1
    exact t.nt ps (by simpa using h1)
  refine ⟨ps, by rw [upd_ne ne1]; exact h1, h2, fun pos cv hc => ?_⟩
  obtain ⟨c, e1, e2⟩ := h3 pos cv hc
  refine ⟨c, e1, ?_⟩
  have ne2 : c ≠ a := fun z => by
    rw [z, e] at e2
    have e2 : o0 = LamX.CodeO a p.2 := by simpa using e2
    rcases t with ⟨xs, z⟩ | ⟨xs, z⟩ <;> · rw [z] at e2; unfold LamX.CodeO at e2; cases e2
  rw [upd_ne ne2]; exact e2
theorem hide_upd {a : Addr} {o : HO} (oa : O a) : hide (upd H a o) O = hide H O := by
  funext b
  by_cases hb : b = a
  · subst hb
    unfold hide
    rw [if_pos (.inl oa), if_pos (.inl oa)]
  · unfold hide
    rw [upd_ne hb]
/-- one's own container is written -/
theorem RelS.setOwn (r : RelS Z c O σd σ H) {i : Nat} {a : Addr} {d : D} {o0 o : HO} (hi : i ∈ c.own) (e : σ[i]? = some (some (.ref a))) (h0 : H a = some o0) (t0 : LD o0) (t : LD o) (ct : Cont Z (upd H a o) (hide H O) d a) :
    RelS Z c O (σd.set i (some d)) σ (upd H a o) ∧ KeepE c σ H (upd H a o) := by
  have oa : O a := r.own i hi a e
  have hh : hide (upd H a o) O = hide H O := hide_upd oa
  refine ⟨⟨by rw [List.length_set]; exact r.len, fun b hb => ?_, tabs_upd r.tab h0 t0, r.own, r.inj, fun j d' ej => ?_, r.hold⟩, fun b u eb _ nb => ?_⟩
  · by_cases z : b = a
    · subst z; exact ⟨o, upd_same, t.nt⟩
    · rw [upd_ne z]; exact r.dom b hb
  · rw [hh]
    by_cases z : j = i
    · subst z
      rw [List.getElem?_set_self'] at ej
      cases hσ : σd[j]? with
      | none => rw [hσ] at ej; simp at ej
      | some q =>
        rw [hσ] at ej
        simp at ej
        subst ej
        exact ⟨_, e, fun _ => ⟨a, rfl, ct⟩, fun z => absurd hi z, fun z => absurd hi z⟩
    · rw [List.getElem?_set_ne (Ne.symm z)] at ej
      obtain ⟨v, q1, q2, q3, q4⟩ := r.slot j d' ej
      refine ⟨v, q1, fun zj => ?_, fun z1 z2 => ?_, q4⟩
      · obtain ⟨b, eb, cb⟩ := q2 zj
        have ne : b ≠ a := fun w => z (r.inj j zj i hi a (by rw [q1, eb, w]) e)
        exact ⟨b, eb, cb.mono (Le.refl _) fun u q => by rw [upd_ne ne]; exact q⟩
      · rcases q3 z1 z2 with q | ⟨b, eb, ob, nb, cb⟩
        · exact .inl (by rw [hh]; exact q)
        · have ne : b ≠ a := fun w => nb.1 i hi (by rw [w]; exact e)
          exact .inr ⟨b, eb, ob, nb, by rw [hh]; exact cb.mono (Le.refl _) fun u q => by rw [upd_ne ne]; exact q⟩
  · have ne : b ≠ a := fun w => nb i hi (by rw [w]; exact e)
    rw [upd_ne ne]; exact eb
theorem ixn_seq {n : Nat} {i : Int} {k : Nat} (h : ixn n i = some k) : seqIndex? i n = some k := by
  have h' : ixN n i = some k := h
  exact (ixN_seq h').1
theorem Reps.dropLast : ∀ {xs : List D} {vs : List V}, Reps Z H xs vs → Reps Z H xs.dropLast vs.dropLast
  | _, _, .nil => .nil
  | _, _, .cons a .nil => .nil
  | _, _, .cons a (.cons b r) => .cons a (Reps.dropLast (.cons b r))
/-- the readings of the methods -/
def rMm (m : Mm) : V → List V → Hp → VK → Prop := match m with
  | .append => rAppend
  | .pop0 => rPop
  | .pop1 => rPopAt
theorem mm_ok {m : Mm} {i : Nat} {a : Addr} {xs ds : List D} {y d' : D} {vs ws : List V} {Q : VK} (r : RelS Z c O σd σ H) (hi : i ∈ c.own) (e : σ[i]? = some (some (.ref a))) (hv : H a = some (.lst vs)) (rs : Reps Z (hide H O) xs vs) (ra : Reps Z (hide H O) ds ws)
    (em : mmD m (.lst xs) ds = some (y, d')) (g : Go Z c W (.ok (y, σd.set i (some d'))) O σ H (fun d _ H' => ∀ v, Rep Z (hide H' O) d v → Q v H')) : rMm m (.ref a) ws H Q := by
  have oa : O a := r.own i hi a e
  have fin : ∀ {zs : List V} {d : D} {v : V}, d' = d → Cont Z (upd H a (.lst zs)) (hide H O) d a → Rep Z (hide H O) y v → Q v (upd H a (.lst zs)) := fun {zs d v} ed ct rv => by
    obtain ⟨r2, k2⟩ := r.setOwn (d := d') hi e hv (.inl ⟨_, rfl⟩) (.inl ⟨zs, rfl⟩) (by rw [ed]; exact ct)
    exact g.ok r2 k2 v (by rw [hide_upd oa]; exact rv)
  unfold mmD at em
  split at em
  · rename_i xs' y' h1 
    cases h1
    cases ra with
    | cons hy hn =>
      cases hn
      split at em
      · rename_i hl
        cases em
        exact ⟨a, vs, _, rfl, rfl, hv, by rw [← rs.length]; exact hl, fin rfl ⟨_, upd_same, rs.append (.cons hy .nil)⟩ .non⟩
      · cases em
  · rename_i xs' h1
    cases h1
    cases ra
    obtain ⟨w, e1, e2⟩ := Option.map_eq_some_iff.mp em
    cases e2
    obtain ⟨v, h1, h2⟩ := rs.get e1
    exact ⟨a, vs, v, rfl, rfl, hv, by rw [← rs.length]; exact h1, fin rfl ⟨_, upd_same, rs.dropLast⟩ h2⟩
  · rename_i xs' j h1
    cases h1
    cases ra with
    | cons hy hn =>
      cases hn
      cases hy
      split at em
      · rename_i hl
        obtain ⟨k, e1, e2⟩ := Option.bind_eq_some_iff.mp em
        obtain ⟨w, e3, e4⟩ := Option.map_eq_some_iff.mp e2
        cases e4
        obtain ⟨v, h1, h2⟩ := rs.get e3
        exact ⟨a, vs, _, k, v, rfl, rfl, hv, hl.1, hl.2, by rw [← rs.length]; exact ixn_seq e1, h1, fin rfl ⟨_, upd_same, rs.erase k⟩ h2⟩
      · cases em
  · cases em
theorem tyV_lst {a : Addr} {vs : List V} (h : H a = some (.lst vs)) : tyV X.K "list" (.ref a) H := .inl ⟨rfl, vs, SqL.of h⟩
/-- the start of a method: the list that the slot holds -/
theorem mm_start {m : Mm} {i : Nat} {ks : Es} {l : Lv} {Q : VK} (hr : RelS Z c O σd σ H) (hi : i ∈ c.own) (hg : Go Z c W (ev (.mm m i ks) l σd) O σ H (fun d _ H' => ∀ v, Rep Z (hide H' O) d v → Q v H')) :
    ∃ a vs, σ[i]? = some (some (.ref a)) ∧ H a = some (.lst vs) ∧ Go Z c W ((evs ks l σd).bind fun q => (getS q.2 i).bind fun a => (R.ofO (mmD m a q.1)).bind fun r => .ok (r.1, q.2.set i (some r.2))) O σ H (fun d _ H' => ∀ v, Rep Z (hide H' O) d v → Q v H') := by
  unfold ev at hg
  obtain ⟨d, ed, hg⟩ := Go.get hg
  obtain ⟨hl, hg⟩ := Go.iff hg
  cases d with
  | lst xs =>
    obtain ⟨v, e1, q2, _⟩ := hr.slot i _ ed
    obtain ⟨a, ea, vs, h1, _⟩ := q2 hi
    exact ⟨a, vs, by rw [e1, ea], h1, hg⟩
  | _ => simp [isLstD] at hl
theorem mm_end {m : Mm} {i : Nat} {a : Addr} {ds : List D} {ws : List V} {Q : VK} (hr : RelS Z c O σd σ H) (hi : i ∈ c.own) (e : σ[i]? = some (some (.ref a))) (ra : Reps Z (hide H O) ds ws)
    (g : Go Z c W ((getS σd i).bind fun a => (R.ofO (mmD m a ds)).bind fun r => .ok (r.1, σd.set i (some r.2))) O σ H (fun d _ H' => ∀ v, Rep Z (hide H' O) d v → Q v H')) : rMm m (.ref a) ws H Q := by
  obtain ⟨d, ed, g⟩ := Go.get g
  have g : Go Z c W ((R.ofO (mmD m d ds)).bind fun r => .ok (r.1, σd.set i (some r.2))) O σ H (fun d _ H' => ∀ v, Rep Z (hide H' O) d v → Q v H') := g
  obtain ⟨⟨y, d'⟩, em, g5⟩ := g.opt
  clear g
  obtain ⟨v, e1, q2, _⟩ := hr.slot i _ ed
  obtain ⟨b, eb, ct⟩ := q2 hi
  have : a = b := by rw [e1, eb] at e; simpa using e.symm
  subst this
  have em : mmD m d ds = some (y, d') := em
  cases d with
  | lst xs =>
    obtain ⟨vs, hv, rs⟩ := ct
    have g : Go Z c W (.ok (y, σd.set i (some d'))) O σ H (fun d _ H' => ∀ v, Rep Z (hide H' O) d v → Q v H') := g5
    exact mm_ok hr hi e hv rs ra em g
  | _ => cases m <;> simp [mmD] at em
theorem pe_of_mm {m : Mm} {i : Nat} {o : Expr} {e : Expr} {es : List Expr} {ks : Es} {l : Lv} (hi : i ∈ c.own) (ho : PE X o (tVar i)) (ha : PA X es (TAe Z c W (evs ks l))) (hp : ∀ ta t, PE X o ta → PA X es t → PE X e (tBM X.K "list" (rMm m) ta t)) : PE X e (TEe Z c W (tP Z) (ev (.mm m i ks) l)) :=
  (hp _ _ ho ha).weak fun σ H Q ⟨O, σd, hr, hg⟩ => by
    obtain ⟨a, vs, e1, h1, hg⟩ := mm_start hr hi hg
    refine ⟨_, e1, tyV_lst h1, O, σd, hr, (Go.bind (r := evs ks l σd) hg).imp fun ds σ1 H1 _ r1 k1 g ws rs => mm_end r1 hi e1 rs g⟩
theorem pe_of_mm0 {m : Mm} {i : Nat} {o : Expr} {e : Expr} {l : Lv} (hi : i ∈ c.own) (ho : PE X o (tVar i)) (hp : ∀ ta, PE X o ta → PE X e (tBM0 X.K "list" (rMm m) ta)) : PE X e (TEe Z c W (tP Z) (ev (.mm m i .nil) l)) :=
  (hp _ ho).weak fun σ H Q ⟨O, σd, hr, hg⟩ => by
    obtain ⟨a, vs, e1, h1, hg⟩ := mm_start hr hi hg
    exact ⟨_, e1, tyV_lst h1, mm_end hr hi e1 .nil hg⟩
theorem pe_append {x : Str} {np apos cpos : Pos} {a : Expr} {i : Nat} {k : E} {l : Lv} (hi : i ∈ c.own) (ho : PE X (.Name x np) (tVar i)) (ha : PE X a (TEe Z c W (tP Z) (ev k l))) (hs : notStar a = true) (hl : (apos.endLine == cpos.line) = true) :
    PE X (.Call (.Attribute (.Name x np) "append" apos) [a] [] cpos) (TEe Z c W (tP Z) (ev (.mm .append i (.cons k .nil)) l)) :=
  pe_of_mm hi ho (s_cons ha s_nil (star_cons hs)) fun ta t h1 h2 => pe_bm PySem.F.plainAttrs_list PySem.F.slot_list_append (by rfl) mt_append h1 h2 rfl (by rw [star_cons hs]; rfl) hl (star_cons hs)
theorem pe_pop1 {x : Str} {np apos cpos : Pos} {a : Expr} {i : Nat} {k : E} {l : Lv} (hi : i ∈ c.own) (ho : PE X (.Name x np) (tVar i)) (ha : PE X a (TEe Z c W (tP Z) (ev k l))) (hs : notStar a = true) (hl : (apos.endLine == cpos.line) = true) :
    PE X (.Call (.Attribute (.Name x np) "pop" apos) [a] [] cpos) (TEe Z c W (tP Z) (ev (.mm .pop1 i (.cons k .nil)) l)) :=
  pe_of_mm hi ho (s_cons ha s_nil (star_cons hs)) fun ta t h1 h2 => pe_bm PySem.F.plainAttrs_list PySem.F.slot_list_pop (by rfl) mt_popAt h1 h2 rfl (by rw [star_cons hs]; rfl) hl (star_cons hs)
theorem pe_pop0 {x : Str} {np apos cpos : Pos} {i : Nat} {l : Lv} (hi : i ∈ c.own) (ho : PE X (.Name x np) (tVar i)) (hl : (apos.endLine == cpos.line) = true) :
    PE X (.Call (.Attribute (.Name x np) "pop" apos) [] [] cpos) (TEe Z c W (tP Z) (ev (.mm .pop0 i .nil) l)) :=
  pe_of_mm0 hi ho fun ta h1 => pe_bm0 PySem.F.plainAttrs_list PySem.F.slot_list_pop (by rfl) mt_pop h1 rfl hl
end
end BF

/-! Snd11 -/
set_option Elab.async false
set_option linter.all false
set_option maxRecDepth 100000
set_option maxHeartbeats 2000000
namespace BF
open PySem L2

section
variable {Z : Wd} {c : Pl} {W : WX} {O : Addr → Prop} {σ : L2.St} {σd : Sd} {H H' : Hp} {X : Cx}
/-! ### targets -/
/-- a slot that may be stored plainly -/
def FreeS (c : Pl) (i : Nat) : Prop := i ∉ c.own ∧ i ∉ c.bor ∧ ∀ v, c.hold ≠ some (i, v)
theorem notOwn_set {i : Nat} {v : Option V} (hi : i ∉ c.own) {a : Addr} : NotOwn c (σ.set i v) a ↔ NotOwn c σ a := by
  constructor
  · intro h j hj e
    have ne : i ≠ j := fun z => hi (z ▸ hj)
    exact h j hj (by rw [List.getElem?_set_ne ne]; exact e)
  · intro h j hj e
    have ne : i ≠ j := fun z => hi (z ▸ hj)
    rw [List.getElem?_set_ne ne] at e
    exact h j hj e
theorem set_some {α : Type} {l : List (Option α)} {i j : Nat} {x : Option α} {y : α} (h : (l.set i x)[j]? = some (some y)) : (j = i ∧ x = some y ∧ ∃ o, l[i]? = some o) ∨ (j ≠ i ∧ l[j]? = some (some y)) := by
  by_cases z : j = i
  · subst z
    rw [List.getElem?_set_self'] at h
    cases hl : l[j]? with
    | none => rw [hl] at h; simp at h
    | some o => rw [hl] at h; exact .inl ⟨rfl, by simpa using h, o, rfl⟩
  · rw [List.getElem?_set_ne (Ne.symm z)] at h
    exact .inr ⟨z, h⟩
theorem set_at {α : Type} {l m : List (Option α)} {β : Type} {k : List (Option β)} {i : Nat} (hl : l.length = k.length) {o : Option α} (h : l[i]? = some o) (x : Option β) : (k.set i x)[i]? = some x := by
  have hi : i < k.length := by rw [← hl]; exact (List.getElem?_eq_some_iff.mp h).1
  rw [List.getElem?_set_self hi]
/-- a plain slot is stored -/
theorem RelS.setP (r : RelS Z c O σd σ H) {i : Nat} (f : FreeS c i) {d : D} {v : V} (rv : Rep Z (hide H O) d v) : RelS Z c O (σd.set i (some d)) (σ.set i (some v)) H := by
  obtain ⟨f1, f2, f3⟩ := f
  refine ⟨by simp [r.len], r.dom, r.tab, fun j hj a e => ?_, fun j hj k hk a e e' => ?_, fun j d' e => ?_, fun j w hw => ?_⟩
  · have ne : i ≠ j := fun z => f1 (z ▸ hj)
    rw [List.getElem?_set_ne ne] at e
    exact r.own j hj a e
  · have ne : i ≠ j := fun z => f1 (z ▸ hj)
    have ne' : i ≠ k := fun z => f1 (z ▸ hk)
    rw [List.getElem?_set_ne ne] at e
    rw [List.getElem?_set_ne ne'] at e'
    exact r.inj j hj k hk a e e'
  · rcases set_some e with ⟨rfl, e1, o, eo⟩ | ⟨ne, e1⟩
    · cases e1
      refine ⟨v, set_at (m := []) r.len eo _, fun z => absurd z f1, fun _ z => absurd z f2, fun _ _ => rv⟩
    · obtain ⟨w, h1, h2, h3, h4⟩ := r.slot j d' e1
      refine ⟨w, by rw [List.getElem?_set_ne (Ne.symm ne)]; exact h1, h2, fun z1 z2 => ?_, h4⟩
      rcases h3 z1 z2 with q | ⟨a, ea, oa, na, ct⟩
      · exact .inl q
      · exact .inr ⟨a, ea, oa, ⟨(notOwn_set f1).mpr na.1, na.2⟩, ct⟩
  · have ne : i ≠ j := fun z => f3 w (by rw [hw, z])
    rw [List.getElem?_set_ne ne]
    exact r.hold j w hw
/-- a plain slot is forgotten -/
theorem RelS.setN (r : RelS Z c O σd σ H) {i : Nat} (f : FreeS c i) : RelS Z c O (σd.set i none) (σ.set i none) H := by
  obtain ⟨f1, f2, f3⟩ := f
  refine ⟨by simp [r.len], r.dom, r.tab, fun j hj a e => ?_, fun j hj k hk a e e' => ?_, fun j d' e => ?_, fun j w hw => ?_⟩
  · have ne : i ≠ j := fun z => f1 (z ▸ hj)
    rw [List.getElem?_set_ne ne] at e
    exact r.own j hj a e
  · have ne : i ≠ j := fun z => f1 (z ▸ hj)
    have ne' : i ≠ k := fun z => f1 (z ▸ hk)
    rw [List.getElem?_set_ne ne] at e
    rw [List.getElem?_set_ne ne'] at e'
    exact r.inj j hj k hk a e e'
  · rcases set_some e with ⟨rfl, e1, o, eo⟩ | ⟨ne, e1⟩
    · cases e1
    · obtain ⟨w, h1, h2, h3, h4⟩ := r.slot j d' e1
      refine ⟨w, by rw [List.getElem?_set_ne (Ne.symm ne)]; exact h1, h2, fun z1 z2 => ?_, h4⟩
      rcases h3 z1 z2 with q | ⟨a, ea, oa, na, ct⟩
      · exact .inl q
      · exact .inr ⟨a, ea, oa, ⟨(notOwn_set f1).mpr na.1, na.2⟩, ct⟩
  · have ne : i ≠ j := fun z => f3 w (by rw [hw, z])
    rw [List.getElem?_set_ne ne]
    exact r.hold j w hw
/-- all but the slots vs are as they were -/
def SameS (vs : List Nat) (σ σ' : L2.St) : Prop := σ'.length = σ.length ∧ ∀ j, j ∉ vs → σ'[j]? = σ[j]?
theorem SameS.refl {vs : List Nat} : SameS vs σ σ := ⟨rfl, fun _ _ => rfl⟩
theorem SameS.trans {vs : List Nat} {a b d : L2.St} (h : SameS vs a b) (k : SameS vs b d) : SameS vs a d := ⟨k.1.trans h.1, fun j hj => (k.2 j hj).trans (h.2 j hj)⟩
theorem SameS.mono {vs ws : List Nat} {a b : L2.St} (h : SameS vs a b) (i : ∀ x ∈ vs, x ∈ ws) : SameS ws a b := ⟨h.1, fun j hj => h.2 j fun z => hj (i j z)⟩
theorem SameS.set {i : Nat} {v : Option V} {vs : List Nat} (h : i ∈ vs) : SameS vs σ (σ.set i v) := ⟨by simp, fun j hj => List.getElem?_set_ne fun (z : i = j) => hj (z ▸ h)⟩
/-- what a store into t must lead to -/
def TGo (Z : Wd) (c : Pl) (t : T) (O : Addr → Prop) (σ : L2.St) (σd : Sd) (H : Hp) (d : D) (Q : L2.St → Hp → Prop) : Prop :=
  match asg t d σd with
  | .ok σd' => ∀ σ', RelS Z c O σd' σ' H → SameS (slotsT t) σ σ' → Q σ' H
  | _ => False
def TGos (Z : Wd) (c : Pl) (t : List T) (O : Addr → Prop) (σ : L2.St) (σd : Sd) (H : Hp) (d : List D) (Q : L2.St → Hp → Prop) : Prop :=
  match asgs t d σd with
  | .ok σd' => ∀ σ', RelS Z c O σd' σ' H → SameS (slotsTs t) σ σ' → Q σ' H
  | _ => False
def TGr (Z : Wd) (c : Pl) (t : T) : TG := fun v σ H Q => ∃ O σd d, RelS Z c O σd σ H ∧ Rep Z (hide H O) d v ∧ TGo Z c t O σ σd H d Q
def TGrs (Z : Wd) (c : Pl) (t : List T) : TGs := fun vs σ H Q => ∃ O σd ds, RelS Z c O σd σ H ∧ Reps Z (hide H O) ds vs ∧ TGos Z c t O σ σd H ds Q
theorem _root_.L2.PG.weak {e : Expr} {t t' : TG} (h : PG X e t) (i : ∀ v σ H Q, t' v σ H Q → t v σ H Q) : PG X e t' := ⟨fun pins s σ H v u Q I r q => h.run pins s σ H v u Q I r (i v σ H Q q)⟩
theorem _root_.L2.PGs.weak {e : List Expr} {t t' : TGs} (h : PGs X e t) (i : ∀ v σ H Q, t' v σ H Q → t v σ H Q) : PGs X e t' := ⟨fun pins s σ H v u Q I r q => h.run pins s σ H v u Q I r (i v σ H Q q)⟩
theorem _root_.L2.PG.or {e : Expr} {t t' : TG} (h : PG X e t) (h' : PG X e t') : PG X e (fun v σ H Q => t v σ H Q ∨ t' v σ H Q) :=
  ⟨fun pins s σ H v u Q I r q => q.elim (h.run pins s σ H v u Q I r) (h'.run pins s σ H v u Q I r)⟩
theorem tg_name {i : Nat} {x : Str} {pos : Pos} (f : FreeS c i) (hN : X.N.Nodup) (hi : X.N[i]? = some x) (hx : Loc X.env.scope x) (hf : X.fn x = true ∨ X.env.scope.names.lookup x = some .local) : PG X (.Name x pos) (TGr Z c (.var i)) :=
  (pg_name hN hi hx hf).weak fun v σ H Q ⟨O, σd, d, r, rv, g⟩ => by
    unfold TGo asg at g
    exact g _ (r.setP f rv) (SameS.set (by simp [slotsT]))
theorem tg_nil : PGs X [] (TGrs Z c []) := pgs_nil.weak fun vs σ H Q ⟨O, σd, ds, r, rs, g⟩ => by
  unfold TGos at g
  cases rs with
  | nil => simp only [asgs] at g; exact ⟨rfl, g σ r SameS.refl⟩
  | cons _ _ => simp [asgs] at g
theorem tg_cons {e : Expr} {es : List Expr} {t : T} {ts : List T} (h1 : PG X e (TGr Z c t)) (h2 : PGs X es (TGrs Z c ts)) (hs : (assignEach (e :: es) X.env).map (·.2) = assign e X.env :: (assignEach es X.env).map (·.2)) : PGs X (e :: es) (TGrs Z c (t :: ts)) :=
  (pgs_cons h1 h2 hs).weak fun vs σ H Q ⟨O, σd, ds, r, rs, g⟩ => by
    unfold TGos at g
    cases rs with
    | nil => simp [asgs] at g
    | @cons d v ds vs rv rs =>
      refine ⟨v, vs, rfl, O, σd, d, r, rv, ?_⟩
      simp only [asgs] at g
      unfold TGo
      cases ha : asg t d σd with
      | ok σ1 =>
        rw [ha] at g
        intro σ' r' sm
        refine ⟨O, σ1, ds, r', rs, ?_⟩
        unfold TGos
        have g : (match asgs ts ds σ1 with | .ok σd' => ∀ σ', RelS Z c O σd' σ' H → SameS (slotsTs (t :: ts)) σ σ' → Q σ' H | _ => False) := g
        cases hb : asgs ts ds σ1 with
        | ok σ2 =>
          rw [hb] at g
          exact fun σ3 r3 sm3 => g σ3 r3 ((sm.mono fun x hx => by simp only [slotsTs, List.mem_append]; exact .inl hx).trans (sm3.mono fun x hx => by simp only [slotsTs, List.mem_append]; exact .inr hx))
        | exc k => rw [hb] at g; exact g
        | bad => rw [hb] at g; exact g
      | exc k => rw [ha] at g; exact g
      | bad => rw [ha] at g; exact g
/-- targets in a row, any of a tuple's or a list's items -/
theorem tg_tup {es : List Expr} {k : Nat} {ts : List T} {pos : Pos} (hK : X.K = Z.K) (hc : X.calm = true) (h : PGs X es (TGrs Z c ts)) (hl : ts.length = es.length) (hn : (assignEach es X.env).length = es.length) (hst : (assignEach es X.env).findIdx? (·.1) = none) : PG X (.Tuple es k pos) (TGr Z c (.tup ts)) :=
  ((pg_tup hc h hn hst).or (pg_lst hc h hn hst)).weak fun v σ H Q ⟨O, σd, d, r, rv, g⟩ => by
    unfold TGo at g
    simp only [asg] at g
    cases d <;> simp only [itemsOf] at g <;> first | exact g.elim | skip
    all_goals
      rename_i xs
      split at g <;> first | exact g.elim | skip
      rename_i σd' hg
      split at hg <;> first | (cases hg; done) | skip
      rename_i hl'
      have go : ∀ vs, Reps Z (hide H O) xs vs → TGrs Z c ts vs σ H Q := fun vs rs => ⟨O, σd, xs, r, rs, by
        unfold TGos
        rw [hg]
        exact fun σ' r' sm => g σ' r' (by simpa [slotsT] using sm)⟩
    · cases rv with
      | tup s rs => exact .inl ⟨_, _, rfl, by rw [hK]; exact (hide_le H O).sqT s, by rw [← rs.length, hl', hl], go _ rs⟩
    · cases rv with
      | lst s rs => exact .inr ⟨_, _, rfl, SqL.of (hide_le H O _ _ s), by rw [← rs.length, hl', hl], go _ rs⟩
    · cases rv with
      | frz s rs => exact .inr ⟨_, _, rfl, by rw [hK]; exact (hide_le H O).sqL s, by rw [← rs.length, hl', hl], go _ rs⟩
end
end BF

/-! ZipM -/
set_option Elab.async false
set_option linter.all false
set_option maxRecDepth 100000
set_option maxHeartbeats 2000000
namespace BF
open PySem PySem.W RZ
open PySem.Sem (wp)
def clsB (b : Bool) : String := if b then "tuple_iterator" else "list_iterator"
def itO (b : Bool) (l : Addr) : Obj := { cls := .type (clsB b), data := .fields #[.ref l, .int 0 0] }
section
variable {prog : Program} {w : World} {A : Around} {E : Value → Shared → Prop} {s : Shared} {b c : Bool}
theorem pyIterB {l : Addr} {xs : Array Value} {Q : Value → Shared → Prop} (hl : SqB b s.heap l xs) (hQ : Q (.ref s.heap.objs.size) { s with heap := s.heap.push (itO b l) }) : wpAny (model prog w) A (pyIter (.ref l)) Q E s := by
  cases b
  · exact wpAny_pyIter_list hl hQ
  · exact wpAny_pyIter_tuple hl hQ
theorem itB_new {h : Heap} {l : Addr} (i : Addr) (e : h.get? i = some (itO b l)) : ItB b h i l 0 := by
  cases b
  · exact ⟨_, e, rfl, rfl⟩
  · exact ⟨_, e, rfl, rfl⟩
abbrev zB1 (b : Bool) (h : Heap) (l1 : Addr) : Heap := h.push (itO b l1)
abbrev zB2 (b c : Bool) (h : Heap) (l1 l2 : Addr) : Heap := (zB1 b h l1).push (itO c l2)
abbrev zB3 (b c : Bool) (h : Heap) (l1 l2 : Addr) : Heap := (zB2 b c h l1 l2).push { cls := .type "tuple", data := .seq #[.ref h.objs.size, .ref (zB1 b h l1).objs.size] }
abbrev zB4 (b c : Bool) (h : Heap) (l1 l2 : Addr) : Heap := (zB3 b c h l1 l2).push { cls := .type "tuple", data := .seq #[.none, .none] }
abbrev zB5 (b c : Bool) (h : Heap) (l1 l2 : Addr) : Heap := (zB4 b c h l1 l2).push { cls := .type "zip", data := .fields #[.none, .bool false, .bool false, .ref (zB2 b c h l1 l2).objs.size, .ref (zB3 b c h l1 l2).objs.size] }
theorem meets_zipB_new (b c : Bool) (l1 l2 : Addr) (xs ys : Array Value) :
    Meets (Builtin.«zip.__new__» ⟨[.type "zip", .ref l1, .ref l2], []⟩) (fun _ R s => SqB b s.heap l1 xs ∧ SqB c s.heap l2 ys ∧
      R (.ok (.ret (.ref (zB4 b c s.heap l1 l2).objs.size))) { s with heap := zB5 b c s.heap l1 l2 }) :=
  .of_wp fun prog w A R s h => by
    obtain ⟨hp, g, d, tk, os⟩ := s; obtain ⟨hl1, hl2, h⟩ := h
    have hsub := sub_zip
    have hL1 : SqB b (Shared.heap ⟨hp, g, d, tk, os⟩) l1 xs := hl1
    have hL2 : SqB c (Shared.heap ⟨hp.push (itO b l1), g, d, tk, os⟩) l2 ys := hl2.at fun o e => Heap.get?_push_of_some _ e
    wp_walk using pyIterB hL1, pyIterB hL2
    exact ⟨_, rfl, h⟩
theorem call_zipB {l1 l2 : Addr} {xs ys : Array Value} {Q : Value → Shared → Prop} (hl1 : SqB b s.heap l1 xs) (hl2 : SqB c s.heap l2 ys)
    (h : ∀ h', IsZip h' (s.heap.objs.size + 4) (s.heap.objs.size + 2) (s.heap.objs.size + 3) .none → IsPair h' (s.heap.objs.size + 2) (.ref s.heap.objs.size) (.ref (s.heap.objs.size + 1)) →
      IsPair h' (s.heap.objs.size + 3) .none .none → ItB b h' s.heap.objs.size l1 0 → ItB c h' (s.heap.objs.size + 1) l2 0 → h'.objs.size = s.heap.objs.size + 5 →
      (∀ c o, s.heap.get? c = some o → h'.get? c = some o) → Q (.ref (s.heap.objs.size + 4)) { s with heap := h' }) :
    wpAny (model prog w) A (call (.type "zip") [.ref l1, .ref l2]) Q E s := by
  refine callType_new F.called_zip (by decide) (F.typeCall_zip_2 _ _) (F.newCall_zip_2 _ _) (fun obj => F.args_object_init_3 obj _ _) F.entry_zip_new
    (meets_zipB_new b c l1 l2 xs ys) ⟨hl1, hl2, ?_⟩
  have z1 : (zB1 b s.heap l1).objs.size = s.heap.objs.size + 1 := Heap.size_push ..
  have z2 : (zB2 b c s.heap l1 l2).objs.size = s.heap.objs.size + 2 := by rw [Heap.size_push, z1]
  have z3 : (zB3 b c s.heap l1 l2).objs.size = s.heap.objs.size + 3 := by rw [Heap.size_push, z2]
  have z4 : (zB4 b c s.heap l1 l2).objs.size = s.heap.objs.size + 4 := by rw [Heap.size_push, z3]
  have z5 : (zB5 b c s.heap l1 l2).objs.size = s.heap.objs.size + 5 := by rw [Heap.size_push, z4]
  have g5 : (zB5 b c s.heap l1 l2).get? (zB4 b c s.heap l1 l2).objs.size = some _ := Heap.get?_push_size _ rfl
  have g4 : (zB5 b c s.heap l1 l2).get? (zB3 b c s.heap l1 l2).objs.size = some _ := Heap.get?_push_of_some _ (Heap.get?_push_size _ rfl)
  have g3 : (zB5 b c s.heap l1 l2).get? (zB2 b c s.heap l1 l2).objs.size = some _ := Heap.get?_push_of_some _ (Heap.get?_push_of_some _ (Heap.get?_push_size _ rfl))
  have g2 : (zB5 b c s.heap l1 l2).get? (zB1 b s.heap l1).objs.size = some (itO c l2) := Heap.get?_push_of_some _ (Heap.get?_push_of_some _ (Heap.get?_push_of_some _ (Heap.get?_push_size _ (by rfl))))
  have g1 : (zB5 b c s.heap l1 l2).get? s.heap.objs.size = some (itO b l1) := Heap.get?_push_of_some _ (Heap.get?_push_of_some _ (Heap.get?_push_of_some _ (Heap.get?_push_of_some _ (Heap.get?_push_size _ (by rfl)))))
  show _ ∧ _
  rw [z2, z3, z4] at g5
  rw [z1, z2] at g3
  rw [z3] at g4
  rw [z1] at g2
  rw [z4]
  exact ⟨⟨_, g5, rfl⟩, h _ g5 g3 g4 (itB_new _ g1) (itB_new _ g2) z5 fun c o x =>
    Heap.get?_push_of_some _ (Heap.get?_push_of_some _ (Heap.get?_push_of_some _ (Heap.get?_push_of_some _ (Heap.get?_push_of_some _ x))))⟩
end
open PySem.Spec PyProof.Rows L2
/-- a list (false) or a tuple (true) -/
def SqV (K : PySem.W.Frag) (b : Bool) (H : Hp) (a : Addr) (xs : List V) : Prop := match b with
  | true => SqT K H a xs
  | false => SqL K H a xs
def pairsL : List V → List V → List (V × V) := List.zip
/-- the tuples tracked at their addresses -/
def putP : Hp → List Addr → List (V × V) → Hp
  | H, a :: as, p :: kvs => putP (upd H a (.tup [p.1, p.2])) as kvs
  | H, _, _ => H
theorem putP_off {b : Addr} : ∀ (as : List Addr) (kvs : List (V × V)) (H : Hp), b ∉ as → putP H as kvs b = H b
  | [], _, _, _ => rfl
  | _ :: _, [], _, _ => rfl
  | a :: as, p :: kvs, H, h => by
    show putP (upd H a (.tup [p.1, p.2])) as kvs b = H b
    rw [putP_off as kvs _ (fun z => h (List.mem_cons_of_mem _ z)), upd_ne (fun z => h (by rw [z]; exact List.mem_cons_self))]
theorem putP_at : ∀ (as : List Addr) (kvs : List (V × V)) (H : Hp), as.length = kvs.length → as.Nodup → ∀ (j : Nat) (t : Addr) (p : V × V), as[j]? = some t → kvs[j]? = some p → putP H as kvs t = some (.tup [p.1, p.2])
  | [], _, _, _, _, j, t, p, h, _ => by simp at h
  | _ :: _, [], _, h, _, _, _, _, _, _ => by cases h
  | a :: as, q :: kvs, H, h, hn, j, t, p, h1, h2 => by
    have hn' := List.nodup_cons.mp hn
    show putP (upd H a (.tup [q.1, q.2])) as kvs t = _
    cases j with
    | zero =>
      simp at h1 h2
      subst h1; subst h2
      rw [putP_off as kvs _ hn'.1, upd_same]
    | succ j => exact putP_at as kvs _ (Nat.succ.inj h) hn'.2 j t p (by simpa using h1) (by simpa using h2)
def rZipL (K : PySem.W.Frag) : List V → Hp → VK → Prop := fun vs H Q => ∃ (b c : Bool) (a d : Addr) (xs ys : List V), vs = [.ref a, .ref d] ∧ SqV K b H a xs ∧ SqV K c H d ys ∧
  ∀ (H' : Hp) (p : Addr) (ts : List Addr), (∀ b o, H b = some o → H' b = some o) → H p = none → (∀ t ∈ ts, H t = none) → p ∉ ts → H' p = some (.lst (ts.map V.ref)) → ts.length = (xs.zip ys).length →
    (∀ (j : Nat) (t : Addr) (q : V × V), ts[j]? = some t → (xs.zip ys)[j]? = some q → H' t = some (.tup [q.1, q.2])) → Q (.ref p) H'
def tListZip (K : PySem.W.Frag) (ta : TA) : TE := fun σ H Q => ta σ H fun vs H1 => rZipL K vs H1 Q
section
variable {X : Cx} {pins : List (Addr × Obj)} {σ : L2.St} {H : Hp} {s : Shared}
theorem sqv_at (I : Inv X pins σ H s) {b : Bool} {a : Addr} {xs : List V} (h : SqV X.K b H a xs) : ∃ its : List Value, Vals xs its ∧ SqB b s.heap a its.toArray ∧ xs.length ≤ sizeLine ∧ a < s.heap.objs.size := by
  cases b
  · obtain ⟨its, rv, p, hz⟩ := I.list h
    exact ⟨its, rv, p.isList, hz, p.lt⟩
  · obtain ⟨its, rv, p, hz⟩ := I.tuple h
    obtain ⟨o, ho, _⟩ := id p
    exact ⟨its, rv, p, hz, Heap.lt_size ho⟩
theorem zip_laid {h' : Heap} {tk : Nat} {xs ys : List V} {its its2 : List Value} {acc : Array Value} {c : Nat} {as : List Addr} {S : Addr} (I : Inv X pins σ H s) (hz : xs.length ≤ sizeLine) (r1 : Vals xs its) (r2 : Vals ys its2)
    (hk : ∀ b o, s.heap.get? b = some o → h'.get? b = some o) (hSs : s.heap.objs.size ≤ S) (hS : h'.get? S = some { cls := .type "list", dict := none, data := .seq acc c, slots := #[] }) (hl : as.length = min its.length its2.length) (hG : ZG its.toArray its2.toArray (S + 1) h' as) (hacc : acc.toList = as.map Value.ref) :
    ∃ H' : Hp, (∀ b o, H b = some o → H' b = some o) ∧ H S = none ∧ (∀ t ∈ as, H t = none) ∧ S ∉ as ∧ H' S = some (.lst (as.map V.ref)) ∧ (∀ (j : Nat) (t : Addr) (q : V × V), as[j]? = some t → (xs.zip ys)[j]? = some q → H' t = some (.tup [q.1, q.2])) ∧ Inv X pins σ H' { s with heap := h', toks := tk } := by
  have l1 := r1.length
  have l2 := r2.length
  have lk : as.length = (xs.zip ys).length := by rw [hl, List.length_zip, l1, l2]
  have hSn : S ∉ as := fun z => Nat.not_succ_le_self _ (hG.above _ z)
  have nd : as.Nodup := List.Pairwise.imp (fun {a b} (h : a < b) => Nat.ne_of_lt h) hG.rise
  have new : ∀ t ∈ as, H t = none := fun t ht => I.hok.fresh (Nat.le_trans hSs (Nat.le_of_succ_le (hG.above t ht)))
  have newS : H S = none := I.hok.fresh hSs
  have atP := putP_at as (xs.zip ys) (upd H S (.lst (as.map V.ref))) lk nd
  have off : ∀ b, b ∉ as → b ≠ S → putP (upd H S (.lst (as.map V.ref))) as (xs.zip ys) b = H b := fun b h1 h2 => by rw [putP_off as _ _ h1, upd_ne h2]
  have low : ∀ b o, s.heap.get? b = some o → b ∉ as ∧ b ≠ S := fun b o e => ⟨fun z => absurd (Nat.lt_of_lt_of_le (Heap.lt_size e) hSs) (Nat.not_lt.mpr (Nat.le_of_succ_le (hG.above b z))), Nat.ne_of_lt (Nat.lt_of_lt_of_le (Heap.lt_size e) hSs)⟩
  have kp : ∀ b u, H b = some u → (putP (upd H S (.lst (as.map V.ref))) as (xs.zip ys)) b = some u := fun b u e => by
    rw [off b (fun z => by rw [new b z] at e; cases e) (fun z => by rw [z, newS] at e; cases e)]
    exact e
  have eS : putP (upd H S (.lst (as.map V.ref))) as (xs.zip ys) S = some (.lst (as.map V.ref)) := by rw [putP_off as _ _ hSn, upd_same]
  refine ⟨putP (upd H S (.lst (as.map V.ref))) as (xs.zip ys), kp, newS, new, hSn, eS, atP, ?_⟩
  refine I.call' (ch := []) rfl ⟨fun b o q _ _ _ => hk b o q, fun b o q _ _ _ => ⟨o.slots, hk b o q⟩, fun b o q n _ => ?_, fun b o q _ => ⟨o, hk b o q⟩, fun b xs q => kp b _ q, fun b o u q => kp b _ q, fun b ps q => ⟨#[], by rw [kp b _ q]; simp⟩⟩ (fun b u q => ?_) I.bare fun b z => by simp at z
  · obtain ⟨z1, z2⟩ := low b o q
    rw [off b z1 z2]
    exact n
  · by_cases hb : b ∈ as
    · obtain ⟨j, hj⟩ := List.mem_iff_getElem?.mp hb
      have hjl : j < (xs.zip ys).length := by rw [← lk]; exact (List.getElem?_eq_some_iff.mp hj).1
      obtain ⟨q1, hq1⟩ : ∃ q1, (xs.zip ys)[j]? = some q1 := ⟨_, List.getElem?_eq_getElem hjl⟩
      rw [atP j b q1 hj hq1] at q
      cases q
      obtain ⟨e1, e2⟩ := List.getElem?_zip_eq_some.mp hq1
      obtain ⟨x, y, f1, f2, f3⟩ := hG.pairs j b hj
      obtain ⟨u, hu, ru⟩ := r1.get e1
      obtain ⟨u2, hu2, ru2⟩ := r2.get e2
      have f1 : its[j]? = some x := by simpa using f1
      have f2 : its2[j]? = some y := by simpa using f2
      rw [f1] at hu; rw [f2] at hu2
      cases hu; cases hu2
      exact ⟨by show 2 ≤ sizeLine; decide, [x, y], .cons ru (.cons ru2 .nil), ⟨_, f3, rfl, _, rfl⟩⟩
    · by_cases hb2 : b = S
      · rw [hb2] at q ⊢
        rw [eS] at q
        cases q
        refine ⟨by rw [List.length_map]; omega, acc.toList, c, by rw [hacc]; exact LiI.vals_refs as, ?_⟩
        rw [Array.toArray_toList]
        exact hS
      · rw [off b hb hb2] at q
        exact (I.hok b u q).stay (fun d v _ y => hk d v y) (fun d y => kp d _ y) fun d xs y => kp d _ y
theorem pe_listZip {e e2 : Expr} {ta : TA} {p q pos pos2 : Pos} (hc : X.calm = true) (hg : Gl X "list") (hm : X.mg "list" = none) (hg2 : Gl X "zip") (hm2 : X.mg "zip" = none) (ha : PA X [e, e2] ta)
    (hs : starEach [e, e2] X.env = (false, eval e X.env) :: starEach [e2] X.env) (hpl : (backTo pos2 (starEach [e2] X.env)).any (·.1) = false) :
    PE X (.Call (.Name "list" p) [.Call (.Name "zip" q) [e, e2] [] pos2] [] pos) (tListZip X.K ta) := by
  refine ⟨fun pins s σ H Q I h => ?_⟩
  refine wpAny_Call_Name_kw (ld_blt I hg hm PyProof.Rows.boot_list ?_)
  refine PyProof.Rows.callWith_type1 ?_ rfl rfl
  show wpAny _ _ (spliced ((false, eval (.Call (.Name "zip" q) [e, e2] [] pos2) X.env) :: backTo pos (starEach [] X.env))) _ _ s
  refine Calls.spliced_cons ?_
  refine Call_ (ld_blt I hg2 hm2 PyProof.Rows.boot_zip (PyProof.Rows.callWith_type1 (thn (ha.run pos2 pins s σ H _ I h) fun us s1 ⟨vs, H1, I1, r1, q1⟩ => ?_) hs hpl))
  obtain ⟨b, c, a, d, xs, ys, ex, hx, hy, q1⟩ := q1
  subst ex
  cases r1 with
  | cons r rr =>
    cases rr with
    | cons r' rr =>
      cases rr
      cases r
      cases r'
      obtain ⟨its, rv, p1, hz1, la⟩ := sqv_at I1 hx
      obtain ⟨its2, rv2, p2, hz2, ld⟩ := sqv_at I1 hy
      refine call_zipB p1 p2 fun h' hz hTI hTO h1 h2 hsz hk => ?_
      refine Calls.spliced_nil ?_
      have D := PySem.W.ktu_apart s1.heap.objs.size a d la ld
      refine zl_call (s := { s1 with heap := h' }) (b := b) (c := c) (xs := its.toArray) (ys := its2.toArray) (I1.ok.hd hc) D
        (fun S _ => ⟨hTI, h1, h2, p1.at fun o e => hk _ o e, p2.at fun o e => hk _ o e, .inl ⟨hz, _, _, hTO⟩⟩) hz ⟨_, hTO⟩ (by rw [List.size_toArray, ← rv.length]; exact hz1) fun h'' tk acc k as hk2 hS hl hG hacc => ?_
      have hkk : ∀ b o, s1.heap.get? b = some o → h''.get? b = some o := fun b o e => by
        have lt := Heap.lt_size e
        have ne : ∀ i, b ≠ s1.heap.objs.size + i := fun i z => absurd lt (by rw [z]; exact Nat.not_lt.mpr (Nat.le_add_right _ _))
        exact hk2 b o (ne 4) (ne 3) (ne 0) (ne 1) (hk b o e)
      dsimp only at hS hG
      obtain ⟨H', k1, k2, k3, k4, k5, k6, J⟩ := zip_laid (tk := tk) I1 hz1 rv rv2 hkk (S := h'.objs.size) (by rw [hsz]; exact Nat.le_add_right _ _) hS (by simpa using hl) hG hacc
      exact ⟨.ref _, H', J, rfl, q1 H' _ as k1 k2 k3 k4 k5 (by rw [hl, List.length_zip, rv.length, rv2.length]; simp) k6⟩
end
end BF

/-! EnumT -/
set_option Elab.async false
set_option linter.all false
set_option maxRecDepth 100000
set_option maxHeartbeats 2000000
/-! enumerate(t), t a tuple -/
namespace BF
open PySem PySem.Spec PyProof.Rows L2

theorem draws_tuple {prog : Program} {w : World} {A : Around} (hh : A.handled = none) (it t : Addr) (hne : t ≠ it) (items : Array Value) :
    Draws prog w A it [it, t] items.size (fun i v => items[i]? = some v) (fun i h => h.IsTupleIter it t i ∧ h.IsTuple t items) where
  live := fun _ _ st => let ⟨o, ho, _⟩ := st.1; ⟨o, ho⟩
  frame := fun _ _ _ st hk => ⟨st.1.at fun o e => hk it (by simp) o e, st.2.at fun o e => hk t (by simp) o e⟩
  item := fun i s Q E hi st hQ => by
    refine RZ.nextOf_tuple_item st.1 st.2 (x := items[i]) (by simp [hi]) fun h' hit' hs' => ?_
    exact hQ _ h' s.toks (by simp [hi]) ⟨hit', st.2.at fun o e => hs'.extBut _ o hne e⟩ hs'
  done := fun s Q E st hE => RZ.nextOf_tuple_end hh st.1 st.2 (by simp) hE
set_option maxHeartbeats 4000000 in
theorem meets_enum1 {v : Value} {o : Obj} {P : Heap → Prop} (B : Begins v o P) :
    Meets (Builtin.«enumerate.__new__» ⟨[.type "enumerate", v], []⟩) (fun _ R s => P s.heap ∧
      R (.ok (.ret (.ref (s.heap.push o).objs.size))) { s with heap := (s.heap.push o).push { cls := .type "enumerate", data := .fields #[.none, .bool false, .ref s.heap.objs.size, rawInt 0, .none, .none] } }) :=
  .of_wp fun prog w A R s h => by
    obtain ⟨hp, g, d, tk, os⟩ := s
    obtain ⟨h1, h⟩ := h
    have hsub := sub_enumerate
    have q1 : ∀ {A' : Around} {E : Value → Shared → Prop} {Q : Value → Shared → Prop}, Q (.ref hp.objs.size) ⟨hp.push o, g, d, tk, os⟩ → wpAny (model prog w) A' (pyIter v) Q E ⟨hp, g, d, tk, os⟩ :=
      fun q => B.iter prog w _ _ ⟨hp, g, d, tk, os⟩ _ h1 q
    wp_walk using q1
    refine wpAny_stack_any fun st => wpAny_pure ?_
    split
    · rename_i c _ _ _ _ _
      cases (c == Value.type "enumerate") <;> (wp_walk using q1; exact ⟨_, rfl, h⟩)
    · wp_walk using q1
      exact ⟨_, rfl, h⟩
section
variable {prog : Program} {w : World} {A : Around} {E : Value → Shared → Prop} {s : Shared}
theorem call_enum1 {v : Value} {o : Obj} {P : Heap → Prop} {Q : Value → Shared → Prop} (B : Begins v o P) (h1 : P s.heap)
    (h : ∀ h', IsEnum h' (s.heap.objs.size + 1) s.heap.objs.size 0 .none → h'.get? s.heap.objs.size = some o → (∀ b u, s.heap.get? b = some u → h'.get? b = some u) → Q (.ref (s.heap.objs.size + 1)) { s with heap := h' }) :
    wpAny (model prog w) A (call (.type "enumerate") [v]) Q E s := by
  have hz : (s.heap.push o).objs.size = s.heap.objs.size + 1 := Heap.size_push ..
  refine callType_new F.called_enumerate (by decide) (F.typeCall_enumerate_1 _) (F.newCall_enumerate_1 _) (fun obj => F.args_object_init_2 obj _) F.entry_enumerate_new (meets_enum1 B) ⟨h1, ?_⟩
  show _ ∧ _
  rw [hz]
  have he : IsEnum ((s.heap.push o).push { cls := .type "enumerate", data := .fields #[.none, .bool false, .ref s.heap.objs.size, rawInt 0, .none, .none] }) (s.heap.objs.size + 1) s.heap.objs.size 0 .none := by
    have := Heap.get?_push_size (s.heap.push o) (o := { cls := .type "enumerate", data := .fields #[.none, .bool false, .ref s.heap.objs.size, rawInt 0, .none, .none] }) rfl
    rw [hz] at this
    exact this
  exact ⟨⟨_, he, rfl⟩, h _ he (Heap.get?_push_of_some _ (Heap.get?_push_size _ B.free)) fun b u x => Heap.get?_push_of_some _ (Heap.get?_push_of_some _ x)⟩
end
theorem enum_endT {prog : Program} {w : World} {A : Around} {E : Value → Shared → Prop} {s : Shared} {e it t : Addr} {j : Nat} {items : Array Value} {i : Int} {old : Value} {Q : Option Value → Shared → Prop} (hh : A.handled = none)
    (he : IsEnum s.heap e it i old) (hit : s.heap.IsTupleIter it t j) (ht : s.heap.IsTuple t items) (hx : items[j]? = none) (hQ : ∀ h', Heap.ExtBut it s.heap h' → Q none { s with heap := h' }) : wpAny (model prog w) A (pyNext (.ref e)) Q E s := by
  have hT : s.TypeIs (.ref e) "enumerate" := ⟨_, he, rfl⟩
  unfold pyNext
  refine wpAny_bind (wpAny_attempt (wpAny_callSpecial?_slot (name := Str.ofString "__next__") hT F.slot_enumerate_next
    (wpAny_call_entry F.slot_enumerate_next hT F.entry_enumerate_next ?_ (F.args_enumerate_next_1 _))))
  show wpAny _ _ (field (.ref e) 2 >>= _) _ _ _
  refine wpAny_bind (wpAny_field he rfl (x := .ref it) rfl ?_)
  refine wpAny_bind (RZ.nextOf_tuple_end (A := A.in1) hh hit ht hx fun h' x he' hx' => ?_)
  obtain ⟨o, ho, hc⟩ := hx'
  refine wpAny_bind (wpAny_isInstance (T := "StopIteration") (b := true) ⟨o, ho, hc⟩ isSubtype_stop ?_)
  exact wpAny_pure (hQ _ he')
/-- the tuple at a as it stands, each item in a new pair -/
def IteT (K : PySem.W.Frag) (a : Addr) : It :=
  ⟨fun i H => ∃ (xs : List V) (x : V), SqT K H a xs ∧ xs[i]? = some x, fun i H v H' => ∃ T x, v = .ref T ∧ H T = none ∧ H' = upd H T (.tup [.int (i : Nat), x]) ∧ ∀ xs, SqT K H a xs → xs[i]? = some x, fun i H => ∃ xs : List V, SqT K H a xs ∧ xs.length ≤ i⟩
theorem turn_enumT {P : Program} {w : World} {K : PySem.W.Frag} {elts : List Expr} {kk : Nat} {tpos : Pos} (a e it : Addr) (hat : a ≠ it) (hae : a ≠ e) :
    Turn P w K (.Tuple elts kk tpos) (IteT K a) [e, it] e (fun i h => (∃ old, IsEnum h e it ((i : Nat) : Int) old) ∧ h.IsTupleIter it a i ∧ e ≠ it) where
  mem := by simp
  obj := fun i h st b hb => by
    obtain ⟨⟨old, he⟩, ⟨o, ho, hc, hd⟩, _⟩ := st
    have e' : b = e ∨ b = it := by simpa using hb
    rcases e' with z | z
    · rw [z]; exact ⟨_, he, fun v q => nomatch q⟩
    · rw [z]; exact ⟨o, ho, fun v q => by rw [hd] at q; cases q⟩
  keep := fun i h h' st k => let ⟨⟨old, he⟩, hi, hne⟩ := st; ⟨⟨old, k e (by simp) _ he⟩, hi.at fun o q => k it (by simp) o q, hne⟩
  item := by
    intro X hP hw hK hc i pins s σ H E I hf st hg
    subst hP hw hK
    obtain ⟨⟨old, he⟩, hit, hne⟩ := st
    obtain ⟨xs, x, hq, hx⟩ := hg
    obtain ⟨its, rv, p, hz⟩ := I.tuple hq
    obtain ⟨u, hu, ru⟩ := rv.get hx
    have hel : e < s.heap.objs.size := Heap.lt_size he
    have hil : it < s.heap.objs.size := by obtain ⟨_, q, _⟩ := hit; exact Heap.lt_size q
    have hlt : i < its.toArray.size := by rw [List.size_toArray]; exact (List.getElem?_eq_some_iff.mp hu).1
    refine wpAny_pyNext_enum_itemD (draws_tuple (A := X.A.in1) (show X.A.in1.handled = none from I.ok.hd hc) it a hat its.toArray) he ⟨hit, p⟩ hlt hne (by simp [hne, Ne.symm hae]) fun v h' tk hv ho hst hT hsz hk => ?_
    obtain ⟨hit', _⟩ := hst
    have ev : v = u := by
      have hv' : its.toArray[i]? = some v := hv
      have : its[i]? = some v := by simpa using hv'
      rw [hu] at this
      exact (Option.some.inj this).symm
    subst ev
    refine ⟨_, rfl, wpAny_letOwnedTupleGo_enum (s := { s with heap := h', toks := tk + 1 }) ho fun h'' he' sb => ?_⟩
    have hT2 : h''.get? s.heap.objs.size = some { cls := .type "tuple", data := .seq #[.int i tk, v] } := (sb.2 _ (Nat.ne_of_gt hel)).trans hT
    have new : ObjOk X.prog X.w (upd H s.heap.objs.size (.tup [.int (i : Nat), x])) h'' s.heap.objs.size (.tup [.int (i : Nat), x]) :=
      ⟨by show 2 ≤ sizeLine; decide, [.int i tk, v], .cons ⟨_, rfl⟩ (.cons ru .nil), ⟨_, hT2, rfl, _, rfl⟩⟩
    have I1 : Inv X pins σ (upd H s.heap.objs.size (.tup [.int (i : Nat), x])) { s with heap := h'', toks := tk + 1 } :=
      I.turnedNew (ch := [e, it]) (fun b ob hb q => (sb.2 b (fun z => hb (by simp [z]))).trans (hk b ob (fun z => hb (by simp [z])) (fun z => hb (by simp [z])) q)) hf (Nat.le_refl _) new
    refine ⟨.ref s.heap.objs.size, _, I1, rfl, ⟨_, x, rfl, I.hok.fresh (Nat.le_refl _), rfl, fun ys hy => by rw [I.tuple_inj hy hq]; exact hx⟩, ⟨⟨v, ?_⟩, hit'.at fun o q => (sb.2 it (Ne.symm hne)).trans q, hne⟩, fun b hb => ?_⟩
    · have e1 : ((i + 1 : Nat) : Int) = (i : Int) + 1 := by omega
      rw [e1]; exact he'
    · have hb' : b < s.heap.objs.size := by
        have e' : b = e ∨ b = it := by simpa using hb
        rcases e' with z | z
        · rw [z]; exact hel
        · rw [z]; exact hil
      rw [upd_ne (Nat.ne_of_lt hb')]
      exact (hf b hb).1
  done := by
    intro X hP hw hK hc i pins s σ H E I hf st hg
    subst hP hw hK
    obtain ⟨⟨old, he⟩, hit, hne⟩ := st
    obtain ⟨xs, hq, hx⟩ := hg
    obtain ⟨its, rv, p, hz⟩ := I.tuple hq
    obtain ⟨f0, f1, f2, f3, f4, f5⟩ := hf it (by simp)
    have hl := rv.length
    exact enum_endT (I.ok.hd hc) he hit p (by simp; omega) fun h' eb => ⟨rfl, I.turned (t' := s.toks) (fun b o hb q => eb b o hb q) f0 f1 f3 f4 f5⟩
  self := fun A i s Q E st h => let ⟨⟨_, he⟩, _⟩ := st; wpAny_pyIter_enum he h
theorem walk_enumT {K : PySem.W.Frag} {a : Addr} {xs : List V} : Walk (IteT K a) xs.length (fun H => SqT K H a xs) (YPair (fun i => some (.int (i : Nat))) (fun i => xs[i]?)) where
  goes := fun i H hi h => ⟨xs, xs[i], h, by simp⟩
  stops := fun H h => ⟨xs, h, Nat.le_refl _⟩
  yields := fun i H x H' hi h ⟨T, y, e1, e2, e3, e4⟩ => ⟨T, .int (i : Nat), y, e1, e2, e3, rfl, e4 xs h⟩
/-- enumerate of a list or of a tuple -/
def iEnumA (K : PySem.W.Frag) (ta : TA) : TI := fun σ H R => ta σ H fun vs H1 => ∃ a xs, vs = [.ref a] ∧ ((SqL K H1 a xs ∧ R (Ite K a) H1) ∨ (SqT K H1 a xs ∧ R (IteT K a) H1))
theorem pi_enumA {X : Cx} {e : Expr} {ta : TA} {p pos tpos : Pos} {elts : List Expr} {kk : Nat} (hg : Gl X "enumerate") (hm : X.mg "enumerate" = none) (ha : PA X [e] ta) (hs : starEach [e] X.env = [(false, eval e X.env)]) :
    PI X (.Tuple elts kk tpos) (.Call (.Name "enumerate" p) [e] [] pos) (iEnumA X.K ta) := by
  refine ⟨fun pins s σ H R I h => ?_⟩
  refine Call_ (ld_blt I hg hm boot_enumerate (PyProof.Rows.callWith_type1 (thn (ha.run pos pins s σ H _ I h) fun us s1 ⟨vs, H1, I1, r1, q1⟩ => ?_) hs rfl))
  obtain ⟨a, xs, ex, q⟩ := q1
  subst ex
  cases r1 with
  | cons r rr =>
    cases rr
    cases r
    have two : ∀ b ∈ [s1.heap.objs.size + 1, s1.heap.objs.size], s1.heap.objs.size ≤ b := fun b hb => by
      have e' : b = s1.heap.objs.size + 1 ∨ b = s1.heap.objs.size := by simpa using hb
      rcases e' with z | z
      · rw [z]; exact Nat.le_add_right _ _
      · rw [z]; exact Nat.le_refl _
    rcases q with ⟨hq, q⟩ | ⟨hq, q⟩
    · obtain ⟨its, rv, p', hz⟩ := I1.list hq
      refine call_enumerate_list p'.isList fun h' he hit hsz hk => wpAny_pyIter_enum he ?_
      have I2 : Inv X pins σ H1 { s1 with heap := h' } := I1.kept (t' := s1.toks) hk
      exact ⟨s1.heap.objs.size + 1, [s1.heap.objs.size + 1, s1.heap.objs.size], _, _, H1, rfl, I2, turn_enum a (s1.heap.objs.size + 1) s1.heap.objs.size, ⟨⟨.none, he⟩, hit, Nat.succ_ne_self _⟩, fun b hb => I1.fpOk (two b hb) (I1.hok.fresh (two b hb)), q⟩
    · obtain ⟨its, rv, p', hz⟩ := I1.tuple hq
      have hal : a < s1.heap.objs.size := by obtain ⟨_, z, _⟩ := p'; exact Heap.lt_size z
      refine call_enum1 (begins_tuple a its.toArray) p' fun h' he hit hk => wpAny_pyIter_enum he ?_
      have I2 : Inv X pins σ H1 { s1 with heap := h' } := I1.kept (t' := s1.toks) hk
      exact ⟨s1.heap.objs.size + 1, [s1.heap.objs.size + 1, s1.heap.objs.size], _, _, H1, rfl, I2, turn_enumT a (s1.heap.objs.size + 1) s1.heap.objs.size (Nat.ne_of_lt hal) (Nat.ne_of_lt (Nat.lt_succ_of_lt hal)), ⟨⟨.none, he⟩, ⟨_, hit, rfl, rfl⟩, Nat.succ_ne_self _⟩, fun b hb => I1.fpOk (two b hb) (I1.hok.fresh (two b hb)), q⟩
end BF

/-! Snd12 -/
set_option Elab.async false
set_option linter.all false
set_option maxRecDepth 100000
set_option maxHeartbeats 2000000
namespace BF
open PySem L2

/-- J walks over what xs tells, as long as what is seen at (O, H) is seen -/
def Wk (Z : Wd) (O : Addr → Prop) (H : Hp) (xs : List D) (J : It) : Prop :=
  ∃ (G : Hp → Prop) (Y : Nat → Hp → V → Hp → Prop), Walk J xs.length G Y ∧ (∀ O1 H1, Le (hide H O) (hide H1 O1) → G H1) ∧
    ∀ i H1 v H2 O1, i < xs.length → Le (hide H O) (hide H1 O1) → DomO Z O1 H1 → Y i H1 v H2 → Le H1 H2 ∧ ∃ x, xs[i]? = some x ∧ Rep Z (hide H2 O1) x v
def TIe (Z : Wd) (c : Pl) (W : WX) (f : Sd → R (List D × Sd)) : TI := fun σ H R => ∃ O σd, RelS Z c O σd σ H ∧ Go Z c W (f σd) O σ H fun xs _ H' => ∀ J, Wk Z O H' xs J → R J H'
section
variable {Z : Wd} {c : Pl} {W : WX} {O : Addr → Prop} {σ : L2.St} {σd : Sd} {H H' : Hp} {X : Cx} {tg : Expr}
theorem _root_.L2.PI.weak {iter : Expr} {t t' : TI} (h : PI X tg iter t) (i : ∀ σ H R, t' σ H R → t σ H R) : PI X tg iter t' := ⟨fun pins s σ H R I q => h.run pins s σ H R I (i σ H R q)⟩
theorem _root_.L2.PI.none {iter : Expr} {t : TI} (h : ∀ σ H R, ¬ t σ H R) : PI X tg iter t := ⟨fun pins s σ H R I q => absurd q (h σ H R)⟩
/-- a list or a tuple -/
def iSq (K : PySem.W.Frag) (te : TE) : TI := fun σ H R => te σ H fun x H1 => ∃ a, x = .ref a ∧ (((∃ xs, SqL K H1 a xs) ∧ R (Itl K a) H1) ∨ ((∃ xs, SqT K H1 a xs) ∧ R (Itt K a) H1))
theorem pi_sq {l : Expr} {tl : TE} (hl : PE X l tl) : PI X tg l (iSq X.K tl) := by
  refine ⟨fun pins s σ H R I h => ?_⟩
  refine thn (hl.run pins s σ H _ I h) fun v s1 ⟨x, H1, I1, r1, q1⟩ => ?_
  obtain ⟨a, e, q1⟩ := q1
  subst e
  cases r1
  rcases q1 with ⟨⟨xs, hq⟩, q⟩ | ⟨⟨xs, hq⟩, q⟩
  · obtain ⟨its, rv, p, hz⟩ := I1.list hq
    refine wpAny_pyIter_list p.isList ?_
    refine ⟨s1.heap.objs.size, [s1.heap.objs.size], _, _, H1, rfl, I1.kept (t' := s1.toks) fun b o e => Heap.get?_push_of_some _ e, turn_list a _, ⟨_, Heap.get?_push_size _ rfl, rfl, rfl⟩, fun b hb => ?_, q⟩
    have e : b = s1.heap.objs.size := by simpa using hb
    subst e
    exact I1.fpOk (Nat.le_refl _) (I1.hok.fresh (Nat.le_refl _))
  · obtain ⟨its, rv, p, hz⟩ := I1.tuple hq
    refine wpAny_pyIter_tuple (show s1.heap.IsTuple a its.toArray from p) ?_
    refine ⟨s1.heap.objs.size, [s1.heap.objs.size], _, _, H1, rfl, I1.kept (t' := s1.toks) fun b o e => Heap.get?_push_of_some _ e, turn_tuple a _, ⟨_, Heap.get?_push_size _ rfl, rfl, rfl⟩, fun b hb => ?_, q⟩
    have e : b = s1.heap.objs.size := by simpa using hb
    subst e
    exact I1.fpOk (Nat.le_refl _) (I1.hok.fresh (Nat.le_refl _))
/-- what a value's items are to an iterator -/
theorem wk_list {K : PySem.W.Frag} (hK : K = Z.K) {a : Addr} {xs : List D} {vs : List V} (h : SqL K (hide H O) a vs) (rs : Reps Z (hide H O) xs vs) : Wk Z O H xs (Itl K a) := by
  refine ⟨_, _, by rw [rs.length]; exact walk_list, fun O1 H1 l => (hide_le H1 O1).sqL (l.sqL h), fun i H1 v H2 O1 hi l hd y => ?_⟩
  obtain ⟨rfl, hv⟩ := y
  obtain ⟨x, hx, rx⟩ := rs.getV hv
  exact ⟨Le.refl _, x, hx, rx.le l⟩
theorem wk_tup {K : PySem.W.Frag} (hK : K = Z.K) {a : Addr} {xs : List D} {vs : List V} (h : SqT K (hide H O) a vs) (rs : Reps Z (hide H O) xs vs) : Wk Z O H xs (Itt K a) := by
  refine ⟨_, _, by rw [rs.length]; exact walk_tup, fun O1 H1 l => (hide_le H1 O1).sqT (l.sqT h), fun i H1 v H2 O1 hi l hd y => ?_⟩
  obtain ⟨rfl, hv⟩ := y
  obtain ⟨x, hx, rx⟩ := rs.getV hv
  exact ⟨Le.refl _, x, hx, rx.le l⟩
theorem wk_range {lo hi : Int} : Wk Z O H (rangeL lo hi) (Itr lo (hi - lo).toNat) := by
  have e : (rangeL lo hi).length = (hi - lo).toNat := by simp [rangeL]
  refine ⟨_, _, by rw [e]; exact walk_range, fun O1 H1 l => trivial, fun i H1 v H2 O1 h l hd y => ?_⟩
  obtain ⟨rfl, rfl⟩ := y
  rw [e] at h
  exact ⟨Le.refl _, .int (lo + i), by simp [rangeL, h], .int _⟩
theorem pair_new {Y : Nat → Hp → V → Hp → Prop} {i : Nat} {H1 H2 : Hp} {v : V} {O1 : Addr → Prop} {xs ys : Nat → Option V} (hd : DomO Z O1 H1) (y : YPair xs ys i H1 v H2) : Le H1 H2 ∧ ∃ x y, xs i = some x ∧ ys i = some y ∧ ∀ dx dy, Rep Z (hide H1 O1) dx x → Rep Z (hide H1 O1) dy y → Rep Z (hide H2 O1) (.tup [dx, dy]) v := by
  obtain ⟨T, x, y, rfl, hT, rfl, h1, h2⟩ := y
  have l := le_upd (o := .tup [x, y]) hT
  have nT : ¬ O1 T := fun z => by
    obtain ⟨o, e, _⟩ := hd.1 T z
    rw [hT] at e; cases e
  have g : Le (hide H1 O1) (hide (upd H1 T (.tup [x, y])) O1) := hide_mono fun a u e t n => ⟨l a u e, n⟩
  exact ⟨l, x, y, h1, h2, fun dx dy r1 r2 => .tup (.inl (.inl (hide_some.mpr ⟨⟨nT, nt_tup⟩, upd_same⟩))) (.cons (r1.le g) (.cons (r2.le g) .nil))⟩
theorem wk_enum {K : PySem.W.Frag} (hK : K = Z.K) {a : Addr} {xs : List D} {vs : List V} (h : SqL K (hide H O) a vs) (rs : Reps Z (hide H O) xs vs) : Wk Z O H (enumL xs) (Ite K a) := by
  have e : (enumL xs).length = vs.length := by simp [enumL, rs.length]
  refine ⟨_, _, by rw [e]; exact walk_enum, fun O1 H1 l => (hide_le H1 O1).sqL (l.sqL h), fun i H1 v H2 O1 hi l hd y => ?_⟩
  obtain ⟨l2, x, y, h1, h2, k⟩ := pair_new (Y := fun _ _ _ _ => True) hd y
  cases h1
  obtain ⟨d, hx, rx⟩ := rs.getV h2
  refine ⟨l2, .tup [.int i, d], ?_, k _ _ (.int _) (rx.le l)⟩
  have hi' : i < xs.length := by rw [rs.length, ← e]; exact hi
  simp [enumL, hx, hi']
  rw [List.getElem?_eq_getElem hi'] at hx
  simpa using hx
theorem wk_enumT {K : PySem.W.Frag} (hK : K = Z.K) {a : Addr} {xs : List D} {vs : List V} (h : SqT K (hide H O) a vs) (rs : Reps Z (hide H O) xs vs) : Wk Z O H (enumL xs) (IteT K a) := by
  have e : (enumL xs).length = vs.length := by simp [enumL, rs.length]
  refine ⟨_, _, by rw [e]; exact walk_enumT, fun O1 H1 l => (hide_le H1 O1).sqT (l.sqT h), fun i H1 v H2 O1 hi l hd y => ?_⟩
  obtain ⟨l2, x, y, h1, h2, k⟩ := pair_new (Y := fun _ _ _ _ => True) hd y
  cases h1
  obtain ⟨d, hx, rx⟩ := rs.getV h2
  refine ⟨l2, .tup [.int i, d], ?_, k _ _ (.int _) (rx.le l)⟩
  have hi' : i < xs.length := by rw [rs.length, ← e]; exact hi
  simp [enumL, hx, hi']
  rw [List.getElem?_eq_getElem hi'] at hx
  simpa using hx
theorem wk_zip {K : PySem.W.Frag} (hK : K = Z.K) {a b : Addr} {xs ys : List D} {vs ws : List V} (h : SqL K (hide H O) a vs) (rs : Reps Z (hide H O) xs vs) (h' : SqL K (hide H O) b ws) (rs' : Reps Z (hide H O) ys ws) : Wk Z O H (zipL xs ys) (Itz K a b) := by
  have e : (zipL xs ys).length = min vs.length ws.length := by simp [zipL, rs.length, rs'.length]
  refine ⟨_, _, walk_zip (xs := vs) (ys := ws) e, fun O1 H1 l => ⟨(hide_le H1 O1).sqL (l.sqL h), (hide_le H1 O1).sqL (l.sqL h')⟩, fun i H1 v H2 O1 hi l hd y => ?_⟩
  obtain ⟨l2, x, y, h1, h2, k⟩ := pair_new (Y := fun _ _ _ _ => True) hd y
  obtain ⟨d, hx, rx⟩ := rs.getV h1
  obtain ⟨d', hx', rx'⟩ := rs'.getV h2
  refine ⟨l2, .tup [d, d'], ?_, k _ _ (rx.le l) (rx'.le l)⟩
  simp [zipL]
  exact List.getElem?_zip_eq_some.mpr ⟨hx, hx'⟩
theorem walk_zipT {K : PySem.W.Frag} {a b : Addr} {xs ys : List V} {n : Nat} (hn : n = min xs.length ys.length) : Walk (RZ.ItzT K a b) n (fun H => SqT K H a xs ∧ SqT K H b ys) (YPair (fun i => xs[i]?) (fun i => ys[i]?)) where
  goes := fun i H hi ⟨h1, h2⟩ => ⟨xs, ys, xs[i]'(by omega), ys[i]'(by omega), h1, h2, by simp, by simp⟩
  stops := fun H ⟨h1, h2⟩ => ⟨xs, ys, h1, h2, by omega⟩
  yields := fun i H x H' hi ⟨h1, h2⟩ ⟨T, x, y, e1, e2, e3, e4, e5⟩ => ⟨T, x, y, e1, e2, e3, e4 xs h1, e5 ys h2⟩
theorem wk_zipT {K : PySem.W.Frag} (hK : K = Z.K) {a b : Addr} {xs ys : List D} {vs ws : List V} (h : SqT K (hide H O) a vs) (rs : Reps Z (hide H O) xs vs) (h' : SqT K (hide H O) b ws) (rs' : Reps Z (hide H O) ys ws) : Wk Z O H (zipL xs ys) (RZ.ItzT K a b) := by
  have e : (zipL xs ys).length = min vs.length ws.length := by simp [zipL, rs.length, rs'.length]
  refine ⟨_, _, walk_zipT (xs := vs) (ys := ws) e, fun O1 H1 l => ⟨(hide_le H1 O1).sqT (l.sqT h), (hide_le H1 O1).sqT (l.sqT h')⟩, fun i H1 v H2 O1 hi l hd y => ?_⟩
  obtain ⟨l2, x, y, h1, h2, k⟩ := pair_new (Y := fun _ _ _ _ => True) hd y
  obtain ⟨d, hx, rx⟩ := rs.getV h1
  obtain ⟨d', hx', rx'⟩ := rs'.getV h2
  refine ⟨l2, .tup [d, d'], ?_, k _ _ (rx.le l) (rx'.le l)⟩
  simp [zipL]
  exact List.getElem?_zip_eq_some.mpr ⟨hx, hx'⟩
/-! ### the iterables -/
theorem i_val {e : Expr} {k : E} {l : Lv} (hK : X.K = Z.K) (h : PE X e (TEe Z c W (tP Z) (ev k l))) : PI X tg e (TIe Z c W (evi (.val k) l)) :=
  (pi_sq h).weak fun σ H R ⟨O, σd, hr, hg⟩ => ⟨O, σd, hr, (Go.bind (r := ev k l σd) hg).imp fun d σ1 H1 _ r1 k1 g v rv => by
    obtain ⟨xs, ex, g⟩ := Go.opt g
    have fin := g.ok r1 KeepE.refl
    cases d <;> simp only [itemsOf, Option.some.injEq] at ex <;> first | (cases ex; done) | (subst ex)
    · cases rv with
      | tup s rs => exact ⟨_, rfl, .inr ⟨⟨_, by rw [hK]; exact (hide_le _ _).sqT s⟩, fin _ (by rw [hK]; exact wk_tup rfl s rs)⟩⟩
    · cases rv with
      | lst s rs => exact ⟨_, rfl, .inl ⟨⟨_, by rw [hK]; exact (hide_le _ _).sqL (SqL.of s)⟩, fin _ (by rw [hK]; exact wk_list rfl (SqL.of s) rs)⟩⟩
    · cases rv with
      | frz s rs => exact ⟨_, rfl, .inl ⟨⟨_, by rw [hK]; exact (hide_le _ _).sqL s⟩, fin _ (by rw [hK]; exact wk_list rfl s rs)⟩⟩⟩
theorem i_lst {e : Expr} {k : E} {l : Lv} (hK : X.K = Z.K) (h : PE X e (TEe Z c W (tP Z) (ev k l))) : PI X tg e (TIe Z c W (evi (.lst k) l)) :=
  (pi_list h).weak fun σ H R ⟨O, σd, hr, hg⟩ => ⟨O, σd, hr, (Go.bind (r := ev k l σd) hg).imp fun d σ1 H1 _ r1 k1 g v rv => by
    obtain ⟨xs, ex, g⟩ := Go.opt g
    have fin := g.ok r1 KeepE.refl
    cases d <;> simp only [lstsOf, Option.some.injEq] at ex <;> first | (cases ex; done) | (subst ex)
    · cases rv with
      | lst s rs => exact ⟨_, rfl, ⟨_, by rw [hK]; exact (hide_le _ _).sqL (SqL.of s)⟩, fin _ (by rw [hK]; exact wk_list rfl (SqL.of s) rs)⟩
    · cases rv with
      | frz s rs => exact ⟨_, rfl, ⟨_, by rw [hK]; exact (hide_le _ _).sqL s⟩, fin _ (by rw [hK]; exact wk_list rfl s rs)⟩⟩
theorem i_rng1 {a : Expr} {k : E} {l : Lv} {p pos : Pos} (hg : Gl X "range") (hm : X.mg "range" = none) (h : PE X a (TEe Z c W (tP Z) (ev k l))) (hs : notStar a = true) : PI X tg (.Call (.Name "range" p) [a] [] pos) (TIe Z c W (evi (.rng1 k) l)) :=
  (pi_range1 hg hm (pa_cons h pa_nil (star_cons hs)) (star_cons hs)).weak fun σ H R ⟨O, σd, hr, hg⟩ => ⟨O, σd, hr, (Go.bind (r := ev k l σd) hg).imp fun d σ1 H1 _ r1 k1 g v rv => by
    cases d with
    | int j =>
      cases rv
      obtain ⟨hj, g⟩ := Go.iff g
      simp only [rngOk, Bool.and_eq_true, decide_eq_true_eq] at hj
      refine ⟨j, rfl, hj.1, hj.2, g.ok r1 KeepE.refl _ ?_⟩
      have := wk_range (Z := Z) (O := O) (H := H1) (lo := 0) (hi := j)
      rw [Int.sub_zero] at this
      exact this
    | _ => exact g.elim⟩
theorem i_rng2 {a b : Expr} {ka kb : E} {l : Lv} {p pos : Pos} (hg : Gl X "range") (hm : X.mg "range" = none) (h : PE X a (TEe Z c W (tP Z) (ev ka l))) (h' : PE X b (TEe Z c W (tP Z) (ev kb l))) (hs : notStar a = true) (hs' : notStar b = true) :
    PI X tg (.Call (.Name "range" p) [a, b] [] pos) (TIe Z c W (evi (.rng2 ka kb) l)) :=
  (pi_range2 hg hm (pa_cons h (pa_cons h' pa_nil (star_cons hs')) (star_cons hs)) (by rw [star_cons hs, star_cons hs']; rfl) (star_cons hs')).weak fun σ H R ⟨O, σd, hr, hg⟩ => ⟨O, σd, hr, (Go.bind (r := ev ka l σd) hg).imp fun d σ1 H1 _ r1 k1 g v rv => ⟨O, σ1, r1, (Go.bind (r := ev kb l σ1) g).imp fun d' σ2 H2 _ r2 k2 g2 v' rv' => by
    cases d with
    | int i =>
      cases d' with
      | int j =>
        cases rv
        cases rv'
        obtain ⟨hj, g⟩ := Go.iff g2
        simp only [rngOk, Bool.and_eq_true, decide_eq_true_eq] at hj
        exact ⟨i, j, rfl, ⟨hj.1.1, hj.1.2, hj.2.1, hj.2.2⟩, g.ok r2 KeepE.refl _ wk_range⟩
      | _ => exact g2.elim
    | _ => cases d' <;> exact g2.elim⟩⟩
theorem wk_rangeC {lo c : Int} {n : Nat} {xs : List D} (e : xs = (List.range n).map fun (k : Nat) => D.int (lo + (k : Int) * c)) : Wk Z O H xs (Itc lo c n) := by
  subst e
  have e : ((List.range n).map fun (k : Nat) => D.int (lo + (k : Int) * c)).length = n := by simp
  refine ⟨_, _, by rw [e]; exact walk_rangeC, fun O1 H1 l => trivial, fun i H1 v H2 O1 h l hd y => ?_⟩
  obtain ⟨rfl, rfl⟩ := y
  rw [e] at h
  exact ⟨Le.refl _, .int (lo + (i : Int) * c), by simp [h], .int _⟩
theorem i_rng3 {a b d : Expr} {ka kb kd : E} {l : Lv} {p pos : Pos} (hg : Gl X "range") (hm : X.mg "range" = none) (h : PE X a (TEe Z c W (tP Z) (ev ka l))) (h' : PE X b (TEe Z c W (tP Z) (ev kb l))) (h2 : PE X d (TEe Z c W (tP Z) (ev kd l))) (hs : notStar a = true) (hs' : notStar b = true) (hs2 : notStar d = true) :
    PI X tg (.Call (.Name "range" p) [a, b, d] [] pos) (TIe Z c W (evi (.rng3 ka kb kd) l)) :=
  (pi_range3 hg hm (pa_cons h (pa_cons h' (pa_cons h2 pa_nil (star_cons hs2)) (star_cons hs')) (star_cons hs)) (by rw [star_cons hs]) (by rw [star_cons hs', star_cons hs2]; rfl)).weak fun σ H R ⟨O, σd, hr, hg⟩ => ⟨O, σd, hr, (Go.bind (r := ev ka l σd) hg).imp fun d1 σ1 H1 _ r1 k1 g v rv => ⟨O, σ1, r1, (Go.bind (r := ev kb l σ1) g).imp fun d2 σ2 H2 _ r2 k2 g2 v' rv' => ⟨O, σ2, r2, (Go.bind (r := ev kd l σ2) g2).imp fun d3 σ3 H3 _ r3 k3 g3 v3 rv3 => by
    cases d1 with
    | int i =>
      cases d2 with
      | int j =>
        cases d3 with
        | int k =>
          cases rv
          cases rv'
          cases rv3
          obtain ⟨hj, g⟩ := Go.iff g3
          simp only [rngOk, Bool.and_eq_true, decide_eq_true_eq] at hj
          obtain ⟨⟨⟨h1, h2⟩, h3, h4⟩, rfl⟩ := hj
          refine ⟨i, j, -1, (i - j).toNat, rfl, RgC.neg h1 h2 h3 h4, g.ok r3 KeepE.refl _ (wk_rangeC ?_)⟩
          have e : rng3N i j (-1) = (i - j).toNat := by unfold rng3N; simp
          show rng3L i j (-1) = _
          unfold rng3L
          rw [e]
        | _ => exact g3.elim
      | _ => cases d3 <;> exact g3.elim
    | _ => cases d2 <;> cases d3 <;> exact g3.elim⟩⟩⟩
theorem i_enum {a : Expr} {k : E} {l : Lv} {p pos tpos : Pos} {elts : List Expr} {kk : Nat} (hK : X.K = Z.K) (hg : Gl X "enumerate") (hm : X.mg "enumerate" = none) (h : PE X a (TEe Z c W (tP Z) (ev k l))) (hs : notStar a = true) : PI X (.Tuple elts kk tpos) (.Call (.Name "enumerate" p) [a] [] pos) (TIe Z c W (evi (.enum k) l)) :=
  (pi_enumA hg hm (pa_cons h pa_nil (star_cons hs)) (star_cons hs)).weak fun σ H R ⟨O, σd, hr, hg⟩ => ⟨O, σd, hr, (Go.bind (r := ev k l σd) hg).imp fun d σ1 H1 _ r1 k1 g v rv => by
    obtain ⟨xs, ex, g⟩ := Go.opt g
    have fin := g.ok r1 KeepE.refl
    cases d <;> simp only [itemsOf, Option.some.injEq] at ex <;> first | (cases ex; done) | (subst ex)
    · cases rv with
      | tup s rs => exact ⟨_, _, rfl, .inr ⟨by rw [hK]; exact (hide_le _ _).sqT s, fin _ (by rw [hK]; exact wk_enumT rfl s rs)⟩⟩
    · cases rv with
      | lst s rs => exact ⟨_, _, rfl, .inl ⟨by rw [hK]; exact (hide_le _ _).sqL (SqL.of s), fin _ (by rw [hK]; exact wk_enum rfl (SqL.of s) rs)⟩⟩
    · cases rv with
      | frz s rs => exact ⟨_, _, rfl, .inl ⟨by rw [hK]; exact (hide_le _ _).sqL s, fin _ (by rw [hK]; exact wk_enum rfl s rs)⟩⟩⟩
theorem i_zip {a b : Expr} {ka kb : E} {l : Lv} {p pos tpos : Pos} {elts : List Expr} {kk : Nat} (hK : X.K = Z.K) (hg : Gl X "zip") (hm : X.mg "zip" = none) (h : PE X a (TEe Z c W (tP Z) (ev ka l))) (h' : PE X b (TEe Z c W (tP Z) (ev kb l))) (hs : notStar a = true) (hs' : notStar b = true) :
    PI X (.Tuple elts kk tpos) (.Call (.Name "zip" p) [a, b] [] pos) (TIe Z c W (evi (.zip ka kb) l)) :=
  (RZ.pi_zipA hg hm (pa_cons h (pa_cons h' pa_nil (star_cons hs')) (star_cons hs)) (star_cons hs) (by rw [star_cons hs']; rfl)).weak fun σ H R ⟨O, σd, hr, hg⟩ => ⟨O, σd, hr, (Go.bind (r := ev ka l σd) hg).imp fun d σ1 H1 _ r1 k1 g v rv => ⟨O, σ1, r1, (Go.bind (r := ev kb l σ1) g).imp fun d' σ2 H2 _ r2 k2 g2 v' rv' => by
    have rv := rv.le (r1.le k2)
    obtain ⟨⟨xs, ys⟩, ex, g⟩ := Go.opt g2
    have fin := g.ok r2 KeepE.refl
    cases d <;> cases d' <;> simp only [zipsOf, Option.some.injEq, Prod.mk.injEq] at ex <;> first | (cases ex; done) | (obtain ⟨rfl, rfl⟩ := ex)
    · cases rv with
      | tup s rs => cases rv' with
        | tup s' rs' => exact ⟨_, _, _, _, rfl, .inr ⟨by rw [hK]; exact (hide_le _ _).sqT s, by rw [hK]; exact (hide_le _ _).sqT s', fin _ (by rw [hK]; exact wk_zipT rfl s rs s' rs')⟩⟩
    · cases rv with
      | lst s rs => cases rv' with
        | lst s' rs' => exact ⟨_, _, _, _, rfl, .inl ⟨by rw [hK]; exact (hide_le _ _).sqL (SqL.of s), by rw [hK]; exact (hide_le _ _).sqL (SqL.of s'), fin _ (by rw [hK]; exact wk_zip rfl (SqL.of s) rs (SqL.of s') rs')⟩⟩⟩⟩
end
end BF

/-! Snd13 -/
set_option Elab.async false
set_option linter.all false
set_option maxRecDepth 100000
set_option maxHeartbeats 2000000
namespace BF
open PySem L2

theorem R.bind_ok {α β : Type} {r : R α} {f : α → R β} {b : β} (h : r.bind f = .ok b) : ∃ a, r = .ok a ∧ f a = .ok b := by
  cases r with
  | ok a => exact ⟨a, rfl, h⟩
  | exc k => cases h
  | bad => cases h
theorem nox_ok {α : Type} {r : R α} {b : α} (h : nox r = .ok b) : r = .ok b := by cases r <;> simp [nox] at h; rw [h]
theorem wipe_get {σ : L2.St} {j : Nat} : ∀ {vs : List Nat}, (wipe σ vs)[j]? = if j ∈ vs then σ[j]?.map fun _ => none else σ[j]?
  | [] => by simp [wipe]
  | v :: vs => by
    show ((wipe σ vs).set v none)[j]? = _
    by_cases h : j = v
    · subst h
      rw [List.getElem?_set_self', wipe_get]
      cases σ[j]? <;> simp <;> split <;> exact ⟨_, rfl⟩
    · rw [List.getElem?_set_ne (Ne.symm h), wipe_get]
      simp [h]
theorem wipeD_get {σ : Sd} {j : Nat} : ∀ {vs : List Nat}, (wipeD σ vs)[j]? = if j ∈ vs then σ[j]?.map fun _ => none else σ[j]?
  | [] => by simp [wipeD]
  | v :: vs => by
    show ((wipeD σ vs).set v none)[j]? = _
    by_cases h : j = v
    · subst h
      rw [List.getElem?_set_self', wipeD_get]
      cases σ[j]? <;> simp <;> split <;> exact ⟨_, rfl⟩
    · rw [List.getElem?_set_ne (Ne.symm h), wipeD_get]
      simp [h]
theorem wipeD_len {σ : Sd} : ∀ {vs : List Nat}, (wipeD σ vs).length = σ.length
  | [] => rfl
  | v :: vs => by simp [wipeD, wipeD_len]
theorem back_get {σ0 σ : Sd} {j : Nat} : ∀ {vs : List Nat}, (back vs σ0 σ)[j]? = if j ∈ vs then σ[j]?.map fun _ => (σ0[j]?).getD none else σ[j]?
  | [] => by simp [back]
  | v :: vs => by
    show ((back vs σ0 σ).set v _)[j]? = _
    by_cases h : j = v
    · subst h
      rw [List.getElem?_set_self', back_get]
      cases σ[j]? <;> simp <;> split <;> exact ⟨_, rfl⟩
    · rw [List.getElem?_set_ne (Ne.symm h), back_get]
      simp [h]
theorem back_len {σ0 σ : Sd} : ∀ {vs : List Nat}, (back vs σ0 σ).length = σ.length
  | [] => rfl
  | v :: vs => by simp [back, back_len]
theorem SameS.wipe {vs : List Nat} {σ σ' : L2.St} (h : SameS vs σ σ') : wipe σ' vs = wipe σ vs := by
  refine List.ext_getElem? fun j => ?_
  rw [wipe_get, wipe_get]
  by_cases hj : j ∈ vs
  · rw [if_pos hj, if_pos hj]
    by_cases hl : j < σ.length
    · rw [List.getElem?_eq_getElem hl, List.getElem?_eq_getElem (by rw [h.1]; exact hl)]
      rfl
    · have := h.1
      rw [List.getElem?_eq_none (by omega), List.getElem?_eq_none (by omega)]
  · rw [if_neg hj, if_neg hj, h.2 j hj]
theorem sameS_wipe {vs : List Nat} {σ : L2.St} : SameS vs σ (wipe σ vs) := ⟨wipe_length σ vs, fun j hj => by rw [wipe_get, if_neg hj]⟩
section
variable {Z : Wd} {c : Pl} {W : WX} {O : Addr → Prop} {σ σ' : L2.St} {σd : Sd} {H H' : Hp} {X : Cx}
theorem RelS.wipe (r : RelS Z c O σd σ H) : ∀ {vs : List Nat}, (∀ v ∈ vs, FreeS c v) → RelS Z c O (wipeD σd vs) (L2.wipe σ vs) H
  | [], _ => r
  | v :: vs, h => (RelS.wipe r fun w hw => h w (List.mem_cons_of_mem _ hw)).setN (h v List.mem_cons_self)
theorem SameS.notOwn {vs : List Nat} (h : SameS vs σ σ') (f : ∀ v ∈ vs, v ∉ c.own) {a : Addr} : NotOwn c σ' a ↔ NotOwn c σ a := by
  constructor
  · intro n i hi e
    exact n i hi (by rw [h.2 i fun z => f i z hi]; exact e)
  · intro n i hi e
    rw [h.2 i fun z => f i z hi] at e
    exact n i hi e
theorem lk_free {D : Addr} {i : Nat} (h : FreeS c i) : FreeS (lk c D) i := h
/-- the list that grows is written -/
theorem RelS.updL (r : RelS Z c O σd σ H) {D : Addr} (lD : c.lock D) (oD : O D) (nD : NotOwn c σ D) {o0 o : HO} (h0 : H D = some o0) (t0 : LD o0) (t : LD o) : RelS Z c O σd σ (upd H D o) := by
  have hh : hide (upd H D o) O = hide H O := hide_upd oD
  refine ⟨r.len, fun b hb => ?_, tabs_upd r.tab h0 t0, r.own, r.inj, fun i d e => ?_, r.hold⟩
  · by_cases z : b = D
    · subst z; exact ⟨o, upd_same, t.nt⟩
    · rw [upd_ne z]; exact r.dom b hb
  · rw [hh]
    obtain ⟨v, h1, h2, h3, h4⟩ := r.slot i d e
    refine ⟨v, h1, fun z => ?_, fun z1 z2 => ?_, h4⟩
    · obtain ⟨a, ea, ct⟩ := h2 z
      have ne : a ≠ D := fun w => nD i z (by rw [h1, ea, w])
      exact ⟨a, ea, ct.mono (Le.refl _) fun u q => by rw [upd_ne ne]; exact q⟩
    · rcases h3 z1 z2 with q | ⟨a, ea, oa, na, ct⟩
      · exact .inl (by rw [hh]; exact q)
      · have ne : a ≠ D := fun w => na.2 (w ▸ lD)
        exact .inr ⟨a, ea, oa, na, by rw [hh]; exact ct.mono (Le.refl _) fun u q => by rw [upd_ne ne]; exact q⟩
/-- behind a comprehension: its list is a value -/
theorem RelS.unlock {D : Addr} (r : RelS Z (lk c D) (BF.plus O D) σd σ H) (ho : ∀ i ∈ c.own, ∀ a, σ[i]? = some (some (.ref a)) → O a) : RelS Z c O σd σ H := by
  have g : Le (hide H (BF.plus O D)) (hide H O) := plus_less
  refine ⟨r.len, fun a h => r.dom a (.inl h), r.tab, ho, r.inj, fun i d e => ?_, r.hold⟩
  obtain ⟨v, h1, h2, h3, h4⟩ := r.slot i d e
  refine ⟨v, h1, fun z => ?_, fun z1 z2 => ?_, fun z1 z2 => (h4 z1 z2).le g⟩
  · obtain ⟨a, ea, ct⟩ := h2 z
    exact ⟨a, ea, ct.mono g fun _ q => q⟩
  · rcases h3 z1 z2 with q | ⟨a, ea, oa, na, ct⟩
    · exact .inl (q.le g)
    · have oa' : O a := oa.elim id fun z => absurd (.inr z) na.2
      exact .inr ⟨a, ea, oa', ⟨na.1, fun z => na.2 (.inl z)⟩, ct.mono g fun _ q => q⟩
/-- nothing is handed in -/
def noTh (l : Lv) : Lv := { l with th := .bad }
/-- what one turn of a comprehension does -/
def lcF (own : List Nat) (elt : E) (t : T) (c : Eo) (l : Lv) : D → Sd → R (Option D × Sd) := fun x σ => (asg t x (wipeD σ own)).bind fun σ1 => (evc c l σ1).bind fun q => if q.1 = true then (ev elt l q.2).bind fun r => .ok (some r.1, r.2) else .ok (none, q.2)
theorem ev_lc {own : List Nat} {elt : E} {t : T} {it : I} {cc : Eo} {l : Lv} {σ : Sd} : ev (.lc own elt t it cc) l σ = (evi it l σ).bind fun p => if l.hld.isSome && !p.1.all isTupD then .bad else (nox (lcGo (lcF own elt t cc (noTh l)) p.1 p.2 [])).bind fun q => .ok (.lst q.1, back own σ q.2) := rfl
theorem _root_.L2.PG.ex {e : Expr} {α : Type} {t : α → TG} (h : ∀ a, PG X e (t a)) : PG X e (fun v σ H Q => ∃ a, t a v σ H Q) := ⟨fun pins s σ H v u Q I r ⟨a, q⟩ => (h a).run pins s σ H v u Q I r q⟩
theorem _root_.L2.PTs.ex {e : List Expr} {α : Type} {t : α → TT} (h : ∀ a, PTs X e (t a)) : PTs X e (fun σ H Q => ∃ a, t a σ H Q) := ⟨fun pins s σ H Q I ⟨a, q⟩ => (h a).run pins s σ H Q I q⟩
theorem _root_.L2.PE.ex {e : Expr} {α : Type} {t : α → TE} (h : ∀ a, PE X e (t a)) : PE X e (fun σ H Q => ∃ a, t a σ H Q) := ⟨fun pins s σ H Q I ⟨a, q⟩ => (h a).run pins s σ H Q I q⟩
/-- no error -/
abbrev W0 : WX := fun _ _ _ _ => False
theorem Go.oks {β : Type} {r : R (β × Sd)} {q : β × Sd} {K : β → Sd → Hp → Prop} (e : r = .ok q) (h : ∀ H', RelS Z c O q.2 σ H' → KeepE c σ H H' → K q.1 q.2 H') : Go Z c W r O σ H K := by rw [e]; exact h
/-- the state of a comprehension at turn i: A the list that grows -/
def LcI (Z : Wd) (c : Pl) (O : Addr → Prop) (σ : L2.St) (H : Hp) (A : Addr) (own : List Nat) (f : D → Sd → R (Option D × Sd)) (xs : List D) (F : List D × Sd) (i : Nat) (H1 : Hp) : Prop :=
  ∃ σd ds vs, RelS Z (lk c A) (plus O A) (wipeD σd own) (wipe σ own) H1 ∧ H1 A = some (.lst vs) ∧ Reps Z (hide H1 (plus O A)) ds vs ∧ Le (hide H O) (hide H1 (plus O A)) ∧ KeepE c σ H H1 ∧ lcGo f (xs.drop i) σd ds = .ok F
def gLc (Z : Wd) (c : Pl) (P : D → Prop) (t : T) : TG := fun v σ H Q => ∃ a O σd d, RelS Z (lk c a) O σd σ H ∧ Rep Z (hide H O) d v ∧ P d ∧ TGo Z (lk c a) t O σ σd H d Q
theorem gLc_pg {e : Expr} {P : D → Prop} {t : T} (h : ∀ a, PG X e (TGr Z (lk c a) t)) : PG X e (gLc Z c P t) := (PG.ex h).weak fun v σ H Q ⟨a, O, σd, d, h1, h2, _, h4⟩ => ⟨a, O, σd, d, h1, h2, h4⟩
def ttLc (Z : Wd) (c : Pl) (f : Sd → R (Bool × Sd)) : TT := fun σ H Q => ∃ a, TTe Z (lk c a) W0 f σ H Q
def teLc (Z : Wd) (c : Pl) (f : Sd → R (D × Sd)) : TE := fun σ H Q => ∃ a, TEe Z (lk c a) W0 (tP Z) f σ H Q
theorem lc_step {own : List Nat} {elt : E} {t : T} {cc : Eo} {l : Lv} {xs : List D} {F : List D × Sd} {A : Addr} {i : Nat} {x : V} {H1 H2 : Hp} (hf : ∀ v ∈ own, FreeS c v) (hts : ∀ i ∈ slotsT t, i ∈ own) (hA : H A = none) (nA : NotOwn c σ A)
    (hi : i < xs.length) (I : LcI Z c O σ H A own (lcF own elt t cc l) xs F i H1) (l12 : Le H1 H2) {P : D → Prop} {d : D} (hP : P d) (hd : xs[i]? = some d) (rd : Rep Z (hide H2 (plus O A)) d x) :
    gLc Z c P t x (wipe σ own) H2 fun σ2 H2 => wipe σ2 own = wipe σ own ∧ ttLc Z c (evc cc l) σ2 H2 fun b H3 =>
        if b = true then teLc Z c (ev elt l) σ2 H3 fun y H4 => ∃ acc, H4 A = some (.lst acc) ∧ acc.length < sizeLine ∧ LcI Z c O σ H A own (lcF own elt t cc l) xs F (i + 1) (upd H4 A (.lst (acc ++ [y]))) else LcI Z c O σ H A own (lcF own elt t cc l) xs F (i + 1) H3 := by
  obtain ⟨σd, ds, vs, r1, hA1, rs1, le1, k1, eF⟩ := I
  have hdrop : xs.drop i = d :: xs.drop (i + 1) := by
    obtain ⟨h1, h2⟩ := List.getElem?_eq_some_iff.mp hd
    rw [List.drop_eq_getElem_cons h1, h2]
  rw [hdrop] at eF
  unfold lcGo at eF
  obtain ⟨⟨oy, σ5⟩, e1, eF⟩ := R.bind_ok eF
  unfold lcF at e1
  obtain ⟨σ3, ea, e1⟩ := R.bind_ok e1
  obtain ⟨⟨b, σ4⟩, ec, e1⟩ := R.bind_ok e1
  have r2 := r1.grow l12
  have g12 : Le (hide H1 (plus O A)) (hide H2 (plus O A)) := hide_mono fun a u e t n => ⟨l12 a u e, n⟩
  have nf : ∀ v ∈ own, v ∉ c.own := fun v hv => (hf v hv).1
  refine ⟨A, plus O A, wipeD σd own, d, r2, rd, hP, ?_⟩
  unfold TGo
  rw [ea]
  intro σ' r3 sm
  have sm2 : SameS own (wipe σ own) σ' := sm.mono hts
  have sm3 : SameS own σ σ' := sameS_wipe.trans sm2
  have wp : wipe σ' own = wipe σ own := sm3.wipe
  have nA' : NotOwn c σ' A := (sm3.notOwn nf).mpr nA
  refine ⟨wp, A, plus O A, σ3, r3, Go.oks ec fun H3 r4 k4 => ?_⟩
  have le3 : Le (hide H O) (hide H3 (plus O A)) := (le1.trans g12).trans (r3.le k4)
  have k4' : KeepE c σ H2 H3 := fun a o e t n => k4 a o e t ((sm3.notOwn nf).mpr n)
  have kk : KeepE c σ H H3 := (k1.trans (KeepE.of_le l12)).trans k4'
  have hA3 : H3 A = some (.lst vs) := k4 A _ (l12 A _ hA1) nt_lst nA'
  have rs3 : Reps Z (hide H3 (plus O A)) ds vs := (rs1.le g12).le (r3.le k4)
  cases b with
  | false =>
    simp only [Bool.false_eq_true, if_false] at e1 ⊢
    cases e1
    have r5 := r4.wipe (vs := own) fun v hv => lk_free (hf v hv)
    rw [wp] at r5
    exact ⟨_, ds, vs, r5, hA3, rs3, le3, kk, eF⟩
  | true =>
    simp only [if_true] at e1 ⊢
    obtain ⟨⟨dy, σ6⟩, ee, e1⟩ := R.bind_ok e1
    cases e1
    have eF : (if ds.length < SZ then lcGo (lcF own elt t cc l) (xs.drop (i + 1)) σ6 (ds ++ [dy]) else .bad) = .ok F := eF
    split at eF
    · rename_i hl
      refine ⟨A, plus O A, σ4, r4, Go.oks ee fun H4 r5 k5 y ry => ?_⟩
      have ry : Rep Z (hide H4 (plus O A)) dy y := ry
      have hA4 : H4 A = some (.lst vs) := k5 A _ hA3 nt_lst nA'
      have hh : hide (upd H4 A (.lst (vs ++ [y]))) (plus O A) = hide H4 (plus O A) := hide_upd (.inr rfl)
      have k5' : KeepE c σ H3 H4 := fun a o e t n => k5 a o e t ((sm3.notOwn nf).mpr n)
      refine ⟨vs, hA4, by rw [← rs1.length]; exact hl, σ6, ds ++ [dy], vs ++ [y], ?_, upd_same, ?_, ?_, ?_, eF⟩
      · have r6 := r5.updL (.inr rfl) (.inr rfl) nA' hA4 (.inl ⟨_, rfl⟩) (.inl ⟨vs ++ [y], rfl⟩)
        have r7 := r6.wipe (vs := own) fun v hv => lk_free (hf v hv)
        rw [wp] at r7
        exact r7
      · rw [hh]; exact (rs3.le (r4.le k5)).append (.cons ry .nil)
      · rw [hh]; exact le3.trans (r4.le k5)
      · intro a o e t n
        have ne : a ≠ A := ne_of_none e hA
        rw [upd_ne ne]
        exact (kk.trans k5') a o e t n
    · cases eF
theorem back_rel {own : List Nat} {σ0 σ1 : Sd} {H0 : Hp} {O' : Addr → Prop} {c' : Pl} (hf : ∀ v ∈ own, FreeS c v) (r0 : RelS Z c O σ0 σ H0) (c1 : c'.own = c.own) (c2 : c'.bor = c.bor) (c3 : c'.hold = c.hold) (c4 : ∀ b, O b → ¬ c.lock b → ¬ c'.lock b) (hO : ∀ b, O b → O' b) (r : RelS Z c' O' (wipeD σ1 own) (wipe σ own) H) (le : Le (hide H0 O) (hide H O')) : RelS Z c' O' (back own σ0 σ1) σ H := by
  obtain ⟨cw, cb, ch, cl⟩ := c'
  dsimp only at c1 c2 c3 c4
  subst c1 c2 c3
  have sm : SameS own σ (wipe σ own) := sameS_wipe
  have nf : ∀ v ∈ own, v ∉ c.own := fun v hv => (hf v hv).1
  have l1 : σ1.length = σ.length := by have := r.len; rw [wipeD_len, wipe_length] at this; exact this
  refine ⟨by rw [back_len]; exact l1, r.dom, r.tab, fun i hi a e => hO a (r0.own i hi a e), r0.inj, fun i d e => ?_, r0.hold⟩
  rw [back_get] at e
  by_cases hi : i ∈ own
  · rw [if_pos hi] at e
    obtain ⟨f1, f2, f3⟩ := hf i hi
    have e0 : σ0[i]? = some (some d) := by
      cases h1 : σ1[i]? with
      | none => rw [h1] at e; simp at e
      | some q =>
        rw [h1] at e
        cases h0 : σ0[i]? with
        | none => rw [h0] at e; simp at e
        | some w => rw [h0] at e; simpa using e
    obtain ⟨v, q1, q2, q3, q4⟩ := r0.slot i d e0
    exact ⟨v, q1, fun z => absurd z f1, fun _ z => absurd z f2, fun z1 z2 => (q4 z1 z2).le le⟩
  · rw [if_neg hi] at e
    obtain ⟨v, q1, q2, q3, q4⟩ := r.slot i d (by rw [wipeD_get, if_neg hi]; exact e)
    refine ⟨v, by rw [← sm.2 i hi]; exact q1, q2, fun z1 z2 => ?_, q4⟩
    rcases q3 z1 z2 with q | ⟨a, ea, oa, na, ct⟩
    · exact .inl q
    · exact .inr ⟨a, ea, oa, ⟨(sm.notOwn nf).mp na.1, na.2⟩, ct⟩
/-- a comprehension, from its iterator on -/
theorem lc_turns {P : D → Prop} {own : List Nat} {elt : E} {t : T} {cc : Eo} {l : Lv} {xs : List D} {J : It} {σ0 σ1 : Sd} {H0 : Hp} {Q : VK} (hf : ∀ v ∈ own, FreeS c v) (hts : ∀ i ∈ slotsT t, i ∈ own)
    (hr0 : RelS Z c O σ0 σ H0) (k0 : KeepE c σ H0 H) (hr : RelS Z c O σ1 σ H) (w : Wk Z O H xs J) (hP : ∀ d ∈ xs, P d) (g : Go Z c W ((nox (lcGo (lcF own elt t cc l) xs σ1 [])).bind fun q => .ok (.lst q.1, back own σ0 q.2)) O σ H (KF Z c O σ H0 Q)) :
    ∀ A, H A = none → ∃ W : Nat → Nat → Hp → Prop, (∃ m, W 0 m (upd H A (.lst []))) ∧ ∀ i m H, W i m H →
      (J.stop i H ∧ Q (.ref A) H) ∨ (J.go i H ∧ ∃ Nx : Hp → Prop, (∀ H', Nx H' → ∃ m', m' < m ∧ W (i + 1) m' H') ∧ ∀ x H', J.yld i H x H' → gLc Z c P t x (wipe σ own) H' fun σ2 H2 => wipe σ2 own = wipe σ own ∧ ttLc Z c (evc cc l) σ2 H2 fun b H3 =>
        if b = true then teLc Z c (ev elt l) σ2 H3 fun y H4 => ∃ acc, H4 A = some (.lst acc) ∧ acc.length < sizeLine ∧ Nx (upd H4 A (.lst (acc ++ [y]))) else Nx H3) := fun A hA => by
  have nOA : ¬ O A := fun z => by
    obtain ⟨u, e, _⟩ := hr.dom A z
    rw [hA] at e; cases e
  have nA : NotOwn c σ A := hr.notOwn nOA
  cases hF : nox (lcGo (lcF own elt t cc l) xs σ1 []) with
  | exc k => rw [hF] at g; cases h : lcGo (lcF own elt t cc l) xs σ1 [] <;> rw [h] at hF <;> simp [nox] at hF
  | bad => rw [hF] at g; exact g.elim
  | ok F =>
    rw [hF] at g
    have g : Go Z c W (.ok (.lst F.1, back own σ0 F.2)) O σ H (KF Z c O σ H0 Q) := g
    have eF := nox_ok hF
    obtain ⟨G, Y, wk, hG, hY⟩ := w
    refine lc_it wk (LcI Z c O σ H A own (lcF own elt t cc l) xs F) ?_ ?_ ?_ ?_
    · refine ⟨σ1, [], [], ?_, upd_same, .nil, plus_le _ hA, ?_, eF⟩
      · exact (hr.locked hA _ nt_lst).wipe fun v hv => lk_free (hf v hv)
      · exact KeepE.of_le (le_upd hA)
    · rintro i H1 _ ⟨σd, ds, vs, r1, hA1, rs1, le1, k1, eF⟩
      exact hG _ _ le1
    · rintro i x H1 H2 hi I y
      have I' := I
      obtain ⟨σd, ds, vs, r1, hA1, rs1, le1, k1, eF⟩ := I'
      obtain ⟨l12, d, hd, rd⟩ := hY i H1 x H2 _ hi le1 ⟨r1.dom, r1.tab⟩ y
      exact lc_step hf hts hA nA hi I l12 (hP d (List.mem_of_getElem? hd)) hd rd
    · rintro H1 ⟨σd, ds, vs, r1, hA1, rs1, le1, k1, eF⟩
      rw [List.drop_length] at eF
      unfold lcGo at eF
      cases eF
      have ow : ∀ i ∈ c.own, ∀ a, (wipe σ own)[i]? = some (some (.ref a)) → O a := fun i hi a e => by
        rw [sameS_wipe.2 i fun z => (hf i z).1 hi] at e
        exact hr.own i hi a e
      have le2 : Le (hide H O) (hide H1 O) := le1.trans plus_less
      have r2 : RelS Z c O (back own σ0 σd) σ H1 := back_rel (c' := c) hf hr0 rfl rfl rfl (fun _ _ h => h) (fun _ h => h) (r1.unlock ow) ((hr0.le k0).trans le2)
      have v1 : hide H1 O A = some (.lst vs) := hide_some.mpr ⟨⟨nOA, nt_lst⟩, hA1⟩
      refine g.ok r2 k1 (.ref A) (fun _ => ⟨A, rfl, hr0.back hr k0 (fre_none hA), ⟨vs, hA1, rs1⟩, ?_⟩) (.lst v1 (rs1.le plus_less))
      exact back_rel (c' := lk c A) hf hr0 rfl rfl rfl (fun b ob nb z => z.elim nb fun e => nOA (e ▸ ob)) (fun _ h => .inl h) r1 ((hr0.le k0).trans le1)
theorem lc_red {own : List Nat} {elt : E} {t : T} {it : I} {cc : Eo} {l : Lv} {σ : L2.St} {H : Hp} {Q : VK} (hf : ∀ v ∈ own, FreeS c v) (hts : ∀ i ∈ slotsT t, i ∈ own)
    (q : TFe Z c W (ev (.lc own elt t it cc) l) σ H Q) : tLc (TIe Z c W (evi it l)) (gLc Z c (fun d => l.hld.isSome = true → isTupD d = true) t) (ttLc Z c (evc cc (noTh l))) (teLc Z c (ev elt (noTh l))) own σ H Q := by
  obtain ⟨O, σd, hr, hg⟩ := q
  rw [ev_lc] at hg
  refine ⟨O, σd, hr, (Go.bind (r := evi it l σd) hg).imp fun xs σ1 H1 _ r1 k1 g J w => ?_⟩
  cases hb : (l.hld.isSome && !xs.all isTupD) with
  | true =>
    have g : Go Z c W (if (l.hld.isSome && !xs.all isTupD) = true then .bad else (nox (lcGo (lcF own elt t cc (noTh l)) xs σ1 [])).bind fun q => .ok (.lst q.1, back own σd q.2)) O σ H1 (KF Z c O σ H Q) := g
    rw [hb] at g
    exact g.elim
  | false =>
    have g : Go Z c W (if (l.hld.isSome && !xs.all isTupD) = true then .bad else (nox (lcGo (lcF own elt t cc (noTh l)) xs σ1 [])).bind fun q => .ok (.lst q.1, back own σd q.2)) O σ H1 (KF Z c O σ H Q) := g
    rw [hb] at g
    refine lc_turns hf hts hr k1 r1 w (fun d hd hh => ?_) g
    rw [hh] at hb
    simp only [Bool.true_and, Bool.not_eq_false'] at hb
    exact List.all_eq_true.mp hb d hd
theorem pe_of_lc {elt tg iter : Expr} {ifs : List Expr} {scope : Scope} {own : List (Str × Nat)} {pos : Pos} {ke : E} {t : T} {it : I} {cc : Eo} {l : Lv} (hc : X.calm = true) (hN : X.N.Nodup) (ok : BlkOk X.N X.env.scope scope own) (hf : ∀ v ∈ own.map (·.2), FreeS c v) (hts : ∀ i ∈ slotsT t, i ∈ own.map (·.2))
    (hi : PI X tg iter (TIe Z c W (evi it l)))
    (hg : ∀ (a : Addr) (s : Shared) (H : Hp) (C : Addr) (cl : List (Str × Addr)) (fp : List Addr), PG (X.blk s H scope (compEnvC scope cl C X.env) fp) tg (TGr Z (lk c a) t))
    (ht : ∀ (a : Addr) (s : Shared) (H : Hp) (C : Addr) (cl : List (Str × Addr)) (fp : List Addr), PTs (X.blk s H scope (compEnvC scope cl C X.env) fp) ifs (TTe Z (lk c a) W0 (evc cc (noTh l))))
    (he : ∀ (a : Addr) (s : Shared) (H : Hp) (C : Addr) (cl : List (Str × Addr)) (fp : List Addr), PE (X.blk s H scope (compEnvC scope cl C X.env) fp) elt (TEe Z (lk c a) W0 (tP Z) (ev ke (noTh l))))
    (hs : ∀ x, foldedSetIterable iter X.env x = pure x) : PE X (.ListComp elt [⟨tg, iter, ifs, 0⟩] scope pos) (TFe Z c W (ev (.lc (own.map (·.2)) ke t it cc) l)) :=
  (pe_lc hc hN hi ok (fun s H C cl fp => gLc_pg fun a => hg a s H C cl fp) (fun s H C cl fp => .ex fun a => ht a s H C cl fp) (fun s H C cl fp => .ex fun a => he a s H C cl fp) hs).weak fun σ H Q q => lc_red hf hts q
/-- name = [..] on one line -/
theorem ps_of_setLc {i : Nat} {y : Str} {py : Pos} {elt tg iter : Expr} {ifs : List Expr} {scope : Scope} {own : List (Str × Nat)} {pos spos : Pos} {ke : E} {t : T} {it : I} {cc : Eo} {l : Lv} (hc : X.calm = true) (hN : X.N.Nodup) (ok : BlkOk X.N X.env.scope scope own) (hf : ∀ v ∈ own.map (·.2), FreeS c v) (hts : ∀ i ∈ slotsT t, i ∈ own.map (·.2))
    (hy : X.N[i]? = some y) (hyl : X.env.scope.names.lookup y = some .local) (hsw : swapsWith (.ListComp elt [⟨tg, iter, ifs, 0⟩] scope pos) (some (.Name y py)) spos.line X.env = pure true)
    (hi : PI X tg iter (TIe Z c W (evi it l)))
    (hg : ∀ (a : Addr) (s : Shared) (H : Hp) (C : Addr) (cl : List (Str × Addr)) (fp : List Addr), PG (X.blk s H scope (compEnvC scope cl C X.env) fp) tg (TGr Z (lk c a) t))
    (ht : ∀ (a : Addr) (s : Shared) (H : Hp) (C : Addr) (cl : List (Str × Addr)) (fp : List Addr), PTs (X.blk s H scope (compEnvC scope cl C X.env) fp) ifs (TTe Z (lk c a) W0 (evc cc (noTh l))))
    (he : ∀ (a : Addr) (s : Shared) (H : Hp) (C : Addr) (cl : List (Str × Addr)) (fp : List Addr), PE (X.blk s H scope (compEnvC scope cl C X.env) fp) elt (TEe Z (lk c a) W0 (tP Z) (ev ke (noTh l))))
    (hs : ∀ x, foldedSetIterable iter X.env x = pure x) : PS X (.Assign [.Name y py] (.ListComp elt [⟨tg, iter, ifs, 0⟩] scope pos) spos) (tAsg (TFe Z c W (ev (.lc (own.map (·.2)) ke t it cc) l)) (gName i)) :=
  (ps_setLc hc hN hy hyl hsw hi ok (fun s H C cl fp => gLc_pg fun a => hg a s H C cl fp) (fun s H C cl fp => .ex fun a => ht a s H C cl fp) (fun s H C cl fp => .ex fun a => he a s H C cl fp) hs).weak fun D σ H q => lc_red hf hts q
end
end BF

/-! Lof -/
set_option Elab.async false
set_option linter.all false
set_option maxRecDepth 100000
set_option maxHeartbeats 4000000
/-! list(..) and tuple(..) of iterables, methods of lists and dicts, displays of dicts -/
namespace BF
open PySem L2

theorem base_of {o : Expr} {m : Str} {env : Env} {whole : Sem Value} (h : notBase o = true) : attributeBase o m env whole = whole := by
  unfold notBase at h
  split at h
  · cases h
  · rename_i hn
    unfold attributeBase
    split
    · rename_i id p1 p2
      exact absurd rfl (hn id p1 p2)
    · rfl
section
variable {Z : Wd} {c : Pl} {W : WX} {O : Addr → Prop} {σ : L2.St} {σd : Sd} {H H' : Hp} {X : Cx}
/-! ### a new list of new pairs -/
theorem RetF.pairs {H0 : Hp} {qs : List (D × D)} {ps : List (V × V)} {Q : VK} (g : RetF Z c W O σ H0 σd H (.lst (qs.map fun q => .tup [q.1, q.2])) Q) (r : RelS Z c O σd σ H) (hb : ∀ p, Fre H p → Fre H0 p)
    (hl : qs.length = ps.length) (rs : ∀ (j : Nat) q p, qs[j]? = some q → ps[j]? = some p → Rep Z (hide H O) q.1 p.1 ∧ Rep Z (hide H O) q.2 p.2) :
    ∀ (H' : Hp) (p : Addr) (ts : List Addr), (∀ b o, H b = some o → H' b = some o) → H p = none → (∀ t ∈ ts, H t = none) → p ∉ ts → H' p = some (.lst (ts.map V.ref)) → ts.length = ps.length →
      (∀ (j : Nat) (t : Addr) (q : V × V), ts[j]? = some t → ps[j]? = some q → H' t = some (.tup [q.1, q.2])) → Q (.ref p) H' := by
  intro H' p ts le hp ht np hP hlen hT
  have nO : ∀ {b : Addr}, H b = none → ¬ O b := fun h z => by
    obtain ⟨u, e, _⟩ := r.dom _ z
    rw [h] at e; cases e
  have l0 : Le H H' := le
  have g0 : Le (hide H O) (hide H' O) := hide_mono fun a u e t n => ⟨le a u e, n⟩
  have g1 : Le (hide H O) (hide H' (plus O p)) := hide_mono fun a u e t n => ⟨le a u e, fun z => z.elim n fun z => by rw [z, hp] at e; cases e⟩
  have tup : ∀ (G : Hp), Le (hide H O) G → (∀ t ∈ ts, ∀ o, H' t = some o → NT o → G t = some o) → Reps Z G (qs.map fun q => .tup [q.1, q.2]) (ts.map V.ref) := fun G lG tG => by
    have key : ∀ (n : Nat) (qs' : List (D × D)) (ts' : List Addr), qs'.length = ts'.length → (∀ j, qs'[j]? = qs[n + j]?) → (∀ j, ts'[j]? = ts[n + j]?) → Reps Z G (qs'.map fun q => .tup [q.1, q.2]) (ts'.map V.ref) := by
      intro n qs'
      induction qs' generalizing n with
      | nil => intro ts' h _ _; cases ts' with
        | nil => exact .nil
        | cons _ _ => cases h
      | cons q qs' ih =>
        intro ts' h h1 h2
        cases ts' with
        | nil => cases h
        | cons t ts' =>
          have e1 : qs[n]? = some q := by have := h1 0; simpa using this.symm
          have e2 : ts[n]? = some t := by have := h2 0; simpa using this.symm
          have hn : n < ps.length := by rw [← hl]; exact (List.getElem?_eq_some_iff.mp e1).1
          obtain ⟨v, hv⟩ : ∃ v, ps[n]? = some v := ⟨_, List.getElem?_eq_getElem hn⟩
          obtain ⟨r1, r2⟩ := rs n q v e1 hv
          have e3 := hT n t v e2 hv
          refine .cons (.tup (.inl (.inl (tG t (List.mem_of_getElem? e2) _ e3 nt_tup))) (.cons (r1.le lG) (.cons (r2.le lG) .nil))) (ih (n + 1) ts' (Nat.succ.inj h) (fun j => ?_) fun j => ?_)
          · have := h1 (j + 1); rw [List.getElem?_cons_succ] at this; rw [this]; congr 1; omega
          · have := h2 (j + 1); rw [List.getElem?_cons_succ] at this; rw [this]; congr 1; omega
    exact key 0 qs ts (by rw [hl, hlen]) (fun j => by rw [Nat.zero_add]) fun j => by rw [Nat.zero_add]
  have rl : RelS Z (lk c p) (plus O p) σd σ H' := (r.locked hp (.lst (ts.map V.ref)) nt_lst).grow fun a u e => by
    by_cases z : a = p
    · rw [z, upd_same] at e; cases e; rw [z]; exact hP
    · rw [upd_ne z] at e; exact le a u e
  refine g.ok (r.grow l0) (KeepE.of_le l0) _ (fun _ => ⟨p, rfl, hb p (fre_none hp), ⟨_, hP, ?_⟩, rl⟩) (.lst (hide_some.mpr ⟨⟨nO hp, nt_lst⟩, hP⟩) ?_)
  · exact tup _ g1 fun t htm o e n => hide_some.mpr ⟨⟨fun z => z.elim (nO (ht t htm)) fun z => np (z ▸ htm), n⟩, e⟩
  · exact tup _ g0 fun t htm o e n => hide_some.mpr ⟨⟨nO (ht t htm), n⟩, e⟩
theorem zipL_map (xs ys : List D) : zipL xs ys = (xs.zip ys).map fun q => .tup [q.1, q.2] := rfl
theorem pe_of_lzip {a b : Expr} {ka kb : E} {l : Lv} {p q pos pos2 : Pos} (hK : X.K = Z.K) (hc : X.calm = true) (hg : Gl X "list") (hm : X.mg "list" = none) (hg2 : Gl X "zip") (hm2 : X.mg "zip" = none) (ha : PE X a (TEe Z c W (tP Z) (ev ka l))) (hb : PE X b (TEe Z c W (tP Z) (ev kb l))) (sa : notStar a = true) (sb : notStar b = true) :
    PE X (.Call (.Name "list" p) [.Call (.Name "zip" q) [a, b] [] pos2] [] pos) (TFe Z c W (ev (.lof false (.zip ka kb)) l)) :=
  (pe_listZip hc hg hm hg2 hm2 (pa_cons ha (pa_cons hb pa_nil (star_cons sb)) (star_cons sa)) (star_cons sa) (by rw [star_cons sb]; rfl)).weak fun σ H Q ⟨O, σd, h0, hg⟩ => by
    refine ⟨O, σd, h0, (Go.bind (r := ev ka l σd) (Go.bind (r := evi (.zip ka kb) l σd) hg)).imp fun da σ1 H1 _ r1 k1 g va rva => ⟨O, σ1, r1, (Go.bind (r := ev kb l σ1) g).imp fun db σ2 H2 _ r2 k2 g2 vb rvb => ?_⟩⟩
    have rva := rva.le (r1.le k2)
    obtain ⟨⟨xs, ys⟩, ez, g3⟩ := Go.opt g2
    have g3 := g3.ok r2 KeepE.refl
    have g3 : Go Z c W (if (zipL xs ys).length ≤ SZ then .ok (.lst (zipL xs ys), σ2) else .bad) O σ H2 (KF Z c O σ H Q) := g3
    obtain ⟨_, g4⟩ := Go.iff g3
    have hb0 : ∀ p, Fre H2 p → Fre H p := fun p hp => h0.back r2 (k1.trans k2) hp
    have fin : ∀ vs ws, Reps Z (hide H2 O) xs vs → Reps Z (hide H2 O) ys ws → ∀ (H' : Hp) (p : Addr) (ts : List Addr), (∀ b o, H2 b = some o → H' b = some o) → H2 p = none → (∀ t ∈ ts, H2 t = none) → p ∉ ts → H' p = some (.lst (ts.map V.ref)) → ts.length = (vs.zip ws).length →
        (∀ (j : Nat) (t : Addr) (q : V × V), ts[j]? = some t → (vs.zip ws)[j]? = some q → H' t = some (.tup [q.1, q.2])) → Q (.ref p) H' := fun vs ws rs ss =>
      RetF.pairs (qs := xs.zip ys) (ps := vs.zip ws) g4 r2 hb0 (by rw [List.length_zip, List.length_zip, rs.length, ss.length]) fun j q v e1 e2 => by
        obtain ⟨a1, a2⟩ := List.getElem?_zip_eq_some.mp e1
        obtain ⟨b1, b2⟩ := List.getElem?_zip_eq_some.mp e2
        obtain ⟨u, hu, ru⟩ := rs.get a1
        obtain ⟨u2, hu2, ru2⟩ := ss.get a2
        rw [hu] at b1; rw [hu2] at b2
        cases b1; cases b2
        exact ⟨ru, ru2⟩
    cases da <;> cases db <;> simp only [zipsOf, Option.some.injEq, Prod.mk.injEq] at ez <;> first | (cases ez; done) | (obtain ⟨rfl, rfl⟩ := ez)
    · cases rva with
      | tup s rs => cases rvb with
        | tup s' ss => exact ⟨true, true, _, _, _, _, rfl, (show SqT _ _ _ _ by rw [hK]; exact (hide_le _ _).sqT s), (show SqT _ _ _ _ by rw [hK]; exact (hide_le _ _).sqT s'), fin _ _ rs ss⟩
    · cases rva with
      | lst s rs => cases rvb with
        | lst s' ss => exact ⟨false, false, _, _, _, _, rfl, (show SqL _ _ _ _ from (hide_le _ _).sqL (SqL.of s)), (show SqL _ _ _ _ from (hide_le _ _).sqL (SqL.of s')), fin _ _ rs ss⟩
theorem reps_range {G : Hp} {a b : Int} : Reps Z G (rangeL a b) (rgV a b) := by
  unfold rangeL rgV
  have key : ∀ l : List Nat, Reps Z G (l.map fun (k : Nat) => D.int (a + k)) (l.map fun (i : Nat) => V.int (a + (i : Nat))) := fun l => by
    induction l with
    | nil => exact .nil
    | cons x r ih => exact .cons (.int _) ih
  exact key _
theorem rngOk_both {i j : Int} (h1 : rngOk i = true) (h2 : rngOk j = true) (hl : (rangeL i j).length ≤ SZ) : RgOk i j := by
  simp only [rngOk, Bool.and_eq_true, decide_eq_true_eq] at h1 h2
  have : (rangeL i j).length = (j - i).toNat := by simp [rangeL]
  rw [this] at hl
  exact ⟨h1.1, h1.2, h2.1, h2.2, by have e : SZ = 2 ^ 24 := by rfl
                                    rw [← e]; exact hl⟩
theorem pe_of_lrg1 {a : Expr} {k : E} {l : Lv} {p q pos pos2 : Pos} (hc : X.calm = true) (hg : Gl X "list") (hm : X.mg "list" = none) (hg2 : Gl X "range") (hm2 : X.mg "range" = none) (ha : PE X a (TEe Z c W (tP Z) (ev k l))) (sa : notStar a = true) :
    PE X (.Call (.Name "list" p) [.Call (.Name "range" q) [a] [] pos2] [] pos) (TFe Z c W (ev (.lof false (.rng1 k)) l)) :=
  (pe_listRg hc hg hm (prg_1 hg2 hm2 ha (star_cons sa)) rfl).weak fun σ H Q ⟨O, σd, h0, hg⟩ => by
    refine ⟨O, σd, h0, (Go.bind (r := ev k l σd) (Go.bind (r := evi (.rng1 k) l σd) hg)).imp fun d σ1 H1 _ r1 k1 g v rv => ?_⟩
    cases d with
    | int j =>
      cases rv
      obtain ⟨hj, g⟩ := Go.iff g
      have g := g.ok r1 KeepE.refl
      obtain ⟨hl, g⟩ := Go.iff (show Go Z c W (if (rangeL 0 j).length ≤ SZ then .ok (.lst (rangeL 0 j), σ1) else .bad) O σ H1 (KF Z c O σ H Q) from g)
      exact ⟨j, rfl, rngOk_both (by decide) hj hl, RetF.newL g r1 (fun p hp => h0.back r1 k1 hp) reps_range⟩
    | _ => exact g.elim
theorem pe_of_trg1 {a : Expr} {k : E} {l : Lv} {p q pos pos2 : Pos} (hc : X.calm = true) (hg : Gl X "tuple") (hm : X.mg "tuple" = none) (hg2 : Gl X "range") (hm2 : X.mg "range" = none) (ha : PE X a (TEe Z c W (tP Z) (ev k l))) (sa : notStar a = true) :
    PE X (.Call (.Name "tuple" p) [.Call (.Name "range" q) [a] [] pos2] [] pos) (TFe Z c W (ev (.lof true (.rng1 k)) l)) :=
  (pe_tupRg hc hg hm (prg_1 hg2 hm2 ha (star_cons sa)) rfl).weak fun σ H Q ⟨O, σd, h0, hg⟩ => by
    refine ⟨O, σd, h0, (Go.bind (r := ev k l σd) (Go.bind (r := evi (.rng1 k) l σd) hg)).imp fun d σ1 H1 _ r1 k1 g v rv => ?_⟩
    cases d with
    | int j =>
      cases rv
      obtain ⟨hj, g⟩ := Go.iff g
      have g := g.ok r1 KeepE.refl
      obtain ⟨hl, g⟩ := Go.iff (show Go Z c W (if (rangeL 0 j).length ≤ SZ then .ok (.tup (rangeL 0 j), σ1) else .bad) O σ H1 (KF Z c O σ H Q) from g)
      exact ⟨j, rfl, rngOk_both (by decide) hj hl, RetF.newT g r1 reps_range⟩
    | _ => exact g.elim
theorem pe_of_lrg2 {a b : Expr} {ka kb : E} {l : Lv} {p q pos pos2 : Pos} (hc : X.calm = true) (hg : Gl X "list") (hm : X.mg "list" = none) (hg2 : Gl X "range") (hm2 : X.mg "range" = none) (ha : PE X a (TEe Z c W (tP Z) (ev ka l))) (hb : PE X b (TEe Z c W (tP Z) (ev kb l))) (sa : notStar a = true) (sb : notStar b = true) :
    PE X (.Call (.Name "list" p) [.Call (.Name "range" q) [a, b] [] pos2] [] pos) (TFe Z c W (ev (.lof false (.rng2 ka kb)) l)) :=
  (pe_listRg hc hg hm (prg_2 hg2 hm2 ha hb (by rw [star_cons sa]) (star_cons sb) (by rw [star_cons sb]; rfl)) rfl).weak fun σ H Q ⟨O, σd, h0, hg⟩ => by
    refine ⟨O, σd, h0, (Go.bind (r := ev ka l σd) (Go.bind (r := evi (.rng2 ka kb) l σd) hg)).imp fun d σ1 H1 _ r1 k1 g v rv => ⟨O, σ1, r1, (Go.bind (r := ev kb l σ1) g).imp fun d2 σ2 H2 _ r2 k2 g v2 rv2 => ?_⟩⟩
    cases d with
    | int i => cases d2 with
      | int j =>
        cases rv; cases rv2
        obtain ⟨hj, g⟩ := Go.iff g
        rw [Bool.and_eq_true] at hj
        have g := g.ok r2 KeepE.refl
        obtain ⟨hl, g⟩ := Go.iff (show Go Z c W (if (rangeL i j).length ≤ SZ then .ok (.lst (rangeL i j), σ2) else .bad) O σ H2 (KF Z c O σ H Q) from g)
        exact ⟨i, j, rfl, rfl, rngOk_both hj.1 hj.2 hl, RetF.newL g r2 (fun p hp => h0.back r2 (k1.trans k2) hp) reps_range⟩
      | _ => exact g.elim
    | _ => cases d2 <;> exact g.elim
theorem pe_of_trg2 {a b : Expr} {ka kb : E} {l : Lv} {p q pos pos2 : Pos} (hc : X.calm = true) (hg : Gl X "tuple") (hm : X.mg "tuple" = none) (hg2 : Gl X "range") (hm2 : X.mg "range" = none) (ha : PE X a (TEe Z c W (tP Z) (ev ka l))) (hb : PE X b (TEe Z c W (tP Z) (ev kb l))) (sa : notStar a = true) (sb : notStar b = true) :
    PE X (.Call (.Name "tuple" p) [.Call (.Name "range" q) [a, b] [] pos2] [] pos) (TFe Z c W (ev (.lof true (.rng2 ka kb)) l)) :=
  (pe_tupRg hc hg hm (prg_2 hg2 hm2 ha hb (by rw [star_cons sa]) (star_cons sb) (by rw [star_cons sb]; rfl)) rfl).weak fun σ H Q ⟨O, σd, h0, hg⟩ => by
    refine ⟨O, σd, h0, (Go.bind (r := ev ka l σd) (Go.bind (r := evi (.rng2 ka kb) l σd) hg)).imp fun d σ1 H1 _ r1 k1 g v rv => ⟨O, σ1, r1, (Go.bind (r := ev kb l σ1) g).imp fun d2 σ2 H2 _ r2 k2 g v2 rv2 => ?_⟩⟩
    cases d with
    | int i => cases d2 with
      | int j =>
        cases rv; cases rv2
        obtain ⟨hj, g⟩ := Go.iff g
        rw [Bool.and_eq_true] at hj
        have g := g.ok r2 KeepE.refl
        obtain ⟨hl, g⟩ := Go.iff (show Go Z c W (if (rangeL i j).length ≤ SZ then .ok (.tup (rangeL i j), σ2) else .bad) O σ H2 (KF Z c O σ H Q) from g)
        exact ⟨i, j, rfl, rfl, rngOk_both hj.1 hj.2 hl, RetF.newT g r2 reps_range⟩
      | _ => exact g.elim
    | _ => cases d2 <;> exact g.elim
theorem repK_items : ∀ {kvs : List (D × D)} {ks : List (Key × V)}, RepK Z H kvs ks → kvs.length = ks.length ∧ ∀ (j : Nat) q p, kvs[j]? = some q → (ks.map fun e => (kV e.1, e.2))[j]? = some p → Rep Z H q.1 p.1 ∧ Rep Z H q.2 p.2
  | _, _, .nil => ⟨rfl, fun j q p h => by simp at h⟩
  | _, _, .cons hk rv t => by
    obtain ⟨h1, h2⟩ := repK_items t
    refine ⟨by simp [h1], fun j q p e1 e2 => ?_⟩
    cases j with
    | zero =>
      simp at e1 e2
      subst e1; subst e2
      exact ⟨keyR_kV hk, rv⟩
    | succ j => exact h2 j q p (by simpa using e1) (by simpa using e2)
theorem paired_at {α β : Type} {F : α → β → Prop} : ∀ {xs : List α} {ys : List β}, Paired F xs ys → xs.length = ys.length ∧ ∀ (i : Nat) x y, xs[i]? = some x → ys[i]? = some y → F x y
  | _, _, .nil => ⟨rfl, fun i x y h => by simp at h⟩
  | _, _, .cons r t => by
    obtain ⟨h1, h2⟩ := paired_at t
    refine ⟨by simp [h1], fun i x y e1 e2 => ?_⟩
    cases i with
    | zero => simp at e1 e2; subst e1; subst e2; exact r
    | succ i => exact h2 i x y (by simpa using e1) (by simpa using e2)
theorem pe_of_litems {o : Expr} {k : E} {l : Lv} {p apos cpos pos : Pos} (hc : X.calm = true) (hg : Gl X "list") (hm : X.mg "list" = none) (ho : Opd X Z c W l o k) (hb : notBase o = true) (hline : (apos.endLine == cpos.line) = true) :
    PE X (.Call (.Name "list" p) [.Call (.Attribute o "items" apos) [] [] cpos] [] pos) (TFe Z c W (ev (.lof false (.items k)) l)) :=
  (LiI.pe_listItems hc ho.lent hg hm (by rfl) (base_of hb) hline rfl).weak fun σ H Q ⟨O, σd, h0, hg⟩ => by
    refine ⟨O, σd, h0, (Go.bind (r := BF.lent k (ev k l σd) σd) (Go.bind (r := evi (.items k) l σd) hg)).imp fun d σ1 H1 _ r1 k1 g v rv => ?_⟩
    cases d with
    | dic kvs =>
      obtain ⟨a, ks, rfl, ha, rs⟩ := rv.dic
      have g := g.ok r1 KeepE.refl
      obtain ⟨hl, g⟩ := Go.iff (show Go Z c W (if (itemsL kvs).length ≤ SZ then .ok (.lst (itemsL kvs), σ1) else .bad) O σ H1 (KF Z c O σ H Q) from g)
      obtain ⟨q1, q2⟩ := repK_items rs
      refine ⟨a, ks, rfl, ha, fun H' p ts e1 e2 e3 e4 e5 e6 => ?_⟩
      obtain ⟨f1, f2⟩ := paired_at e6
      exact RetF.pairs (qs := kvs) (ps := ks.map fun e => (kV e.1, e.2)) g r1 (fun p hp => h0.back r1 k1 hp) (by rw [List.length_map, q1]) q2 H' p ts e1 e2 e3 e4 e5 (by rw [List.length_map, f1]) fun j t q h1 h2 => by
        rw [List.getElem?_map] at h2
        obtain ⟨e, he, rfl⟩ := Option.map_eq_some_iff.mp h2
        exact f2 j t e h1 he
    | _ => exact g.elim
/-! ### methods that change nothing -/
theorem findIdx_get {α : Type} {p : α → Bool} : ∀ {l : List α} {i : Nat}, l.findIdx? p = some i → (∃ x, l[i]? = some x ∧ p x = true) ∧ ∀ j x, j < i → l[j]? = some x → p x = false
  | [], i, h => by simp at h
  | x :: l, i, h => by
    rw [List.findIdx?_cons] at h
    split at h
    · rename_i hp
      cases h
      exact ⟨⟨x, rfl, hp⟩, fun j y hj => by omega⟩
    · rename_i hp
      obtain ⟨i', e, rfl⟩ := Option.map_eq_some_iff.mp h
      obtain ⟨h1, h2⟩ := findIdx_get e
      refine ⟨by simpa using h1, fun j y hj e2 => ?_⟩
      cases j with
      | zero => simp at e2; subst e2; simpa using hp
      | succ j => exact h2 j y (by omega) (by simpa using e2)
theorem toPys_get : ∀ {xs : List D} {i : Nat}, (toPys xs)[i]? = (xs[i]?).map toPy
  | [], i => by simp [toPys]
  | x :: xs, 0 => by simp [toPys]
  | x :: xs, i + 1 => by simp only [toPys, List.getElem?_cons_succ]; exact toPys_get
theorem dps_get : ∀ {n : Nat} {xs : List D} {i : Nat} {x : D}, dps n xs = true → xs[i]? = some x → dp n x = true
  | n, [], i, x, _, e => by simp at e
  | n, y :: xs, 0, x, h, e => by simp at e; subst e; have h' : dp n y = true ∧ dps n xs = true := by simpa [dps] using h
                                 exact h'.1
  | n, y :: xs, i + 1, x, h, e => by have h' : dp n y = true ∧ dps n xs = true := by simpa [dps] using h
                                     exact dps_get h'.2 (by simpa using e)
theorem om_index {d : D} {das : List D} {d' : D} (e : omD .index d das = some d') : ∃ xs y, d = .lst xs ∧ das = [y] ∧ (if dp 60 y && dps 59 xs then (xs.findIdx? fun z => deq z y).map fun j => D.int (j : Nat) else none) = some d' := by
  cases d with
  | lst xs =>
    match das, e with
    | [y], e => exact ⟨xs, y, rfl, rfl, e⟩
    | [], e => simp [omD] at e
    | _ :: _ :: _, e => simp [omD] at e
  | _ => simp [omD] at e
theorem om_count {d : D} {das : List D} {d' : D} (e : omD .count d das = some d') : ∃ xs k, d = .lst xs ∧ das = [.int k] ∧ ((dints xs).map fun is => D.int (is.count k : Nat)) = some d' := by
  cases d with
  | lst xs =>
    match das, e with
    | [.int k], e => exact ⟨xs, k, rfl, rfl, e⟩
    | [.non], e => simp [omD] at e
    | [.bl _], e => simp [omD] at e
    | [.str _], e => simp [omD] at e
    | [.tup _], e => simp [omD] at e
    | [.lst _], e => simp [omD] at e
    | [.dic _], e => simp [omD] at e
    | [.fn _], e => simp [omD] at e
    | [.frz _], e => simp [omD] at e
    | [], e => simp [omD] at e
    | _ :: _ :: _, e => simp [omD] at e
  | _ => simp [omD] at e
theorem om_get2 {d k x : D} {d' : D} (e : omD .get2 d [k, x] = some d') : ∃ kvs, d = .dic kvs ∧ keyD k = true ∧ d' = (dget kvs k).getD x := by
  cases d with
  | dic kvs =>
    have e : (if keyD k then some ((dget kvs k).getD x) else none) = some d' := e
    split at e
    · rename_i h; cases e; exact ⟨kvs, rfl, h, rfl⟩
    · cases e
  | _ => simp [omD] at e
/-- kept, and told as it stands now -/
def TBe (Z : Wd) (c : Pl) (W : WX) (k : E) (f : Sd → R (D × Sd)) : TE := fun σ H Q => ∃ O σd, RelS Z c O σd σ H ∧ Go Z c W (f σd) O σ H fun d _ H' => ∀ v, tK Z O σ k H' d v → RB Z H' O d v → Q v H'
theorem Opd.keptB {l : Lv} {e : Expr} {k : E} (h : Opd X Z c W l e k) : PE X e (TBe Z c W k (fun σ => BF.lent k (ev k l σ) σ)) := by
  rcases h.at_ with ⟨n, h⟩ | ⟨i, rfl, h, q⟩
  · refine h.weak fun σ H Q ⟨O, σd, hr, hg⟩ => ⟨O, σd, hr, ?_⟩
    have e1 : BF.lent k (ev k l σd) σd = ev k l σd := by cases k <;> first | rfl | (simp [isRv] at n)
    dsimp only at hg
    rw [e1] at hg
    refine hg.imp fun d σ1 H1 _ _ _ q v r => q v ?_ (.inl r)
    cases k <;> first | exact r | (simp [isRv] at n)
  · refine h.weak fun σ H Q ⟨O, σd, hr, hg⟩ => ?_
    obtain ⟨d, ed, hg⟩ := Go.get (show Go Z c W ((getS σd i).bind fun d => .ok (d, σd)) O σ H _ from hg)
    obtain ⟨v, e2, h2, h3, h4⟩ := hr.slot i d ed
    refine ⟨v, e2, hg.ok hr KeepE.refl v e2 ?_⟩
    by_cases ho : i ∈ c.own
    · obtain ⟨a, ea, ct⟩ := h2 ho
      exact .inr ⟨a, ea, hr.own i ho a (by rw [e2, ea]), ct⟩
    · rcases q with n | n
      · exact absurd n ho
      · exact (h3 ho n).rb
theorem om_red {m : Mt} {ko : E} {l : Lv} {as : Es} {r : V → List V → Hp → VK → Prop} {T : String} (hrv : ∀ i, ko = .rv i → i ∈ c.own ∨ i ∈ c.bor) (hK : X.K = Z.K)
    (hT : ∀ d v H O, RB Z H O d v → omT m d = true → tyV X.K T v H)
    (hr : ∀ O σd σ H d v das vas d' Q, RelS Z c O σd σ H → RB Z H O d v → Reps Z (hide H O) das vas → omD m d das = some d' → (∀ w, Rep Z (hide H O) d' w → Q w H) → r v vas H Q) {Q : VK} (q : TEe Z c W (tP Z) (ev (.om m ko as) l) σ H Q) :
    tBM X.K T r (TBe Z c W ko (fun σ => BF.lent ko (ev ko l σ) σ)) (TAe Z c W (evs as l)) σ H Q := by
  obtain ⟨O, σd, h0, hg⟩ := q
  have hg' : Go Z c W ((BF.lent ko (ev ko l σd) σd).bind fun p => if omT m p.1 = true then (evs as l p.2).bind fun q => (rr ko p.1 q.2).bind fun x => (R.ofO (omD m x q.1)).bind fun d => .ok (d, q.2) else .bad) O σ H (fun d _ H' => ∀ v, Rep Z (hide H' O) d v → Q v H') := hg
  refine ⟨O, σd, h0, (Go.bind hg').imp fun d σ1 H1 _ r1 k1 g v tk rb => ?_⟩
  obtain ⟨hm, g⟩ := Go.iff g
  refine ⟨hT d v H1 O rb hm, O, σ1, r1, (Go.bind (r := evs as l σ1) g).imp fun das σ2 H2 _ r2 k2 g2 vas rvs => ?_⟩
  obtain ⟨x, ex, g3⟩ := g2.pure rr_ne
  obtain ⟨d', ed, g4⟩ := g3.opt
  exact hr O σ2 σ H2 x v das vas d' Q r2 (rr_ok r2 ex (by have t := tK_keep r1 k2 tk; cases ko <;> exact t) hrv) rvs ed fun w rw_ => g4.done r2 rw_
theorem reps_one {d : D} {vs : List V} {G : Hp} (h : Reps Z G [d] vs) : ∃ v, vs = [v] ∧ Rep Z G d v := by
  cases h with
  | cons a b => cases b; exact ⟨_, rfl, a⟩
theorem pe_of_index (hK : X.K = Z.K) (hu : X.A.units + 65 < cLine) {o a : Expr} {ko ka : E} {l : Lv} {apos pos : Pos} (ho : Opd X Z c W l o ko) (ha : PE X a (TEe Z c W (tP Z) (ev ka l))) (hs : notStar a = true) (hb : notBase o = true) (hl : (apos.endLine == pos.line) = true) :
    PE X (.Call (.Attribute o "index" apos) [a] [] pos) (TEe Z c W (tP Z) (ev (.om .index ko (.cons ka .nil)) l)) :=
  (pe_bm PySem.F.plainAttrs_list PySem.F.slot_list_index (by rfl) (mt_indexD hu) ho.keptB (s_cons ha s_nil (star_cons hs)) (base_of hb) (by rw [star_cons hs]; rfl) hl (star_cons hs)).weak fun σ H Q q => om_red ho.rvIn hK
    (fun d v H O rb hm => by
      cases d <;> simp [omT] at hm
      obtain ⟨a, vs, rfl, ha, _⟩ := rb.lst
      exact .inl ⟨rfl, vs, SqL.of ha⟩)
    (fun O σd σ H d v das vas d' Q r rb ra e q => by
      obtain ⟨xs, y, rfl, rfl, e2⟩ := om_index e
      clear e
      obtain ⟨a, vs, rfl, hv, rs⟩ := rb.lst
      obtain ⟨w, rfl, rw_⟩ := reps_one ra
      split at e2
      · rename_i hc
        obtain ⟨c1, c2⟩ := Bool.and_eq_true_iff.mp hc
        obtain ⟨j, ej, rfl⟩ := Option.map_eq_some_iff.mp e2
        obtain ⟨⟨z, hz, hzy⟩, hno⟩ := findIdx_get ej
        have rs' := rs.le (hide_le H O)
        refine ⟨a, w, toPy y, toPys xs, j, toPy z, rfl, rfl, rep_deepL hK hv rs' c2, by rw [hK]; exact Rep.dp 60 y w (rw_.le (hide_le H O)) c1, dps_shaped c2, dp_shaped c1, by rw [toPys_get, hz]; rfl, ?_, fun m' z' hm' ez' => ?_, q _ (.int _)⟩
        · rw [← deq_py 59 60 z y (dps_get c2 hz) c1]; exact hzy
        · rw [toPys_get] at ez'
          obtain ⟨x', ex', rfl⟩ := Option.map_eq_some_iff.mp ez'
          rw [← deq_py 59 60 x' y (dps_get c2 ex') c1]
          exact hno m' x' hm' ex'
      · cases e2) q
theorem pe_of_count (hK : X.K = Z.K) {o a : Expr} {ko ka : E} {l : Lv} {apos pos : Pos} (ho : Opd X Z c W l o ko) (ha : PE X a (TEe Z c W (tP Z) (ev ka l))) (hs : notStar a = true) (hb : notBase o = true) (hl : (apos.endLine == pos.line) = true) :
    PE X (.Call (.Attribute o "count" apos) [a] [] pos) (TEe Z c W (tP Z) (ev (.om .count ko (.cons ka .nil)) l)) :=
  (pe_bm PySem.F.plainAttrs_list PySem.F.slot_list_count (by rfl) mt_lcount ho.keptB (s_cons ha s_nil (star_cons hs)) (base_of hb) (by rw [star_cons hs]; rfl) hl (star_cons hs)).weak fun σ H Q q => om_red ho.rvIn hK
    (fun d v H O rb hm => by
      cases d <;> simp [omT] at hm
      obtain ⟨a, vs, rfl, ha, _⟩ := rb.lst
      exact .inl ⟨rfl, vs, SqL.of ha⟩)
    (fun O σd σ H d v das vas d' Q r rb ra e q => by
      obtain ⟨xs, kk, rfl, rfl, e2⟩ := om_count e
      clear e
      obtain ⟨a, vs, rfl, hv, rs⟩ := rb.lst
      obtain ⟨w, rfl, rw_⟩ := reps_one ra
      cases rw_
      obtain ⟨is, ei, rfl⟩ := Option.map_eq_some_iff.mp e2
      rw [ints_rep (rs.le (hide_le H O)) ei] at hv
      exact ⟨a, is, kk, rfl, rfl, SqL.of hv, q _ (.int _)⟩) q
/-- d.get(k), d.get(k, x) -/
theorem dget_of {v : V} {k : D} {vk : V} {O : Addr → Prop} {H : Hp} {kvs : List (D × D)} (rb : RB Z H O (.dic kvs) v) (rk : Rep Z (hide H O) k vk) (hk : keyD k = true) :
    ∃ a o, v = .ref a ∧ DGet H a vk o ∧ (match dget kvs k with | some d => ∃ w, o = some w ∧ Rep Z (hide H O) d w | none => o = none) := by
  obtain ⟨a, ks, rfl, ha, rs⟩ := rb.dic
  obtain ⟨p, hp, rfl⟩ := key_of_rep hk rk
  exact ⟨a, valV ks p, rfl, DGet.k ha, dget_val rs hp⟩
theorem pe_of_get2 (hK : X.K = Z.K) (hu : X.A.units + 65 < cLine) {o a b : Expr} {ko ka kb : E} {l : Lv} {apos pos : Pos} (ho : Opd X Z c W l o ko) (ha : PE X a (TEe Z c W (tP Z) (ev ka l))) (hb' : PE X b (TEe Z c W (tP Z) (ev kb l))) (hs : notStar a = true) (hs2 : notStar b = true) (hb : notBase o = true) (hl : (apos.endLine == pos.line) = true) :
    PE X (.Call (.Attribute o "get" apos) [a, b] [] pos) (TEe Z c W (tP Z) (ev (.om .get2 ko (.cons ka (.cons kb .nil))) l)) :=
  (pe_dget2 (by omega) ho.keptB ha hb' ⟨base_of hb, by rw [star_cons hs, star_cons hs2]; rfl, hl, by rw [star_cons hs, star_cons hs2]; rfl⟩).weak fun σ H Q ⟨O, σd, h0, hg⟩ => by
    have hg' : Go Z c W ((BF.lent ko (ev ko l σd) σd).bind fun p => if omT .get2 p.1 = true then (evs (.cons ka (.cons kb .nil)) l p.2).bind fun q => (rr ko p.1 q.2).bind fun x => (R.ofO (omD .get2 x q.1)).bind fun d => .ok (d, q.2) else .bad) O σ H (fun d _ H' => ∀ v, Rep Z (hide H' O) d v → Q v H') := hg
    refine ⟨O, σd, h0, (Go.bind hg').imp fun d σ1 H1 _ r1 k1 g v tk rb => ?_⟩
    obtain ⟨hm, g⟩ := Go.iff g
    cases d <;> simp [omT] at hm
    obtain ⟨a1, ks, rfl, hv, _⟩ := rb.dic
    refine ⟨a1, rfl, .inl ⟨ks, .inl hv⟩, O, σ1, r1, (Go.bind (r := ev ka l σ1) (Go.bind (r := evs (.cons ka (.cons kb .nil)) l σ1) g)).imp fun dk σ2 H2 _ r2 k2 g2 vk rk => ⟨O, σ2, r2, (Go.bind (r := ev kb l σ2) (Go.bind (r := evs (.cons kb .nil) l σ2) g2)).imp fun dx σ3 H3 _ r3 k3 g3 vx rx => ?_⟩⟩
    have g3 := (g3.ok r3 KeepE.refl).ok r3 KeepE.refl
    obtain ⟨x, ex, g4⟩ := g3.pure rr_ne
    obtain ⟨d', ed, g5⟩ := g4.opt
    have rbx : RB Z H3 O x (.ref a1) := rr_ok r3 ex (by have t := tK_keep r2 k3 (tK_keep r1 k2 tk); cases ko <;> exact t) ho.rvIn
    have rk := rk.le (r2.le k3)
    obtain ⟨kvs, rfl, hk, rfl⟩ := om_get2 ed
    obtain ⟨a2, o, e1, dg, hm⟩ := dget_of rbx rk hk
    cases e1
    refine ⟨o, dg, ?_⟩
    revert hm g5
    cases dget kvs dk with
    | none => intro g5 hm; rw [hm]; exact g5.done r3 rx
    | some d0 => intro g5 ⟨w, e2, rw2⟩; rw [e2]; exact g5.done r3 rw2
/-! ### displays of dicts -/
/-- expressions, one by one -/
def EsOk (X : Cx) (Z : Wd) (c : Pl) (W : WX) (l : Lv) : List Expr → Es → Prop
  | [], .nil => True
  | [], .cons k _ => ∀ σ, ev k l σ = .bad
  | e :: es, .cons k ks => (∀ p, PE X e (TEe Z (lk c p) W (tP Z) (ev k l))) ∧ (EsOk X Z c W l es ks ∨ ∀ σ, ev k l σ = .bad)
  | _ :: _, .nil => False
def tEx (Z : Wd) (c : Pl) (W : WX) (k : E) (l : Lv) : TE := fun σ H Q => ∃ p, TEe Z (lk c p) W (tP Z) (ev k l) σ H Q
def unpair : List (V × V) → List V
  | [] => []
  | q :: r => q.1 :: q.2 :: unpair r
theorem dictEs_inv {ks : List (Option Expr)} {vs es : List Expr} (h : dictEs ks vs = some es) : (ks = [] ∧ vs = [] ∧ es = []) ∨ ∃ k ks' v vs' r, ks = some k :: ks' ∧ vs = v :: vs' ∧ es = k :: v :: r ∧ dictEs ks' vs' = some r := by
  unfold dictEs at h
  split at h
  · cases h; exact .inl ⟨rfl, rfl, rfl⟩
  · split at h
    · obtain ⟨r, e, rfl⟩ := Option.map_eq_some_iff.mp h
      exact .inr ⟨_, _, _, _, _, rfl, rfl, rfl, e⟩
    · cases h
  · cases h
theorem pps_any {pos : Pos} (ks : List (Option Expr)) : ∀ (es : List Expr) (vs : List Expr), dictEs ks vs = some es → ∃ trs, PPs X pos ks vs trs ∧ ks.all (·.isSome) = true ∧ ks.length = vs.length := by
  induction ks with
  | nil =>
    intro es vs h
    rcases dictEs_inv h with ⟨_, rfl, rfl⟩ | ⟨k, ks', v, vs', r, e1, _⟩
    · exact ⟨[], pps_nil, rfl, rfl⟩
    · cases e1
  | cons k0 ks ih =>
    intro es vs h
    rcases dictEs_inv h with ⟨e1, _⟩ | ⟨k, ks', v, vs', r, e1, rfl, rfl, h2⟩
    · cases e1
    · cases e1
      obtain ⟨trs, h3, h4, h5⟩ := ih r vs' h2
      exact ⟨(fun _ _ _ => False, fun _ _ _ => False) :: trs, pps_cons (.none fun _ _ _ h => h) (.none fun _ _ _ h => h) h3, by rw [List.all_cons, h4]; rfl, by simp [h5]⟩
theorem evs_bad {l : Lv} {k : E} {ks : Es} {σ : Sd} (h : ∀ σ, ev k l σ = .bad) : evs (.cons k ks) l σ = .bad := by
  show (ev k l σ).bind _ = _
  rw [h]; rfl
theorem disp_pairs {l : Lv} {pos : Pos} (ks : List (Option Expr)) : ∀ (es : List Expr) (vs : List Expr) (kk : Es), dictEs ks vs = some es → EsOk X Z c W l es kk →
    ∃ trs, PPs X pos ks vs trs ∧ ks.all (·.isSome) = true ∧ ks.length = vs.length ∧ ∀ p O σ σd H (Q : List (V × V) → Hp → Prop), RelS Z (lk c p) O σd σ H → Go Z (lk c p) W (evs kk l σd) O σ H (fun ds σ1 H' => ∀ ps, Reps Z (hide H' O) ds (unpair ps) → Q ps H') → tPairs trs σ H Q := by
  induction ks with
  | nil =>
    intro es vs kk h he
    rcases dictEs_inv h with ⟨_, rfl, rfl⟩ | ⟨k, ks', v, vs', r, e1, _⟩
    · cases kk with
      | nil => exact ⟨[], pps_nil, rfl, rfl, fun p O σ σd H Q hr g => g.ok hr KeepE.refl [] .nil⟩
      | cons _ _ => exact ⟨[], pps_nil, rfl, rfl, fun p O σ σd H Q hr g => by rw [evs_bad he] at g; exact g.elim⟩
    · cases e1
  | cons k0 ks ih =>
    intro es vs kk h he
    rcases dictEs_inv h with ⟨e1, _⟩ | ⟨k, ks', v, vs', r, e1, rfl, rfl, h2⟩
    · cases e1
    · cases e1
      obtain ⟨ta, a1, a2, a3⟩ := pps_any (X := X) (pos := pos) ks r vs' h2
      match kk, he with
      | .nil, he => exact he.elim
      | .cons k1 k', ⟨he1, .inr hb⟩ =>
        exact ⟨(fun _ _ _ => False, fun _ _ _ => False) :: ta, pps_cons (.none fun _ _ _ h => h) (.none fun _ _ _ h => h) a1, by rw [List.all_cons, a2]; rfl, by simp [a3], fun p O σ σd H Q hr g => by rw [evs_bad hb] at g; exact g.elim⟩
      | .cons k1 .nil, ⟨he1, .inl he2⟩ => exact he2.elim
      | .cons k1 (.cons k2 kr), ⟨he1, .inl ⟨he2, .inr hb⟩⟩ =>
        refine ⟨(tEx Z c W k1 l, fun _ _ _ => False) :: ta, pps_cons (PE.ex he1) (.none fun _ _ _ h => h) a1, by rw [List.all_cons, a2]; rfl, by simp [a3], fun p O σ σd H Q hr g => ?_⟩
        refine ⟨p, O, σd, hr, (Go.bind (r := ev k1 l σd) g).imp fun d1 σ1 H1 _ r1 e1 g1 x rx => ?_⟩
        have g1 : Go Z (lk c p) W ((evs (.cons k2 kr) l σ1).bind _) O σ H1 _ := g1
        rw [evs_bad hb] at g1
        exact g1.elim
      | .cons k1 (.cons k2 kr), ⟨he1, .inl ⟨he2, .inl he3⟩⟩ =>
        obtain ⟨trs, h3, h4, h5, h6⟩ := ih r vs' kr h2 he3
        refine ⟨(tEx Z c W k1 l, tEx Z c W k2 l) :: trs, pps_cons (PE.ex he1) (PE.ex he2) h3, by rw [List.all_cons, h4]; rfl, by simp [h5], fun p O σ σd H Q hr g => ?_⟩
        refine ⟨p, O, σd, hr, (Go.bind (r := ev k1 l σd) g).imp fun d1 σ1 H1 _ r1 e1 g1 x rx => ⟨p, O, σ1, r1, (Go.bind (r := ev k2 l σ1) (Go.bind (r := evs (.cons k2 kr) l σ1) g1)).imp fun d2 σ2 H2 _ r2 e2 g2 y ry => ?_⟩⟩
        refine h6 p O σ σ2 H2 _ r2 ((Go.bind (r := evs kr l σ2) g2).imp fun ds σ3 H3 _ r3 e3 g3 ps rs => ?_)
        have g3 := g3.ok r3 KeepE.refl
        exact g3.ok r3 KeepE.refl ((x, y) :: ps) (.cons (rx.le ((r1.le e2).trans (r2.le e3))) (.cons (ry.le (r2.le e3)) rs))
/-- what is asked with p not yet there, asked with p there -/
theorem Go.lock {β : Type} {r : R (β × Sd)} {K : β → Sd → Hp → Prop} {p : Addr} {o : HO} (hr : RelS Z c O σd σ H) (hp : H p = none) (g : Go Z c W r O σ H K) : Go Z (lk c p) W r (plus O p) σ (upd H p o) (fun b σ1 H' => RelS Z (lk c p) (plus O p) σ1 σ H' → KeepE c σ H H' → K b σ1 H') := by
  have kk : ∀ {H'}, KeepE (lk c p) σ (upd H p o) H' → KeepE c σ H H' := fun k a u e t n => k a u (by rw [upd_ne (ne_of_none e hp)]; exact e) t n
  cases r with
  | ok q => exact fun H' r' k' _ k2 => g H' (r'.unlock hr.own) k2
  | exc k => exact fun H' r' k' => g H' (r'.unlock hr.own) (kk k')
  | bad => exact g
theorem upD_rep : ∀ {ds : List D} {ps : List (V × V)} {qs : List (D × D)} {G : Hp}, Reps Z G ds (unpair ps) → upD ds = some qs → ∃ kvs : List (Key × V), ps = kvs.map (fun kv => (kV kv.1, kv.2)) ∧ RepK Z G qs kvs
  | [], [], qs, G, _, e => by simp [upD] at e; subst e; exact ⟨[], rfl, .nil⟩
  | [], _ :: _, _, _, h, _ => by cases h
  | [_], ps, qs, G, h, e => by simp [upD] at e
  | k :: v :: r, [], qs, G, h, e => by cases h
  | k :: v :: r, p :: ps, qs, G, h, e => by
    unfold upD at e
    split at e
    · rename_i hk
      obtain ⟨qs', e1, rfl⟩ := Option.map_eq_some_iff.mp e
      cases h with
      | cons a h => cases h with
        | cons b h =>
          obtain ⟨kvs, rfl, h2⟩ := upD_rep h e1
          obtain ⟨q, hq, e2⟩ := key_of_rep hk a
          obtain ⟨p1, p2⟩ := p
          dsimp only at e2 b
          subst e2
          exact ⟨(q, p2) :: kvs, rfl, .cons hq b h2⟩
    · cases e
theorem pe_of_dict {ks : List (Option Expr)} {vs es : List Expr} {kk : Es} {l : Lv} {pos : Pos} (h : dictEs ks vs = some es) (he : EsOk X Z c W l es kk) (hl : ks.length ≤ 15) : PE X (.Dict ks vs pos) (TFe Z c W (ev (.dic kk) l)) := by
  rcases dictEs_inv h with ⟨rfl, rfl, rfl⟩ | ⟨k, ks', v, vs', r, e1, e2, e3, h2⟩
  · cases kk with
    | cons _ _ =>
      exact .none fun σ H Q ⟨O, σd, _, q⟩ => by
        have q : Go Z c W ((evs (.cons _ _) l σd).bind _) O σ H _ := q
        rw [evs_bad he] at q
        exact q
    | nil =>
      exact pe_dnewK.weak fun σ H Q ⟨O, σd, hr, hg⟩ => RetF.newD (xs := []) hg hr (fun _ h => h) .nil
  · obtain ⟨trs, h3, h4, h5, h6⟩ := disp_pairs (pos := pos) (c := c) (W := W) ks es vs kk h he
    refine (pe_disp h3 h4 h5 (by rw [e1]; exact fun z => nomatch z) hl).weak fun σ H Q ⟨O, σd, hr, hg⟩ p hp => ?_
    have nO : ¬ O p := fun z => by
      obtain ⟨u, e, _⟩ := hr.dom _ z
      rw [hp] at e; cases e
    have hg : Go Z c W ((evs kk l σd).bind fun q => (R.ofO (upD q.1)).bind fun ps => if decide (ps.length ≤ 15) then .ok (.dic (putsD [] ps), q.2) else .bad) O σ H (KF Z c O σ H Q) := hg
    have np : NotOwn c σ p := hr.notOwn nO
    refine h6 p (plus O p) σ σd (upd H p (.dK [])) _ (hr.locked hp _ nt_dK) ?_
    have kk' : ∀ {H' : Hp}, KeepE (lk c p) σ (upd H p (.dK [])) H' → KeepE c σ H H' := fun k a u e t n => k a u (by rw [upd_ne (ne_of_none e hp)]; exact e) t n
    revert hg
    cases evs kk l σd with
    | bad => intro hg; exact hg
    | exc k => intro hg; exact fun H' r' k' => hg H' (r'.unlock hr.own) (kk' k')
    | ok q =>
      obtain ⟨ds, σ1⟩ := q
      intro hg H1 r1 k1 ps rs
      have g : Go Z c W ((R.ofO (upD ds)).bind fun ps => if decide (ps.length ≤ 15) then .ok (.dic (putsD [] ps), σ1) else .bad) O σ H (KF Z c O σ H Q) := hg
      have kE : KeepE c σ H H1 := kk' k1
      have hp1 : H1 p = some (.dK []) := k1 p _ upd_same nt_dK np
      obtain ⟨qs, eq, g⟩ := g.opt
      obtain ⟨hlen, g⟩ := g.iff
      obtain ⟨kvs, rfl, rk⟩ := upD_rep rs eq
      refine ⟨hp1, kvs, rfl, ?_, ?_⟩
      · have := repK_length rk
        simp only [decide_eq_true_eq] at hlen
        omega
      · have r2 := r1.updL (.inr rfl) (.inr rfl) np hp1 (.inr ⟨_, rfl⟩) (.inr ⟨mergeK [] kvs, rfl⟩)
        have hh : hide (upd H1 p (.dK (mergeK [] kvs))) (plus O p) = hide H1 (plus O p) := hide_upd (.inr rfl)
        have rkk := repK_puts rk (.nil : RepK Z (hide H1 (plus O p)) [] [])
        rw [← hh] at rkk
        refine Go.ok (q := (D.dic (putsD [] qs), σ1)) g (r2.unlock hr.own) (fun a u e t n => ?_) (.ref p) (fun _ => ⟨p, rfl, fre_none hp, ⟨_, upd_same, rkk⟩, r2⟩) (.dic (hide_some.mpr ⟨⟨nO, nt_dK⟩, upd_same⟩) (rkk.le plus_less))
        rw [upd_ne (ne_of_none e hp)]
        exact kE a u e t n
end
end BF

/-! Snd14 -/
set_option Elab.async false
set_option linter.all false
set_option maxRecDepth 100000
set_option maxHeartbeats 2000000
namespace BF
open PySem L2

/-- where a def's body started -/
structure Bs where
  O0 : Addr → Prop
  H0 : Hp
  M : List V
  ms : List Nat
  fr : Bool
  n : Nat
  hd : Option V
/-- what is kept since -/
structure J (B : Bs) (c : Pl) (O : Addr → Prop) (σ : L2.St) (H : Hp) : Prop where
  sub : ∀ b, B.O0 b → O b
  new : ∀ b o, B.H0 b = some o → NT o → ¬ B.O0 b → ¬ O b
  keep : ∀ b o, B.H0 b = some o → NT o → V.ref b ∉ B.M → H b = some o
  own : ∀ i ∈ c.own, ∀ a, σ[i]? = some (some (.ref a)) → V.ref a ∈ B.M ∨ Fre B.H0 a
  ms : OutsAt σ B.ms B.M
  len : σ.length = B.n
  hd : ∀ v, B.hd = some v → σ[0]? = some (some v)
structure BsOk (Z : Wd) (B : Bs) (c : Pl) : Prop where
  dom : ∀ a, B.O0 a → ∃ o, B.H0 a = some o ∧ NT o
  hM : ∀ a, V.ref a ∈ B.M → B.O0 a
  ms : ∀ i ∈ B.ms, i ∈ c.own
  hd : ∀ v, B.hd = some v → 0 ∈ c.bor ∧ 0 ∉ c.own
/-- a value handed back -/
def RtR (B : Bs) (Z : Wd) (σd : Sd) (H : Hp) (d : D) (v : V) : Prop :=
  Rep Z (hide H B.O0) d v ∧ (B.fr = true → isContainer d = true → ∃ a, v = .ref a ∧ Fre B.H0 a ∧ Cont Z H (hide H (plus B.O0 a)) d a ∧ ∀ xs, getAll σd B.ms = .ok xs → OutR Z H (plus B.O0 a) xs B.M)
def EndF (B : Bs) (Z : Wd) (c : Pl) (fl : Fl) (O : Addr → Prop) (σd : Sd) (σ : L2.St) (H : Hp) (D : Ends) : Prop := match fl with
  | .nx => D.nx σ H
  | .br => D.bk σ H
  | .ct => D.ct σ H
  | .rt d => ∀ v, RtR B Z σd H d v → D.rt v H
def GoS (B : Bs) (Z : Wd) (c : Pl) (W : WX) (r : R (Fl × Sd)) (O : Addr → Prop) (H : Hp) (D : Ends) : Prop := match r with
  | .ok q => ∀ O' σ' H', RelS Z c O' q.2 σ' H' → J B c O' σ' H' → Le (hide H O) (hide H' O') → EndF B Z c q.1 O' q.2 σ' H' D
  | .exc k => ∀ O' σ' H', RelS Z c O' (List.replicate σ'.length none) σ' H' → J B c O' σ' H' → Le (hide H O) (hide H' O') → W (.ref (Z.cad k)) none σ' H'
  | .bad => False
def TSe (B : Bs) (Z : Wd) (c : Pl) (W : WX) (f : Sd → R (Fl × Sd)) : TS := fun D σ H => ∃ O σd, RelS Z c O σd σ H ∧ J B c O σ H ∧ GoS B Z c W (f σd) O H D
section
variable {B : Bs} {Z : Wd} {c : Pl} {W : WX} {O O1 : Addr → Prop} {σ : L2.St} {σd : Sd} {H H' : Hp} {X : Cx} {N : Ends}
theorem Fre.back (j : J B c O σ H) (hd : ∀ a, O a → ∃ o, H a = some o ∧ NT o) (hM : ∀ a, V.ref a ∈ B.M → O a) {a : Addr} (h : Fre H a) : Fre B.H0 a := fun o e t => by
  by_cases hm : V.ref a ∈ B.M
  · obtain ⟨u, q, t'⟩ := hd a (hM a hm)
    exact h u q t'
  · exact h o (j.keep a o e t hm) t
theorem J.keepE (j : J B c O σ H) (k : KeepE c σ H H') : J B c O σ H' := ⟨j.sub, j.new, fun b o e t n => k b o (j.keep b o e t n) t fun i hi q => by
  rcases j.own i hi b q with z | z
  · exact n z
  · exact z o e t, j.own, j.ms, j.len, j.hd⟩
/-- the values of the changed parameters are one's own -/
theorem outs_O (hr : RelS Z c O σd σ H) : ∀ {is : List Nat} {M : List V}, OutsAt σ is M → (∀ i ∈ is, i ∈ c.own) → ∀ a, V.ref a ∈ M → O a
  | [], [], _, _, a, h => nomatch h
  | [], _ :: _, h, _, _, _ => h.elim
  | _ :: _, [], h, _, _, _ => h.elim
  | i :: is, v :: M, h, ho, a, ha => by
    rcases List.mem_cons.mp ha with rfl | ha
    · exact hr.own i (ho i List.mem_cons_self) a h.1
    · exact outs_O hr h.2 (fun j hj => ho j (List.mem_cons_of_mem _ hj)) a ha
theorem GoS.start {r : R (Fl × Sd)} (g : GoS B Z c W r O H N) (l : Le (hide H O) (hide H' O1)) : GoS B Z c W r O1 H' N := by
  cases r with
  | ok q => exact fun O' σ' H2 r j l2 => g O' σ' H2 r j (l.trans l2)
  | exc k => exact fun O' σ' H2 r j l2 => g O' σ' H2 r j (l.trans l2)
  | bad => exact g
/-- an expression ahead -/
theorem GoS.go {β : Type} {r : R (β × Sd)} {g : β × Sd → R (Fl × Sd)} (hr : RelS Z c O σd σ H) (j : J B c O σ H) (h : GoS B Z c W (r.bind g) O H N) : Go Z c W r O σ H fun b σd' H' => RelS Z c O σd' σ H' → J B c O σ H' → KeepE c σ H H' → GoS B Z c W (g (b, σd')) O H N := by
  cases r with
  | ok q =>
    intro H' r' k' _ j' _
    exact h
  | exc k => exact fun H' r' k' => h O σ H' r' (j.keepE k') (hr.le k')
  | bad => exact h
theorem GoS.pure {α : Type} {r : R α} {g : α → R (Fl × Sd)} (h : GoS B Z c W (r.bind g) O H N) (hp : ∀ k, r ≠ .exc k) : ∃ a, r = .ok a ∧ GoS B Z c W (g a) O H N := by
  cases r with
  | ok a => exact ⟨a, rfl, h⟩
  | exc k => exact absurd rfl (hp k)
  | bad => exact h.elim
theorem GoS.opt {α : Type} {o : Option α} {g : α → R (Fl × Sd)} (h : GoS B Z c W ((R.ofO o).bind g) O H N) : ∃ a, o = some a ∧ GoS B Z c W (g a) O H N := by
  obtain ⟨a, e, q⟩ := h.pure ofO_ne
  exact ⟨a, ofO_ok e, q⟩
theorem GoS.iff {p : Prop} [Decidable p] {r : R (Fl × Sd)} (h : GoS B Z c W (if p then r else .bad) O H N) : p ∧ GoS B Z c W r O H N := by
  by_cases hp : p
  · rw [if_pos hp] at h; exact ⟨hp, h⟩
  · rw [if_neg hp] at h; exact h.elim
/-- it ends here -/
theorem GoS.done {q : Fl × Sd} (h : GoS B Z c W (.ok q) O H N) (hr : RelS Z c O1 q.2 σ H') (j : J B c O1 σ H') (l : Le (hide H O) (hide H' O1)) : EndF B Z c q.1 O1 q.2 σ H' N := h O1 σ H' hr j l
/-! ### small statements -/
theorem ts_pass {pos : Pos} {l : Lv} : PS X (.Pass pos) (TSe B Z c W (ex .pass l)) := ps_pass.weak fun D σ H ⟨O, σd, hr, j, g⟩ => g.done hr j (Le.refl _)
theorem ts_break {pos : Pos} {l : Lv} : PS X (.Break pos) (TSe B Z c W (ex .brk l)) := ps_break.weak fun D σ H ⟨O, σd, hr, j, g⟩ => g.done hr j (Le.refl _)
theorem ts_cont {pos : Pos} {l : Lv} : PS X (.Continue pos) (TSe B Z c W (ex .cont l)) := ps_continue.weak fun D σ H ⟨O, σd, hr, j, g⟩ => g.done hr j (Le.refl _)
def notLc : Expr → Bool
  | .ListComp .. => false
  | .SetComp .. => false
  | .DictComp .. => false
  | _ => true
theorem swaps_no {e : Expr} {t : Option Expr} {n : Nat} {env : Env} (h : notLc e = true) : swapsWith e t n env = pure false := by
  cases e <;> first | rfl | (simp [notLc] at h)
theorem ts_expr {e : Expr} {k : E} {l : Lv} {pos : Pos} (he : PE X e (TEe Z c W (tP Z) (ev k l))) (h : notLc e = true) : PS X (.Expr e pos) (TSe B Z c W (ex (.expr k) l)) :=
  (ps_expr he (swaps_no h)).weak fun D σ H ⟨O, σd, hr, j, g⟩ => ⟨O, σd, hr, (GoS.go (r := ev k l σd) hr j g).imp fun d σ1 H1 _ r1 k1 g v _ => (g r1 (j.keepE k1) k1).done r1 (j.keepE k1) (hr.le k1)⟩
theorem ts_retN {pos : Pos} {l : Lv} : PS X (.Return none pos) (TSe B Z c W (ex .retN l)) := ps_retN.weak fun D σ H ⟨O, σd, hr, j, g⟩ => (g.done hr j (Le.refl _)) .non ⟨.non, fun _ h => by cases h⟩
theorem hide_sub {P P' : Addr → Prop} (h : ∀ a, P a → P' a) : Le (hide H P') (hide H P) := hide_less h
theorem outR_of {P : Addr → Prop} (hr : RelS Z c O σd σ H) (hs : ∀ b, P b → O b) : ∀ {is : List Nat} {M : List V} {xs : List D}, OutsAt σ is M → (∀ i ∈ is, i ∈ c.own) → (∀ a, V.ref a ∈ M → P a) → getAll σd is = .ok xs → OutR Z H P xs M
  | [], [], xs, _, _, _, e => by simp [getAll] at e; subst e; trivial
  | [], _ :: _, _, h, _, _, _ => h.elim
  | _ :: _, [], _, h, _, _, _ => h.elim
  | i :: is, v :: M, xs, h, ho, hP, e => by
    unfold getAll at e
    obtain ⟨d, e1, e⟩ := R.bind_ok e
    obtain ⟨ds, e2, e⟩ := R.bind_ok e
    cases e
    obtain ⟨w, q1, q2, _⟩ := hr.slot i d (getS_ok e1)
    rw [h.1] at q1
    obtain rfl : v = w := by simpa using q1
    obtain ⟨a, rfl, ct⟩ := q2 (ho i List.mem_cons_self)
    exact ⟨⟨a, rfl, hP a List.mem_cons_self, ct.mono (hide_sub hs) fun _ q => q⟩, outR_of hr hs h.2 (fun j hj => ho j (List.mem_cons_of_mem _ hj)) (fun b hb => hP b (List.mem_cons_of_mem _ hb)) e2⟩
theorem ret_iff {b : Bool} {d : D} {σ : Sd} (h : GoS B Z c W (if b = true then .bad else .ok (.rt d, σ)) O H N) : b = false ∧ GoS B Z c W (.ok (.rt d, σ)) O H N := by
  cases b with
  | true => exact h.elim
  | false => exact ⟨rfl, h⟩
/-- return e: fresh if the def is to give new containers -/
theorem ts_ret {e : Expr} {k : E} {l : Lv} {pos : Pos} (hB : BsOk Z B c) (hfr : l.fr = B.fr) (he : PE X e (TEe Z c W (tP Z) (ev k l))) (hF : freshE (frOf l.tb) k = true → PE X e (TFe Z c W (ev k l))) : PS X (.Return (some e) pos) (TSe B Z c W (ex (.ret k) l)) := by
  cases hk : freshE (frOf l.tb) k with
  | false =>
    refine (ps_ret he).weak fun D σ H ⟨O, σd, hr, j, g⟩ => ⟨O, σd, hr, (GoS.go (r := ev k l σd) hr j g).imp fun d σ1 H1 _ r1 k1 g v rv => ?_⟩
    obtain ⟨hb, g⟩ := ret_iff (g r1 (j.keepE k1) k1)
    refine GoS.done g r1 (j.keepE k1) (hr.le k1) v ⟨rv.le (hide_sub j.sub), fun h h2 => ?_⟩
    have h2 : isContainer d = true := h2
    rw [hk, hfr, h, h2] at hb
    cases hb
  | true =>
    refine (ps_ret (hF hk)).weak fun D σ H ⟨O, σd, hr, j, g⟩ => ⟨O, σd, hr, (GoS.go (r := ev k l σd) hr j g).imp fun d σ1 H1 _ r1 k1 g v fr rv => ?_⟩
    obtain ⟨hb, g⟩ := ret_iff (g r1 (j.keepE k1) k1)
    refine GoS.done g r1 (j.keepE k1) (hr.le k1) v ⟨rv.le (hide_sub j.sub), fun _ hc => ?_⟩
    obtain ⟨a, ea, ha, ct, r2⟩ := fr hc
    have hs : ∀ b, plus B.O0 a b → plus O a b := fun b z => z.elim (fun z => .inl (j.sub b z)) .inr
    exact ⟨a, ea, Fre.back j hr.dom (fun b hb => j.sub b (hB.hM b hb)) ha, ct.mono (hide_sub hs) fun _ q => q, fun xs ex => outR_of r2 hs j.ms hB.ms (fun b hb => .inl (hB.hM b hb)) ex⟩
theorem outsAt_idx : ∀ {is : List Nat} {M : List V} {v : V}, OutsAt σ is M → v ∈ M → ∃ i ∈ is, σ[i]? = some (some v) := outsAt_mem
/-- one's own container is handed back -/
theorem ts_retr {e : Expr} {i : Nat} {l : Lv} {pos : Pos} (hB : BsOk Z B c) (hi : i ∈ c.own) (hnp : i ∉ B.ms) (he : PE X e (tVar i)) : PS X (.Return (some e) pos) (TSe B Z c W (ex (.retr i) l)) :=
  (ps_ret he).weak fun D σ H ⟨O, σd, hr, j, g⟩ => by
    obtain ⟨d, ed, g⟩ := g.pure getS_ne
    obtain ⟨v, e1, q2, _⟩ := hr.slot i d (getS_ok ed)
    obtain ⟨a, rfl, ct⟩ := q2 hi
    refine ⟨_, e1, g.done hr j (Le.refl _) _ ?_⟩
    have oa : O a := hr.own i hi a e1
    have fa : Fre B.H0 a := by
      rcases j.own i hi a e1 with z | z
      · obtain ⟨k, hk, ek⟩ := outsAt_mem j.ms z
        exact absurd (hr.inj i hi k (hB.ms k hk) a e1 ek ▸ hk) hnp
      · exact z
    have no : ¬ B.O0 a := fun z => by
      obtain ⟨o, e, t⟩ := hB.dom a z
      exact fa o e t
    have hs : ∀ b, plus B.O0 a b → O b := fun b z => z.elim (j.sub b) fun z => z ▸ oa
    refine ⟨?_, fun _ hc => ⟨a, rfl, fa, ct.mono (hide_sub hs) fun _ q => q, fun xs ex => outR_of hr hs j.ms hB.ms (fun b hb => .inl (hB.hM b hb)) ex⟩⟩
    cases d with
    | lst xs => obtain ⟨vs, h, r⟩ := ct; exact .lst (hide_some.mpr ⟨⟨no, nt_lst⟩, h⟩) (r.le (hide_sub j.sub))
    | dic xs => obtain ⟨vs, h, r⟩ := ct; exact .dic (hide_some.mpr ⟨⟨no, nt_dK⟩, h⟩) (r.le (hide_sub j.sub))
    | _ => exact ct.elim
/-! ### blocks -/
theorem tss_nil {l : Lv} : PSs X [] (TSe B Z c W (exs .nil l)) := pss_nil.weak fun D σ H ⟨O, σd, hr, j, g⟩ => g.done hr j (Le.refl _)
theorem tss_cons {s : Stmt} {ss : List Stmt} {k : S} {ks : Ss} {l : Lv} (h1 : PS X s (TSe B Z c W (ex k l))) (h2 : PSs X ss (TSe B Z c W (exs ks l))) : PSs X (s :: ss) (TSe B Z c W (exs (.cons k ks) l)) :=
  (pss_cons h1 h2).weak fun D σ H ⟨O, σd, hr, j, g⟩ => by
    refine ⟨O, σd, hr, j, ?_⟩
    have g : GoS B Z c W ((ex k l σd).bind fun q => match q.1 with | .nx => exs ks l q.2 | f => .ok (f, q.2)) O H D := g
    cases hx : ex k l σd with
    | ok q =>
      rw [hx] at g
      intro O' σ' H' r' j' l'
      obtain ⟨fl, σ2⟩ := q
      cases fl with
      | nx => exact ⟨O', σ2, r', j', GoS.start g l'⟩
      | br => exact g O' σ' H' r' j' l'
      | ct => exact g O' σ' H' r' j' l'
      | rt d => exact g O' σ' H' r' j' l'
    | exc k' => rw [hx] at g; exact g
    | bad => rw [hx] at g; exact g
theorem ts_if {t : Expr} {a b : List Stmt} {kt : E} {ka kb : Ss} {l : Lv} {pos : Pos} (ht : PT X t (TTe Z c W (testF kt l))) (ha : PSs X a (TSe B Z c W (exs ka l))) (hb : PSs X b (TSe B Z c W (exs kb l))) :
    PS X (.If t a b pos) (TSe B Z c W (ex (.ifs kt ka kb) l)) :=
  (ps_if ht ha hb).weak fun D σ H ⟨O, σd, hr, j, g⟩ => by
    have g : GoS B Z c W ((lent kt (ev kt l σd) σd).bind fun p => (R.ofO (tru p.1)).bind fun k => if k = true then exs ka l p.2 else exs kb l p.2) O H D := g
    have g2 : GoS B Z c W ((testF kt l σd).bind fun q => if q.1 = true then exs ka l q.2 else exs kb l q.2) O H D := by
      revert g
      unfold testF
      cases lent kt (ev kt l σd) σd with
      | ok q =>
        intro g
        have g : GoS B Z c W ((R.ofO (tru q.1)).bind fun k => if k = true then exs ka l q.2 else exs kb l q.2) O H D := g
        show GoS B Z c W (((R.ofO (tru q.1)).bind fun k => R.ok (k, q.2)).bind _) O H D
        revert g
        cases tru q.1 <;> exact id
      | exc k => exact id
      | bad => exact id
    refine ⟨O, σd, hr, (GoS.go hr j g2).imp fun k σ1 H1 _ r1 k1 g => ?_⟩
    have g := (g r1 (j.keepE k1) k1).start (hr.le k1)
    cases k with
    | true => exact ⟨O, σ1, r1, j.keepE k1, g⟩
    | false => exact ⟨O, σ1, r1, j.keepE k1, g⟩
/-! ### stores -/
mutual
theorem asg_ne : ∀ (t : T) (d : D) (σ : Sd) (k : Nat), asg t d σ ≠ .exc k
  | .var i, d, σ, k => by simp [asg]
  | .tup ts, d, σ, k => by
    simp only [asg]
    split
    · split
      · exact asgs_ne ts _ σ k
      · simp
    · simp
theorem asgs_ne : ∀ (t : List T) (d : List D) (σ : Sd) (k : Nat), asgs t d σ ≠ .exc k
  | [], [], σ, k => by simp [asgs]
  | [], _ :: _, σ, k => by simp [asgs]
  | _ :: _, [], σ, k => by simp [asgs]
  | t :: ts, d :: ds, σ, k => by
    simp only [asgs]
    cases h : asg t d σ with
    | ok σ1 => exact asgs_ne ts ds σ1 k
    | exc q => exact absurd h (asg_ne t d σ q)
    | bad => simp [R.bind]
end

theorem outsAt_same {vs : List Nat} {σ σ' : L2.St} (sm : SameS vs σ σ') : ∀ {is : List Nat} {M : List V}, (∀ i ∈ is, i ∉ vs) → OutsAt σ is M → OutsAt σ' is M
  | [], [], _, h => h
  | [], _ :: _, _, h => h
  | _ :: _, [], _, h => h
  | i :: is, v :: M, n, h => ⟨by rw [sm.2 i (n i List.mem_cons_self)]; exact h.1, outsAt_same sm (fun j hj => n j (List.mem_cons_of_mem _ hj)) h.2⟩
theorem J.same {vs : List Nat} {σ' : L2.St} (j : J B c O σ H) (sm : SameS vs σ σ') (nf : ∀ v ∈ vs, FreeS c v) (hB : BsOk Z B c) : J B c O σ' H :=
  ⟨j.sub, j.new, j.keep, fun i hi a e => j.own i hi a (by rw [← sm.2 i fun z => (nf i z).1 hi]; exact e), outsAt_same sm (fun i hi z => (nf i z).1 (hB.ms i hi)) j.ms, sm.1.trans j.len, fun v hv => by rw [sm.2 0 fun z => (nf 0 z).2.1 (hB.hd v hv).1]; exact j.hd v hv⟩
/-- tg = e, plainly -/
theorem ts_asg {tg e : Expr} {k : E} {t : T} {l : Lv} {pos : Pos} (hB : BsOk Z B c) (hf : ∀ i ∈ slotsT t, FreeS c i) (he : PE X e (TEe Z c W (tP Z) (ev k l))) (hg : PG X tg (TGr Z c t)) (hs : swapsWithSole [tg] e pos.line X.env = pure false) (hw : swappedStores [tg] e X.env = pure none)
    (h1 : (assignEach [tg] X.env).map (·.2) = [assign tg X.env]) : PS X (.Assign [tg] e pos) (TSe B Z c W (ex (.asg t k) l)) :=
  (ps_asg he hg hs hw h1).weak fun D σ H ⟨O, σd, hr, j, g⟩ => ⟨O, σd, hr, (GoS.go (r := ev k l σd) hr j g).imp fun d σ1 H1 _ r1 k1 g v rv => by
    have j1 := j.keepE k1
    have g := g r1 j1 k1
    refine ⟨O, σ1, d, r1, rv, ?_⟩
    unfold TGo
    have g : GoS B Z c W ((asg t d σ1).bind fun σ' => .ok (.nx, σ')) O H D := g
    cases ha : asg t d σ1 with
    | ok σ2 =>
      rw [ha] at g
      intro σ' r' sm
      exact GoS.done g r' (j1.same sm hf hB) (hr.le k1)
    | exc q => rw [ha] at g; exact asg_ne t _ _ _ ha
    | bad => rw [ha] at g; exact g⟩
/-- one's own slot takes a new container -/
theorem RelS.setF {a : Addr} {i : Nat} {d : D} (r : RelS Z (lk c a) (BF.plus O a) σd σ H) (hi : i ∈ c.own) (na : NotOwn c σ a) (hh : ∀ v, c.hold ≠ some (i, v)) (ct : Cont Z H (hide H (BF.plus O a)) d a) : RelS Z c (BF.plus O a) (σd.set i (some d)) (σ.set i (some (.ref a))) H := by
  have cases_ : ∀ {j : Nat} {b : Addr}, (σ.set i (some (V.ref a)))[j]? = some (some (.ref b)) → (j = i ∧ b = a) ∨ (j ≠ i ∧ σ[j]? = some (some (.ref b))) := fun {j b} e => by
    rcases set_some e with ⟨rfl, e1, _⟩ | z
    · simp at e1; exact .inl ⟨rfl, e1.symm⟩
    · exact .inr z
  refine ⟨by simp [r.len], r.dom, r.tab, fun j hj b e => ?_, fun j hj k hk b e e' => ?_, fun j d' e => ?_, fun j w hw => ?_⟩
  · rcases cases_ e with ⟨_, rfl⟩ | ⟨_, e⟩
    · exact .inr rfl
    · exact r.own j hj b e
  · rcases cases_ e with ⟨rfl, rfl⟩ | ⟨n1, e2⟩
    · rcases cases_ e' with ⟨rfl, _⟩ | ⟨_, e'⟩
      · rfl
      · exact absurd e' (na k hk)
    · rcases cases_ e' with ⟨rfl, rfl⟩ | ⟨_, e3⟩
      · exact absurd e2 (na j hj)
      · exact r.inj j hj k hk b e2 e3
  · rcases set_some e with ⟨rfl, e1, o, eo⟩ | ⟨ne, e1⟩
    · cases e1
      exact ⟨.ref a, set_at (m := []) r.len eo _, fun _ => ⟨a, rfl, ct⟩, fun z => absurd hi z, fun z => absurd hi z⟩
    · obtain ⟨w, h1, h2, h3, h4⟩ := r.slot j d' e1
      refine ⟨w, by rw [List.getElem?_set_ne (Ne.symm ne)]; exact h1, h2, fun z1 z2 => ?_, h4⟩
      rcases h3 z1 z2 with q | ⟨b, eb, ob, nb, cb⟩
      · exact .inl q
      · refine .inr ⟨b, eb, ob, ⟨fun k hk e => ?_, fun z => nb.2 (.inl z)⟩, cb⟩
        rcases cases_ e with ⟨_, rfl⟩ | ⟨_, e⟩
        · exact nb.2 (.inr rfl)
        · exact nb.1 k hk e
  · have ne : i ≠ j := fun z => hh w (by rw [z]; exact hw)
    rw [List.getElem?_set_ne ne]
    exact r.hold j w hw
theorem J.setF {a : Addr} {i : Nat} (j : J B c O σ H) (hB : BsOk Z B c) (hi : i ∈ c.own) (hm : i ∉ B.ms) (ha : Fre B.H0 a) : J B c (plus O a) (σ.set i (some (.ref a))) H := by
  refine ⟨fun b h => .inl (j.sub b h), fun b o e t n z => z.elim (j.new b o e t n) fun z => by rw [z] at e; exact ha o e t, j.keep, fun k hk b e => ?_, outsAt_same (SameS.set (vs := [i]) (by simp)) (fun k hk z => hm ((List.mem_singleton.mp z) ▸ hk)) j.ms, by rw [List.length_set]; exact j.len, fun v hv => by rw [List.getElem?_set_ne (fun (z : i = 0) => (hB.hd v hv).2 (z ▸ hi))]; exact j.hd v hv⟩
  rcases set_some e with ⟨rfl, e1, _⟩ | ⟨ne, e1⟩
  · simp at e1; rw [← e1]; exact .inr ha
  · exact j.own k hk b e1
theorem ts_asgr {i : Nat} {x : Str} {e : Expr} {k : E} {l : Lv} {pos : Pos} {s : Stmt} (hB : BsOk Z B c) (hi : i ∈ c.own) (hm : i ∉ B.ms) (hh : ∀ v, c.hold ≠ some (i, v)) (h : PS X s (tAsg (TFe Z c W (ev k l)) (gName i))) : PS X s (TSe B Z c W (ex (.asgr i k) l)) :=
  h.weak fun D σ H ⟨O, σd, hr, j, g⟩ => by
    obtain ⟨_, g⟩ := GoS.iff (show GoS B Z c W (if freshE (frOf l.tb) k then (ev k l σd).bind fun p => if isContainer p.1 then .ok (.nx, p.2.set i (some p.1)) else .bad else .bad) O H D from g)
    refine ⟨O, σd, hr, (GoS.go (r := ev k l σd) hr j g).imp fun d σ1 H1 _ r1 k1 g v fr rv => ?_⟩
    have j1 := j.keepE k1
    obtain ⟨hc, g⟩ := GoS.iff (g r1 j1 k1)
    obtain ⟨a, rfl, fa, ct, r2⟩ := fr hc
    have nOa : ¬ O a := fun z => by
      obtain ⟨o, e, t⟩ := hr.dom a z
      exact fa o e t
    have fa0 : Fre B.H0 a := Fre.back j hr.dom (fun b hb => j.sub b (hB.hM b hb)) fa
    exact GoS.done g (r2.setF hi (hr.notOwn nOa) hh ct) (j1.setF hB hi hm fa0) (hide_mono fun b o e t n => ⟨k1 b o e t (hr.notOwn n), fun z => z.elim n fun z => by rw [z] at e; exact fa o e t⟩)
end
end BF

/-! Snd15 -/
set_option Elab.async false
set_option linter.all false
set_option maxRecDepth 100000
set_option maxHeartbeats 2000000
namespace BF
open PySem L2

section
variable {B : Bs} {Z : Wd} {c : Pl} {W : WX} {O O1 : Addr → Prop} {σ : L2.St} {σd : Sd} {H H' : Hp} {X : Cx} {N : Ends}
theorem repK_len {kvs : List (D × D)} : ∀ {ks : List (Key × V)}, RepK Z H kvs ks → kvs.length = ks.length := by
  induction kvs with
  | nil => intro ks h; cases h; rfl
  | cons p kvs ih => intro ks h; cases h; rename_i h1 h2 h3; simp [ih h3]
def rSetLD : TSet := fun o i v H Q => rSetL o i v H Q ∨ rSetD o i v H Q
theorem set_both (hu : X.A.units + 1 < cLine) : PSet X rSetLD := fun pins s σ H o i v ov iv u Q I ro ri rv h => by
  rcases h with h | h
  · exact set_list pins s σ H o i v ov iv u Q I ro ri rv h
  · exact set_dict hu pins s σ H o i v ov iv u Q I ro ri rv h
theorem set_ok {i : Nat} {a : Addr} {da dk dv d' : D} {vk vv : V} {Q : Hp → Prop} (hr : RelS Z c O σd σ H) (hi : i ∈ c.own) (e : σ[i]? = some (some (.ref a))) (ct : Cont Z H (hide H O) da a) (rk : Rep Z (hide H O) dk vk) (rv : Rep Z (hide H O) dv vv) (es : setD da dk dv = some d')
    (h : ∀ H', RelS Z c O (σd.set i (some d')) σ H' → KeepE c σ H H' → Q H') : rSetLD (.ref a) vk vv H Q := by
  have oa : O a := hr.own i hi a e
  cases da with
  | lst xs =>
    obtain ⟨vs, hv, rs⟩ := ct
    cases dk with
    | int k =>
      cases rk
      obtain ⟨j, ej, rfl⟩ := Option.map_eq_some_iff.mp (show (ixn xs.length k).map (fun j => D.lst (xs.set j dv)) = some d' from es)
      obtain ⟨r2, k2⟩ := hr.setOwn (d := .lst (xs.set j dv)) (o := .lst (vs.set j vv)) hi e hv (.inl ⟨_, rfl⟩) (.inl ⟨_, rfl⟩) ⟨_, upd_same, rs.set rv j⟩
      exact .inl ⟨a, vs, k, j, rfl, rfl, hv, by rw [← rs.length]; exact ej, h _ r2 k2⟩
    | _ => simp [setD] at es
  | dic kvs =>
    obtain ⟨ks, hv, rs⟩ := ct
    have es : (if (keyD dk && decide (kvs.length < SZ)) = true then some (D.dic (dput kvs dk dv)) else none) = some d' := es
    split at es
    · rename_i hk
      cases es
      simp only [Bool.and_eq_true, decide_eq_true_eq] at hk
      obtain ⟨q, hq, rfl⟩ := key_of_rep hk.1 rk
      obtain ⟨r2, k2⟩ := hr.setOwn (d := .dic (dput kvs dk dv)) (o := .dK (putK ks q vv)) hi e hv (.inr ⟨_, rfl⟩) (.inr ⟨_, rfl⟩) ⟨_, upd_same, repK_put hq rv rs⟩
      exact .inr ⟨a, _, rfl, DPut.k hv (by rw [← repK_len rs]; exact hk.2), h _ r2 k2⟩
    · cases es
  | _ => exact ct.elim
theorem swapsS_no {e : Expr} {t : Expr} {n : Nat} {env : Env} (h : notLc e = true) : swapsWithSole [t] e n env = pure false := by
  cases e <;> first | rfl | (simp [notLc] at h)
theorem plain_sub {k : Expr} (h : notSl k = true) {o : Expr} {pos : Pos} {env : Env} : ∀ v, assign (.Subscript o k pos) env v = (do
      let ov ← holding [v] (eval o env)
      let iv ← holding [v, ov] (eval k env)
      standAt pos
      holding [v, ov, iv] (setItem ov iv v)
      release [v, ov, iv] []) := by
  intro v
  cases k <;> first | rfl | (simp [notSl] at h)
theorem ts_seti {o k e : Expr} {i : Nat} {kk ke : E} {l : Lv} {pos pos' : Pos} (hu : X.A.units + 1 < cLine) (hi : i ∈ c.own) (hs : notSl k = true) (hn : notLc e = true) (ho : PE X o (tVar i)) (hk : PE X k (TEe Z c W (tP Z) (ev kk l))) (he : PE X e (TEe Z c W (tP Z) (ev ke l)))
    (hw : swappedStores [.Subscript o k pos'] e X.env = pure none) : PS X (.Assign [.Subscript o k pos'] e pos) (TSe B Z c W (ex (.seti i kk ke) l)) :=
  (ps_asg he (pg_sub ho hk (set_both hu) (plain_sub hs)) (swapsS_no hn) hw rfl).weak fun D σ H ⟨O, σd, hr, j, g⟩ => by
    refine ⟨O, σd, hr, (GoS.go (r := ev ke l σd) hr j g).imp fun de σ1 H1 _ r1 k1 g ve re => ?_⟩
    have j1 := j.keepE k1
    obtain ⟨_, e0, g⟩ := (g r1 j1 k1).pure getS_ne
    obtain ⟨v, e1, q2, _⟩ := r1.slot i _ (getS_ok e0)
    obtain ⟨a, rfl, _⟩ := q2 hi
    refine ⟨_, e1, O, σ1, r1, (GoS.go (r := ev kk l σ1) r1 j1 (g.start (hr.le k1))).imp fun dk σ2 H2 _ r2 k2 g vk rk => ?_⟩
    have j2 := j1.keepE k2
    obtain ⟨da, ed, g⟩ := (g r2 j2 k2).pure getS_ne
    obtain ⟨d', es, g⟩ := g.opt
    obtain ⟨w, e2, q2', _⟩ := r2.slot i _ (getS_ok ed)
    obtain ⟨a', ea', ct⟩ := q2' hi
    have : a' = a := by rw [e1] at e2; rw [ea'] at e2; simpa using e2.symm
    subst this
    refine set_ok r2 hi e1 ct rk (re.le (r1.le k2)) es fun H3 r3 k3 => ?_
    exact GoS.done g r3 (j2.keepE k3) ((r1.le k2).trans (r2.le k3))
/-! ### while -/
theorem ts_while {t : Expr} {b : List Stmt} {kt : E} {kb : Ss} {l : Lv} {pos : Pos} (hp : PassesOwn (model X.prog X.w) X.A X.env X.xe) (ht : PT X t (TTe Z c W (testF kt l))) (hb : PSs X b (TSe B Z c W (exs kb l))) : PS X (.While t b [] pos) (TSe B Z c W (ex (.while kt kb) l)) :=
  (ps_while hp ht hb).weak fun D σ H ⟨O, σd, hr, j, g⟩ => by
    have g : GoS B Z c W (whGo (testF kt l) (fun σ => exs kb l σ) WF σd) O H D := g
    refine ⟨fun n σ H => ∃ O σd, RelS Z c O σd σ H ∧ J B c O σ H ∧ GoS B Z c W (whGo (testF kt l) (fun σ => exs kb l σ) n σd) O H D, ⟨WF, O, σd, hr, j, g⟩, ?_⟩
    rintro n σ H ⟨O, σd, hr, j, g⟩
    cases n with
    | zero => exact g.elim
    | succ n =>
      refine ⟨O, σd, hr, (GoS.go (r := testF kt l σd) hr j g).imp fun k σ1 H1 _ r1 k1 g => ?_⟩
      have j1 := j.keepE k1
      have g := (g r1 j1 k1).start (hr.le k1)
      cases k with
      | false => exact GoS.done (show GoS B Z c W (.ok (.nx, σ1)) O H1 D from g) r1 j1 (Le.refl _)
      | true =>
        refine ⟨_, fun σ' H' h => ⟨n, Nat.lt_succ_self n, h⟩, O, σ1, r1, j1, ?_⟩
        have g : GoS B Z c W ((exs kb l σ1).bind fun q => match q.1 with
          | .nx => whGo (testF kt l) (fun σ => exs kb l σ) n q.2
          | .ct => whGo (testF kt l) (fun σ => exs kb l σ) n q.2
          | .br => .ok (.nx, q.2)
          | .rt d => .ok (.rt d, q.2)) O H1 D := g
        cases hx : exs kb l σ1 with
        | ok q =>
          rw [hx] at g
          intro O' σ' H' r' j' l'
          obtain ⟨fl, σ2⟩ := q
          have l2 := l'
          cases fl with
          | nx => exact ⟨O', σ2, r', j', GoS.start g l2⟩
          | ct => exact ⟨O', σ2, r', j', GoS.start g l2⟩
          | br => exact g O' σ' H' r' j' l2
          | rt d => exact g O' σ' H' r' j' l2
        | exc k' => rw [hx] at g; exact g
        | bad => rw [hx] at g; exact g
/-! ### for -/
theorem ts_for {tg iter : Expr} {b : List Stmt} {t : T} {it : I} {kb : Ss} {l : Lv} {pos : Pos} (hB : BsOk Z B c) (hf : ∀ i ∈ slotsT t, FreeS c i) (hp : PassesOwn (model X.prog X.w) X.A X.env X.xe) (hc : X.calm = true) (hi : PI X tg iter (TIe Z c W (evi it l))) (hg : PG X tg (TGr Z c t)) (hb : PSs X b (TSe B Z c W (exs kb l)))
    (hs : ∀ x, foldedSetIterable iter X.env x = pure x) : PS X (.For tg iter b [] pos) (TSe B Z c W (ex (.for t it kb) l)) :=
  (ps_for hp hc hi hg hb hs).weak fun D σ H ⟨O, σd, hr, j, g⟩ => by
    refine ⟨O, σd, hr, (GoS.go (r := evi it l σd) hr j g).imp fun xs σ1 H1 _ r1 k1 g Jt wk => ?_⟩
    have j1 := j.keepE k1
    have g : GoS B Z c W (forGo (fun x σ => (asg t x σ).bind fun σ1 => exs kb l σ1) xs σ1) O H1 D := (g r1 j1 k1).start (hr.le k1)
    obtain ⟨G, Y, w, hG, hY⟩ := wk
    refine for_it w (fun i σ H => ∃ O' σd, RelS Z c O' σd σ H ∧ J B c O' σ H ∧ Le (hide H1 O) (hide H O') ∧ GoS B Z c W (forGo (fun x σ => (asg t x σ).bind fun σ1 => exs kb l σ1) (xs.drop i) σd) O' H D) ⟨O, σ1, r1, j1, Le.refl _, g⟩ ?_ ?_ ?_
    · rintro i σ' H' _ ⟨O', σ2, r2, j2, l2, _⟩
      exact hG _ _ l2
    · rintro i x σ' H2 H3 hi ⟨O', σ2, r2, j2, l2, g2⟩ y
      obtain ⟨l23, d, hd, rd⟩ := hY i H2 x H3 O' hi l2 ⟨r2.dom, r2.tab⟩ y
      have hdrop : xs.drop i = d :: xs.drop (i + 1) := by
        obtain ⟨h1, h2⟩ := List.getElem?_eq_some_iff.mp hd
        rw [List.drop_eq_getElem_cons h1, h2]
      rw [hdrop] at g2
      have r3 := r2.grow l23
      have g23 : Le (hide H2 O') (hide H3 O') := hide_mono fun a u e t n => ⟨l23 a u e, n⟩
      refine ⟨O', σ2, d, r3, rd, ?_⟩
      unfold TGo
      have g2 : GoS B Z c W (((asg t d σ2).bind fun σ1 => exs kb l σ1).bind fun q => match q.1 with
          | .nx => forGo (fun x σ => (asg t x σ).bind fun σ1 => exs kb l σ1) (xs.drop (i + 1)) q.2
          | .ct => forGo (fun x σ => (asg t x σ).bind fun σ1 => exs kb l σ1) (xs.drop (i + 1)) q.2
          | .br => .ok (.nx, q.2)
          | .rt d => .ok (.rt d, q.2)) O' H2 D := g2
      cases ha : asg t d σ2 with
      | exc q => exact asg_ne t _ _ _ ha
      | bad => rw [ha] at g2; exact g2
      | ok σ3 =>
        rw [ha] at g2
        have g2 : GoS B Z c W ((exs kb l σ3).bind fun q => match q.1 with
          | .nx => forGo (fun x σ => (asg t x σ).bind fun σ1 => exs kb l σ1) (xs.drop (i + 1)) q.2
          | .ct => forGo (fun x σ => (asg t x σ).bind fun σ1 => exs kb l σ1) (xs.drop (i + 1)) q.2
          | .br => .ok (.nx, q.2)
          | .rt d => .ok (.rt d, q.2)) O' H3 D := GoS.start g2 g23
        intro σ4 r4 sm
        have j4 : J B c O' σ4 H3 := (j2.keepE (KeepE.of_le l23)).same sm hf hB
        refine ⟨O', σ3, r4, j4, ?_⟩
        cases hx : exs kb l σ3 with
        | ok q =>
          rw [hx] at g2
          intro O5 σ5 H5 r5 j5 l5
          obtain ⟨fl, σ6⟩ := q
          have l25 := l5
          cases fl with
          | nx => exact ⟨O5, σ6, r5, j5, (l2.trans g23).trans l25, GoS.start g2 l25⟩
          | ct => exact ⟨O5, σ6, r5, j5, (l2.trans g23).trans l25, GoS.start g2 l25⟩
          | br => exact g2 O5 σ5 H5 r5 j5 l25
          | rt d => exact g2 O5 σ5 H5 r5 j5 l25
        | exc k' => rw [hx] at g2; exact g2
        | bad => rw [hx] at g2; exact g2
    · rintro σ' H' ⟨O', σ2, r2, j2, l2, g2⟩
      rw [List.drop_length] at g2
      exact GoS.done (show GoS B Z c W (.ok (.nx, σ2)) O' H' D from g2) r2 j2 (Le.refl _)
end
end BF

/-! Snd16 -/
set_option Elab.async false
set_option linter.all false
set_option maxRecDepth 100000
set_option maxHeartbeats 2000000
namespace BF
open PySem L2

section
variable {B : Bs} {Z : Wd} {c : Pl} {W : WX} {O O1 : Addr → Prop} {σ : L2.St} {σd : Sd} {H H' : Hp} {X : Cx} {N : Ends}
theorem ts_raise {e : Expr} {k : Nat} {l : Lv} {pos : Pos} (hc : X.calm = true) (tk : L2N.Takes X W) (he : L2N.PMk X e (fun _ H Q => Q (.ref (Z.cad k)) none H)) : PS X (.Raise (some e) none pos) (TSe B Z c W (ex (.raise k) l)) :=
  (L2N.ps_raise hc tk he).weak fun D σ H ⟨O, σd, hr, j, g⟩ => g O σ H (by rw [← hr.len]; exact hr.nones) j (Le.refl _)
/-! ### a, b = x, y -/
theorem reps2 {ds : List D} {vs : List V} {a b : D} (h : Reps Z H ds vs) (e : ds = [a, b]) : ∃ v w, vs = [v, w] ∧ Rep Z H a v ∧ Rep Z H b w := by
  subst e
  cases h with
  | cons h1 h2 => cases h2 with
    | cons h2 h3 => cases h3; exact ⟨_, _, rfl, h1, h2⟩
theorem reps3 {ds : List D} {vs : List V} {a b d : D} (h : Reps Z H ds vs) (e : ds = [a, b, d]) : ∃ v w u, vs = [v, w, u] ∧ Rep Z H a v ∧ Rep Z H b w ∧ Rep Z H d u := by
  subst e
  cases h with
  | cons h1 h2 => cases h2 with
    | cons h2 h3 => cases h3 with
      | cons h3 h4 => cases h4; exact ⟨_, _, _, rfl, h1, h2, h3⟩
theorem setAll_ne : ∀ (is : List (Nat × Bool)) (ds : List D) (σ : Sd) (k : Nat), setAll is ds σ ≠ .exc k
  | [], [], σ, k => by simp [setAll]
  | [], _ :: _, σ, k => by simp [setAll]
  | _ :: _, [], σ, k => by simp [setAll]
  | i :: is, d :: ds, σ, k => by
    unfold setAll
    split
    · simp
    · exact setAll_ne is ds _ k
theorem ts_par2 {i j : Nat} {es : List Expr} {ks : Es} {l : Lv} {s : Stmt} (hB : BsOk Z B c) (fi : FreeS c i) (fj : FreeS c j) (h : ∀ ta, PA X es ta → PS X s (tPar i j ta)) (ha : PA X es (TAe Z c W (evs ks l))) : PS X s (TSe B Z c W (ex (.par [(i, false), (j, false)] ks) l)) :=
  (h _ ha).weak fun D σ H ⟨O, σd, hr, jj, g⟩ => by
    obtain ⟨_, g⟩ := GoS.iff (show GoS B Z c W (if parOk (frOf l.tb) [(i, false), (j, false)] ks = true then (evs ks l σd).bind fun p => (setAll [(i, false), (j, false)] p.1 p.2).bind fun σ' => .ok (.nx, σ') else .bad) O H D from g)
    refine ⟨O, σd, hr, (GoS.go (r := evs ks l σd) hr jj g).imp fun ds σ1 H1 _ r1 k1 g vs rs => ?_⟩
    have j1 := jj.keepE k1
    obtain ⟨σ2, e2, g⟩ := (g r1 j1 k1).pure (setAll_ne _ _ _)
    match ds, e2, rs with
    | [a, b], e2, rs =>
      obtain ⟨v, w, rfl, ra, rb⟩ := reps2 rs rfl
      simp only [setAll, Bool.false_and, Bool.false_eq_true, if_false] at e2
      cases e2
      refine ⟨v, w, rfl, ?_⟩
      have r2 := (r1.setP fi ra).setP fj rb
      have sm : SameS [i, j] σ ((σ.set i (some v)).set j (some w)) := (SameS.set (by simp)).trans (SameS.set (by simp))
      refine GoS.done g r2 (j1.same sm (fun v hv => ?_) hB) (hr.le k1)
      rcases List.mem_cons.mp hv with rfl | hv
      · exact fi
      · rw [List.mem_singleton.mp hv]; exact fj
    | [], e2, _ => simp [setAll] at e2
    | [_], e2, _ => simp [setAll] at e2
    | _ :: _ :: _ :: _, e2, _ => simp [setAll] at e2
theorem ts_par3 {i j m : Nat} {es : List Expr} {ks : Es} {l : Lv} {s : Stmt} (hB : BsOk Z B c) (fi : FreeS c i) (fj : FreeS c j) (fm : FreeS c m) (h : ∀ ta, PA X es ta → PS X s (tPar3 i j m ta)) (ha : PA X es (TAe Z c W (evs ks l))) : PS X s (TSe B Z c W (ex (.par [(i, false), (j, false), (m, false)] ks) l)) :=
  (h _ ha).weak fun D σ H ⟨O, σd, hr, jj, g⟩ => by
    obtain ⟨_, g⟩ := GoS.iff (show GoS B Z c W (if parOk (frOf l.tb) [(i, false), (j, false), (m, false)] ks = true then (evs ks l σd).bind fun p => (setAll [(i, false), (j, false), (m, false)] p.1 p.2).bind fun σ' => .ok (.nx, σ') else .bad) O H D from g)
    refine ⟨O, σd, hr, (GoS.go (r := evs ks l σd) hr jj g).imp fun ds σ1 H1 _ r1 k1 g vs rs => ?_⟩
    have j1 := jj.keepE k1
    obtain ⟨σ2, e2, g⟩ := (g r1 j1 k1).pure (setAll_ne _ _ _)
    match ds, e2, rs with
    | [a, b, d], e2, rs =>
      obtain ⟨v, w, u, rfl, ra, rb, rd⟩ := reps3 rs rfl
      simp only [setAll, Bool.false_and, Bool.false_eq_true, if_false] at e2
      cases e2
      refine ⟨v, w, u, rfl, ?_⟩
      have r2 := ((r1.setP fi ra).setP fj rb).setP fm rd
      have sm : SameS [i, j, m] σ (((σ.set i (some v)).set j (some w)).set m (some u)) := ((SameS.set (by simp)).trans (SameS.set (by simp))).trans (SameS.set (by simp))
      refine GoS.done g r2 (j1.same sm (fun v hv => ?_) hB) (hr.le k1)
      rcases List.mem_cons.mp hv with rfl | hv
      · exact fi
      · rcases List.mem_cons.mp hv with rfl | hv
        · exact fj
        · rw [List.mem_singleton.mp hv]; exact fm
    | [], e2, _ => simp [setAll] at e2
    | [_], e2, _ => simp [setAll] at e2
    | [_, _], e2, _ => simp [setAll] at e2
    | _ :: _ :: _ :: _ :: _, e2, _ => simp [setAll] at e2
/-! ### try -/
theorem J.conv {c' : Pl} (j : J B c O σ H) (e : c'.own = c.own) : J B c' O σ H := ⟨j.sub, j.new, j.keep, fun i hi => j.own i (by rw [← e]; exact hi), j.ms, j.len, j.hd⟩
def holdC (c : Pl) (i : Nat) (a : Addr) : Pl := { c with hold := some (i, .ref a) }
theorem RelS.setHold (r : RelS Z c O (List.replicate σ.length none) σ H) {i : Nat} (f : FreeS c i) (hi : i < σ.length) (a : Addr) : RelS Z (holdC c i a) O (List.replicate σ.length none) (σ.set i (some (.ref a))) H := by
  obtain ⟨f1, f2, f3⟩ := f
  refine ⟨by simp, r.dom, r.tab, fun j hj b e => ?_, fun j hj k hk b e e' => ?_, fun j d' e => ?_, fun j w hw => ?_⟩
  · have ne : i ≠ j := fun z => f1 (z ▸ hj)
    rw [List.getElem?_set_ne ne] at e
    exact r.own j hj b e
  · have ne : i ≠ j := fun z => f1 (z ▸ hj)
    have ne' : i ≠ k := fun z => f1 (z ▸ hk)
    rw [List.getElem?_set_ne ne] at e
    rw [List.getElem?_set_ne ne'] at e'
    exact r.inj j hj k hk b e e'
  · rw [List.getElem?_replicate] at e
    split at e <;> simp at e
  · have hw : some (i, V.ref a) = some (j, w) := hw
    cases hw
    rw [List.getElem?_set_self hi]
theorem RelS.dropHold {a : Addr} {i : Nat} (r : RelS Z (holdC c i a) O σd σ H) (h0 : c.hold = none) (f : FreeS c i) : RelS Z c O (σd.set i none) (σ.set i none) H := by
  have r2 : RelS Z c O σd σ H := ⟨r.len, r.dom, r.tab, r.own, r.inj, r.slot, fun j w hw => by rw [h0] at hw; cases hw⟩
  exact r2.setN f
theorem getAll_set {i : Nat} {x : Option D} {σ : Sd} : ∀ {is : List Nat}, i ∉ is → getAll (σ.set i x) is = getAll σ is
  | [], _ => rfl
  | k :: is, h => by
    have ne : i ≠ k := fun z => h (z ▸ List.mem_cons_self)
    have e : getS (σ.set i x) k = getS σ k := by unfold getS; rw [List.getElem?_set_ne ne]
    unfold getAll
    rw [e, getAll_set fun z => h (List.mem_cons_of_mem _ z)]
def tryAs (B : Bs) (Z : Wd) (c : Pl) (kh : Ss) (l : Lv) (i : Nat) : Addr → Value → Option Addr → TS := fun a cls d D σ H => ∃ k, cls = .ref (Z.cad k) ∧ d = none ∧ TSe B Z (holdC c i a) W0 (exs kh { l with hld := some k }) D σ H
theorem ts_try_as {x n : Str} {i k : Nat} {body suite : List Stmt} {b0 : Stmt} {kb kh : Ss} {l : Lv} {np pos pos' : Pos} (hB : BsOk Z B c) (h0 : c.hold = none) (hK : X.K = Z.K) (fi : FreeS c i)
    (hs : X.stack = X.env :: X.outer) (hf : X.env.frame = some X.env.locals) (hN : X.N.Nodup) (hi : X.N[i]? = some n) (hln : X.env.kindOf n = some .local) (hc : Names X x (.ref (Z.cad k))) (tk : L2N.Takes X W)
    (hsub : ∀ k', PySem.W.exmOne Z.K (.ref (Z.cad k')) (.ref (Z.cad k)) = some (l.sub k' k))
    (hb : ∀ (W : WX) (pn : List (Addr × Obj)) (xe : Value → Shared → Prop), L2N.Takes (X.tr pn xe) W → PassesOwn (model X.prog X.w) X.A X.env xe → PSs (X.tr pn xe) body (TSe B Z c W (exs kb l)))
    (hsu : ∀ (k' : Nat) (a : Addr) (oe : Obj) (pn : List (Addr × Obj)), L2N.Zn (.ref (Z.cad k')) none oe → (∃ vs, oe.data = .fields vs) → PSs (X.suite a ((a, oe) :: pn)) (b0 :: suite) (TSe B Z (holdC c i a) W0 (exs kh { l with hld := some k' })))
    (len : B.n = X.N.length) :
    PS X (.Try body [.ExceptHandler (some (.Name x np)) (some n) (b0 :: suite) pos'] [] [] pos) (TSe B Z c W (ex (.tryx kb k (some i) kh) l)) :=
  (L2N.ps_try_as (ts := tryAs B Z c kh l i) hs hf hN hi hln hc tk hb fun a oe cls d pn hz hv => ⟨fun pins s σ H D I ⟨k', ek, ed, q⟩ => by
    subst ek ed
    exact (hsu k' a oe pn hz hv).run pins s σ H D I q⟩).weak fun D σ H ⟨O, σd, hr, j, g⟩ => by
    refine ⟨O, σd, hr, j, ?_⟩
    have g : GoS B Z c W (if l.hld.isSome then .bad else match exs kb l σd with
      | .ok q => .ok q
      | .exc c' => if l.sub c' k then (match exs kh { l with hld := some c' } (List.replicate σd.length none) with
        | .ok q => .ok (q.1, q.2.set i none)
        | _ => .bad) else .exc c'
      | .bad => .bad) O H D := g
    split at g
    · exact g.elim
    · cases hx : exs kb l σd with
      | ok q => rw [hx] at g; exact g
      | bad => rw [hx] at g; exact g
      | exc k' =>
        rw [hx] at g
        intro O' σ' H' r' j' le'
        refine ⟨l.sub k' k, by rw [hK]; exact hsub k', fun hb a ha => ?_, fun hb => ?_⟩
        · have g : GoS B Z c W (if l.sub k' k = true then (match exs kh { l with hld := some k' } (List.replicate σd.length none) with
            | .ok q => .ok (q.1, q.2.set i none)
            | _ => .bad) else .exc k') O H D := g
          rw [if_pos hb] at g
          have hl : σd.length = σ'.length := by rw [hr.len, j.len, j'.len]
          rw [hl] at g
          have hi' : i < σ'.length := by rw [j'.len, len]; exact (List.getElem?_eq_some_iff.mp hi).1
          have jh : J B (holdC c i a) O' (σ'.set i (some (.ref a))) H' := (j'.same (SameS.set (vs := [i]) (by simp)) (fun v hv => by rw [List.mem_singleton.mp hv]; exact fi) hB).conv rfl
          refine ⟨k', rfl, rfl, O', _, r'.setHold fi hi' a, jh, ?_⟩
          cases hh : exs kh { l with hld := some k' } (List.replicate σ'.length none) with
          | exc q => rw [hh] at g; exact g.elim
          | bad => rw [hh] at g; exact g.elim
          | ok q =>
            rw [hh] at g
            intro O5 σ5 H5 r5 j5 l5
            have r6 := r5.dropHold h0 fi
            have j6 : J B c O5 (σ5.set i none) H5 := (j5.conv (c' := c) rfl).same (SameS.set (vs := [i]) (by simp)) (fun v hv => by rw [List.mem_singleton.mp hv]; exact fi) hB
            have fin := g O5 (σ5.set i none) H5 r6 j6 (le'.trans l5)
            obtain ⟨fl, σ7⟩ := q
            cases fl with
            | nx => exact fin
            | br => exact fin
            | ct => exact fin
            | rt d =>
              intro v rv
              refine fin v ⟨rv.1, fun h1 h2 => ?_⟩
              obtain ⟨b, e1, e2, e3, e4⟩ := rv.2 h1 h2
              exact ⟨b, e1, e2, e3, fun xs ex => e4 xs (by rw [← getAll_set fun z => fi.1 (hB.ms i z)]; exact ex)⟩
        · have g : GoS B Z c W (if l.sub k' k = true then (match exs kh { l with hld := some k' } (List.replicate σd.length none) with
            | .ok q => .ok (q.1, q.2.set i none)
            | _ => .bad) else .exc k') O H D := g
          rw [if_neg (by rw [hb]; decide)] at g
          exact g O' σ' H' r' j' le'
end
end BF

/-! Snd17 -/
set_option Elab.async false
set_option linter.all false
set_option maxRecDepth 100000
set_option maxHeartbeats 2000000
namespace BF
open PySem L2

section
variable {Z : Wd} {c : Pl} {W : WX} {O O1 : Addr → Prop} {σ : L2.St} {σd : Sd} {H H' : Hp} {X : Cx}
theorem lastM {op op' : CmpOp} {b d : Expr} (h : behindInMarks op' d = false) : lastMarks [op, op'] [b, d] = false := h
theorem inMarks {op : CmpOp} {b : Expr} (h : notSet b = true) : behindInMarks op b = false := by
  cases b <;> first | rfl | (simp [notSet] at h)
/-- the reading of a chain, shared -/
theorem chain_red {o o' : Cm} {ka kb kd : E} {l : Lv} {a : Expr} {Q : VK} (hK : X.K = Z.K) (ha : Opd X Z c W l a ka) (hr : RelS Z c O σd σ H) (hg : Go Z c W (ev (.chain o o' ka kb kd) l σd) O σ H fun d _ H' => ∀ k, d = .bl k → Q (.bl k) H') :
    tChain (rCmp X.K o) (rCmp X.K o') (TKe Z c W ka (fun σ => BF.lent ka (ev ka l σ) σ)) (TEe Z c W (tP Z) (ev kb l)) (TEe Z c W (tL Z) (fun σ => BF.lent kd (ev kd l σ) σ)) σ H Q := by
  refine ⟨O, σd, hr, (Go.bind (r := BF.lent ka (ev ka l σd) σd) hg).imp fun da σ1 H1 _ r1 k1 g va tka => ⟨O, σ1, r1, (Go.bind (r := ev kb l σ1) g).imp fun db σ2 H2 _ r2 k2 g2 vb rb => ?_⟩⟩
  obtain ⟨x, ex, g3⟩ := g2.pure rr_ne
  obtain ⟨k, ek, g4⟩ := g3.opt
  refine cmp_ok hK r2 (rr_ok r2 ex (by have t := tK_keep r1 k2 tka; cases ka <;> exact t) ha.rvIn) (.inl rb) ek ⟨k, rfl, ?_⟩
  cases k with
  | false =>
    simp only [Bool.false_eq_true, if_false] at g4 ⊢
    exact g4.ok r2 KeepE.refl _ rfl
  | true =>
    simp only [if_true] at g4 ⊢
    refine ⟨O, σ2, r2, (Go.bind (r := BF.lent kd (ev kd l σ2) σ2) g4).imp fun dd σ3 H3 _ r3 k3 g5 vd rd => ?_⟩
    obtain ⟨k', ek', g6⟩ := g5.opt
    exact cmp_ok hK r3 (.inl (rb.le (r2.le k3))) rd ek' (g6.ok r3 KeepE.refl _ rfl)
theorem pe_of_chain {o o' : Cm} {a b d : Expr} {ka kb kd : E} {l : Lv} {pos : Pos} (hK : X.K = Z.K) (hu : X.A.units + 65 < cLine) (hm : notSet d = true) (ha : Opd X Z c W l a ka) (hb : PE X b (TEe Z c W (tP Z) (ev kb l))) (hd : Opd X Z c W l d kd) :
    PE X (.Compare a [mapCm o, mapCm o'] [b, d] pos) (TEe Z c W (tP Z) (ev (.chain o o' ka kb kd) l)) :=
  (pe_chain (opR_cmp hu o) (opR_cmp hu o') ha.kept hb hd.lent (lastM (inMarks hm))).weak fun σ H Q ⟨O, σd, h0, hg⟩ => chain_red hK ha h0 (hg.imp fun d σ1 H1 _ _ _ q k e => q _ (by rw [e]; exact .bl k))
theorem tt_of_chain {o o' : Cm} {a b d : Expr} {ka kb kd : E} {l : Lv} {pos : Pos} (hK : X.K = Z.K) (hu : X.A.units + 65 < cLine) (hm : notSet d = true) (ha : Opd X Z c W l a ka) (hb : PE X b (TEe Z c W (tP Z) (ev kb l))) (hd : Opd X Z c W l d kd) :
    PT X (.Compare a [mapCm o, mapCm o'] [b, d] pos) (TTe Z c W (testF (.chain o o' ka kb kd) l)) :=
  (pt_chain (opR_cmp hu o) (opR_cmp hu o') ha.kept hb hd.lent (lastM (inMarks hm))).weak fun σ H Q ⟨O, σd, h0, hg⟩ => by
    have hg : Go Z c W ((ev (.chain o o' ka kb kd) l σd).bind fun p => (R.ofO (tru p.1)).bind fun k => .ok (k, p.2)) O σ H fun k _ H' => Q k H' := hg
    refine chain_red hK ha h0 ((Go.bind hg).imp fun dd σ1 H1 _ r1 k1 g k e => ?_)
    subst e
    exact ⟨k, rfl, (show Go Z c W (.ok (k, σ1)) O σ H1 _ from g).ok r1 KeepE.refl⟩
theorem pe_of_iteF {t a b : Expr} {kt ka kb : E} {l : Lv} {pos : Pos} (ht : PT X t (TTe Z c W (testF kt l))) (ha : PE X a (TFe Z c W (ev ka l))) (hb : PE X b (TFe Z c W (ev kb l))) :
    PE X (.IfExp t a b pos) (TFe Z c W (ev (.ite kt ka kb) l)) :=
  (pe_ifExp ht ha hb).weak fun σ H Q ⟨O, σd, h0, hg⟩ => by
    have hg2 : Go Z c W ((testF kt l σd).bind fun p => if p.1 = true then ev ka l p.2 else ev kb l p.2) O σ H (KF Z c O σ H Q) := by
      have e : ev (.ite kt ka kb) l σd = (testF kt l σd).bind fun p => if p.1 = true then ev ka l p.2 else ev kb l p.2 := by
        show (BF.lent kt (ev kt l σd) σd).bind _ = _
        unfold testF
        cases BF.lent kt (ev kt l σd) σd with
        | ok q =>
          show (R.ofO (tru q.1)).bind _ = ((R.ofO (tru q.1)).bind fun b => R.ok (b, q.2)).bind _
          cases tru q.1 <;> rfl
        | exc _ => rfl
        | bad => rfl
      rw [← e]; exact hg
    refine ⟨O, σd, h0, (Go.bind hg2).imp fun k σ1 H1 _ r1 k1 g => ?_⟩
    have back : ∀ {r : R (D × Sd)}, Go Z c W r O σ H1 (KF Z c O σ H Q) → Go Z c W r O σ H1 (KF Z c O σ H1 Q) := fun {r} g => g.imp fun d σ2 H2 _ r2 k2 q v fr rv => q v (fun hc => by
      obtain ⟨a, e1, e2, e3, e4⟩ := fr hc
      exact ⟨a, e1, h0.back r1 k1 e2, e3, e4⟩) rv
    cases k with
    | true => exact ⟨O, σ1, r1, back g⟩
    | false => exact ⟨O, σ1, r1, back g⟩
end
end BF

/-! Snd18 -/
set_option Elab.async false
set_option linter.all false
set_option maxRecDepth 100000
set_option maxHeartbeats 2000000
namespace BF
open PySem L2

def bltN : List Str := ["len", "abs", "int", "list", "tuple", "all", "any", "sum", "sorted", "min", "max", "str", "bool", "isinstance", "range", "enumerate", "zip", "dict", "set", "reversed"]
/-- a class of errors -/
structure ExcF (X : Cx) (Z : Wd) (x : Str) (k : Nat) : Prop where
  mg : X.mg x = some (.ref (Z.cad k))
  keep : plainX x = true → PySem.W.keepIn X.K (.ref (Z.cad k)) = true
  base : plainX x = true → ∃ (bmB : List Value) (B newId initId : String), ExcBaseFacts B newId initId bmB ∧ PySem.W.excIn X.K (Z.cad k) bmB newId = true
  rs : plainX x = true → Raises X (.ref (Z.cad k))
/-- what a lambda's making asks -/
def LamF (X : Cx) (Z : Wd) : Prop := ∃ cc P : Addr, LamX.TabB X.base X.mg cc P ∧ X.env.code = .ref cc ∧ (P, X.env.qual ++ "<lambda>") ∈ Z.T ∧ ∀ p ∈ Z.T, p.1 = P → p.2 = X.env.qual ++ "<lambda>"
/-- a def's places fit its parameters -/
def psOk (own bor : List Nat) : List Md → Nat → Bool
  | [], _ => true
  | m :: ps, i => (match m with
    | .s => !own.contains i && !bor.contains i
    | .b => !own.contains i && bor.contains i
    | .m => own.contains i) && psOk own bor ps (i + 1)
def fdOk (fd : Fd) (N : List Str) : Bool := fd.ns == N.length && decide (fd.ps.length ≤ N.length) && psOk fd.own fd.bor fd.ps 0
/-- the module's names, as the small form reads them -/
structure Gb (Z : Wd) (mg : Str → Option Value) (fns : List Str) (con : List (Str × D)) (excs : List Str) (sub : Nat → Nat → Bool) : Prop where
  fn_ : ∀ x i, slotGo x fns 0 = some i → mg x = some (.ref (Z.fad i))
  con_ : ∀ x d, slotGo x fns 0 = none → con.lookup x = some d → ∃ u v, mg x = some u ∧ RelV v u ∧ ∀ H, Rep Z H d v
  blt : ∀ x ∈ bltN, mg x = none
  exc : ∀ x i, slotGo x excs 0 = some i → mg x = some (.ref (Z.cad i)) ∧ (plainX x = true → PySem.W.keepIn Z.K (.ref (Z.cad i)) = true ∧
    (∃ (bmB : List Value) (B newId initId : String), ExcBaseFacts B newId initId bmB ∧ PySem.W.excIn Z.K (Z.cad i) bmB newId = true) ∧ PySem.W.subIn Z.K (.ref (Z.cad i)) (.type "BaseException") = some true ∧ PySem.W.typeIn Z.K (.ref (Z.cad i)) = some (.type "type"))
  exm : ∀ x k, slotGo x excs 0 = some k → ∀ k', PySem.W.exmOne Z.K (.ref (Z.cad k')) (.ref (Z.cad k)) = some (sub k' k)
  exk : ∀ x k, slotGo x excs 0 = some k → ∀ k', PySem.W.kitOne Z.K (.ref (Z.cad k')) (.ref (Z.cad k)) = some (sub k' k)
  excC : ∀ k', ExcC Z.K (Z.cad k')
/-- where a def makes lambdas -/
def LamD (Z : Wd) (mg : Str → Option Value) (base : Heap) (cdv : Value) (qual : Str) : Prop := ∃ cc Pt : Addr, LamX.TabB base mg cc Pt ∧ cdv = .ref cc ∧ (Pt, qual ++ ".<locals>." ++ "<lambda>") ∈ Z.T ∧ ∀ p ∈ Z.T, p.1 = Pt → p.2 = qual ++ ".<locals>." ++ "<lambda>"
def tcOf (fns : List Str) (con : List (Str × D)) (excs : List Str) (lm : Bool) (N : List Str) (fd : Fd) (scope : Scope) : Tc := ⟨N, fd.own, fd.bor, fd.ps.length, fns, con, excs, scope, none, false, lm⟩
/-- a def of the table -/
structure DefOk (Z : Wd) (mg : Str → Option Value) (base : Heap) (fns : List Str) (con : List (Str × D)) (excs : List Str) (f : Nat) (fd : Fd) (lm : Bool) (name qual : Str) (params : Arguments) (body : List Stmt) (scope : Scope) (dV kV doc pm cdv ct oc : Value) (an od : Option Addr) (osl : Array (Option Value)) (N ps : List Str) : Prop where
  lk : Z.K.lookup (Z.fad f) = some ⟨oc, od, .func (PySem.W.fnOf name qual params body scope dV kV doc pm an cdv ct), osl⟩
  cd : PySem.W.codeIn Z.K cdv qual = true
  S : FnScope N ps scope
  len : ps.length = fd.ps.length
  ok : fdOk fd N = true
  tr : trFd fns con excs lm N fd body scope = fd.body
  bd : L2.Binds Z.K (PySem.W.fnOf name qual params body scope dV kV doc pm an cdv ct) ps []
  kp : PySem.W.keepIn Z.K (.ref (Z.fad f)) = true
  lam : lm = true → LamD Z mg base cdv qual
  hd : fd.hd = true → lm = false
def DefE (Z : Wd) (mg : Str → Option Value) (base : Heap) (fns : List Str) (con : List (Str × D)) (excs : List Str) (f : Nat) (fd : Fd) : Prop :=
  ∃ (lm : Bool) (name qual : Str) (params : Arguments) (body : List Stmt) (scope : Scope) (dV kV doc pm cdv ct oc : Value) (an od : Option Addr) (osl : Array (Option Value)) (N ps : List Str), DefOk Z mg base fns con excs f fd lm name qual params body scope dV kV doc pm cdv ct oc an od osl N ps
structure Ok (bb : Bool) (X : Cx) (Z : Wd) (tc : Tc) (l : Lv) (c : Pl) (W : WX) (k : Nat) : Prop where
  K : X.K = Z.K
  N : X.N = tc.N
  nd : tc.N.Nodup
  sc : X.env.scope = tc.sc
  own : c.own = tc.own
  bor : c.bor = tc.bor
  hold : ∀ i v, c.hold = some (i, v) → tc.hld = some i
  lown : l.own = tc.own
  tk : L2N.Takes X W
  un : X.A.units + 65 < cLine
  calm : tc.hld = none → X.calm = true ∧ Room k X.A ∧ l.hld = none
  hot : ∀ i, tc.hld = some i → tc.hx = true → L2H.HotC X ∧ ∃ a k', c.hold = some (i, .ref a) ∧ l.hld = some k' ∧ CallR X (.builtin "isinstance") (rIsE X.K (Z.cad k') a) ∧ ∀ y j, slotGo y tc.excs 0 = some j → PySem.W.kitOne X.K (.ref (Z.cad k')) (.ref (Z.cad j)) = some (l.sub k' j)
  fns : ∀ x i, slotGo x tc.fns 0 = some i → X.mg x = some (.ref (Z.fad i))
  con : ∀ x d, slotGo x tc.fns 0 = none → tc.con.lookup x = some d → ∃ u v, X.mg x = some u ∧ RelV v u ∧ ∀ H, Rep Z H d v
  blt : ∀ x ∈ bltN, X.mg x = none
  exc : ∀ x i, slotGo x tc.excs 0 = some i → ExcF X Z x i
  call : ∀ f fd, l.tb[f]? = some fd → FnIn X Z k f fd (l.F f)
  call2 : ∀ F, l.F2 = some F → ∃ k2, k2 + 2 ≤ k ∧ ∀ f fd, l.tb[f]? = some fd → FnIn X Z k2 f fd (F f)
  lam : tc.lm = true → LamF X Z
  lb : tc.lm = true → bb = true
  gb : Gb Z X.mg tc.fns tc.con tc.excs Z.sub
  defs : ∀ f fd, Z.tb[f]? = some fd → DefE Z X.mg X.base tc.fns tc.con tc.excs f fd
  hd : ∀ F, l.F2 = some F → l.Hd = runHd Z.tb Z.sub ∧ l.tb = Z.tb ∧ l.sub = Z.sub
theorem takesN0 {X : Cx} : L2N.Takes X (fun _ _ _ _ => False) := fun u s' h => by
  obtain ⟨_, _, _, _, _, _, _, _, _, _, _, _, _, _, _, _, q⟩ := h
  exact q.elim
section
variable {bb : Bool} {X : Cx} {Z : Wd} {tc : Tc} {l : Lv} {c : Pl} {W : WX} {k : Nat}
theorem slotGo_at : ∀ {N : List Str} {x : Str} {n i : Nat}, slotGo x N n = some i → ∃ j, i = n + j ∧ N[j]? = some x
  | [], _, _, _, h => by simp [slotGo] at h
  | y :: r, x, n, i, h => by
    unfold slotGo at h
    split at h
    · rename_i e
      cases h
      exact ⟨0, rfl, by simp [e]⟩
    · obtain ⟨j, e, q⟩ := slotGo_at h
      exact ⟨j + 1, by omega, by simpa using q⟩
theorem slot_at {N : List Str} {x : Str} {i : Nat} (h : slotGo x N 0 = some i) : N[i]? = some x := by
  obtain ⟨j, e, q⟩ := slotGo_at h
  have : i = j := by omega
  rw [this]; exact q
theorem okNm_1 {x : Str} (h : okNm x = true) : (x == ("__debug__" : Str)) = false ∧ (x == ("__classdict__" : Str)) = false := by
  unfold okNm at h
  simp only [Bool.and_eq_true, Bool.not_eq_true'] at h
  exact h
theorem vis_1 {sc : Scope} {x : Str} (h : (match sc.names.lookup x with | some .local => true | some .cell => true | some .free => true | _ => false) = true) : Vis sc x := by
  split at h
  · rename_i e; exact .inl e
  · rename_i e; exact .inr (.inl e)
  · rename_i e; exact .inr (.inr e)
  · cases h
theorem Ok.vis (o : Ok bb X Z tc l c W k) {x : Str} (h : tc.vis x = true) : Vis X.env.scope x := by rw [o.sc]; exact vis_1 h
theorem Ok.gl (o : Ok bb X Z tc l c W k) {x : Str} (h : tc.glob x = true) : Gl X x := by
  show X.env.scope.names.lookup x = _
  rw [o.sc]
  unfold Tc.glob at h
  split at h
  · assumption
  · cases h
theorem Ok.at_ (o : Ok bb X Z tc l c W k) {x : Str} {i : Nat} (h : tc.slot x = some i) : X.N[i]? = some x := by rw [o.N]; exact slot_at h
theorem Ok.var (o : Ok bb X Z tc l c W k) {x : Str} {i : Nat} {p : Pos} (hn : okNm x = true) (hv : tc.vis x = true) (h : tc.slot x = some i) : PE X (.Name x p) (tVar i) := pe_var (o.at_ h) (o.vis hv) (okNm_1 hn).1 (okNm_1 hn).2
theorem res_no {i : Nat} (h : tc.res i = false) (o : Ok bb X Z tc l c W k) : FreeS c i := by
  unfold Tc.res at h
  simp only [Bool.or_eq_false_iff] at h
  obtain ⟨⟨h1, h2⟩, h3⟩ := h
  refine ⟨fun z => ?_, fun z => ?_, fun v z => ?_⟩
  · rw [o.own] at z
    have : tc.own.contains i = true := List.contains_iff_mem.mpr z
    rw [h1] at this; cases this
  · rw [o.bor] at z
    have : tc.bor.contains i = true := List.contains_iff_mem.mpr z
    rw [h2] at this; cases this
  · have := o.hold i v z
    rw [this] at h3; simp at h3
theorem res_yes {i : Nat} (h : tc.res i = true) (hh : ¬ tc.hld = some i) (o : Ok bb X Z tc l c W k) : i ∈ c.own ∨ i ∈ c.bor := by
  unfold Tc.res at h
  simp only [Bool.or_eq_true] at h
  rcases h with (h | h) | h
  · exact .inl (by rw [o.own]; exact List.contains_iff_mem.mp h)
  · exact .inr (by rw [o.bor]; exact List.contains_iff_mem.mp h)
  · exact absurd (by simpa using h) hh
/-! ### names -/
theorem pe_bad {e : Expr} {P : (Addr → Prop) → Tl} {f : Sd → R (D × Sd)} (h : ∀ σ, f σ = .bad) : PE X e (TEe Z c W P f) := .none (TEe.bad h)
theorem pf_bad {e : Expr} {f : Sd → R (D × Sd)} (h : ∀ σ, f σ = .bad) : PE X e (TFe Z c W f) := .none fun σ H Q ⟨O, σd, _, q⟩ => by rw [h] at q; exact q
theorem pt_bad {e : Expr} {f : Sd → R (Bool × Sd)} (h : ∀ σ, f σ = .bad) : PT X e (TTe Z c W f) := .none fun σ H Q ⟨O, σd, _, q⟩ => by rw [h] at q; exact q
theorem o_name (o : Ok bb X Z tc l c W k) (x : Str) (p : Pos) : Opd X Z c W l (.Name x p) (trName tc x) := by
  unfold trName
  by_cases hn : okNm x = true
  · rw [if_pos hn]
    by_cases hv : tc.vis x = true
    · rw [if_pos hv]
      cases hs : tc.slot x with
      | none => exact ⟨.inl ⟨rfl, pe_bad fun _ => rfl⟩⟩
      | some i =>
        dsimp only
        by_cases hh : tc.hld = some i
        · rw [if_pos hh]; exact ⟨.inl ⟨rfl, pe_bad fun _ => rfl⟩⟩
        · rw [if_neg hh]
          cases hr : tc.res i with
          | true => exact ⟨.inr ⟨i, rfl, o.var hn hv hs, res_yes hr hh o⟩⟩
          | false =>
            obtain ⟨f1, f2, _⟩ := res_no hr o
            exact ⟨.inl ⟨rfl, s_var (o.var hn hv hs) f1 f2⟩⟩
    · rw [if_neg hv]
      by_cases hg : tc.glob x = true
      · rw [if_pos hg]
        cases hf : slotGo x tc.fns 0 with
        | some f => exact ⟨.inl ⟨rfl, s_fn (pe_glob (o.gl hg) (o.fns x f hf) rfl (okNm_1 hn).1)⟩⟩
        | none =>
          dsimp only
          cases hc : tc.con.lookup x with
          | none => exact ⟨.inl ⟨rfl, pe_bad fun _ => rfl⟩⟩
          | some d =>
            obtain ⟨u, v, h1, h2, h3⟩ := o.con x d hf hc
            exact ⟨.inl ⟨rfl, s_cst (pe_glob (o.gl hg) h1 h2 (okNm_1 hn).1) h3⟩⟩
      · rw [if_neg hg]; exact ⟨.inl ⟨rfl, pe_bad fun _ => rfl⟩⟩
  · rw [if_neg hn]; exact ⟨.inl ⟨rfl, pe_bad fun _ => rfl⟩⟩
/-- a plain operand, read plainly: a restricted name is bad -/
theorem Opd.pe {e : Expr} {kk : E} (h : Opd X Z c W l e kk) : PE X e (TEe Z c W (tP Z) (ev kk l)) := by
  rcases h.at_ with ⟨_, h⟩ | ⟨i, rfl, _⟩
  · exact h
  · exact pe_bad fun _ => rfl
theorem Opd.of {e : Expr} {kk : E} (n : isRv kk = false) (h : PE X e (TEe Z c W (tP Z) (ev kk l))) : Opd X Z c W l e kk := ⟨.inl ⟨n, h⟩⟩
end
end BF

/-! Snd19 -/
set_option Elab.async false
set_option linter.all false
set_option maxRecDepth 100000
set_option maxHeartbeats 4000000
namespace BF
open PySem L2

/-- lambdas, by any soundness of their bodies -/
def LamH (bb : Bool) (Z : Wd) : Prop := ∀ {X : Cx} {tc : Tc} {l : Lv} {c : Pl} {W : WX} {k : Nat}, Ok bb X Z tc l c W k → tc.hld = none → ∀ {x : Str} {f : Nat} {ps : Arguments} {b : Expr} {sc : Scope} {lpos p pos : Pos} {kb : E}, okNm x = true → tc.glob x = true → slotGo x tc.fns 0 = some f → tc.lm = true → noArgs ps = true → LamX.lamSB tc.sc sc = true →
  (∀ {X' : Cx} {l' : Lv} {c' : Pl} {W' : WX} {k' : Nat}, Ok bb X' Z { tc with sc := sc, own := [], bor := tc.own ++ tc.bor, hld := none, hx := false, lm := false } l' c' W' k' → PE X' b (TEe Z c' W' (tP Z) (ev kb l'))) →
  PE X (.Call (.Name x p) [.Lambda ps b sc lpos] [] pos) (TEe Z c W (tP Z) (ev (.lam f kb) l))
/-- comprehensions within a suite -/
def HotH (bb : Bool) (Z : Wd) : Prop := ∀ {X : Cx} {tc : Tc} {l : Lv} {c : Pl} {W : WX} {k i : Nat}, Ok bb X Z tc l c W k → tc.hld = some i → tc.hx = true → ∀ {elt tg iter : Expr} {ifs : List Expr} {scope : Scope} {own : List (Str × Nat)} {pos : Pos} {ke kv : E} {t : T} {cc : Eo}, BlkOk X.N X.env.scope scope own → (∀ v ∈ own.map (·.2), FreeS c v) → (∀ i ∈ slotsT t, i ∈ own.map (·.2)) →
  PE X iter (TEe Z c W (tP Z) (ev kv l)) → flatT t = true → (∀ q ∈ own, ∃ kk, (q.1, kk) ∈ scope.names ∧ (kk = .local ∨ kk = .cell)) →
  ∀ {m : Nat}, trT m { tc with sc := relS scope tc.sc, hx := false } tg = some t →
  (∀ {X' : Cx} {l' : Lv} {c' : Pl} {W' : WX} {k' : Nat}, Ok bb X' Z { tc with sc := relS scope tc.sc, hx := false } l' c' W' k' → PE X' elt (TEe Z c' W' (tP Z) (ev ke l'))) →
  (∀ {X' : Cx} {l' : Lv} {c' : Pl} {W' : WX} {k' : Nat}, Ok bb X' Z { tc with sc := relS scope tc.sc, hx := false } l' c' W' k' → PTs X' ifs (TTe Z c' W' (evc cc l'))) →
  (∀ x, foldedSetIterable iter X.env x = pure x) → PE X (.ListComp elt [⟨tg, iter, ifs, 0⟩] scope pos) (TFe Z c W (ev (.lc (own.map (·.2)) ke t (.lst kv) cc) l))
section
variable {bb : Bool} {X : Cx} {Z : Wd} {tc : Tc} {l : Lv} {c : Pl} {W : WX} {k : Nat}
structure SE (bb : Bool) (Z : Wd) (n : Nat) : Prop where
  o : ∀ {X : Cx} {tc : Tc} {l : Lv} {c : Pl} {W : WX} {k : Nat}, Ok bb X Z tc l c W k → ∀ e, Opd X Z c W l e (tr n tc e)
  f : ∀ {X : Cx} {tc : Tc} {l : Lv} {c : Pl} {W : WX} {k : Nat}, Ok bb X Z tc l c W k → ∀ e, freshE (frOf l.tb) (tr n tc e) = true → PE X e (TFe Z c W (ev (tr n tc e) l))
  t : ∀ {X : Cx} {tc : Tc} {l : Lv} {c : Pl} {W : WX} {k : Nat}, Ok bb X Z tc l c W k → ∀ e, PT X e (TTe Z c W (testF (tr n tc e) l))
  es : ∀ {X : Cx} {tc : Tc} {l : Lv} {c : Pl} {W : WX} {k : Nat}, Ok bb X Z tc l c W k → ∀ es, PA X es (TAe Z c W (evs (trs n tc es) l))
  bs : ∀ {X : Cx} {tc : Tc} {l : Lv} {c : Pl} {W : WX} {k : Nat}, Ok bb X Z tc l c W k → ∀ es, es.all notStar = true → Oas X Z c W l es (trs n tc es)
  eo : ∀ {X : Cx} {tc : Tc} {l : Lv} {c : Pl} {W : WX} {k : Nat}, Ok bb X Z tc l c W k → ∀ es, EsOk X Z c W l es (trs n tc es)
  bz : ∀ {tc : Tc} {l : Lv}, trs n tc [] = .nil ∨ ∀ σ, evbs (trs n tc []) l σ = .bad
  iv : ∀ {X : Cx} {tc : Tc} {l : Lv} {c : Pl} {W : WX} {k : Nat}, Ok bb X Z tc l c W k → ∀ (e : Expr) (kv : E), trI n tc e = .lst kv → PE X e (TEe Z c W (tP Z) (ev kv l))
  oo : ∀ {X : Cx} {tc : Tc} {l : Lv} {c : Pl} {W : WX} {k : Nat}, Ok bb X Z tc l c W k → ∀ e, PO X e (TOe Z c W (evo (trO n tc e) l))
  b : ∀ {X : Cx} {tc : Tc} {l : Lv} {c : Pl} {W : WX} {k : Nat}, Ok bb X Z tc l c W k → ∀ op vs pos, Opd X Z c W l (.BoolOp op vs pos) (trB n tc op vs) ∧ PW X (.BoolOp op vs pos) (TTe Z c W (testF (trB n tc op vs) l)) ∧ (freshE (frOf l.tb) (trB n tc op vs) = true → PE X (.BoolOp op vs pos) (TFe Z c W (ev (trB n tc op vs) l)))
  c : ∀ {X : Cx} {tc : Tc} {l : Lv} {c : Pl} {W : WX} {k : Nat}, Ok bb X Z tc l c W k → ∀ x as p pos, Opd X Z c W l (.Call (.Name x p) as [] pos) (trCall n tc x as) ∧ (freshE (frOf l.tb) (trCall n tc x as) = true → PE X (.Call (.Name x p) as [] pos) (TFe Z c W (ev (trCall n tc x as) l)))
  m : ∀ {X : Cx} {tc : Tc} {l : Lv} {c : Pl} {W : WX} {k : Nat}, Ok bb X Z tc l c W k → ∀ o m as ap pos, (ap.endLine == pos.line) = true → Opd X Z c W l (.Call (.Attribute o m ap) as [] pos) (trMeth n tc o m as) ∧ freshE (frOf l.tb) (trMeth n tc o m as) = false
  i : ∀ {X : Cx} {tc : Tc} {l : Lv} {c : Pl} {W : WX} {k : Nat}, Ok bb X Z tc l c W k → ∀ {m : Nat} {tc' : Tc} {tg : Expr} {tt : T} {h : Bool} (e : Expr), trT m tc' tg = some tt → fitI h (trI n tc e) tt = true → PI X tg e (TIe Z c W (evi (trI n tc e) l))
theorem opd_bad {e : Expr} : Opd X Z c W l e .bad := .of rfl (pe_bad fun _ => rfl)
theorem testF_bad {σ : Sd} : testF .bad l σ = .bad := rfl
theorem pi_bad {tg e : Expr} {f : Sd → R (List D × Sd)} (h : ∀ σ, f σ = .bad) : PI X tg e (TIe Z c W f) := .none fun σ H R ⟨O, σd, _, q⟩ => by rw [h] at q; exact q
theorem se_zero : SE bb Z 0 where
  o := fun _ _ => opd_bad
  f := fun _ _ h => by cases h
  t := fun _ _ => pt_bad fun _ => rfl
  es := fun _ _ => .none fun σ H Q ⟨O, σd, _, q⟩ => q
  bs := fun _ _ _ => ⟨.none fun σ H Q ⟨O, σd, _, q⟩ => q, ⟨fun _ h => (by cases h), trivial⟩⟩
  bz := .inr fun _ => rfl
  eo := fun {X tc l c W k} o es => by
    show EsOk X Z c W l es (.cons .bad .nil)
    cases es with
    | nil => exact fun _ => rfl
    | cons e es => exact ⟨fun p => pe_bad fun _ => rfl, .inr fun _ => rfl⟩
  iv := fun _ _ _ h => by cases h
  oo := fun _ _ => ⟨fun pins s σ H Q I ⟨O, σd, _, q⟩ => q.elim⟩
  b := fun _ _ _ _ => ⟨opd_bad, ⟨fun _ pins s σ H Q I ⟨O, σd, _, q⟩ => q.elim⟩, fun h => by cases h⟩
  c := fun _ _ _ _ _ => ⟨opd_bad, fun h => by cases h⟩
  m := fun _ _ _ _ _ _ _ => ⟨opd_bad, rfl⟩
  i := by intros; exact pi_bad fun _ => rfl
end
end BF

/-! Snd20 -/
set_option Elab.async false
set_option linter.all false
set_option maxRecDepth 100000
set_option maxHeartbeats 4000000
namespace BF
open PySem L2

section
variable {bb : Bool} {X : Cx} {Z : Wd} {tc : Tc} {l : Lv} {c : Pl} {W : WX} {k n : Nat}
theorem Ok.blk (o : Ok bb X Z tc l c W k) (hh : tc.hld = none) (a : Addr) (s : Shared) (H : Hp) (scope : Scope) (C : Addr) (cl : List (Str × Addr)) (fp : List Addr) : Ok bb (X.blk s H scope (compEnvC scope cl C X.env) fp) Z { tc with sc := relS scope tc.sc, hx := false } (noTh l) (lk c a) W0 k where
  K := o.K
  N := o.N
  nd := o.nd
  sc := by show relS scope X.env.scope = relS scope tc.sc; rw [o.sc]
  own := o.own
  bor := o.bor
  hold := o.hold
  lown := o.lown
  tk := takesN0
  un := o.un
  calm := fun h => o.calm h
  hot := fun i _ h => nomatch h
  fns := o.fns
  con := o.con
  blt := o.blt
  exc := fun x i h => let q := o.exc x i h; ⟨q.mg, q.keep, q.base, q.rs⟩
  call := fun f fd h => ⟨(o.call f fd h).ex⟩
  call2 := fun F h => let ⟨k2, h1, h2⟩ := o.call2 F h; ⟨k2, h1, fun f fd q => ⟨(h2 f fd q).ex⟩⟩
  lam := o.lam
  lb := o.lb
  gb := o.gb
  defs := o.defs
  hd := o.hd
theorem mem_ownOf {N : List Str} : ∀ {ns : List (Str × NameKind)} {p : Str × Nat}, p ∈ ownOf N ns → ∃ k, (p.1, k) ∈ ns ∧ (k = .local ∨ k = .cell)
  | [], _, h => by simp [ownOf] at h
  | (x, k) :: r, p, h => by
    have rec_ : p ∈ ownOf N r → ∃ k', (p.1, k') ∈ (x, k) :: r ∧ (k' = .local ∨ k' = .cell) := fun h => by
      obtain ⟨k', h1, h2⟩ := mem_ownOf h
      exact ⟨k', List.mem_cons_of_mem _ h1, h2⟩
    unfold ownOf at h
    cases k <;> dsimp only at h <;> first | exact rec_ h | skip
    all_goals
      cases hs : slotGo x N 0 with
      | none => rw [hs] at h; exact rec_ h
      | some i =>
        rw [hs] at h
        rcases List.mem_cons.mp h with rfl | h
        · exact ⟨_, List.mem_cons_self, by simp⟩
        · exact rec_ h
/-! ### targets -/
/-- where a target may be stored -/
def StOk (X : Cx) (S : List Nat) : Prop := ∀ x i, X.N[i]? = some x → i ∈ S → Loc X.env.scope x → X.fn x = true ∨ X.env.scope.names.lookup x = some .local
theorem assignE_len : ∀ (es : List Expr) (env : Env), (assignEach es env).length = es.length
  | [], _ => rfl
  | e :: es, env => by cases e <;> simp [assignEach, assignE_len es env]
mutual
theorem trT_ok (hN : X.N = tc.N) (nd : tc.N.Nodup) (hsc : X.env.scope = tc.sc) (hK : X.K = Z.K) (hc : X.calm = true) {S : List Nat} (st : StOk X S) (hf : ∀ i, tc.res i = false → i ∈ S → FreeS c i) : ∀ (n : Nat) (e : Expr) (t : T), trT n tc e = some t → (∀ i ∈ slotsT t, i ∈ S) → PG X e (TGr Z c t)
  | 0, _, _, h, _ => by simp [trT] at h
  | n + 1, e, t, h, hs => by
    cases e <;> simp only [trT] at h <;> first | (cases h; done) | skip
    · rename_i x p
      split at h
      · rename_i hx
        simp only [Bool.and_eq_true, Bool.or_eq_true, decide_eq_true_eq] at hx
        cases hi : tc.slot x with
        | none => rw [hi] at h; cases h
        | some i =>
          rw [hi] at h
          dsimp only at h
          split at h
          · cases h
          · rename_i hr
            cases h
            have hi' : X.N[i]? = some x := by rw [hN]; exact slot_at hi
            have lx : Loc X.env.scope x := by rw [hsc]; exact hx.2
            have iS : i ∈ S := hs i (by simp [slotsT])
            exact tg_name (hf i (by simpa using hr) iS) (by rw [hN]; exact nd) hi' lx (st x i hi' iS lx)
      · cases h
    · rename_i es x p
      obtain ⟨ts, e1, rfl⟩ := Option.map_eq_some_iff.mp h
      obtain ⟨h1, h2, h3⟩ := trTs_ok hN nd hsc hK hc st hf n es ts e1 (fun i hi => hs i (by simpa [slotsT] using hi))
      exact tg_tup hK hc h1 h2 (assignE_len es X.env) h3
theorem trTs_ok (hN : X.N = tc.N) (nd : tc.N.Nodup) (hsc : X.env.scope = tc.sc) (hK : X.K = Z.K) (hc : X.calm = true) {S : List Nat} (st : StOk X S) (hf : ∀ i, tc.res i = false → i ∈ S → FreeS c i) : ∀ (n : Nat) (es : List Expr) (ts : List T), trTs n tc es = some ts → (∀ i ∈ slotsTs ts, i ∈ S) → PGs X es (TGrs Z c ts) ∧ ts.length = es.length ∧ (assignEach es X.env).findIdx? (·.1) = none
  | 0, _, _, h, _ => by simp [trTs] at h
  | n + 1, [], ts, h, _ => by simp [trTs] at h; subst h; exact ⟨tg_nil, rfl, rfl⟩
  | n + 1, e :: es, ts, h, hs => by
    simp only [trTs] at h
    cases h1 : trT n tc e with
    | none => rw [h1] at h; simp at h
    | some t =>
      cases h2 : trTs n tc es with
      | none => rw [h1, h2] at h; simp at h
      | some ts' =>
        rw [h1, h2] at h
        dsimp only at h
        cases h
        have g1 := trT_ok hN nd hsc hK hc st hf n e t h1 (fun i hi => hs i (by simp [slotsTs, hi]))
        obtain ⟨g2, g3, g4⟩ := trTs_ok hN nd hsc hK hc st hf n es ts' h2 (fun i hi => hs i (by simp [slotsTs, hi]))
        have ns : ∀ z p, e ≠ .Starred z p := fun z p ez => by
          subst ez
          cases n <;> simp [trT] at h1
        have e1 : assignEach (e :: es) X.env = (false, assign e X.env) :: assignEach es X.env := by
          cases e <;> first | rfl | exact absurd rfl (ns _ _)
        refine ⟨tg_cons g1 g2 (by rw [e1]; rfl), by simp [g3], ?_⟩
        rw [e1, List.findIdx?_cons]
        simp [g4]
end
end
end BF

/-! Snd21 -/
set_option Elab.async false
set_option linter.all false
set_option maxRecDepth 100000
set_option maxHeartbeats 4000000
namespace BF
open PySem L2

section
variable {bb : Bool} {X : Cx} {Z : Wd} {tc : Tc} {l : Lv} {c : Pl} {W : WX} {k n : Nat}
theorem noStarT_eq : noStarT = notStar := by funext e; cases e <;> rfl
theorem notSet_fold {it : Expr} {env : Env} (h : notSet it = true) : ∀ x, foldedSetIterable it env x = pure x := by
  intro x
  cases it <;> first | rfl | (simp [notSet] at h)
theorem tr_star {e : Expr} {p : Pos} : ∀ n, tr n tc (.Starred e p) = .bad
  | 0 => rfl
  | _ + 1 => rfl
theorem star_or (e : Expr) : notStar e = true ∨ ∃ z p, e = .Starred z p := by
  cases e <;> first | exact .inl rfl | exact .inr ⟨_, _, rfl⟩
/-! ### lists -/
theorem step_es (S : SE bb Z n) (o : Ok bb X Z tc l c W k) : ∀ es, PA X es (TAe Z c W (evs (trs (n + 1) tc es) l))
  | [] => s_nil
  | e :: es => by
    show PA X (e :: es) (TAe Z c W (evs (.cons (tr n tc e) (trs n tc es)) l))
    rcases star_or e with h | ⟨z, p, rfl⟩
    · exact s_cons (S.o o e).pe (S.es o es) (star_cons h)
    · rw [tr_star]
      exact .none fun σ H Q ⟨O, σd, _, q⟩ => q
theorem step_bs (S : SE bb Z n) (o : Ok bb X Z tc l c W k) : ∀ es, es.all notStar = true → Oas X Z c W l es (trs (n + 1) tc es)
  | [], _ => ⟨s_nilL, trivial⟩
  | e :: es, h => by
    rw [List.all_cons, Bool.and_eq_true] at h
    have ih := S.bs o es h.2
    refine ⟨s_consL ?_ ih.pa (star_cons h.1), (S.o o e).rvIn, ih.rv⟩
    rcases (S.o o e).at_ with q | ⟨i, e1, e2, _⟩
    · exact .inl q
    · exact .inr ⟨i, e1, e2⟩
theorem Ok.lock (o : Ok bb X Z tc l c W k) (p : Addr) : Ok bb X Z tc l (lk c p) W k where
  K := o.K
  N := o.N
  nd := o.nd
  sc := o.sc
  own := o.own
  bor := o.bor
  hold := o.hold
  lown := o.lown
  tk := o.tk
  un := o.un
  calm := o.calm
  hot := o.hot
  fns := o.fns
  con := o.con
  blt := o.blt
  exc := o.exc
  call := o.call
  call2 := o.call2
  lam := o.lam
  lb := o.lb
  gb := o.gb
  defs := o.defs
  hd := o.hd
theorem step_eo (S : SE bb Z n) (o : Ok bb X Z tc l c W k) : ∀ es, EsOk X Z c W l es (trs (n + 1) tc es)
  | [] => trivial
  | e :: es => ⟨fun p => (S.o (o.lock p) e).pe, .inl (S.eo o es)⟩
/-! ### and, or -/
theorem step_b (S : SE bb Z n) (o : Ok bb X Z tc l c W k) : ∀ op vs pos, Opd X Z c W l (.BoolOp op vs pos) (trB (n + 1) tc op vs) ∧ PW X (.BoolOp op vs pos) (TTe Z c W (testF (trB (n + 1) tc op vs) l)) ∧ (freshE (frOf l.tb) (trB (n + 1) tc op vs) = true → PE X (.BoolOp op vs pos) (TFe Z c W (ev (trB (n + 1) tc op vs) l)))
  | op, [], pos => ⟨opd_bad, ⟨fun _ pins s σ H Q I ⟨O, σd, _, q⟩ => q.elim⟩, fun h => by cases h⟩
  | op, [a], pos => by
    refine ⟨⟨?_⟩, ?_, fun h => pe_one (S.f o a h)⟩
    · rcases (S.o o a).at_ with ⟨h1, h2⟩ | ⟨i, h1, h2, h3⟩
      · exact .inl ⟨h1, pe_one h2⟩
      · exact .inr ⟨i, h1, pe_one h2, h3⟩
    · cases op
      · exact pw_and1 (S.t o a)
      · exact pw_or1 (S.t o a)
  | op, a :: b :: r, pos => by
    cases op
    · exact ⟨.of rfl (pe_of_and o.K (S.o o a).pe (S.b o .And (b :: r) pos).1.pe), pw_of_and (S.t o a) (S.b o .And (b :: r) pos).2.1, fun h => by cases h⟩
    · exact ⟨.of rfl (pe_of_or o.K (S.o o a).pe (S.b o .Or (b :: r) pos).1.pe), pw_of_or (S.t o a) (S.b o .Or (b :: r) pos).2.1, fun h => by cases h⟩
/-! ### iterables -/
theorem trT_tup {m : Nat} {tc' : Tc} {tg : Expr} {ts : List T} (h : trT m tc' tg = some (.tup ts)) : ∃ es kk p, tg = .Tuple es kk p := by
  cases m with
  | zero => simp [trT] at h
  | succ m =>
    cases tg <;> simp only [trT] at h <;> first | (cases h; done) | skip
    · split at h
      · split at h
        · split at h <;> simp at h
        · cases h
      · cases h
    · exact ⟨_, _, _, rfl⟩
theorem blt_mem {x : Str} (o : Ok bb X Z tc l c W k) (h : x ∈ bltN) : X.mg x = none := o.blt x h
theorem all1 {a : Expr} (h : [a].all notStar = true) : notStar a = true := by simpa using h
theorem all2 {a b : Expr} (h : [a, b].all notStar = true) : notStar a = true ∧ notStar b = true := by simpa using h
theorem all3 {a b d : Expr} (h : [a, b, d].all notStar = true) : notStar a = true ∧ notStar b = true ∧ notStar d = true := by simpa using h
theorem mkI_ok (o : Ok bb X Z tc l c W k) {g : Expr → E} (hg : ∀ e, PE X e (TEe Z c W (tP Z) (ev (g e) l))) {m : Nat} {tc' : Tc} {tg : Expr} {tt : T} {h : Bool} (e : Expr) (ht : trT m tc' tg = some tt) : ∀ i, mkI tc e g = i → fitI h i tt = true → PI X tg e (TIe Z c W (evi i l)) := by
  intro i hi hf
  have dflt : PI X tg e (TIe Z c W (evi (.val (g e)) l)) := i_val o.K (hg e)
  unfold mkI at hi
  split at hi
  · rename_i x np as p
    split at hi
    · rename_i hs
      rw [noStarT_eq] at hs
      split at hi
      · rename_i hx
        simp only [Bool.and_eq_true, decide_eq_true_eq] at hx
        obtain ⟨rfl, hgl⟩ := hx
        unfold mkR at hi
        split at hi <;> subst hi
        · exact i_rng1 (o.gl hgl) (o.blt "range" (by simp [bltN])) (hg _) (all1 hs)
        · exact i_rng2 (o.gl hgl) (o.blt "range" (by simp [bltN])) (hg _) (hg _) (all2 hs).1 (all2 hs).2
        · exact i_rng3 (o.gl hgl) (o.blt "range" (by simp [bltN])) (hg _) (hg _) (hg _) (all3 hs).1 (all3 hs).2.1 (all3 hs).2.2
        · exact pi_bad fun _ => rfl
      · split at hi
        · rename_i hx
          simp only [Bool.and_eq_true, decide_eq_true_eq] at hx
          obtain ⟨rfl, hgl⟩ := hx
          unfold mkN at hi
          split at hi <;> subst hi
          · cases tt with
            | var i => simp [fitI] at hf
            | tup ts =>
              obtain ⟨es, kk, p', rfl⟩ := trT_tup ht
              exact i_enum o.K (o.gl hgl) (o.blt "enumerate" (by simp [bltN])) (hg _) (all1 hs)
          · exact pi_bad fun _ => rfl
        · split at hi
          · rename_i hx
            simp only [Bool.and_eq_true, decide_eq_true_eq] at hx
            obtain ⟨rfl, hgl⟩ := hx
            unfold mkZ at hi
            split at hi <;> subst hi
            · cases tt with
              | var i => simp [fitI] at hf
              | tup ts =>
                obtain ⟨es, kk, p', rfl⟩ := trT_tup ht
                exact i_zip o.K (o.gl hgl) (o.blt "zip" (by simp [bltN])) (hg _) (hg _) (all2 hs).1 (all2 hs).2
            · exact pi_bad fun _ => rfl
          · subst hi; exact dflt
    · subst hi; exact pi_bad fun _ => rfl
  · split at hi <;> subst hi
    · exact i_lst o.K (hg e)
    · exact dflt
theorem mkI_val {g : Expr → E} {e : Expr} {kv : E} (h : mkI tc e g = .lst kv) : kv = g e := by
  unfold mkI at h
  split at h
  · split at h
    · split at h
      · unfold mkR at h; split at h <;> cases h
      · split at h
        · unfold mkN at h; split at h <;> cases h
        · split at h
          · unfold mkZ at h; split at h <;> cases h
          · cases h
    · cases h
  · split at h <;> cases h
    rfl
theorem step_i (S : SE bb Z n) (o : Ok bb X Z tc l c W k) {m : Nat} {tc' : Tc} {tg : Expr} {tt : T} {h : Bool} (e : Expr) (ht : trT m tc' tg = some tt) (hf : fitI h (trI (n + 1) tc e) tt = true) : PI X tg e (TIe Z c W (evi (trI (n + 1) tc e) l)) :=
  mkI_ok o (fun e => (S.o o e).pe) e ht _ rfl hf
theorem step_iv (S : SE bb Z n) (o : Ok bb X Z tc l c W k) (e : Expr) (kv : E) (h : trI (n + 1) tc e = .lst kv) : PE X e (TEe Z c W (tP Z) (ev kv l)) := by
  rw [mkI_val (show mkI tc e (tr n tc) = .lst kv from h)]
  exact (S.o o e).pe
/-! ### methods -/
theorem mkMeth_ok (o : Ok bb X Z tc l c W k) {g : Expr → E} (hg : ∀ e, Opd X Z c W l e (g e)) (ob : Expr) (m : Str) (as : List Expr) (ap pos : Pos) (hl : (ap.endLine == pos.line) = true) : ∀ i, mkMeth tc ob m as g = i → Opd X Z c W l (.Call (.Attribute ob m ap) as [] pos) i ∧ freshE (frOf l.tb) i = false := by
  intro i hi
  have own_ : ∀ {j : Nat}, tc.own.contains j = true → j ∈ c.own := fun h => by rw [o.own]; exact List.contains_iff_mem.mp h
  unfold mkMeth at hi
  split at hi
  · rename_i hs
    rw [noStarT_eq] at hs
    split at hi
    · rename_i hm; subst hm
      split at hi
      · rename_i x np
        split at hi
        · rename_i hx
          simp only [Bool.and_eq_true] at hx
          split at hi
          · rename_i j hj
            split at hi
            · rename_i hw
              split at hi <;> subst hi
              · exact ⟨.of rfl (pe_append (own_ hw) (o.var hx.1 hx.2 hj) (hg _).pe (all1 hs) hl), rfl⟩
              · exact ⟨opd_bad, rfl⟩
            · subst hi; exact ⟨opd_bad, rfl⟩
          · subst hi; exact ⟨opd_bad, rfl⟩
        · subst hi; exact ⟨opd_bad, rfl⟩
      · subst hi; exact ⟨opd_bad, rfl⟩
    · split at hi
      · rename_i hm; subst hm
        split at hi
        · rename_i x np
          split at hi
          · rename_i hx
            simp only [Bool.and_eq_true] at hx
            split at hi
            · rename_i j hj
              split at hi
              · rename_i hw
                split at hi <;> subst hi
                · exact ⟨.of rfl (pe_pop0 (own_ hw) (o.var hx.1 hx.2 hj) hl), rfl⟩
                · exact ⟨.of rfl (pe_pop1 (own_ hw) (o.var hx.1 hx.2 hj) (hg _).pe (all1 hs) hl), rfl⟩
                · exact ⟨opd_bad, rfl⟩
              · subst hi; exact ⟨opd_bad, rfl⟩
            · subst hi; exact ⟨opd_bad, rfl⟩
          · subst hi; exact ⟨opd_bad, rfl⟩
        · subst hi; exact ⟨opd_bad, rfl⟩
      · split at hi
        · rename_i hm; subst hm
          split at hi
          · split at hi <;> subst hi
            · exact ⟨.of rfl (pe_of_join o.K (hg _).pe (hg _) (all1 hs) rfl hl), rfl⟩
            · exact ⟨opd_bad, rfl⟩
          · subst hi; exact ⟨opd_bad, rfl⟩
        · split at hi
          · subst hi; exact ⟨opd_bad, rfl⟩
          · rename_i hnb
            have hb : notBase ob = true := by
              cases h : notBase ob with
              | true => rfl
              | false => rw [h] at hnb; simp at hnb
            split at hi
            · rename_i hm; subst hm
              split at hi <;> subst hi
              · exact ⟨.of rfl (pe_of_index o.K o.un (hg _) (hg _).pe (all1 hs) hb hl), rfl⟩
              · exact ⟨opd_bad, rfl⟩
            · split at hi
              · rename_i hm; subst hm
                split at hi <;> subst hi
                · exact ⟨.of rfl (pe_of_count o.K (hg _) (hg _).pe (all1 hs) hb hl), rfl⟩
                · exact ⟨opd_bad, rfl⟩
              · split at hi
                · rename_i hm; subst hm
                  split at hi <;> subst hi
                  · exact ⟨opd_bad, rfl⟩
                  · exact ⟨.of rfl (pe_of_get2 o.K o.un (hg _) (hg _).pe (hg _).pe (all2 hs).1 (all2 hs).2 hb hl), rfl⟩
                  · exact ⟨opd_bad, rfl⟩
                · subst hi; exact ⟨opd_bad, rfl⟩
  · subst hi; exact ⟨opd_bad, rfl⟩
end
end BF

/-! Snd22 -/
set_option Elab.async false
set_option linter.all false
set_option maxRecDepth 100000
set_option maxHeartbeats 4000000
namespace BF
open PySem L2

section
variable {bb : Bool} {X : Cx} {Z : Wd} {tc : Tc} {l : Lv} {c : Pl} {W : WX} {k n : Nat}
/-- a call of the function that the name means -/
theorem pe_callV {f : Value} {r : List V → Hp → VK → Prop} {x : Str} {p pos : Pos} {e : Expr} {es : List Expr} {t : TA} (hc : CallR X f r) (hv : bootBuiltins x = some f) (hf : (∃ id, f = .builtin id) ∨ ∃ T, f = .type T) (hg : Gl X x) (hm : X.mg x = none) (hn : x ≠ "__name__") (hdb : (x == ("__debug__" : Str)) = false) (hs : (e :: es).all notStar = true) (ha : PA X (e :: es) t) :
    PE X (.Call (.Name x p) (e :: es) [] pos) (tCB r t) := by
  rw [List.all_cons, Bool.and_eq_true] at hs
  rcases hf with ⟨id, rfl⟩ | ⟨T, rfl⟩
  · exact pe_callB hc hg hm hv ha hn hdb (star_cons hs.1) (star_any hs.2)
  · exact pe_callTy hc hg hm hv ha hn hdb (star_cons hs.1) (star_any hs.2)
theorem bi1_f {x : Str} {b : Bi} (h : bi1 x = some b) : ∃ f, bV b = some f ∧ bootBuiltins x = some f ∧ ((∃ id, f = .builtin id) ∨ ∃ T, f = .type T) ∧ x ∈ bltN ∧ x ≠ "__name__" := by
  unfold bi1 at h
  repeat' split at h
  all_goals first
    | (cases h; done)
    | (rename_i e; cases h; subst e; exact ⟨_, rfl, by rfl, by first | exact .inl ⟨_, rfl⟩ | exact .inr ⟨_, rfl⟩, by simp [bltN], by decide⟩)
theorem bi2_f {x : Str} {b : Bi} (h : bi2 x = some b) : ∃ f, bV b = some f ∧ bootBuiltins x = some f ∧ ((∃ id, f = .builtin id) ∨ ∃ T, f = .type T) ∧ x ∈ bltN ∧ x ≠ "__name__" := by
  unfold bi2 at h
  repeat' split at h
  all_goals first
    | (cases h; done)
    | (rename_i e; cases h; subst e; exact ⟨_, rfl, by rfl, by first | exact .inl ⟨_, rfl⟩ | exact .inr ⟨_, rfl⟩, by simp [bltN], by decide⟩)
theorem isT_f {y : Str} {b : Bi} (h : isT y = some b) : ∃ T, isB b = some T ∧ bootBuiltins y = some (.type T) ∧ y ∈ bltN ∧ y ≠ "__name__" := by
  unfold isT at h
  repeat' split at h
  all_goals first
    | (cases h; done)
    | (rename_i e; cases h; subst e; exact ⟨_, rfl, by rfl, by simp [bltN], by decide⟩)
theorem s_blt (o : Ok bb X Z tc l c W k) (hc : X.calm = true) {x : Str} {b : Bi} {f : Value} {e : Expr} {es : List Expr} {ks : Es} {p pos : Pos} (h : bV b = some f ∧ bootBuiltins x = some f ∧ ((∃ id, f = .builtin id) ∨ ∃ T, f = .type T) ∧ x ∈ bltN ∧ x ≠ "__name__") (hg : Gl X x) (hdb : (x == ("__debug__" : Str)) = false) (hs : (e :: es).all notStar = true)
    (ha : Oas X Z c W l (e :: es) ks) : PE X (.Call (.Name x p) (e :: es) [] pos) (TFe Z c W (ev (.bi b ks) l)) :=
  s_bi ha (fun t ht => pe_callV (callR_b hc h.1) h.2.1 h.2.2.1 hg (o.blt x h.2.2.2.1) h.2.2.2.2 hdb hs ht) fun O σd σ H0 H xs vs d Q r hb0 ra e q => b_ok o.K r hb0 ra e (by rw [h.1]; rfl) q
/-- isinstance of the error that a suite holds -/
theorem pe_isx (o : Ok bb X Z tc l c W k) {i j : Nat} {z y : Str} {zp yp p pos : Pos} (hh : tc.hld = some i) (hx : tc.hx = true) (hz : okNm z = true) (hv : tc.vis z = true) (hs : tc.slot z = some i) (hy : okNm y = true) (hgy : tc.glob y = true) (he : slotGo y tc.excs 0 = some j) (hg : Gl X "isinstance") :
    PE X (.Call (.Name "isinstance" p) [.Name z zp, .Name y yp] [] pos) (TEe Z c W (tP Z) (ev (.isx i j) l)) := by
  obtain ⟨_, a, k', h1, h2, h3, h4⟩ := o.hot i hh hx
  refine (pe_callB h3 hg (o.blt "isinstance" (by simp [bltN])) (by rfl) (pa_cons (o.var hz hv hs) (pa_cons (pe_glob (o.gl hgy) (o.exc y j he).mg (v := .ref (Z.cad j)) rfl (okNm_1 hy).1) pa_nil rfl) rfl) (by decide) (by decide) rfl rfl).weak fun σ H Q ⟨O, σd, hr, hgo⟩ => ?_
  have e : ev (.isx i j) l σd = .ok (.bl (l.sub k' j), σd) := by unfold ev; rw [h2]
  rw [e] at hgo
  exact ⟨_, hr.hold i _ h1, _, .ref (Z.cad j), _, rfl, fun u ru => ru, h4 y j he, hgo.ok hr KeepE.refl _ (.bl _)⟩
theorem mkLof_ok (o : Ok bb X Z tc l c W k) {g : Expr → E} (hg : ∀ e, Opd X Z c W l e (g e)) (hc : X.calm = true) (x : Str) (a : Expr) (p pos : Pos) (hgl : tc.glob x = true) : ∀ i, mkLof tc x a g = some i →
    Opd X Z c W l (.Call (.Name x p) [a] [] pos) i ∧ (freshE (frOf l.tb) i = true → PE X (.Call (.Name x p) [a] [] pos) (TFe Z c W (ev i l))) := by
  intro i hi
  have bad_ : Opd X Z c W l (.Call (.Name x p) [a] [] pos) .bad ∧ (freshE (frOf l.tb) .bad = true → PE X (.Call (.Name x p) [a] [] pos) (TFe Z c W (ev .bad l))) := ⟨opd_bad, fun h => by cases h⟩
  have bm : ∀ y, y ∈ bltN → X.mg y = none := fun y h => o.blt y h
  unfold mkLof at hi
  split at hi
  · rename_i y py as pos2
    split at hi
    · rename_i h1
      simp only [Bool.and_eq_true] at h1
      obtain ⟨⟨hgy, hst⟩, hny⟩ := h1
      rw [noStarT_eq] at hst
      split at hi
      · rename_i h2
        simp only [Bool.and_eq_true, Bool.or_eq_true, decide_eq_true_eq] at h2
        obtain ⟨rfl, hx⟩ := h2
        split at hi
        · cases hi
          rcases hx with rfl | rfl
          · have := pe_of_lrg1 (p := p) (q := py) (pos := pos) (pos2 := pos2) hc (o.gl hgl) (bm "list" (by simp [bltN])) (o.gl hgy) (bm "range" (by simp [bltN])) (hg _).pe (all1 hst)
            exact ⟨.of rfl this.ofF, fun _ => this⟩
          · have := pe_of_trg1 (p := p) (q := py) (pos := pos) (pos2 := pos2) hc (o.gl hgl) (bm "tuple" (by simp [bltN])) (o.gl hgy) (bm "range" (by simp [bltN])) (hg _).pe (all1 hst)
            exact ⟨.of rfl this.ofF, fun _ => this⟩
        · cases hi
          rcases hx with rfl | rfl
          · have := pe_of_lrg2 (p := p) (q := py) (pos := pos) (pos2 := pos2) hc (o.gl hgl) (bm "list" (by simp [bltN])) (o.gl hgy) (bm "range" (by simp [bltN])) (hg _).pe (hg _).pe (all2 hst).1 (all2 hst).2
            exact ⟨.of rfl this.ofF, fun _ => this⟩
          · have := pe_of_trg2 (p := p) (q := py) (pos := pos) (pos2 := pos2) hc (o.gl hgl) (bm "tuple" (by simp [bltN])) (o.gl hgy) (bm "range" (by simp [bltN])) (hg _).pe (hg _).pe (all2 hst).1 (all2 hst).2
            exact ⟨.of rfl this.ofF, fun _ => this⟩
        · cases hi; exact bad_
      · split at hi
        · rename_i h2
          simp only [Bool.and_eq_true, decide_eq_true_eq] at h2
          obtain ⟨rfl, rfl⟩ := h2
          split at hi
          · cases hi
            have := pe_of_lzip (p := p) (q := py) (pos := pos) (pos2 := pos2) o.K hc (o.gl hgl) (bm "list" (by simp [bltN])) (o.gl hgy) (bm "zip" (by simp [bltN])) (hg _).pe (hg _).pe (all2 hst).1 (all2 hst).2
            exact ⟨.of rfl this.ofF, fun _ => this⟩
          · cases hi; exact bad_
        · cases hi
    · cases hi
  · rename_i ob m ap pos2
    split at hi
    · rename_i h2
      simp only [Bool.and_eq_true, decide_eq_true_eq] at h2
      obtain ⟨rfl, rfl⟩ := h2
      split at hi
      · rename_i h3
        simp only [Bool.and_eq_true] at h3
        cases hi
        have := pe_of_litems (p := p) (apos := ap) (cpos := pos2) (pos := pos) hc (o.gl hgl) (bm "list" (by simp [bltN])) (hg ob) h3.2 h3.1
        exact ⟨.of rfl this.ofF, fun _ => this⟩
      · cases hi; exact bad_
    · cases hi
  · cases hi
theorem mkBlt_ok (o : Ok bb X Z tc l c W k) {g : Expr → E} {gs : List Expr → Es} (hg : ∀ e, Opd X Z c W l e (g e)) (hgs : ∀ es, es.all notStar = true → Oas X Z c W l es (gs es)) (x : Str) (as : List Expr) (p pos : Pos) (hn : okNm x = true) (hgl : tc.glob x = true) (hs : as.all notStar = true) :
    ∀ i, mkBlt tc x as g gs = i → Opd X Z c W l (.Call (.Name x p) as [] pos) i ∧ (freshE (frOf l.tb) i = true → PE X (.Call (.Name x p) as [] pos) (TFe Z c W (ev i l))) := by
  intro i hi
  have bad_ : Opd X Z c W l (.Call (.Name x p) as [] pos) .bad ∧ (freshE (frOf l.tb) .bad = true → PE X (.Call (.Name x p) as [] pos) (TFe Z c W (ev .bad l))) := ⟨opd_bad, fun h => by cases h⟩
  have hdb := (okNm_1 hn).1
  unfold mkBlt at hi
  split at hi
  · rename_i a
    split at hi
    · subst hi; exact bad_
    · rename_i hh
      have hc : X.calm = true := (o.calm (by simpa using hh)).1
      split at hi
      · rename_i e he
        subst hi
        exact mkLof_ok o hg hc x a p pos hgl e he
      · split at hi
        · rename_i b hb
          subst hi
          obtain ⟨f, hf⟩ := bi1_f hb
          have := s_blt (p := p) (pos := pos) o hc hf (o.gl hgl) hdb hs (hgs [a] hs)
          exact ⟨.of rfl this.ofF, fun _ => this⟩
        · subst hi; exact bad_
  · rename_i a b
    split at hi
    · rename_i hx
      subst hx
      split at hi
      · rename_i y yp
        split at hi
        · rename_i hy
          simp only [Bool.and_eq_true] at hy
          split at hi
          · rename_i j hj
            split at hi
            · rename_i z zp
              split at hi
              · rename_i hz
                simp only [Bool.and_eq_true] at hz
                split at hi
                · rename_i q hq
                  split at hi
                  · rename_i hw
                    simp only [Bool.and_eq_true, decide_eq_true_eq] at hw
                    subst hi
                    exact ⟨.of rfl (pe_isx o hw.1 hw.2 hz.1 hz.2 hq hy.1 hy.2 hj (o.gl hgl)), fun h => by cases h⟩
                  · subst hi; exact bad_
                · subst hi; exact bad_
              · subst hi; exact bad_
            · subst hi; exact bad_
          · split at hi
            · rename_i t ht
              subst hi
              obtain ⟨T, h1, h2, h3, h4⟩ := isT_f ht
              have ns := (all2 hs).1
              refine ⟨.of rfl (s_isi o.K h1 (hg a) (pe_bltn (o.gl hy.2) (o.blt y h3) h2 rfl h4 (okNm_1 hy.1).1) ns fun t' ht' => pe_callB call_isi (o.gl hgl) (o.blt "isinstance" (by simp [bltN])) (by rfl) ht' (by decide) (by decide) (star_cons ns) rfl), fun h => ?_⟩
              cases t <;> first | (cases h; done) | (simp [isB] at h1)
            · subst hi; exact bad_
        · subst hi; exact bad_
      · subst hi; exact bad_
    · split at hi
      · subst hi; exact bad_
      · rename_i hh
        have hc : X.calm = true := (o.calm (by simpa using hh)).1
        split at hi
        · rename_i q hq
          subst hi
          obtain ⟨f, hf⟩ := bi2_f hq
          have := s_blt (p := p) (pos := pos) o hc hf (o.gl hgl) hdb hs (hgs [a, b] hs)
          exact ⟨.of rfl this.ofF, fun _ => this⟩
        · subst hi; exact bad_
  · subst hi; exact bad_
end
end BF

/-! Snd23 -/
set_option Elab.async false
set_option linter.all false
set_option maxRecDepth 100000
set_option maxHeartbeats 4000000
namespace BF
open PySem L2

section
variable {bb : Bool} {X : Cx} {Z : Wd} {tc : Tc} {l : Lv} {c : Pl} {W : WX} {k n : Nat}
theorem isLam_eq {as : List Expr} {ps : Arguments} {b : Expr} {sc : Scope} (h : isLam as = some (ps, b, sc)) : ∃ p, as = [.Lambda ps b sc p] := by
  unfold isLam at h
  split at h
  · cases h; exact ⟨_, rfl⟩
  · cases h
theorem mkCall_ok (hL : LamH bb Z) (o : Ok bb X Z tc l c W k) {g : Expr → E} {gs : List Expr → Es} {gl : Scope → Expr → E} (hg : ∀ e, Opd X Z c W l e (g e)) (hgs : ∀ es, es.all notStar = true → Oas X Z c W l es (gs es)) (hz : gs [] = .nil ∨ ∀ σ, evbs (gs []) l σ = .bad)
    (hgl : ∀ {sc : Scope} {b : Expr} {X' : Cx} {l' : Lv} {c' : Pl} {W' : WX} {k' : Nat}, Ok bb X' Z { tc with sc := sc, own := [], bor := tc.own ++ tc.bor, hld := none, hx := false, lm := false } l' c' W' k' → PE X' b (TEe Z c' W' (tP Z) (ev (gl sc b) l')))
    (x : Str) (as : List Expr) (p pos : Pos) : ∀ i, mkCall tc x as g gs gl = i → Opd X Z c W l (.Call (.Name x p) as [] pos) i ∧ (freshE (frOf l.tb) i = true → PE X (.Call (.Name x p) as [] pos) (TFe Z c W (ev i l))) := by
  intro i hi
  have bad_ : Opd X Z c W l (.Call (.Name x p) as [] pos) .bad ∧ (freshE (frOf l.tb) .bad = true → PE X (.Call (.Name x p) as [] pos) (TFe Z c W (ev .bad l))) := ⟨opd_bad, fun h => by cases h⟩
  unfold mkCall at hi
  split at hi
  · rename_i hx
    simp only [Bool.and_eq_true] at hx
    obtain ⟨hn, hs⟩ := hx
    rw [noStarT_eq] at hs
    have hdb := (okNm_1 hn).1
    split at hi
    · rename_i hv
      split at hi
      · rename_i j hj
        split at hi
        · subst hi; exact bad_
        · rename_i hr
          simp only [Bool.or_eq_true, not_or, Bool.not_eq_true] at hr
          obtain ⟨f1, f2, _⟩ := res_no hr.1 o
          have hh : tc.hld = none := by simpa using hr.2
          split at hi <;> subst hi
          · exact ⟨.of rfl (pe_bad fun _ => rfl), fun h => by cases h⟩
          · rename_i a r
            exact ⟨.of rfl (pe_of_cal (fun f fd h => o.call f fd h) (o.calm hh).2.1 (o.at_ hj) (o.vis hv) f1 f2 o.tk (hgs _ hs) hs hdb (okNm_1 hn).2), fun h => by cases h⟩
      · subst hi; exact bad_
    · split at hi
      · rename_i hgl'
        split at hi
        · rename_i f hf
          split at hi
          · subst hi; exact bad_
          · rename_i hh
            have hh : tc.hld = none := by simpa using hh
            split at hi
            · rename_i ps b sc hlm
              obtain ⟨lp, rfl⟩ := isLam_eq hlm
              split at hi
              · rename_i hc
                simp only [Bool.and_eq_true] at hc
                subst hi
                exact ⟨.of rfl (hL o hh hn hgl' hf hc.1.1 hc.1.2 hc.2 hgl), fun h => by cases h⟩
              · subst hi; exact bad_
            · subst hi
              have hsub : ∀ i ∈ l.own, i ∈ c.own := fun i h => by rw [o.own, ← o.lown]; exact h
              cases hfd : l.tb[f]? with
              | none =>
                have e : ∀ σ, ev (.call f (gs as)) l σ = .bad := fun σ => by unfold ev; rw [hfd]
                exact ⟨.of rfl (pe_bad e), fun _ => pf_bad e⟩
              | some fd =>
                have := pe_of_call (p := p) (pos := pos) (o.call f fd hfd) hfd (o.calm hh).2.1 (o.gl hgl') (o.fns x f hf) o.tk (hgs as hs) (fun e => by rw [e]; exact hz) hsub hs hdb
                refine ⟨.of rfl this.ofG, fun h => ?_⟩
                have h : frOf l.tb f = true := h
                unfold frOf at h
                rw [hfd] at h
                have h : fd.fresh = true := h
                rw [h] at this
                exact this.ofGF
        · exact mkBlt_ok o hg hgs x as p pos hn hgl' hs i hi
      · subst hi; exact bad_
  · subst hi; exact bad_
/-! ### comprehensions -/
theorem bool_of {p : Prop} [Decidable p] : (decide p = true) = p := by simp
theorem mkLc_ok (hH : HotH bb Z) (o : Ok bb X Z tc l c W k) {gt : Tc → Expr → Option T} {ge : Tc → E} {gi : Expr → I} {gc : Tc → Expr → E} {elt : Expr} {m : Nat} (hgt : gt = trT m)
    (hge : ∀ {X' : Cx} {tc' : Tc} {l' : Lv} {c' : Pl} {W' : WX} {k' : Nat}, Ok bb X' Z tc' l' c' W' k' → PE X' elt (TEe Z c' W' (tP Z) (ev (ge tc') l')))
    (hgi : ∀ {m : Nat} {tc' : Tc} {tg : Expr} {tt : T} {h : Bool} (e : Expr), trT m tc' tg = some tt → fitI h (gi e) tt = true → PI X tg e (TIe Z c W (evi (gi e) l)))
    (hgv : ∀ (e : Expr) (kv : E), gi e = .lst kv → PE X e (TEe Z c W (tP Z) (ev kv l)))
    (hgc : ∀ {X' : Cx} {tc' : Tc} {l' : Lv} {c' : Pl} {W' : WX} {k' : Nat}, Ok bb X' Z tc' l' c' W' k' → ∀ e, PT X' e (TTe Z c' W' (testF (gc tc' e) l')))
    (gs : List Comprehension) (scope : Scope) (pos : Pos) : ∀ i, mkLc tc gs scope gt ge gi gc = i → PE X (.ListComp elt gs scope pos) (TFe Z c W (ev i l)) := by
  intro i hi
  have bad_ : PE X (.ListComp elt gs scope pos) (TFe Z c W (ev .bad l)) := pf_bad fun _ => rfl
  subst hgt
  unfold mkLc at hi
  split at hi
  · rename_i t it ifs a
    split at hi
    · rename_i h1
      simp only [Bool.and_eq_true, Bool.or_eq_true, decide_eq_true_eq] at h1
      obtain ⟨⟨⟨rfl, hset⟩, hx⟩, hblk⟩ := h1
      split at hi
      · rename_i tt htt
        split at hi
        · rename_i h2
          simp only [Bool.and_eq_true, List.all_eq_true, List.contains_iff_mem, Bool.not_eq_true'] at h2
          obtain ⟨⟨hts, hfr⟩, hfit⟩ := h2
          have ok : BlkOk X.N X.env.scope scope (ownOf tc.N scope.names) := by rw [o.N, o.sc]; exact blkOk_by hblk
          have hf : ∀ v ∈ (ownOf tc.N scope.names).map (·.2), FreeS c v := fun v hv => res_no (hfr v hv) o
          have core : ∀ (cc : Eo), (∀ {X' : Cx} {l' : Lv} {c' : Pl} {W' : WX} {k' : Nat}, Ok bb X' Z { tc with sc := relS scope tc.sc, hx := false } l' c' W' k' → PTs X' ifs (TTe Z c' W' (evc cc l'))) →
              PE X (.ListComp elt [⟨t, it, ifs, 0⟩] scope pos) (TFe Z c W (ev (.lc ((ownOf tc.N scope.names).map (·.2)) (ge { tc with sc := relS scope tc.sc, hx := false }) tt (gi it) cc) l)) := fun cc hcc => by
            have hor : tc.hld = none ∨ ∃ q, tc.hld = some q := by cases tc.hld <;> simp
            rcases hor with hh | ⟨q, hh⟩
            · refine pe_of_lc (o.calm hh).1 (by rw [o.N]; exact o.nd) ok hf hts (hgi it htt hfit) (fun a s H C cl fp => ?_) (fun a s H C cl fp => hcc (o.blk hh a s H scope C cl fp)) (fun a s H C cl fp => hge (o.blk hh a s H scope C cl fp)) (notSet_fold hset)
              have ob := o.blk hh a s H scope C cl fp
              refine trT_ok ob.N ob.nd ob.sc ob.K (o.calm hh).1 (S := (ownOf tc.N scope.names).map (·.2)) (fun x i hi hS lx => ?_) (fun i hi _ => res_no hi ob) m t tt htt hts
              obtain ⟨q, hq, rfl⟩ := List.mem_map.mp hS
              obtain ⟨kk, k1, k2⟩ := mem_ownOf hq
              have e1 := ok.ix q hq
              have e2 : X.N[q.2]? = some x := hi
              rw [e1] at e2
              have e3 : q.1 = x := by simpa using e2
              rw [e3] at k1
              have e4 := ok.uniq _ k1
              rcases k2 with rfl | rfl
              · exact .inr (lookup_relS_keep (by decide) e4)
              · refine .inl ?_
                show (scope.names.lookup x == some .cell) = true
                rw [e4]; rfl
            · have hx' : tc.hx = true := by
                rcases hx with h | h
                · rw [hh] at h; cases h
                · exact h
              rw [hh] at hfit
              cases hv : gi it with
              | lst kv =>
                refine hH o hh hx' ok hf hts (hgv it kv hv) (by rw [hv] at hfit; exact hfit) (fun q hq => mem_ownOf hq) htt (fun o' => hge o') hcc (notSet_fold hset)
              | val _ => rw [hv] at hfit; cases tt <;> simp [fitI] at hfit
              | rng1 _ => rw [hv] at hfit; cases tt <;> simp [fitI] at hfit
              | rng2 _ _ => rw [hv] at hfit; cases tt <;> simp [fitI] at hfit
              | rng3 _ _ _ => rw [hv] at hfit; cases tt <;> simp [fitI] at hfit
              | items _ => rw [hv] at hfit; cases tt <;> simp [fitI] at hfit
              | enum _ => rw [hv] at hfit; cases tt <;> simp [fitI] at hfit
              | zip _ _ => rw [hv] at hfit; cases tt <;> simp [fitI] at hfit
              | bad => rw [hv] at hfit; cases tt <;> simp [fitI] at hfit
          split at hi <;> subst hi
          · refine core .none fun {X' l' c' W' k'} o' => ⟨fun pins s σ H Q I ⟨O, σd, hr, hg⟩ => ?_⟩
            exact pts_nil.run pins s σ H Q I (hg.ok hr KeepE.refl)
          · exact core _ fun o' => pts_one (hgc o' _)
          · exact bad_
        · subst hi; exact bad_
      · subst hi; exact bad_
    · subst hi; exact bad_
  · subst hi; exact bad_
theorem mkLc_ps (o : Ok bb X Z tc l c W k) (hh : tc.hld = none) {y : Str} {py spos : Pos} {j : Nat} (hy : X.N[j]? = some y) (hyl : X.env.scope.names.lookup y = some .local) {gt : Tc → Expr → Option T} {ge : Tc → E} {gi : Expr → I} {gc : Tc → Expr → E} {elt : Expr} {m : Nat} (hgt : gt = trT m)
    (hge : ∀ {X' : Cx} {tc' : Tc} {l' : Lv} {c' : Pl} {W' : WX} {k' : Nat}, Ok bb X' Z tc' l' c' W' k' → PE X' elt (TEe Z c' W' (tP Z) (ev (ge tc') l')))
    (hgi : ∀ {m : Nat} {tc' : Tc} {tg : Expr} {tt : T} {h : Bool} (e : Expr), trT m tc' tg = some tt → fitI h (gi e) tt = true → PI X tg e (TIe Z c W (evi (gi e) l)))
    (hgv : ∀ (e : Expr) (kv : E), gi e = .lst kv → PE X e (TEe Z c W (tP Z) (ev kv l)))
    (hgc : ∀ {X' : Cx} {tc' : Tc} {l' : Lv} {c' : Pl} {W' : WX} {k' : Nat}, Ok bb X' Z tc' l' c' W' k' → ∀ e, PT X' e (TTe Z c' W' (testF (gc tc' e) l')))
    (gs : List Comprehension) (scope : Scope) (pos : Pos) (hsw : swapsWith (.ListComp elt gs scope pos) (some (.Name y py)) spos.line X.env = pure true) : ∀ i, mkLc tc gs scope gt ge gi gc = i → PS X (.Assign [.Name y py] (.ListComp elt gs scope pos) spos) (tAsg (TFe Z c W (ev i l)) (gName j)) := by
  intro i hi
  have bad_ : PS X (.Assign [.Name y py] (.ListComp elt gs scope pos) spos) (tAsg (TFe Z c W (ev .bad l)) (gName j)) := .none fun D σ H ⟨O, σd, _, q⟩ => q
  subst hgt
  unfold mkLc at hi
  split at hi
  · rename_i t it ifs a
    split at hi
    · rename_i h1
      simp only [Bool.and_eq_true, Bool.or_eq_true, decide_eq_true_eq] at h1
      obtain ⟨⟨⟨rfl, hset⟩, hx⟩, hblk⟩ := h1
      split at hi
      · rename_i tt htt
        split at hi
        · rename_i h2
          simp only [Bool.and_eq_true, List.all_eq_true, List.contains_iff_mem, Bool.not_eq_true'] at h2
          obtain ⟨⟨hts, hfr⟩, hfit⟩ := h2
          have ok : BlkOk X.N X.env.scope scope (ownOf tc.N scope.names) := by rw [o.N, o.sc]; exact blkOk_by hblk
          have hf : ∀ v ∈ (ownOf tc.N scope.names).map (·.2), FreeS c v := fun v hv => res_no (hfr v hv) o
          have core : ∀ (cc : Eo), (∀ {X' : Cx} {l' : Lv} {c' : Pl} {W' : WX} {k' : Nat}, Ok bb X' Z { tc with sc := relS scope tc.sc, hx := false } l' c' W' k' → PTs X' ifs (TTe Z c' W' (evc cc l'))) →
              PS X (.Assign [.Name y py] (.ListComp elt [⟨t, it, ifs, 0⟩] scope pos) spos) (tAsg (TFe Z c W (ev (.lc ((ownOf tc.N scope.names).map (·.2)) (ge { tc with sc := relS scope tc.sc, hx := false }) tt (gi it) cc) l)) (gName j)) := fun cc hcc => by
            · refine ps_of_setLc (o.calm hh).1 (by rw [o.N]; exact o.nd) ok hf hts hy hyl hsw (hgi it htt hfit) (fun a s H C cl fp => ?_) (fun a s H C cl fp => hcc (o.blk hh a s H scope C cl fp)) (fun a s H C cl fp => hge (o.blk hh a s H scope C cl fp)) (notSet_fold hset)
              have ob := o.blk hh a s H scope C cl fp
              refine trT_ok ob.N ob.nd ob.sc ob.K (o.calm hh).1 (S := (ownOf tc.N scope.names).map (·.2)) (fun x i hi hS lx => ?_) (fun i hi _ => res_no hi ob) m t tt htt hts
              obtain ⟨q, hq, rfl⟩ := List.mem_map.mp hS
              obtain ⟨kk, k1, k2⟩ := mem_ownOf hq
              have e1 := ok.ix q hq
              have e2 : X.N[q.2]? = some x := hi
              rw [e1] at e2
              have e3 : q.1 = x := by simpa using e2
              rw [e3] at k1
              have e4 := ok.uniq _ k1
              rcases k2 with rfl | rfl
              · exact .inr (lookup_relS_keep (by decide) e4)
              · refine .inl ?_
                show (scope.names.lookup x == some .cell) = true
                rw [e4]; rfl
          split at hi <;> subst hi
          · refine core .none fun {X' l' c' W' k'} o' => ⟨fun pins s σ H Q I ⟨O, σd, hr, hg⟩ => ?_⟩
            exact pts_nil.run pins s σ H Q I (hg.ok hr KeepE.refl)
          · exact core _ fun o' => pts_one (hgc o' _)
          · exact bad_
        · subst hi; exact bad_
      · subst hi; exact bad_
    · subst hi; exact bad_
  · subst hi; exact bad_
end
end BF

/-! Snd24 -/
set_option Elab.async false
set_option linter.all false
set_option maxRecDepth 100000
set_option maxHeartbeats 4000000
namespace BF
open PySem L2

section
variable {bb : Bool} {X : Cx} {Z : Wd} {tc : Tc} {l : Lv} {c : Pl} {W : WX} {k n : Nat}
theorem cm_map (op : CmpOp) : mapCm (cm op) = op := by cases op <;> rfl
theorem step_c (hL : LamH bb Z) (S : SE bb Z n) (o : Ok bb X Z tc l c W k) (x : Str) (as : List Expr) (p pos : Pos) : Opd X Z c W l (.Call (.Name x p) as [] pos) (trCall (n + 1) tc x as) ∧ (freshE (frOf l.tb) (trCall (n + 1) tc x as) = true → PE X (.Call (.Name x p) as [] pos) (TFe Z c W (ev (trCall (n + 1) tc x as) l))) :=
  mkCall_ok hL o (fun e => S.o o e) (fun es h => S.bs o es h) S.bz (fun {sc b X' l' c' W' k'} o' => (S.o o' b).pe) x as p pos _ rfl
theorem step_lc (hH : HotH bb Z) (S : SE bb Z n) (o : Ok bb X Z tc l c W k) (elt : Expr) (gs : List Comprehension) (scope : Scope) (pos : Pos) : PE X (.ListComp elt gs scope pos) (TFe Z c W (ev (tr (n + 1) tc (.ListComp elt gs scope pos)) l)) :=
  mkLc_ok hH o (m := n) rfl (fun o' => (S.o o' elt).pe) (fun e h1 h2 => S.i o e h1 h2) (fun e kv h => S.iv o e kv h) (fun o' e => S.t o' e) gs scope pos _ rfl
/-- the value of each form -/
theorem step_o (hL : LamH bb Z) (hH : HotH bb Z) (S : SE bb Z n) (o : Ok bb X Z tc l c W k) (e : Expr) : Opd X Z c W l e (tr (n + 1) tc e) ∧ (freshE (frOf l.tb) (tr (n + 1) tc e) = true → PE X e (TFe Z c W (ev (tr (n + 1) tc e) l))) := by
  have bad_ : Opd X Z c W l e .bad ∧ (freshE (frOf l.tb) .bad = true → PE X e (TFe Z c W (ev .bad l))) := ⟨opd_bad, fun h => by cases h⟩
  cases e with
  | Constant v j p =>
    cases v with
    | none => exact ⟨.of rfl (s_cst pe_non fun _ => .non), fun h => by cases h⟩
    | bool b => exact ⟨.of rfl (s_cst pe_bl fun _ => .bl b), fun h => by cases h⟩
    | int b => exact ⟨.of rfl (s_cst pe_int fun _ => .int b), fun h => by cases h⟩
    | str b => exact ⟨.of rfl (s_cst pe_str fun _ => .str b), fun h => by cases h⟩
    | _ => exact bad_
  | Name x p =>
    refine ⟨o_name o x p, fun h => ?_⟩
    have h : freshE (frOf l.tb) (trName tc x) = true := h
    unfold trName at h
    repeat' split at h
    all_goals cases h
  | Tuple es x p => exact ⟨.of rfl (s_tup (S.es o es) o.K), fun h => by cases h⟩
  | List es p => exact ⟨.of rfl (s_lst (S.es o es)).ofF, fun _ => s_lst (S.es o es)⟩
  | BinOp a op b p =>
    show Opd X Z c W l _ (match op2 op with | some o => .bin o (tr n tc a) (tr n tc b) | none => .bad) ∧ (freshE (frOf l.tb) (match op2 op with | some o => .bin o (tr n tc a) (tr n tc b) | none => .bad) = true → PE X _ (TFe Z c W (ev (match op2 op with | some o => .bin o (tr n tc a) (tr n tc b) | none => .bad) l)))
    cases ho : op2 op with
    | none => exact bad_
    | some q =>
      have e := op2_map ho
      subst e
      exact ⟨.of rfl (s_bin o.K (S.o o a) (S.o o b)).ofF, fun _ => s_bin o.K (S.o o a) (S.o o b)⟩
  | UnaryOp op a p =>
    cases op
    · exact bad_
    · exact ⟨.of rfl (pe_of_not o.K (S.o o a)), fun h => by cases h⟩
    · exact bad_
    · exact ⟨.of rfl (pe_of_neg (S.o o a).pe), fun h => by cases h⟩
  | BoolOp op vs p => exact ⟨(S.b o op vs p).1, (S.b o op vs p).2.2⟩
  | Compare a ops bs p =>
    match ops, bs with
    | [op], [b] =>
      show Opd X Z c W l _ (if notSet b then .cmp (cm op) (tr n tc a) (tr n tc b) else .bad) ∧ (freshE (frOf l.tb) (if notSet b then .cmp (cm op) (tr n tc a) (tr n tc b) else .bad) = true → PE X _ (TFe Z c W (ev (if notSet b then .cmp (cm op) (tr n tc a) (tr n tc b) else .bad) l)))
      cases hb : notSet b with
      | false => exact bad_
      | true =>
        have := cmp_bl (pos := p) o.K o.un (o := cm op) (inMarks hb) (S.o o a) (S.o o b)
        rw [cm_map] at this
        exact ⟨.of rfl this, fun h => by cases h⟩
    | [op, op'], [b, d] =>
      show Opd X Z c W l _ (if notSet d then .chain (cm op) (cm op') (tr n tc a) (tr n tc b) (tr n tc d) else .bad) ∧ (freshE (frOf l.tb) (if notSet d then .chain (cm op) (cm op') (tr n tc a) (tr n tc b) (tr n tc d) else .bad) = true → PE X _ (TFe Z c W (ev (if notSet d then .chain (cm op) (cm op') (tr n tc a) (tr n tc b) (tr n tc d) else .bad) l)))
      cases hb : notSet d with
      | false => exact bad_
      | true =>
        have := pe_of_chain (pos := p) o.K o.un (o := cm op) (o' := cm op') hb (S.o o a) (S.o o b).pe (S.o o d)
        rw [cm_map, cm_map] at this
        exact ⟨.of rfl this, fun h => by cases h⟩
    | [], [] => exact bad_
    | [], _ :: _ => exact bad_
    | [_], [] => exact bad_
    | [_], _ :: _ :: _ => exact bad_
    | [_, _], [] => exact bad_
    | [_, _], [_] => exact bad_
    | [_, _], _ :: _ :: _ :: _ => exact bad_
    | _ :: _ :: _ :: _, _ => exact bad_
  | IfExp t a b p =>
    refine ⟨.of rfl (pe_of_ite (S.t o t) (S.o o a).pe (S.o o b).pe), fun h => ?_⟩
    have h : (freshE (frOf l.tb) (tr n tc a) && freshE (frOf l.tb) (tr n tc b)) = true := h
    simp only [Bool.and_eq_true] at h
    exact pe_of_iteF (S.t o t) (S.f o a h.1) (S.f o b h.2)
  | Subscript a s p =>
    have sub_ : notSl s = true → Opd X Z c W l (.Subscript a s p) (.sub (tr n tc a) (tr n tc s)) ∧ (freshE (frOf l.tb) (.sub (tr n tc a) (tr n tc s)) = true → PE X (.Subscript a s p) (TFe Z c W (ev (.sub (tr n tc a) (tr n tc s)) l))) := fun h =>
      ⟨.of rfl (pe_of_sub o.K o.un h (S.o o a) (S.o o s).pe), fun h => by cases h⟩
    cases s with
    | Slice lo hi st p2 =>
      cases st with
      | none =>
        have := pe_of_sl (p2 := p2) (pos := p) o.K (S.o o a) (S.oo o lo) (S.oo o hi)
        exact ⟨.of rfl this.ofF, fun _ => this⟩
      | some e =>
        show Opd X Z c W l _ (if isBack lo hi e = true then .rev (tr n tc a) else .bad) ∧ (freshE (frOf l.tb) (if isBack lo hi e = true then .rev (tr n tc a) else .bad) = true → PE X _ (TFe Z c W (ev (if isBack lo hi e = true then .rev (tr n tc a) else .bad) l)))
        cases hb : isBack lo hi e with
        | false => exact bad_
        | true =>
          unfold isBack at hb
          split at hb
          · rename_i kk p4 p3
            have := pe_of_rev (p2 := p2) (pos := p) (p3 := p3) (p4 := p4) (kk := kk) o.K (S.o o a)
            exact ⟨.of rfl this.ofF, fun _ => this⟩
          · cases hb
    | _ => exact sub_ rfl
  | Dict ks vs p =>
    show Opd X Z c W l _ (match (if ks.length ≤ 15 then dictEs ks vs else none) with | some es => .dic (trs n tc es) | none => .bad) ∧ (freshE (frOf l.tb) (match (if ks.length ≤ 15 then dictEs ks vs else none) with | some es => .dic (trs n tc es) | none => .bad) = true → PE X _ (TFe Z c W (ev (match (if ks.length ≤ 15 then dictEs ks vs else none) with | some es => .dic (trs n tc es) | none => .bad) l)))
    cases he : (if ks.length ≤ 15 then dictEs ks vs else none) with
    | none => exact bad_
    | some es =>
      have hl : ks.length ≤ 15 := by
        by_cases h : ks.length ≤ 15
        · exact h
        · rw [if_neg h] at he; cases he
      rw [if_pos hl] at he
      have := pe_of_dict (pos := p) he (S.eo o es) hl
      exact ⟨.of rfl this.ofF, fun _ => this⟩
  | ListComp elt gs scope p =>
    refine ⟨.of ?_ (step_lc hH S o elt gs scope p).ofF, fun _ => step_lc hH S o elt gs scope p⟩
    rw [show tr (n + 1) tc (.ListComp elt gs scope p) = mkLc tc gs scope (trT n) (fun c' => tr n c' elt) (trI n tc) (fun c' i => tr n c' i) from rfl]
    unfold mkLc
    repeat' split
    all_goals rfl
  | Call f as ks p =>
    cases ks with
    | cons _ _ => exact bad_
    | nil =>
      cases f with
      | Name x np => exact S.c o x as np p
      | Attribute ob m ap =>
        show Opd X Z c W l _ (if ap.endLine == p.line then trMeth n tc ob m as else .bad) ∧ (freshE (frOf l.tb) (if ap.endLine == p.line then trMeth n tc ob m as else .bad) = true → PE X _ (TFe Z c W (ev (if ap.endLine == p.line then trMeth n tc ob m as else .bad) l)))
        cases hl : ap.endLine == p.line with
        | false => exact bad_
        | true =>
          obtain ⟨h1, h2⟩ := S.m o ob m as ap p hl
          refine ⟨h1, fun h => ?_⟩
          rw [if_pos rfl, h2] at h
          cases h
      | _ => exact bad_
  | _ => exact bad_
/-- the test of each form -/
theorem step_t (hL : LamH bb Z) (hH : HotH bb Z) (S : SE bb Z n) (o : Ok bb X Z tc l c W k) (e : Expr) : PT X e (TTe Z c W (testF (tr (n + 1) tc e) l)) := by
  have gen : (∀ whole, isTrue e X.env whole = (do let v ← whole; standAt e.pos; holding [v] (truthy v))) → PT X e (TTe Z c W (testF (tr (n + 1) tc e) l)) := fun h => tt_gen o.K (step_o hL hH S o e).1 h
  have bad_ : PT X e (TTe Z c W (testF .bad l)) := pt_bad fun _ => rfl
  cases e with
  | UnaryOp op a p =>
    cases op
    · exact bad_
    · exact tt_not (S.t o a)
    · exact bad_
    · exact gen fun _ => rfl
  | BoolOp op vs p => exact (S.b o op vs p).2.1.pt
  | IfExp t a b p => exact tt_ite (S.t o t) (S.t o a) (S.t o b)
  | Compare a ops bs p =>
    match ops, bs with
    | [op], [b] =>
      show PT X _ (TTe Z c W (testF (if notSet b then .cmp (cm op) (tr n tc a) (tr n tc b) else .bad) l))
      cases hb : notSet b with
      | false => exact bad_
      | true =>
        have := cmp_tt (pos := p) o.K o.un (o := cm op) (inMarks hb) (S.o o a) (S.o o b)
        rw [cm_map] at this
        exact this
    | [op, op'], [b, d] =>
      show PT X _ (TTe Z c W (testF (if notSet d then .chain (cm op) (cm op') (tr n tc a) (tr n tc b) (tr n tc d) else .bad) l))
      cases hb : notSet d with
      | false => exact bad_
      | true =>
        have := tt_of_chain (pos := p) o.K o.un (o := cm op) (o' := cm op') hb (S.o o a) (S.o o b).pe (S.o o d)
        rw [cm_map, cm_map] at this
        exact this
    | [], [] => exact bad_
    | [], _ :: _ => exact bad_
    | [_], [] => exact bad_
    | [_], _ :: _ :: _ => exact bad_
    | [_, _], [] => exact bad_
    | [_, _], [_] => exact bad_
    | [_, _], _ :: _ :: _ :: _ => exact bad_
    | _ :: _ :: _ :: _, _ => exact bad_
  | _ => first | exact gen fun _ => rfl | exact bad_
theorem se_succ (hL : LamH bb Z) (hH : HotH bb Z) (S : SE bb Z n) : SE bb Z (n + 1) where
  o := fun o e => (step_o hL hH S o e).1
  f := fun o e => (step_o hL hH S o e).2
  t := fun o e => step_t hL hH S o e
  es := fun o es => step_es S o es
  bs := fun o es h => step_bs S o es h
  bz := .inl rfl
  eo := fun o es => step_eo S o es
  iv := fun o e kv h => step_iv S o e kv h
  oo := fun o e => by
    cases e with
    | none => exact po_of_none
    | some e => exact po_of_some (S.o o e).pe
  b := fun o op vs pos => step_b S o op vs pos
  c := fun o x as p pos => step_c hL S o x as p pos
  m := fun o ob m as ap pos h => mkMeth_ok o (fun e => S.o o e) ob m as ap pos h _ rfl
  i := by intro X tc l c W k o m tc' tg tt h e h1 h2; exact step_i S o e h1 h2
theorem se_all (hL : LamH bb Z) (hH : HotH bb Z) : ∀ n, SE bb Z n
  | 0 => se_zero
  | n + 1 => se_succ hL hH (se_all hL hH n)
end
end BF

/-! Snd25 -/
set_option Elab.async false
set_option linter.all false
set_option maxRecDepth 100000
set_option maxHeartbeats 4000000
namespace BF
open PySem L2

section
variable {bb : Bool} {B : Bs} {X : Cx} {Z : Wd} {tc : Tc} {l : Lv} {c : Pl} {W : WX} {k n : Nat}
theorem swap_eq {es vs : List Expr} {k1 k2 : Nat} {p1 p2 : Pos} {env : Env} (hk : env.scope.kind = .function) {o : Option (List Str)} (h : swapM env.scope es vs = some o) : swappedStores [.Tuple es k1 p1] (.Tuple vs k2 p2) env = pure o := by
  have hb : (env.blockKind != .function) = false := by unfold Env.blockKind; rw [hk]; rfl
  unfold swapM at h
  unfold swappedStores
  simp only [hb, Bool.or_false, Env.kindOf]
  by_cases h1 : (!(es.length == 2 || es.length == 3) || vs.length != es.length) = true
  · rw [if_pos h1] at h
    rw [if_pos h1]
    cases h; rfl
  · rw [if_neg h1] at h
    rw [if_neg h1]
    split at h
    · rename_i h2
      refine (if_pos h2).trans ?_
      cases h; rfl
    · rename_i h2
      refine (if_neg h2).trans ?_
      dsimp only at h
      split at h
      · rename_i h3
        refine (if_pos h3).trans ?_
        cases h; rfl
      · rename_i h3
        refine (if_neg h3).trans ?_
        split at h
        · rename_i h4
          refine (if_pos h4).trans ?_
          cases h; rfl
        · rename_i h4
          refine (if_neg h4).trans ?_
          split at h
          · cases h
          · rename_i h5
            refine (if_neg h5).trans ?_
            cases h; rfl
structure OkS (bb : Bool) (X : Cx) (Z : Wd) (tc : Tc) (l : Lv) (c : Pl) (W : WX) (k : Nat) (B : Bs) : Prop where
  ok : Ok bb X Z tc l c W k
  hB : BsOk Z B c
  np : ∀ i ∈ B.ms, i < tc.np
  fr : l.fr = B.fr
  n : B.n = tc.N.length
  fn : ∀ x, X.fn x = true
  hp : tc.hld = none → PassesOwn (model X.prog X.w) X.A X.env X.xe
  hs : tc.hld = none → X.stack = X.env :: X.outer
  hf : X.env.frame = some X.env.locals
  kind : tc.sc.kind = .function
  h0 : tc.hld = none → c.hold = none
  sb : l.sub = Z.sub
  act : tc.hld = none → ∀ (x : Str) (p pos pos' : Pos), okNm x = true → tc.vis x = true → tc.slot x = some 0 → 0 ∈ tc.bor → ∀ pn xe W', L2N.Takes (X.tr pn xe) W' → PS (X.tr pn xe) (.Expr (.Call (.Name x p) [] [] pos) pos') (TSe B Z c W' (ex .acts l))
theorem OkS.st (o : OkS bb X Z tc l c W k B) (S : List Nat) : StOk X S := fun x _ _ _ _ => .inl (o.fn x)
theorem OkS.tr (o : OkS bb X Z tc l c W k B) (hh : tc.hld = none) {W' : WX} {pn : List (Addr × Obj)} {xe : Value → Shared → Prop} (tk : L2N.Takes (X.tr pn xe) W') (hp : PassesOwn (model X.prog X.w) X.A X.env xe) : OkS bb (X.tr pn xe) Z tc l c W' k B where
  ok := {
    K := o.ok.K, N := o.ok.N, nd := o.ok.nd, sc := o.ok.sc, own := o.ok.own, bor := o.ok.bor, hold := o.ok.hold, lown := o.ok.lown
    tk := tk
    un := o.ok.un
    calm := o.ok.calm
    hot := fun i h => by rw [hh] at h; cases h
    fns := o.ok.fns, con := o.ok.con, blt := o.ok.blt
    exc := fun x i h => let q := o.ok.exc x i h; ⟨q.mg, q.keep, q.base, q.rs⟩
    call := fun f fd h => ⟨(o.ok.call f fd h).ex⟩
    call2 := fun F h => let ⟨k2, h1, h2⟩ := o.ok.call2 F h; ⟨k2, h1, fun f fd q => ⟨(h2 f fd q).ex⟩⟩
    lam := o.ok.lam
    lb := o.ok.lb
    gb := o.ok.gb
    defs := o.ok.defs
    hd := o.ok.hd }
  hB := o.hB
  np := o.np
  fr := o.fr
  n := o.n
  fn := o.fn
  hp := fun _ => hp
  hs := o.hs
  hf := o.hf
  kind := o.kind
  h0 := o.h0
  sb := o.sb
  act := fun h x p pos pos' h1 h2 h3 h4 pn' xe' W2 tk2 => o.act h x p pos pos' h1 h2 h3 h4 pn' xe' W2 tk2
theorem OkS.suite (o : OkS bb X Z tc l c W k B) (hh : tc.hld = none) {i : Nat} (hi : tc.res i = false) {k' : Nat} {a : Addr} {oe : Obj} {pn : List (Addr × Obj)} (hz : L2N.Zn (.ref (Z.cad k')) none oe) (hv : ∃ vs, oe.data = .fields vs) :
    OkS bb (X.suite a ((a, oe) :: pn)) Z { tc with hld := some i, hx := true } { l with hld := some k' } (holdC c i a) W0 k B where
  ok := {
    K := o.ok.K, N := o.ok.N, nd := o.ok.nd, sc := o.ok.sc, own := o.ok.own, bor := o.ok.bor
    hold := fun j v h => by
      have h : some (i, V.ref a) = some (j, v) := h
      cases h; rfl
    lown := o.ok.lown
    tk := takesN0
    un := o.ok.un
    calm := fun h => nomatch h
    hot := fun j h _ => by
      have h : some i = some j := h
      cases h
      obtain ⟨vs, hv'⟩ := hv
      have hx : ExcC X.K (Z.cad k') := by rw [o.ok.K]; exact o.ok.gb.excC k'
      refine ⟨⟨(a, oe), ⟨rfl, vs, hv', hz.2.2 vs hv'⟩, List.mem_cons_self⟩, a, k', rfl, rfl, call_isE hx hz.zc ⟨vs, hv'⟩, fun y j hj => ?_⟩
      show PySem.W.kitOne X.K _ _ = _
      rw [o.ok.K]
      have hk := o.ok.gb.exk y j hj k'
      rw [← o.sb] at hk
      exact hk
    fns := o.ok.fns, con := o.ok.con, blt := o.ok.blt
    exc := fun x i h => let q := o.ok.exc x i h; ⟨q.mg, q.keep, q.base, q.rs⟩
    call := fun f fd h => ⟨(o.ok.call f fd h).ex⟩
    call2 := fun F h => let ⟨k2, h1, h2⟩ := o.ok.call2 F h; ⟨k2, h1, fun f fd q => ⟨(h2 f fd q).ex⟩⟩
    lam := o.ok.lam
    lb := o.ok.lb
    gb := o.ok.gb
    defs := o.ok.defs
    hd := o.ok.hd }
  hB := ⟨o.hB.dom, o.hB.hM, o.hB.ms, o.hB.hd⟩
  np := o.np
  fr := o.fr
  n := o.n
  fn := o.fn
  hp := fun h => nomatch h
  hs := fun h => nomatch h
  hf := o.hf
  kind := o.kind
  h0 := fun h => nomatch h
  sb := o.sb
  act := fun h => nomatch h
/-! ### name = value -/
theorem swap_lc {elt : Expr} {gs : List Comprehension} {scope : Scope} {pos py : Pos} {y : Str} {m : Nat} {env : Env} : ∃ b, swapsWith (.ListComp elt gs scope pos) (some (.Name y py)) m env = pure b ∧ (b = true → env.scope.names.lookup y = some .local) := by
  refine ⟨_, rfl, fun h => ?_⟩
  simp only [Bool.and_eq_true, beq_iff_eq] at h
  exact h.1.1.2
theorem ts_asgv {i : Nat} {kk : E} {s : Stmt} (hB : BsOk Z B c) (f : FreeS c i) (h : PS X s (tAsg (TEe Z c W (tP Z) (ev kk l)) (gName i))) : PS X s (TSe B Z c W (ex (.asg (.var i) kk) l)) :=
  h.weak fun D σ H ⟨O, σd, hr, j, g⟩ => by
    have g : GoS B Z c W ((ev kk l σd).bind fun p => .ok (.nx, p.2.set i (some p.1))) O H D := g
    refine ⟨O, σd, hr, (GoS.go (r := ev kk l σd) hr j g).imp fun d σ1 H1 _ r1 k1 g v rv => ?_⟩
    have j1 := j.keepE k1
    exact GoS.done (g r1 j1 k1) (r1.setP f rv) (j1.same (SameS.set (vs := [i]) (by simp)) (fun v hv => by rw [List.mem_singleton.mp hv]; exact f) hB) (hr.le k1)
theorem swappedName {x : Str} {p : Pos} {v : Expr} {env : Env} : swappedStores [.Name x p] v env = pure none := by
  cases v <;> rfl
/-- the value stored: v no comprehension, or one -/
theorem ps_nm (hL : LamH bb Z) (hH : HotH bb Z) (o : OkS bb X Z tc l c W k B) {n : Nat} {x : Str} {p pos : Pos} {v : Expr} {i : Nat} (hs : tc.slot x = some i) (hx : Loc X.env.scope x) (hn : notLcT v = true ∨ tc.hld = none) :
    PS X (.Assign [.Name x p] v pos) (tAsg (TEe Z c W (tP Z) (ev (tr n tc v) l)) (gName i)) ∧ (freshE (frOf l.tb) (tr n tc v) = true → PS X (.Assign [.Name x p] v pos) (tAsg (TFe Z c W (ev (tr n tc v) l)) (gName i))) := by
  have S := se_all (Z := Z) hL hH n
  have hN : X.N.Nodup := by rw [o.ok.N]; exact o.ok.nd
  have hi := o.ok.at_ hs
  have plain : ∀ (te : TE), PE X v te → swapsWith v (some (.Name x p)) pos.line X.env = pure false → PS X (.Assign [.Name x p] v pos) (tAsg te (gName i)) := fun te he h => ps_set hN hi hx he h (.inl (o.fn x))
  by_cases hl : notLc v = true
  · exact ⟨plain _ (S.o o.ok v).pe (BF.swaps_no hl), fun h => plain _ (S.f o.ok v h) (BF.swaps_no hl)⟩
  · have bad_ : ∀ {P : TS}, (∀ D σ H, ¬ P D σ H) → PS X (.Assign [.Name x p] v pos) P := fun h => .none h
    cases v with
    | ListComp elt gs scope lp =>
      have hh : tc.hld = none := hn.elim (fun h => by simp [notLcT] at h) id
      have main : PS X (.Assign [.Name x p] (.ListComp elt gs scope lp) pos) (tAsg (TFe Z c W (ev (tr n tc (.ListComp elt gs scope lp)) l)) (gName i)) := by
        obtain ⟨b, hb, hloc⟩ := swap_lc (elt := elt) (gs := gs) (scope := scope) (pos := lp) (py := p) (y := x) (m := pos.line) (env := X.env)
        cases n with
        | zero => exact .none fun D σ H ⟨O, σd, _, q⟩ => q
        | succ n =>
          have S := se_all (Z := Z) hL hH n
          cases b with
          | false => exact plain _ (step_lc hH S o.ok elt gs scope lp) hb
          | true => exact mkLc_ps o.ok hh hi (hloc rfl) (m := n) rfl (fun o' => (S.o o' elt).pe) (fun e h1 h2 => S.i o.ok e h1 h2) (fun e kv h => S.iv o.ok e kv h) (fun o' e => S.t o' e) gs scope lp hb _ rfl
      refine ⟨main.weak fun D σ H ⟨O, σd, hr, hg⟩ => ⟨O, σd, hr, hg.imp fun d σ1 H1 _ _ _ q v _ rv => q v rv⟩, fun _ => main⟩
    | SetComp a b d e => cases n <;> exact ⟨.none fun D σ H ⟨O, σd, _, q⟩ => q, fun h => by cases h⟩
    | DictComp a b d e f => cases n <;> exact ⟨.none fun D σ H ⟨O, σd, _, q⟩ => q, fun h => by cases h⟩
    | _ => exact absurd rfl hl
end
end BF

/-! ParO -/
set_option Elab.async false
set_option linter.all false
set_option maxRecDepth 100000
set_option maxHeartbeats 4000000
/-! a, b = x, y where a place of one's own takes a new container -/
namespace BF
open PySem L2

section
variable {B : Bs} {Z : Wd} {c : Pl} {W : WX} {O O1 : Addr → Prop} {σ : L2.St} {σd : Sd} {H H' : Hp} {X : Cx} {l : Lv}
def lkL (c : Pl) (as : List Addr) : Pl := { c with lock := fun b => c.lock b ∨ b ∈ as }
def plL (O : Addr → Prop) (as : List Addr) : Addr → Prop := fun b => O b ∨ b ∈ as
theorem lkL_nil : lkL c [] = c := by
  obtain ⟨a, b, d, e⟩ := c
  unfold lkL
  congr 1
  funext x
  simp
theorem plL_nil : plL O [] = O := by funext x; simp [plL]
theorem lkL_cons (a : Addr) (as : List Addr) : lkL (lk c a) as = lkL c (a :: as) := by
  obtain ⟨p, q, d, e⟩ := c
  unfold lkL lk plus
  congr 1
  funext x
  simp [or_assoc]
theorem plL_cons (a : Addr) (as : List Addr) : plL (plus O a) as = plL O (a :: as) := by
  funext x
  simp [plL, plus, or_assoc]
theorem lkL_lk (a : Addr) (as : List Addr) : lk (lkL c as) a = lkL c (a :: as) := by
  obtain ⟨p, q, d, e⟩ := c
  unfold lkL lk plus
  congr 1
  funext x
  simp only [List.mem_cons]
  exact propext ⟨fun h => h.elim (fun h => h.elim .inl fun h => .inr (.inr h)) fun h => .inr (.inl h), fun h => h.elim (fun h => .inl (.inl h)) fun h => h.elim .inr fun h => .inl (.inr h)⟩
/-- what was told: own places' containers in order -/
inductive GotR (Z : Wd) (H : Hp) (G : Hp) : List Bool → List D → List V → List Addr → Prop
  | nil : GotR Z H G [] [] [] []
  | plain {fl ds vs as} {b : Bool} {d : D} {v : V} : (b = true → isContainer d = false) → Rep Z G d v → GotR Z H G fl ds vs as → GotR Z H G (b :: fl) (d :: ds) (v :: vs) as
  | own {fl ds vs as} {d : D} {a : Addr} : Cont Z H G d a → GotR Z H G fl ds vs as → GotR Z H G (true :: fl) (d :: ds) (.ref a :: vs) (a :: as)
/-- the reading of such values -/
def TAg (Z : Wd) (c : Pl) (W : WX) (fl : List Bool) (f : Sd → R (List D × Sd)) : TA := fun σ H Q => ∃ O σd, RelS Z c O σd σ H ∧ Go Z c W (f σd) O σ H fun ds σd' H' => ∀ vs as, as.Nodup → (∀ a ∈ as, Fre H a) → GotR Z H' (hide H' (plL O as)) fl ds vs as → RelS Z (lkL c as) (plL O as) σd' σ H' → Q vs H'
theorem Go.locked {β : Type} {r : R (β × Sd)} {K : β → Sd → Hp → Prop} {a : Addr} (h : Go Z c W r O σ H K) (ho : ∀ i ∈ c.own, ∀ b, σ[i]? = some (some (.ref b)) → O b) : Go Z (lk c a) W r (plus O a) σ H K := by
  cases r with
  | ok q => exact fun H' hr hk => h H' (hr.unlock ho) hk
  | exc k => exact fun H' hr hk => h H' (hr.unlock ho) hk
  | bad => exact h
theorem pa_exC {es : List Expr} {t : Pl → TA} {P : Pl → Prop} (h : ∀ c', P c' → PA X es (t c')) : PA X es (fun σ H Q => ∃ c', P c' ∧ t c' σ H Q) := ⟨fun pos pins s σ H Q I ⟨c', hp, q⟩ => (h c' hp).run pos pins s σ H Q I q⟩
/-- the same but for what is locked -/
def SameP (c c' : Pl) : Prop := c'.own = c.own ∧ c'.bor = c.bor ∧ c'.hold = c.hold
theorem SameP.refl : SameP c c := ⟨rfl, rfl, rfl⟩
theorem SameP.lk {c' : Pl} (h : SameP c c') (a : Addr) : SameP c (lk c' a) := h
theorem pg_nil : PA X [] (TAg Z c W [] (evs .nil l)) := pa_nil.weak fun σ H Q ⟨O, σd, hr, hg⟩ => hg.ok hr KeepE.refl [] [] List.nodup_nil (fun _ h => nomatch h) .nil (by rw [lkL_nil, plL_nil]; exact hr)
/-- new ones stay apart -/
theorem le_past {c1 : Pl} {O1 : Addr → Prop} {σd' : Sd} {H1 : Hp} {as : List Addr} (r : RelS Z c1 O1 σd' σ H1) (k : KeepE c1 σ H1 H') (n : ∀ a ∈ as, Fre H1 a) : Le (hide H1 O1) (hide H' (plL O1 as)) :=
  hide_mono fun x o e t nx => ⟨k x o e t (r.notOwn nx), fun z => z.elim nx fun z => n x z o e t⟩
theorem pg_plain {e : Expr} {es : List Expr} {k : E} {ks : Es} {fl : List Bool} (h : PE X e (TEe Z c W (tP Z) (ev k l))) (t : PA X es (TAg Z c W fl (evs ks l))) (hs : starEach (e :: es) X.env = (false, eval e X.env) :: starEach es X.env) :
    PA X (e :: es) (TAg Z c W (false :: fl) (evs (.cons k ks) l)) :=
  (pa_cons h t hs).weak fun σ H Q ⟨O, σd, hr, hg⟩ =>
    ⟨O, σd, hr, (Go.bind (r := ev k l σd) hg).imp fun d σ1 H1 _ r1 k1 g v rv => ⟨O, σ1, r1, (Go.bind (r := evs ks l σ1) g).imp fun ds σ2 H2 _ r2 k2 g2 vs as nd fr got rel =>
      g2.ok r2 KeepE.refl (v :: vs) as nd (fun a ha => hr.back r1 k1 (fr a ha)) (.plain (fun z => nomatch z) (rv.le (le_past r1 k2 fr)) got) rel⟩⟩
theorem pg_own {e : Expr} {es : List Expr} {k : E} {ks : Es} {fl : List Bool} (h : PE X e (TFe Z c W (ev k l))) (t : ∀ c', SameP c c' → PA X es (TAg Z c' W fl (evs ks l))) (hs : starEach (e :: es) X.env = (false, eval e X.env) :: starEach es X.env) :
    PA X (e :: es) (TAg Z c W (true :: fl) (evs (.cons k ks) l)) :=
  (pa_cons h (pa_exC (P := SameP c) t) hs).weak fun σ H Q ⟨O, σd, hr, hg⟩ => by
    refine ⟨O, σd, hr, (Go.bind (r := ev k l σd) hg).imp fun d σ1 H1 _ r1 k1 g v fv rv => ?_⟩
    by_cases hd : isContainer d = true
    · obtain ⟨a, rfl, fa, ct, ra⟩ := fv hd
      have g1 := (Go.bind (r := evs ks l σ1) g)
      refine ⟨lk c a, SameP.refl.lk a, plus O a, σ1, ra, (g1.locked (a := a) r1.own).imp fun ds σ2 H2 _ r2 k2 g2 vs as nd fr got rel => ?_⟩
      have na : NotOwn c σ a := fun i hi e => by
        obtain ⟨o, e1, t1⟩ := hr.dom a (hr.own i hi a e)
        exact fa o e1 t1
      have hne : a ∉ as := fun z => by
        have f := fr a z
        cases d with
        | lst xs => obtain ⟨vs, e, _⟩ := ct; exact f _ e nt_lst
        | dic xs => obtain ⟨vs, e, _⟩ := ct; exact f _ e nt_dK
        | _ => exact ct.elim
      have r2' : RelS Z c O σ2 σ H2 := r2.unlock r1.own
      rw [lkL_cons, plL_cons] at rel
      rw [plL_cons] at got
      refine g2.ok r2' KeepE.refl (.ref a :: vs) (a :: as) (List.nodup_cons.mpr ⟨hne, nd⟩) (fun b hb => ?_) (.own ?_ got) rel
      · rcases List.mem_cons.mp hb with rfl | hb
        · exact fa
        · exact hr.back r1 k1 (fr b hb)
      · have l1 := le_past (as := as) ra k2 fr
        rw [plL_cons] at l1
        exact ct.monoN l1 fun o eo t => k2 a o eo t na
    · refine ⟨c, SameP.refl, O, σ1, r1, (Go.bind (r := evs ks l σ1) g).imp fun ds σ2 H2 _ r2 k2 g2 vs as nd fr got rel =>
        g2.ok r2 KeepE.refl (v :: vs) as nd (fun a ha => hr.back r1 k1 (fr a ha)) (.plain (fun _ => by simpa using hd) (rv.le (le_past r1 k2 fr)) got) rel⟩
/-! ### the stores -/
def setV : List Nat → List V → L2.St → L2.St
  | i :: is, v :: vs, σ => setV is vs (σ.set i (some v))
  | _, _, σ => σ
theorem GotR.flags {fl : List Bool} {ds : List D} {vs : List V} {as : List Addr} {G : Hp} (g : GotR Z H G fl ds vs as) : vs.length = fl.length ∧ ds.length = fl.length := by
  induction g with
  | nil => exact ⟨rfl, rfl⟩
  | plain _ _ _ ih => simp [ih]
  | own _ _ ih => simp [ih]
/-- one's own slot takes a container that is locked -/
theorem RelS.setO {a : Addr} {i : Nat} {d : D} (r : RelS Z (lk c a) O σd σ H) (hO : O a) (hi : i ∈ c.own) (na : NotOwn c σ a) (hh : ∀ v, c.hold ≠ some (i, v)) (ct : Cont Z H (hide H O) d a) : RelS Z c O (σd.set i (some d)) (σ.set i (some (.ref a))) H := by
  have cases_ : ∀ {j : Nat} {b : Addr}, (σ.set i (some (V.ref a)))[j]? = some (some (.ref b)) → (j = i ∧ b = a) ∨ (j ≠ i ∧ σ[j]? = some (some (.ref b))) := fun {j b} e => by
    rcases set_some e with ⟨rfl, e1, _⟩ | z
    · simp at e1; exact .inl ⟨rfl, e1.symm⟩
    · exact .inr z
  refine ⟨by simp [r.len], r.dom, r.tab, fun j hj b e => ?_, fun j hj k hk b e e' => ?_, fun j d' e => ?_, fun j w hw => ?_⟩
  · rcases cases_ e with ⟨_, rfl⟩ | ⟨_, e⟩
    · exact hO
    · exact r.own j hj b e
  · rcases cases_ e with ⟨rfl, rfl⟩ | ⟨n1, e2⟩
    · rcases cases_ e' with ⟨rfl, _⟩ | ⟨_, e'⟩
      · rfl
      · exact absurd e' (na k hk)
    · rcases cases_ e' with ⟨rfl, rfl⟩ | ⟨_, e3⟩
      · exact absurd e2 (na j hj)
      · exact r.inj j hj k hk b e2 e3
  · rcases set_some e with ⟨rfl, e1, o, eo⟩ | ⟨ne, e1⟩
    · cases e1
      exact ⟨.ref a, set_at (m := []) r.len eo _, fun _ => ⟨a, rfl, ct⟩, fun z => absurd hi z, fun z => absurd hi z⟩
    · obtain ⟨w, h1, h2, h3, h4⟩ := r.slot j d' e1
      refine ⟨w, by rw [List.getElem?_set_ne (Ne.symm ne)]; exact h1, h2, fun z1 z2 => ?_, h4⟩
      rcases h3 z1 z2 with q | ⟨b, eb, ob, nb, cb⟩
      · exact .inl q
      · refine .inr ⟨b, eb, ob, ⟨fun k hk e => ?_, fun z => nb.2 (.inl z)⟩, cb⟩
        rcases cases_ e with ⟨_, rfl⟩ | ⟨_, e⟩
        · exact nb.2 (.inr rfl)
        · exact nb.1 k hk e
  · have ne : i ≠ j := fun z => hh w (by rw [z]; exact hw)
    rw [List.getElem?_set_ne ne]
    exact r.hold j w hw
theorem J.setO {a : Addr} {i : Nat} (j : J B c O σ H) (hB : BsOk Z B c) (hi : i ∈ c.own) (hm : i ∉ B.ms) (ha : Fre B.H0 a) : J B c O (σ.set i (some (.ref a))) H := by
  refine ⟨j.sub, j.new, j.keep, fun k hk b e => ?_, outsAt_same (SameS.set (vs := [i]) (by simp)) (fun k hk z => hm ((List.mem_singleton.mp z) ▸ hk)) j.ms, by rw [List.length_set]; exact j.len, fun v hv => by rw [List.getElem?_set_ne (fun (z : i = 0) => (hB.hd v hv).2 (z ▸ hi))]; exact j.hd v hv⟩
  rcases set_some e with ⟨rfl, e1, _⟩ | ⟨ne, e1⟩
  · simp at e1; rw [← e1]; exact .inr ha
  · exact j.own k hk b e1
theorem J.more {as : List Addr} (j : J B c O σ H) (ha : ∀ a ∈ as, Fre B.H0 a) : J B c (plL O as) σ H :=
  ⟨fun b h => .inl (j.sub b h), fun b o e t n z => z.elim (j.new b o e t n) fun z => ha b z o e t, j.keep, j.own, j.ms, j.len, j.hd⟩
theorem FreeS.lkL {i : Nat} (f : FreeS c i) (as : List Addr) : FreeS (lkL c as) i := f
/-- all stores -/
theorem par_set (hB : BsOk Z B c) : ∀ {is : List (Nat × Bool)} {ds : List D} {vs : List V} {as : List Addr} {σd σd' : Sd} {σ : L2.St}, GotR Z H (hide H O) (is.map (·.2)) ds vs as → RelS Z (lkL c as) O σd σ H → J B c O σ H → as.Nodup → (∀ a ∈ as, O a ∧ NotOwn c σ a ∧ Fre B.H0 a) →
    (∀ q ∈ is, (q.2 = false → FreeS c q.1) ∧ (q.2 = true → q.1 ∈ c.own ∧ q.1 ∉ B.ms ∧ ∀ v, c.hold ≠ some (q.1, v))) → setAll is ds σd = .ok σd' → RelS Z c O σd' (setV (is.map (·.1)) vs σ) H ∧ J B c O (setV (is.map (·.1)) vs σ) H
  | [], ds, vs, as, σd, σd', σ, g, r, j, _, _, _, e => by
    cases g
    simp [setAll] at e
    subst e
    rw [lkL_nil] at r
    exact ⟨r, j⟩
  | (i, b) :: is, ds, vs, as, σd, σd', σ, g, r, j, nd, hn, hq, e => by
    have hq0 := hq (i, b) List.mem_cons_self
    have hq' := fun q h => hq q (List.mem_cons_of_mem _ h)
    cases g with
    | plain n rv g =>
      rename_i ds vs d v
      cases b with
      | true =>
        exfalso
        simp [setAll, n rfl] at e
      | false =>
        have f := hq0.1 rfl
        simp only [setAll, Bool.false_and, Bool.false_eq_true, if_false] at e
        have sm : SameS [i] σ (σ.set i (some v)) := SameS.set (by simp)
        exact par_set hB (is := is) g (r.setP (f.lkL as) rv) (j.same sm (fun v hv => by rw [List.mem_singleton.mp hv]; exact f) hB) nd (fun a ha => ⟨(hn a ha).1, (notOwn_set f.1).mpr (hn a ha).2.1, (hn a ha).2.2⟩) hq' e
    | own ct g =>
      rename_i ds vs as d a
      obtain ⟨h1, h2, h3⟩ := hq0.2 rfl
      obtain ⟨n1, n2⟩ := List.nodup_cons.mp nd
      obtain ⟨oa, na, fa⟩ := hn a List.mem_cons_self
      have hd : isContainer d = true := by
        cases d with
        | lst xs => rfl
        | dic xs => rfl
        | _ => exact ct.elim
      simp only [setAll, hd, Bool.not_true, Bool.and_false, Bool.false_eq_true, if_false] at e
      rw [← lkL_lk] at r
      have r2 : RelS Z (lkL c as) O (σd.set i (some d)) (σ.set i (some (.ref a))) H := r.setO oa h1 na h3 ct
      exact par_set hB (is := is) g r2 (j.setO hB h1 h2 fa) n2 (fun b hb => ⟨(hn b (List.mem_cons_of_mem _ hb)).1, fun k hk ek => by
        rcases set_some ek with ⟨rfl, e1, _⟩ | ⟨_, e1⟩
        · simp at e1
          exact n1 (e1 ▸ hb)
        · exact (hn b (List.mem_cons_of_mem _ hb)).2.1 k hk e1, (hn b (List.mem_cons_of_mem _ hb)).2.2⟩) hq' e
theorem TAg.imp {fl : List Bool} {f : Sd → R (List D × Sd)} {Q Q' : List V → Hp → Prop} (h : TAg Z c W fl f σ H Q) (i : ∀ vs H', Q vs H' → Q' vs H') : TAg Z c W fl f σ H Q' := by
  obtain ⟨O, σd, hr, g⟩ := h
  exact ⟨O, σd, hr, g.imp fun ds σ1 H1 _ _ _ q vs as nd fr got rel => i _ _ (q vs as nd fr got rel)⟩
theorem GotR.le {G G' : Hp} {fl : List Bool} {ds : List D} {vs : List V} {as : List Addr} (g : GotR Z H G fl ds vs as) (l1 : Le H H') (l2 : Le G G') : GotR Z H' G' fl ds vs as := by
  induction g with
  | nil => exact .nil
  | plain n r _ ih => exact .plain n (r.le l2) ih
  | own ct _ ih => exact .own (ct.mono l2 fun o e => l1 _ o e) ih
theorem setAll_neE : ∀ (is : List (Nat × Bool)) (ds : List D) (σ : Sd) (k : Nat), setAll is ds σ ≠ .exc k := setAll_ne
/-- what a statement that stores so does -/
theorem par_stm {is : List (Nat × Bool)} {ks : Es} {s : Stmt} (hB : BsOk Z B c) (hq : ∀ q ∈ is, (q.2 = false → FreeS c q.1) ∧ (q.2 = true → q.1 ∈ c.own ∧ q.1 ∉ B.ms ∧ ∀ v, c.hold ≠ some (q.1, v)))
    (h : parOk (frOf l.tb) is ks = true → PS X s (fun D σ H => TAg Z c W (is.map (·.2)) (evs ks l) σ H fun vs H1 => vs.length = is.length ∧ ∀ H2, Le H1 H2 → D.nx (setV (is.map (·.1)) vs σ) H2)) : PS X s (TSe B Z c W (ex (.par is ks) l)) := by
  by_cases hp : parOk (frOf l.tb) is ks = true
  · refine (h hp).weak fun D σ H ⟨O, σd, hr, jj, g⟩ => ?_
    have g : GoS B Z c W (if parOk (frOf l.tb) is ks = true then (evs ks l σd).bind fun p => (setAll is p.1 p.2).bind fun σ' => .ok (.nx, σ') else .bad) O H D := g
    rw [if_pos hp] at g
    refine ⟨O, σd, hr, (GoS.go (r := evs ks l σd) hr jj g).imp fun ds σ1 H1 _ r1 k1 g vs as nd fr got rel => ⟨?_, fun H2 l2 => ?_⟩⟩
    · have := got.flags.1
      simpa using this
    have j1 := jj.keepE k1
    obtain ⟨σ2, e2, g⟩ := (g r1 j1 k1).pure (setAll_ne _ _ _)
    have hm : Le (hide H1 (plL O as)) (hide H2 (plL O as)) := hide_mono fun b o e t n => ⟨l2 b o e, n⟩
    have rel2 := rel.grow l2
    have j2 : J B c (plL O as) σ H2 := (J.more ⟨j1.sub, j1.new, fun b o e t n => l2 b o (j1.keep b o e t n), j1.own, j1.ms, j1.len, j1.hd⟩ fun a ha => Fre.back jj hr.dom (fun b hb => jj.sub b (hB.hM b hb)) (fr a ha))
    obtain ⟨r3, j3⟩ := par_set hB (got.le l2 hm) rel2 j2 nd (fun a ha => ⟨.inr ha, fun i hi e => by
      obtain ⟨o, e1, t1⟩ := hr.dom a (hr.own i hi a e)
      exact fr a ha o e1 t1, Fre.back jj hr.dom (fun b hb => jj.sub b (hB.hM b hb)) (fr a ha)⟩) hq e2
    exact GoS.done g r3 j3 (hide_mono fun b o e t n => ⟨l2 b o (k1 b o e t (hr.notOwn n)), fun z => z.elim n fun z => fr b z o e t⟩)
  · refine .none fun D σ H ⟨O, σd, _, _, q⟩ => ?_
    have q : GoS B Z c W (if parOk (frOf l.tb) is ks = true then (evs ks l σd).bind fun p => (setAll is p.1 p.2).bind fun σ' => .ok (.nx, σ') else .bad) O H D := q
    rw [if_neg hp] at q
    exact q
end
section
variable {bb : Bool} {B : Bs} {X : Cx} {Z : Wd} {tc : Tc} {l : Lv} {c : Pl} {W : WX} {k n : Nat}
theorem Ok.same {c' : Pl} (o : Ok bb X Z tc l c W k) (h : SameP c c') : Ok bb X Z tc l c' W k where
  K := o.K
  N := o.N
  nd := o.nd
  sc := o.sc
  own := h.1.trans o.own
  bor := h.2.1.trans o.bor
  hold := fun i v e => o.hold i v (by rw [← h.2.2]; exact e)
  lown := o.lown
  tk := o.tk
  un := o.un
  calm := o.calm
  hot := fun i h1 h2 => by rw [h.2.2]; exact o.hot i h1 h2
  fns := o.fns
  con := o.con
  blt := o.blt
  exc := o.exc
  call := o.call
  call2 := o.call2
  lam := o.lam
  lb := o.lb
  gb := o.gb
  defs := o.defs
  hd := o.hd
/-- the values of such a statement -/
theorem pg_trs (hS : ∀ n, SE bb Z n) : ∀ (n : Nat) (is : List (Nat × Bool)) (es : List Expr) {c : Pl}, Ok bb X Z tc l c W k → parOk (frOf l.tb) is (trs n tc es) = true → PA X es (TAg Z c W (is.map (·.2)) (evs (trs n tc es) l))
  | 0, is, es, c, o, h => .none fun σ H Q ⟨O, σd, _, q⟩ => q
  | n + 1, [], [], c, o, h => pg_nil
  | n + 1, _ :: _, [], c, o, h => by cases h
  | n + 1, [], e :: es, c, o, h => by cases h
  | n + 1, i :: is, e :: es, c, o, h => by
    have h : ((!i.2 || freshE (frOf l.tb) (tr n tc e)) && parOk (frOf l.tb) is (trs n tc es)) = true := h
    simp only [Bool.and_eq_true, Bool.or_eq_true, Bool.not_eq_true'] at h
    show PA X (e :: es) (TAg Z c W (i.2 :: is.map (·.2)) (evs (.cons (tr n tc e) (trs n tc es)) l))
    rcases star_or e with hs | ⟨z, p, rfl⟩
    · cases hi : i.2 with
      | false => exact pg_plain ((hS n).o o e).pe (pg_trs hS n is es o h.2) (star_cons hs)
      | true =>
        have hf : freshE (frOf l.tb) (tr n tc e) = true := by
          rcases h.1 with q | q
          · rw [hi] at q; cases q
          · exact q
        exact pg_own ((hS n).f o e hf) (fun c' hc => pg_trs hS n is es (o.same hc) h.2) (star_cons hs)
    · have e0 : tr n tc (.Starred z p) = .bad := by cases n <;> rfl
      rw [e0]
      exact .none fun σ H Q ⟨O, σd, _, q⟩ => q
end
end BF

/-! Snd26 -/
set_option Elab.async false
set_option linter.all false
set_option maxRecDepth 100000
set_option maxHeartbeats 4000000
namespace BF
open PySem L2

section
variable {bb : Bool} {B : Bs} {X : Cx} {Z : Wd} {tc : Tc} {l : Lv} {c : Pl} {W : WX} {k n : Nat}
theorem st_bad {s : Stmt} : PS X s (TSe B Z c W (ex .bad l)) := .none fun D σ H ⟨O, σd, _, _, q⟩ => q
theorem notLcT_eq : notLcT = notLc := by funext e; cases e <;> rfl
theorem isTup_no {v : Expr} (h : isTup v = none) {es : List Expr} {k1 : Nat} {p1 : Pos} {env : Env} : swappedStores [.Tuple es k1 p1] v env = pure none := by
  cases v <;> first | rfl | (simp [isTup] at h)
theorem isTup_some {v : Expr} {vs : List Expr} (h : isTup v = some vs) : ∃ k p, v = .Tuple vs k p := by
  cases v <;> simp [isTup] at h
  subst h; exact ⟨_, _, rfl⟩
theorem plc_1 (o : OkS bb X Z tc l c W k B) {x : Str} {i : Nat} (h : plcOf tc x = some i) : X.N[i]? = some x ∧ X.env.scope.names.lookup x = some .local ∧ FreeS c i := by
  unfold plcOf at h
  split at h
  · rename_i hx
    simp only [Bool.and_eq_true, decide_eq_true_eq] at hx
    cases hs : tc.slot x with
    | none => rw [hs] at h; cases h
    | some j =>
      rw [hs] at h
      dsimp only at h
      split at h
      · cases h
      · rename_i hr
        cases h
        exact ⟨o.ok.at_ hs, by rw [o.ok.sc]; exact hx.2, res_no (by simpa using hr) o.ok⟩
  · cases h
theorem own_mem (o : OkS bb X Z tc l c W k B) {i : Nat} (h : tc.own.contains i = true) : i ∈ c.own := by rw [o.ok.own]; exact List.contains_iff_mem.mp h
theorem hold_no (o : OkS bb X Z tc l c W k B) {i : Nat} (h : (tc.hld == some i) = false) : ∀ v, c.hold ≠ some (i, v) := fun v e => by
  have := o.ok.hold i v e
  rw [this] at h; simp at h
mutual
theorem slots_res : ∀ (m : Nat) (e : Expr) (t : T), trT m tc e = some t → ∀ i ∈ slotsT t, tc.res i = false
  | 0, _, _, h, _, _ => by simp [trT] at h
  | m + 1, e, t, h, i, hi => by
    cases e <;> simp only [trT] at h <;> first | (cases h; done) | skip
    · split at h
      · split at h
        · split at h
          · cases h
          · rename_i hr
            cases h
            rename_i j _
            obtain rfl : i = j := by simpa [slotsT] using hi
            simpa using hr
        · cases h
      · cases h
    · obtain ⟨ts, e1, rfl⟩ := Option.map_eq_some_iff.mp h
      exact slots_ress m _ ts e1 i (by simpa [slotsT] using hi)
theorem slots_ress : ∀ (m : Nat) (es : List Expr) (ts : List T), trTs m tc es = some ts → ∀ i ∈ slotsTs ts, tc.res i = false
  | 0, _, _, h, _, _ => by simp [trTs] at h
  | m + 1, [], ts, h, i, hi => by simp [trTs] at h; subst h; simp [slotsTs] at hi
  | m + 1, e :: es, ts, h, i, hi => by
    simp only [trTs] at h
    cases h1 : trT m tc e with
    | none => rw [h1] at h; simp at h
    | some t =>
      cases h2 : trTs m tc es with
      | none => rw [h1, h2] at h; simp at h
      | some ts' =>
        rw [h1, h2] at h
        dsimp only at h
        cases h
        rcases (by simpa [slotsTs] using hi : i ∈ slotsT t ∨ i ∈ slotsTs ts') with z | z
        · exact slots_res m e t h1 i z
        · exact slots_ress m es ts' h2 i z
end
theorem slots_free (o : OkS bb X Z tc l c W k B) {m : Nat} {e : Expr} {t : T} (h : trT m tc e = some t) : ∀ i ∈ slotsT t, FreeS c i := fun i hi => res_no (slots_res m e t h i hi) o.ok
theorem ps_mkNm (hL : LamH bb Z) (hH : HotH bb Z) (o : OkS bb X Z tc l c W k B) {n : Nat} (x : Str) (v : Expr) (p pos : Pos) : ∀ s, mkNm tc x v (tr n tc) = s → PS X (.Assign [.Name x p] v pos) (TSe B Z c W (ex s l)) := by
  intro s hs
  unfold mkNm at hs
  split at hs
  · rename_i hx
    simp only [Bool.and_eq_true, Bool.or_eq_true, decide_eq_true_eq, Option.isNone_iff_eq_none] at hx
    obtain ⟨⟨hn, hl⟩, hv⟩ := hx
    split at hs
    · rename_i i hi
      have lx : Loc X.env.scope x := by rw [o.ok.sc]; exact hl
      obtain ⟨p1, p2⟩ := ps_nm (p := p) (pos := pos) (n := n) hL hH o hi lx hv
      split at hs
      · subst hs; exact st_bad
      · rename_i hh
        split at hs
        · rename_i hw
          split at hs
          · rename_i hnp
            have hnp : tc.np ≤ i := by simpa using hnp
            subst hs
            cases hf : freshE (frOf l.tb) (tr n tc v) with
            | false =>
              refine .none fun D σ H ⟨O, σd, _, _, q⟩ => ?_
              have q : GoS B Z c W (if freshE (frOf l.tb) (tr n tc v) then (ev (tr n tc v) l σd).bind fun p => if isContainer p.1 then .ok (.nx, p.2.set i (some p.1)) else .bad else .bad) O H D := q
              rw [hf] at q
              exact q
            | true => exact ts_asgr (x := x) (e := v) (pos := pos) o.hB (own_mem o hw) (fun h => by have := o.np i h; omega) (hold_no o (by simpa using hh)) (p2 hf)
          · subst hs; exact st_bad
        · split at hs
          · subst hs; exact st_bad
          · rename_i hr
            subst hs
            exact ts_asgv o.hB (res_no (by simpa using hr) o.ok) p1
    · subst hs; exact st_bad
  · subst hs; exact st_bad
theorem ps_mkSub (o : OkS bb X Z tc l c W k B) {g : Expr → E} (hg : ∀ e, PE X e (TEe Z c W (tP Z) (ev (g e) l))) (ob kx v : Expr) (p pos : Pos) : ∀ s, mkSub tc ob kx v g = s → PS X (.Assign [.Subscript ob kx p] v pos) (TSe B Z c W (ex s l)) := by
  intro s hs
  unfold mkSub at hs
  split at hs
  · rename_i x np
    split at hs
    · rename_i hx
      simp only [Bool.and_eq_true] at hx
      obtain ⟨⟨⟨hn, hv⟩, hsl⟩, hlc⟩ := hx
      rw [notLcT_eq] at hlc
      split at hs
      · rename_i i hi
        split at hs
        · rename_i hw
          subst hs
          exact ts_seti (by have := o.ok.un; omega) (own_mem o hw) hsl hlc (o.ok.var hn hv hi) (hg _) (hg _) (by cases v <;> rfl)
        · subst hs; exact st_bad
      · subst hs; exact st_bad
    · subst hs; exact st_bad
  · subst hs; exact st_bad
theorem plcF_1 (o : OkS bb X Z tc l c W k B) {x : Str} {i : Nat × Bool} (h : plcF tc x = some i) : X.N[i.1]? = some x ∧ X.env.scope.names.lookup x = some .local ∧ ((i.2 = false → FreeS c i.1) ∧ (i.2 = true → i.1 ∈ c.own ∧ i.1 ∉ B.ms ∧ ∀ v, c.hold ≠ some (i.1, v))) := by
  unfold plcF at h
  split at h
  · rename_i j hj
    cases h
    obtain ⟨h1, h2, h3⟩ := plc_1 o hj
    exact ⟨h1, h2, fun _ => h3, fun z => nomatch z⟩
  · split at h
    · rename_i hx
      simp only [Bool.and_eq_true, decide_eq_true_eq] at hx
      split at h
      · rename_i j hs
        split at h
        · rename_i hw
          simp only [Bool.and_eq_true, decide_eq_true_eq, Bool.not_eq_true'] at hw
          cases h
          exact ⟨o.ok.at_ hs, by rw [o.ok.sc]; exact hx.2, fun z => (nomatch z), fun _ => ⟨own_mem o hw.1.1, fun h => by have := o.np j h; omega, hold_no o hw.2⟩⟩
        · cases h
      · cases h
    · cases h
theorem plcN_1 (o : OkS bb X Z tc l c W k B) {e : Expr} {i : Nat × Bool} (h : plcN tc e = some i) : ∃ x p, e = .Name x p ∧ X.N[i.1]? = some x ∧ Loc X.env.scope x ∧ ((i.2 = false → FreeS c i.1) ∧ (i.2 = true → i.1 ∈ c.own ∧ i.1 ∉ B.ms ∧ ∀ v, c.hold ≠ some (i.1, v))) := by
  cases e <;> simp only [plcN] at h <;> first | (cases h; done) | skip
  rename_i x p
  split at h
  · rename_i hx
    simp only [Bool.and_eq_true, Bool.or_eq_true, decide_eq_true_eq] at hx
    have lx : Loc X.env.scope x := by rw [o.ok.sc]; exact hx.2
    split at h
    · rename_i j hs
      split at h
      · cases h
      · rename_i hh
        split at h
        · rename_i hw
          split at h
          · rename_i hnp
            cases h
            have hnp : tc.np ≤ j := by simpa using hnp
            exact ⟨x, p, rfl, o.ok.at_ hs, lx, fun z => (nomatch z), fun _ => ⟨own_mem o hw, fun h => by have := o.np j h; omega, hold_no o (by simpa using hh)⟩⟩
          · cases h
        · split at h
          · cases h
          · rename_i hr
            cases h
            exact ⟨x, p, rfl, o.ok.at_ hs, lx, fun _ => res_no (by simpa using hr) o.ok, fun z => (nomatch z)⟩
    · cases h
  · cases h
theorem ps_mkPar (o : OkS bb X Z tc l c W k B) (hh : tc.hld = none) {gs : List Expr → Es} (hgs : ∀ (is : List (Nat × Bool)) (es : List Expr), parOk (frOf l.tb) is (gs es) = true → PA X es (TAg Z c W (is.map (·.2)) (evs (gs es) l))) (es : List Expr) (ns : List Str) (vs : List Expr) (k1 k2 : Nat) (p1 p2 pos : Pos) (hsw : swappedStores [.Tuple es k1 p1] (.Tuple vs k2 p2) X.env = pure (some ns)) :
    ∀ s, mkPar tc es ns vs gs = s → PS X (.Assign [.Tuple es k1 p1] (.Tuple vs k2 p2) pos) (TSe B Z c W (ex s l)) := by
  intro s hs
  have hc := (o.ok.calm hh).1
  have hN : X.N.Nodup := by rw [o.ok.N]; exact o.ok.nd
  unfold mkPar at hs
  split at hs
  · rename_i x px y py
    split at hs
    · rename_i a b
      split at hs
      · rename_i hns
        subst hns
        split at hs
        · rename_i i j hi hj
          split at hs
          · subst hs; exact st_bad
          · rename_i hij
            subst hs
            obtain ⟨i1, i2, i3⟩ := plcF_1 o hi
            obtain ⟨j1, j2, j3⟩ := plcF_1 o hj
            refine par_stm o.hB (fun q hq => ?_) fun hp => (ps_par hc hN i1 j1 hij i2 j2 (hgs [i, j] [a, b] hp) hsw).weak fun D σ H h => h.imp fun vs H' ⟨hl, q⟩ => ?_
            · rcases List.mem_cons.mp hq with rfl | hq
              · exact i3
              · rw [List.mem_singleton.mp hq]; exact j3
            · match vs, hl with
              | [v, w], _ => exact ⟨v, w, rfl, q H' (Le.refl _)⟩
        · subst hs; exact st_bad
      · subst hs; exact st_bad
    · subst hs; exact st_bad
  · rename_i x px y py z pz
    split at hs
    · rename_i a b d
      split at hs
      · rename_i hns
        subst hns
        split at hs
        · rename_i i j m hi hj hm
          split at hs
          · subst hs; exact st_bad
          · rename_i hij
            simp only [Bool.or_eq_true, decide_eq_true_eq, not_or] at hij
            subst hs
            obtain ⟨i1, i2, i3⟩ := plcF_1 o hi
            obtain ⟨j1, j2, j3⟩ := plcF_1 o hj
            obtain ⟨m1, m2, m3⟩ := plcF_1 o hm
            refine par_stm o.hB (fun q hq => ?_) fun hp => (ps_par3 hc hN i1 j1 m1 hij.1.1 hij.1.2 hij.2 i2 j2 m2 (hgs [i, j, m] [a, b, d] hp) hsw).weak fun D σ H h => h.imp fun vs H' ⟨hl, q⟩ => ?_
            · rcases List.mem_cons.mp hq with rfl | hq
              · exact i3
              · rcases List.mem_cons.mp hq with rfl | hq
                · exact j3
                · rw [List.mem_singleton.mp hq]; exact m3
            · match vs, hl with
              | [u, v, w], _ => exact ⟨u, v, w, rfl, q H' (Le.refl _)⟩
        · subst hs; exact st_bad
      · subst hs; exact st_bad
    · subst hs; exact st_bad
  · subst hs; exact st_bad
/-- the names, one by one -/
def gSets : List Nat → TGs
  | [] => gNil
  | i :: is => gCons (gName i) (gSets is)
theorem gSets_run : ∀ {is : List Nat} {vs : List V} {σ : L2.St} {H : Hp} {Q : L2.St → Hp → Prop}, vs.length = is.length → Q (setV is vs σ) H → gSets is vs σ H Q
  | [], [], _, _, _, _, q => ⟨rfl, q⟩
  | [], _ :: _, _, _, _, h, _ => by cases h
  | _ :: _, [], _, _, _, h, _ => by cases h
  | i :: is, v :: vs, σ, H, Q, h, q => ⟨v, vs, rfl, gSets_run (is := is) (vs := vs) (by simpa using h) q⟩
theorem pgs_sets (o : OkS bb X Z tc l c W k B) : ∀ {es : List Expr} {is : List (Nat × Bool)}, plcNs tc es = some is → PGs X es (gSets (is.map (·.1))) ∧ is.length = es.length ∧ (assignEach es X.env).findIdx? (·.1) = none ∧ ∀ q ∈ is, (q.2 = false → FreeS c q.1) ∧ (q.2 = true → q.1 ∈ c.own ∧ q.1 ∉ B.ms ∧ ∀ v, c.hold ≠ some (q.1, v))
  | [], is, h => by
    cases h
    exact ⟨pgs_nil, rfl, rfl, fun q hq => nomatch hq⟩
  | e :: es, is, h => by
    unfold plcNs at h
    split at h
    · rename_i i is' h1 h2
      cases h
      obtain ⟨x, p, rfl, a1, a2, a3⟩ := plcN_1 o h1
      obtain ⟨b1, b2, b3, b4⟩ := pgs_sets o h2
      have hN : X.N.Nodup := by rw [o.ok.N]; exact o.ok.nd
      refine ⟨pgs_cons (pg_name hN a1 a2 (.inl (o.fn x))) b1, by simp [b2], ?_, fun q hq => ?_⟩
      · have : (assignEach (.Name x p :: es) X.env) = (false, assign (.Name x p) X.env) :: assignEach es X.env := rfl
        rw [this, List.findIdx?_cons, b3]
        rfl
      · rcases List.mem_cons.mp hq with rfl | hq
        · exact a3
        · exact b4 q hq
    · cases h
theorem ps_mkParN (o : OkS bb X Z tc l c W k B) (hh : tc.hld = none) {gs : List Expr → Es} (hgs : ∀ (is : List (Nat × Bool)) (es : List Expr), parOk (frOf l.tb) is (gs es) = true → PA X es (TAg Z c W (is.map (·.2)) (evs (gs es) l))) (es : List Expr) (vs : List Expr) (k1 k2 : Nat) (p1 p2 pos : Pos) (hsw : swappedStores [.Tuple es k1 p1] (.Tuple vs k2 p2) X.env = pure none) :
    ∀ s, mkParN tc es vs gs = s → PS X (.Assign [.Tuple es k1 p1] (.Tuple vs k2 p2) pos) (TSe B Z c W (ex s l)) := by
  intro s hs
  have hc := (o.ok.calm hh).1
  unfold mkParN at hs
  split at hs
  · rename_i is h1
    split at hs
    · rename_i h2
      simp only [Bool.and_eq_true, decide_eq_true_eq] at h2
      subst hs
      obtain ⟨b1, b2, b3, b4⟩ := pgs_sets o h1
      refine par_stm o.hB b4 fun hp => (ps_asg (pe_tup (hgs is vs hp)) (pg_tup (n := es.length) hc b1 (assignE_len es X.env) b3) (swapsS_no rfl) hsw rfl).weak fun D σ H h => h.imp fun us H' ⟨hl, q⟩ => ⟨?_, fun p hp => ?_⟩
      · have : us.length ≤ 60 := by omega
        exact Nat.le_trans this (by decide)
      · refine ⟨p, us, rfl, .inl (.inl upd_same), by omega, gSets_run (by simp; omega) (q _ (le_upd hp))⟩
    · subst hs; exact st_bad
  · subst hs; exact st_bad
theorem ps_mkTup (o : OkS bb X Z tc l c W k B) {g : Expr → E} {gs : List Expr → Es} {m : Nat} (hg : ∀ e, PE X e (TEe Z c W (tP Z) (ev (g e) l))) (hgs : ∀ (is : List (Nat × Bool)) (es : List Expr), parOk (frOf l.tb) is (gs es) = true → PA X es (TAg Z c W (is.map (·.2)) (evs (gs es) l))) (es : List Expr) (v : Expr) (k1 : Nat) (p1 pos : Pos) :
    ∀ s, mkTup tc es (.Tuple es k1 p1) v g gs (trT m tc) = s → PS X (.Assign [.Tuple es k1 p1] v pos) (TSe B Z c W (ex s l)) := by
  intro s hs
  unfold mkTup at hs
  split at hs
  · subst hs; exact st_bad
  · rename_i hx
    simp only [Bool.or_eq_true, Bool.not_eq_true', not_or, Bool.not_eq_true, Bool.not_eq_false] at hx
    have hh : tc.hld = none := by simpa using hx.1
    have hlc : notLc v = true := by rw [← notLcT_eq]; exact hx.2
    have asg_ : ∀ tt, trT m tc (.Tuple es k1 p1) = some tt → swappedStores [.Tuple es k1 p1] v X.env = pure none → PS X (.Assign [.Tuple es k1 p1] v pos) (TSe B Z c W (ex (.asg tt (g v)) l)) := fun tt ht hsw => by
      have hpg := trT_ok (c := c) o.ok.N o.ok.nd o.ok.sc o.ok.K (o.ok.calm hh).1 (o.st (slotsT tt)) (fun i h _ => res_no h o.ok) m _ tt ht (fun i hi => hi)
      refine ts_asg o.hB ?_ (hg v) hpg (swapsS_no hlc) hsw rfl
      exact slots_free o ht
    split at hs
    · rename_i vs hvs
      obtain ⟨k2, p2, rfl⟩ := isTup_some hvs
      split at hs
      · subst hs; exact st_bad
      · rename_i hsm
        have hsw := swap_eq (k1 := k1) (k2 := k2) (p1 := p1) (p2 := p2) (env := X.env) (by rw [o.ok.sc]; exact o.kind) (by rw [o.ok.sc]; exact hsm)
        split at hs
        · rename_i tt ht
          subst hs
          exact asg_ tt ht hsw
        · exact ps_mkParN o hh hgs es vs k1 k2 p1 p2 pos hsw s hs
      · rename_i ns hsm
        have hsw := swap_eq (k1 := k1) (k2 := k2) (p1 := p1) (p2 := p2) (env := X.env) (by rw [o.ok.sc]; exact o.kind) (by rw [o.ok.sc]; exact hsm)
        exact ps_mkPar o hh hgs es ns vs k1 k2 p1 p2 pos hsw s hs
    · rename_i hvs
      split at hs
      · rename_i tt ht
        subst hs
        exact asg_ tt ht (isTup_no hvs)
      · subst hs; exact st_bad
/-! ### return, for, raise, try -/
theorem ps_mkRet (o : OkS bb X Z tc l c W k B) {g : Expr → E} (hg : ∀ e, PE X e (TEe Z c W (tP Z) (ev (g e) l))) (hf : ∀ e, freshE (frOf l.tb) (g e) = true → PE X e (TFe Z c W (ev (g e) l))) (e : Expr) (pos : Pos) : ∀ s, mkRet tc e g = s → PS X (.Return (some e) pos) (TSe B Z c W (ex s l)) := by
  intro s hs
  have gen : ∀ e, PS X (.Return (some e) pos) (TSe B Z c W (ex (.ret (g e)) l)) := fun e => ts_ret o.hB o.fr (hg e) (hf e)
  unfold mkRet at hs
  split at hs
  · rename_i x p
    split at hs
    · rename_i hx
      simp only [Bool.and_eq_true] at hx
      split at hs
      · rename_i i hi
        split at hs
        · rename_i hw
          simp only [Bool.and_eq_true, decide_eq_true_eq] at hw
          subst hs
          exact ts_retr o.hB (own_mem o hw.1) (fun h => by have := o.np i h; omega) (o.ok.var hx.1 hx.2 hi)
        · subst hs; exact gen _
      · subst hs; exact st_bad
    · subst hs; exact gen _
  · subst hs; exact gen _
theorem ps_mkExpr (o : OkS bb X Z tc l c W k B) {g : Expr → E} (hg : ∀ e, PE X e (TEe Z c W (tP Z) (ev (g e) l))) (e : Expr) (pos : Pos) : ∀ s, mkExpr tc e g = s → PS X (.Expr e pos) (TSe B Z c W (ex s l)) := by
  intro s hs
  unfold mkExpr at hs
  split at hs
  · rename_i ha
    subst hs
    unfold isAct at ha
    split at ha
    · simp only [Bool.and_eq_true, decide_eq_true_eq, Bool.not_eq_true'] at ha
      obtain ⟨⟨⟨⟨h1, h2⟩, h3⟩, h4⟩, h5⟩ := ha
      exact o.act (by simpa using h5) _ _ _ _ h1 h2 h3 (List.contains_iff_mem.mp h4) X.pn X.xe W o.ok.tk
    · cases ha
  · split at hs
    · rename_i h
      subst hs
      exact ts_expr (hg e) (by rw [← notLcT_eq]; exact h)
    · subst hs; exact st_bad
theorem ps_mkFor (o : OkS bb X Z tc l c W k B) {gi : Expr → I} {m : Nat} {b : List Stmt} {kb : Ss} (hgi : ∀ {tg : Expr} {tt : T} (e : Expr), trT m tc tg = some tt → fitI false (gi e) tt = true → PI X tg e (TIe Z c W (evi (gi e) l))) (hb : PSs X b (TSe B Z c W (exs kb l))) (t it : Expr) (pos : Pos) :
    ∀ s, mkFor tc t it kb gi (trT m tc) = s → PS X (.For t it b [] pos) (TSe B Z c W (ex s l)) := by
  intro s hs
  unfold mkFor at hs
  split at hs
  · rename_i hx
    simp only [Bool.and_eq_true, Bool.not_eq_true'] at hx
    have hh : tc.hld = none := by simpa using hx.2
    split at hs
    · rename_i tt ht
      split at hs
      · rename_i hfit
        subst hs
        have hpg := trT_ok (c := c) o.ok.N o.ok.nd o.ok.sc o.ok.K (o.ok.calm hh).1 (o.st (slotsT tt)) (fun i h _ => res_no h o.ok) m _ tt ht (fun i hi => hi)
        exact ts_for o.hB (slots_free o ht) (o.hp hh) (o.ok.calm hh).1 (hgi it ht hfit) hpg hb (notSet_fold hx.1)
      · subst hs; exact st_bad
    · subst hs; exact st_bad
  · subst hs; exact st_bad
theorem ps_mkRaise (o : OkS bb X Z tc l c W k B) (e : Expr) (pos : Pos) : ∀ s, mkRaise tc e = s → PS X (.Raise (some e) none pos) (TSe B Z c W (ex s l)) := by
  intro s hs
  unfold mkRaise at hs
  split at hs
  · subst hs; exact st_bad
  · rename_i hh
    have hh : tc.hld = none := by simpa using hh
    split at hs
    · split at hs
      · rename_i hx
        simp only [Bool.and_eq_true] at hx
        split at hs
        · rename_i q hq
          subst hs
          obtain ⟨h1, h2, h34, h5⟩ := o.ok.exc _ q hq
          obtain ⟨bmB, B', newId, initId, h3, h4⟩ := h34 hx.2
          exact ts_raise (o.ok.calm hh).1 o.ok.tk (L2N.pmk_own h3 h4 h1 (h2 hx.2) (h5 hx.2) (o.ok.gl hx.1.2) (okNm_1 hx.1.1).1)
        · subst hs; exact st_bad
      · subst hs; exact st_bad
    · subst hs; exact st_bad
theorem ps_mkTry (o : OkS bb X Z tc l c W k B) {b : List Stmt} {kb : Ss} {gh : Tc → List Stmt → Ss}
    (hb : ∀ {X' : Cx} {W' : WX}, OkS bb X' Z tc l c W' k B → PSs X' b (TSe B Z c W' (exs kb l)))
    (hgh : ∀ {X' : Cx} {tc' : Tc} {l' : Lv} {c' : Pl} {W' : WX} {k' : Nat}, OkS bb X' Z tc' l' c' W' k' B → ∀ h, PSs X' h (TSe B Z c' W' (exs (gh tc' h) l')))
    (hs : List ExceptHandler) (pos : Pos) : ∀ s, mkTry tc kb hs gh = s → PS X (.Try b hs [] [] pos) (TSe B Z c W (ex s l)) := by
  intro s hst
  unfold mkTry at hst
  split at hst
  · rename_i x np y h0 h hp
    split at hst
    · rename_i hx
      simp only [Bool.and_eq_true, Option.isNone_iff_eq_none, decide_eq_true_eq] at hx
      obtain ⟨⟨⟨⟨hn, hg⟩, hh⟩, hpl⟩, hy⟩ := hx
      split at hst
      · rename_i q hq
        split at hst
        · rename_i i hi
          split at hst
          · subst hst; exact st_bad
          · rename_i hr
            have hr : tc.res i = false := by simpa using hr
            subst hst
            obtain ⟨h1, h2, _, h5⟩ := o.ok.exc _ q hq
            exact ts_try_as o.hB (o.h0 hh) o.ok.K (res_no hr o.ok) (o.hs hh) o.hf (by rw [o.ok.N]; exact o.ok.nd) (o.ok.at_ hi) (by show X.env.scope.names.lookup y = _; rw [o.ok.sc]; exact hy) ⟨o.ok.gl hg, (okNm_1 hn).1, .inl h1⟩ o.ok.tk (fun k' => by rw [o.sb]; exact o.ok.gb.exm x q hq k')
              (fun W' pn xe tk hp => hb (o.tr hh tk hp)) (fun k' a oe pn hz hv => hgh (o.suite hh hr hz hv) (h0 :: h)) (by rw [o.n, o.ok.N])
        · subst hst; exact st_bad
      · subst hst; exact st_bad
    · subst hst; exact st_bad
  · subst hst; exact st_bad
/-! ### all statements -/
structure SS (bb : Bool) (Z : Wd) (n : Nat) : Prop where
  s : ∀ {B : Bs} {X : Cx} {tc : Tc} {l : Lv} {c : Pl} {W : WX} {k : Nat}, OkS bb X Z tc l c W k B → ∀ st, PS X st (TSe B Z c W (ex (trS n tc st) l))
  ss : ∀ {B : Bs} {X : Cx} {tc : Tc} {l : Lv} {c : Pl} {W : WX} {k : Nat}, OkS bb X Z tc l c W k B → ∀ sts, PSs X sts (TSe B Z c W (exs (trSs n tc sts) l))
theorem ss_zero : SS bb Z 0 where
  s := fun _ _ => st_bad
  ss := fun _ _ => .none fun D σ H ⟨O, σd, _, _, q⟩ => q
theorem step_s (hL : LamH bb Z) (hH : HotH bb Z) (S : SS bb Z n) (o : OkS bb X Z tc l c W k B) (st : Stmt) : PS X st (TSe B Z c W (ex (trS (n + 1) tc st) l)) := by
  have SE := se_all (Z := Z) hL hH n
  cases st with
  | Expr e p =>
    exact ps_mkExpr o (fun e => (SE.o o.ok e).pe) e p _ rfl
  | Pass p => exact ts_pass
  | Continue p => exact ts_cont
  | Break p => exact ts_break
  | Return v p =>
    cases v with
    | none => exact ts_retN
    | some e => exact ps_mkRet o (fun e => (SE.o o.ok e).pe) (fun e h => SE.f o.ok e h) e p _ rfl
  | If t a b p => exact ts_if (SE.t o.ok t) (S.ss o a) (S.ss o b)
  | For t it b ob p =>
    cases ob with
    | nil => exact ps_mkFor o (fun e h1 h2 => SE.i o.ok e h1 h2) (S.ss o b) t it p _ rfl
    | cons _ _ => exact st_bad
  | While t b ob p =>
    cases ob with
    | nil =>
      show PS X _ (TSe B Z c W (ex (if (true && !tc.hld.isSome) = true then .while (tr n tc t) (trSs n tc b) else .bad) l))
      cases hh : tc.hld.isSome with
      | true => exact st_bad
      | false => exact ts_while (o.hp (by simpa using hh)) (SE.t o.ok t) (S.ss o b)
    | cons _ _ => exact st_bad
  | Raise e kk p =>
    cases kk with
    | some _ => exact st_bad
    | none =>
      cases e with
      | none => exact st_bad
      | some e => exact ps_mkRaise o e p _ rfl
  | Try b hs ob f p =>
    cases ob with
    | cons _ _ => exact st_bad
    | nil =>
      cases f with
      | cons _ _ => exact st_bad
      | nil => exact ps_mkTry o (fun o' => S.ss o' b) (fun o' h => S.ss o' h) hs p _ rfl
  | Assign ts v p =>
    have main : ∀ s, mkAsg tc ts v (tr n tc) (trs n tc) (trT n tc) = s → PS X (.Assign ts v p) (TSe B Z c W (ex s l)) := by
      intro s hs
      unfold mkAsg at hs
      split at hs
      · exact ps_mkNm hL hH o _ v _ p s hs
      · exact ps_mkSub o (fun e => (SE.o o.ok e).pe) _ _ v _ p s hs
      · exact ps_mkTup o (fun e => (SE.o o.ok e).pe) (fun is es h => pg_trs (fun m => se_all hL hH m) n is es o.ok h) _ v _ _ p s hs
      · subst hs; exact st_bad
    exact main _ rfl
  | _ => exact st_bad
theorem ss_all (hL : LamH bb Z) (hH : HotH bb Z) : ∀ n, SS bb Z n
  | 0 => ss_zero
  | n + 1 => ⟨fun o st => step_s hL hH (ss_all hL hH n) o st, fun o sts => by
    cases sts with
    | nil => exact tss_nil
    | cons s ss => exact tss_cons ((ss_all hL hH n).s o s) ((ss_all hL hH n).ss o ss)⟩
end
end BF

/-! Snd27 -/
set_option Elab.async false
set_option linter.all false
set_option maxRecDepth 100000
set_option maxHeartbeats 4000000
namespace BF
open PySem L2

section
variable {Z : Wd} {O : Addr → Prop} {H : Hp} {M : List V}
theorem psOk_at {own bor : List Nat} : ∀ {ps : List Md} {n i : Nat} {m : Md}, psOk own bor ps n = true → ps[i]? = some m → (match m with
    | .s => n + i ∉ own ∧ n + i ∉ bor
    | .b => n + i ∉ own ∧ n + i ∈ bor
    | .m => n + i ∈ own)
  | [], _, _, _, _, h => by simp at h
  | p :: ps, n, 0, m, h, e => by
    simp at e
    subst e
    simp only [psOk, Bool.and_eq_true] at h
    have h := h.1
    cases p <;> simpa using h
  | p :: ps, n, i + 1, m, h, e => by
    simp only [psOk, Bool.and_eq_true] at h
    have := psOk_at (i := i) h.2 (by simpa using e)
    rw [show n + (i + 1) = n + 1 + i by omega]
    exact this
theorem argR_at : ∀ {ps : List Md} {ds : List D} {vs : List V} {i : Nat} {d : D}, ArgR Z H O M ps ds vs → ds[i]? = some d → ∃ m v, ps[i]? = some m ∧ vs[i]? = some v ∧ (match m with
      | .s => Rep Z (hide H O) d v
      | .b => RBx (fun a => V.ref a ∉ M) Z H O d v
      | .m => RM Z H O d v)
  | [], [], [], _, _, _, e => by simp at e
  | [], _ :: _, _, _, _, h, _ => h.elim
  | [], [], _ :: _, _, _, h, _ => h.elim
  | _ :: _, [], _, _, _, h, _ => h.elim
  | _ :: _, _ :: _, [], _, _, h, _ => h.elim
  | m :: ps, x :: ds, v :: vs, 0, d, h, e => by
    simp at e; subst e
    exact ⟨m, v, rfl, rfl, h.1⟩
  | m :: ps, x :: ds, v :: vs, i + 1, d, h, e => by
    obtain ⟨m', v', h1, h2, h3⟩ := argR_at (i := i) h.2 (by simpa using e)
    exact ⟨m', v', by simpa using h1, by simpa using h2, h3⟩
theorem argR_len : ∀ {ps : List Md} {ds : List D} {vs : List V}, ArgR Z H O M ps ds vs → ds.length = ps.length ∧ vs.length = ps.length
  | [], [], [], _ => ⟨rfl, rfl⟩
  | [], _ :: _, _, h => h.elim
  | [], [], _ :: _, h => h.elim
  | _ :: _, [], _, h => h.elim
  | _ :: _, _ :: _, [], h => h.elim
  | _ :: _, _ :: _, _ :: _, h => by simp [argR_len h.2]
/-- the values of the changed parameters, by their places -/
theorem mVals_at {σ : L2.St} : ∀ {ps : List Md} {vs : List V} {n : Nat}, vs.length = ps.length → (∀ i v, vs[i]? = some v → σ[n + i]? = some (some v)) → OutsAt σ (mSlots ps n) (mVals ps vs)
  | [], [], _, _, _ => trivial
  | [], _ :: _, _, h, _ => by simp at h
  | _ :: _, [], _, h, _ => by simp at h
  | m :: ps, v :: vs, n, hl, h => by
    have r := mVals_at (ps := ps) (vs := vs) (n := n + 1) (by simpa using hl) fun i w e => by
      have := h (i + 1) w (by simpa using e)
      rw [show n + 1 + i = n + (i + 1) by omega]; exact this
    cases m with
    | s => exact r
    | b => exact r
    | m => exact ⟨h 0 v rfl, r⟩
theorem mSlots_own {own bor : List Nat} : ∀ {ps : List Md} {n : Nat}, psOk own bor ps n = true → ∀ i ∈ mSlots ps n, i ∈ own ∧ n ≤ i ∧ i < n + ps.length
  | [], _, _, i, h => by simp [mSlots] at h
  | m :: ps, n, h, i, hi => by
    simp only [psOk, Bool.and_eq_true] at h
    have rec_ : i ∈ mSlots ps (n + 1) → i ∈ own ∧ n ≤ i ∧ i < n + (m :: ps).length := fun hi => by
      obtain ⟨h1, h2, h3⟩ := mSlots_own h.2 i hi
      exact ⟨h1, by omega, by simp; omega⟩
    cases m with
    | s => exact rec_ hi
    | b => exact rec_ hi
    | m =>
      rcases List.mem_cons.mp (show i ∈ n :: mSlots ps (n + 1) from hi) with rfl | hi
      · exact ⟨by simpa using h.1, by omega, by simp⟩
      · exact rec_ hi
/-- a value of M stands at a changed parameter -/
theorem mVals_own : ∀ {ps : List Md} {ds : List D} {vs : List V}, ArgR Z H O M ps ds vs → ∀ a, V.ref a ∈ mVals ps vs → O a
  | [], [], [], _, a, h => nomatch h
  | [], _ :: _, _, h, _, _ => h.elim
  | [], [], _ :: _, h, _, _ => h.elim
  | _ :: _, [], _, h, _, _ => h.elim
  | _ :: _, _ :: _, [], h, _, _ => h.elim
  | m :: ps, d :: ds, v :: vs, h, a, ha => by
    cases m with
    | s => exact mVals_own h.2 a ha
    | b => exact mVals_own h.2 a ha
    | m =>
      rcases List.mem_cons.mp (show V.ref a ∈ v :: mVals ps vs from ha) with e | ha
      · obtain ⟨b, eb, ob, _⟩ := h.1
        rw [← e] at eb
        cases eb; exact ob
      · exact mVals_own h.2 a ha
/-- a changed parameter's value is of M -/
theorem mVals_mem : ∀ {ps : List Md} {vs : List V} {i : Nat} {v : V}, vs.length = ps.length → ps[i]? = some .m → vs[i]? = some v → v ∈ mVals ps vs
  | [], _, _, _, _, h, _ => by simp at h
  | _ :: _, [], _, _, h, _, _ => by simp at h
  | m :: ps, w :: vs, 0, v, _, h, e => by
    simp at h e; subst h; subst e
    exact List.mem_cons_self
  | m :: ps, w :: vs, i + 1, v, hl, h, e => by
    have := mVals_mem (ps := ps) (vs := vs) (i := i) (v := v) (by simpa using hl) (by simpa using h) (by simpa using e)
    cases m with
    | s => exact this
    | b => exact this
    | m => exact List.mem_cons_of_mem _ this
theorem nodup_at : ∀ {l : List V} , l.Nodup → ∀ {i j : Nat} {v : V}, l[i]? = some v → l[j]? = some v → i = j
  | [], _, i, j, v, h, _ => by simp at h
  | x :: l, hn, 0, 0, v, _, _ => rfl
  | x :: l, hn, 0, j + 1, v, h, h' => by
    obtain ⟨n1, _⟩ := List.nodup_cons.mp hn
    simp at h h'; subst h
    exact absurd (List.mem_of_getElem? h') n1
  | x :: l, hn, i + 1, 0, v, h, h' => by
    obtain ⟨n1, _⟩ := List.nodup_cons.mp hn
    simp at h h'; subst h'
    exact absurd (List.mem_of_getElem? h) n1
  | x :: l, hn, i + 1, j + 1, v, h, h' => by
    obtain ⟨_, n2⟩ := List.nodup_cons.mp hn
    rw [nodup_at n2 (i := i) (j := j) (v := v) (by simpa using h) (by simpa using h')]
/-- two changed parameters with one value are one -/
theorem mVals_inj : ∀ {ps : List Md} {vs : List V}, vs.length = ps.length → (mVals ps vs).Nodup → ∀ {i j : Nat} {v : V}, ps[i]? = some .m → ps[j]? = some .m → vs[i]? = some v → vs[j]? = some v → i = j
  | [], _, _, _, i, j, v, h, _, _, _ => by simp at h
  | _ :: _, [], h, _, _, _, _, _, _, _, _ => by simp at h
  | m :: ps, w :: vs, hl, hn, 0, 0, v, _, _, _, _ => rfl
  | m :: ps, w :: vs, hl, hn, i + 1, j + 1, v, h1, h2, h3, h4 => by
    have hn' : (mVals ps vs).Nodup := by
      cases m with
      | s => exact hn
      | b => exact hn
      | m => exact (List.nodup_cons.mp hn).2
    rw [mVals_inj (by simpa using hl) hn' (i := i) (j := j) (v := v) (by simpa using h1) (by simpa using h2) (by simpa using h3) (by simpa using h4)]
  | m :: ps, w :: vs, hl, hn, 0, j + 1, v, h1, h2, h3, h4 => by
    simp at h1 h3; subst h1; subst h3
    exact absurd (mVals_mem (by simpa using hl) (by simpa using h2) (by simpa using h4)) (List.nodup_cons.mp hn).1
  | m :: ps, w :: vs, hl, hn, i + 1, 0, v, h1, h2, h3, h4 => by
    simp at h2 h4; subst h2; subst h4
    exact absurd (mVals_mem (by simpa using hl) (by simpa using h1) (by simpa using h3)) (List.nodup_cons.mp hn).1
theorem start_at {N : List Str} {vs : List V} {i : Nat} {v : V} (h : vs[i]? = some v) : (L2.start N vs)[i]? = some (some v) := by
  unfold L2.start
  rw [List.getElem?_append_left (by simpa using (List.getElem?_eq_some_iff.mp h).1)]
  simp [h]
theorem start_of {N : List Str} {vs : List V} {i : Nat} {v : V} (h : (L2.start N vs)[i]? = some (some v)) : vs[i]? = some v := by
  unfold L2.start at h
  by_cases hi : i < (vs.map some).length
  · rw [List.getElem?_append_left hi] at h
    simpa using h
  · rw [List.getElem?_append_right (by omega), List.getElem?_replicate] at h
    split at h <;> simp at h
theorem startD_of {fd : Fd} {ds : List D} {i : Nat} {d : D} (h : (start fd ds)[i]? = some (some d)) : ds[i]? = some d := by
  unfold start at h
  by_cases hi : i < (ds.map some).length
  · rw [List.getElem?_append_left hi] at h
    simpa using h
  · rw [List.getElem?_append_right (by omega), List.getElem?_replicate] at h
    split at h <;> simp at h
/-- the places of a def's body -/
def plOf (fd : Fd) : Pl := ⟨fd.own, fd.bor, none, fun _ => False⟩
theorem start_rel {fd : Fd} {N : List Str} {ds : List D} {vs : List V} (ok : fdOk fd N = true) (hd : DomO Z O H) (ha : ArgR Z H O (mVals fd.ps vs) fd.ps ds vs) (hn : (mVals fd.ps vs).Nodup) : RelS Z (plOf fd) O (start fd ds) (L2.start N vs) H := by
  simp only [fdOk, Bool.and_eq_true, beq_iff_eq, decide_eq_true_eq] at ok
  obtain ⟨⟨o1, o2⟩, o3⟩ := ok
  obtain ⟨l1, l2⟩ := argR_len ha
  have pm : ∀ {i : Nat} {v : V}, i ∈ fd.own → vs[i]? = some v → fd.ps[i]? = some .m := fun {i v} hi hv => by
    have hlt : i < fd.ps.length := by rw [← l2]; exact (List.getElem?_eq_some_iff.mp hv).1
    cases hm : fd.ps[i]? with
    | none => rw [List.getElem?_eq_none_iff] at hm; omega
    | some m =>
      have := psOk_at o3 hm
      cases m with
      | s => simp only [Nat.zero_add] at this; exact absurd hi this.1
      | b => simp only [Nat.zero_add] at this; exact absurd hi this.1
      | m => rfl
  refine ⟨?_, hd.1, hd.2, fun i hi a e => ?_, fun i hi j hj a e e' => ?_, fun i d e => ?_, fun i v h => by cases h⟩
  · unfold start L2.start; simp; omega
  · have hv := start_of e
    exact mVals_own ha a (mVals_mem l2 (pm hi hv) hv)
  · have hv := start_of e
    have hv' := start_of e'
    exact mVals_inj l2 hn (pm hi hv) (pm hj hv') hv hv'
  · have he := startD_of e
    obtain ⟨m, v, h1, h2, h3⟩ := argR_at ha he
    refine ⟨v, start_at h2, fun z => ?_, fun z1 z2 => ?_, fun z1 z2 => ?_⟩
    · have := pm z h2
      rw [h1] at this
      cases this
      obtain ⟨a, ea, _, ct⟩ := h3
      exact ⟨a, ea, ct⟩
    · have hp := psOk_at o3 h1
      cases m with
      | s => simp only [Nat.zero_add] at hp; exact absurd z2 hp.2
      | m => simp only [Nat.zero_add] at hp; exact absurd hp z1
      | b =>
        rcases h3 with q | ⟨a, ea, oa, na, ct⟩
        · exact .inl q
        · refine .inr ⟨a, ea, oa, ⟨fun j hj ej => ?_, fun z => z⟩, ct⟩
          have hv := start_of ej
          exact na (mVals_mem l2 (pm hj hv) hv)
    · have hp := psOk_at o3 h1
      cases m with
      | s => exact h3
      | m => simp only [Nat.zero_add] at hp; exact absurd hp z1
      | b => simp only [Nat.zero_add] at hp; exact absurd hp.2 z2
end
end BF

/-! Snd28 -/
set_option Elab.async false
set_option linter.all false
set_option maxRecDepth 100000
set_option maxHeartbeats 4000000
namespace BF
open PySem L2

section
variable {Z : Wd} {O : Addr → Prop} {H : Hp} {M : List V}
/-- the base of a def's body -/
def bsOf (fd : Fd) (N : List Str) (O : Addr → Prop) (H : Hp) (vs : List V) : Bs := ⟨O, H, mVals fd.ps vs, mSlots fd.ps 0, fd.fresh, N.length, none⟩
theorem bsOk_of {fd : Fd} {N : List Str} {ds : List D} {vs : List V} (ok : fdOk fd N = true) (hd : DomO Z O H) (ha : ArgR Z H O (mVals fd.ps vs) fd.ps ds vs) : BsOk Z (bsOf fd N O H vs) (plOf fd) := by
  simp only [fdOk, Bool.and_eq_true, beq_iff_eq, decide_eq_true_eq] at ok
  exact ⟨hd.1, fun a h => mVals_own ha a h, fun i hi => (mSlots_own ok.2 i hi).1, fun v h => nomatch h⟩
theorem start_J {fd : Fd} {N : List Str} {ds : List D} {vs : List V} (ok : fdOk fd N = true) (ha : ArgR Z H O (mVals fd.ps vs) fd.ps ds vs) : J (bsOf fd N O H vs) (plOf fd) O (L2.start N vs) H := by
  simp only [fdOk, Bool.and_eq_true, beq_iff_eq, decide_eq_true_eq] at ok
  obtain ⟨⟨o1, o2⟩, o3⟩ := ok
  obtain ⟨l1, l2⟩ := argR_len ha
  refine ⟨fun _ h => h, fun _ _ _ _ h => h, fun _ _ e _ _ => e, fun i hi a e => .inl ?_, mVals_at l2 fun i v e => by rw [Nat.zero_add]; exact start_at e, by unfold L2.start; simp [bsOf]; omega, fun v h => nomatch h⟩
  have hv := start_of e
  have hlt : i < fd.ps.length := by rw [← l2]; exact (List.getElem?_eq_some_iff.mp hv).1
  cases hm : fd.ps[i]? with
  | none => rw [List.getElem?_eq_none_iff] at hm; omega
  | some m =>
    have hp := psOk_at o3 hm
    cases m with
    | s => simp only [Nat.zero_add] at hp; exact absurd hi hp.1
    | b => simp only [Nat.zero_add] at hp; exact absurd hi hp.1
    | m => exact mVals_mem l2 hm hv
/-- what a def's body is to do, from its promise -/
theorem fn_start {fd : Fd} {N : List Str} {l : Lv} {F : List D → R (D × List D)} {vs : List V} {Q : VK} {E : XK} (ok : fdOk fd N = true) (hF : ∀ ds, ds.length = fd.ps.length → F ds = finish fd (exs fd.body l (start fd ds))) (h : spF Z fd F vs H Q E) :
    ∃ O, BsOk Z (bsOf fd N O H vs) (plOf fd) ∧ TSe (bsOf fd N O H vs) Z (plOf fd) (fun cls d _ H => E cls d H) (exs fd.body l) { nx := fun _ H' => Q .non H', rt := Q } (L2.start N vs) H := by
  obtain ⟨O, ds, hd, ha, hn, g⟩ := h
  have hB := bsOk_of (N := N) ok hd ha
  refine ⟨O, hB, O, start fd ds, start_rel ok hd ha hn, start_J ok ha, ?_⟩
  rw [hF ds (argR_len ha).1] at g
  unfold finish at g
  cases hx : exs fd.body l (start fd ds) with
  | bad => rw [hx] at g; exact g.elim
  | exc q =>
    rw [hx] at g
    exact fun O' σ' H' r j _ => g H' (fun b o e t n => j.keep b o e t n) ⟨fun a ha => let ⟨o, e, t⟩ := r.dom a (j.sub a ha); ⟨o, e, t⟩, r.tab⟩
  | ok q =>
    rw [hx] at g
    obtain ⟨fl, σd⟩ := q
    intro O' σ' H' r j _
    have dm : DomO Z O H' := ⟨fun a ha => let ⟨o, e, t⟩ := r.dom a (j.sub a ha); ⟨o, e, t⟩, r.tab⟩
    have km : KeepM (mVals fd.ps vs) H H' := fun b o e t n => j.keep b o e t n
    -- the values handed back
    have fin : ∀ {d : D}, (match ((getAll σd (mSlots fd.ps 0)).bind fun ds => R.ok (d, ds)) with
        | .ok q => ∀ v H', KeepM (mVals fd.ps vs) H H' → DomO Z O H' → RetR Z fd.fresh H H' O q.1 v q.2 (mVals fd.ps vs) → Q v H'
        | .exc k => ∀ H', KeepM (mVals fd.ps vs) H H' → DomO Z O H' → E (.ref (Z.cad k)) none H'
        | .bad => False) → ∀ v, RtR (bsOf fd N O H vs) Z σd H' d v → Q v H' := fun {d} g v rv => by
      cases hg : getAll σd (mSlots fd.ps 0) with
      | bad => rw [hg] at g; exact g.elim
      | exc k =>
        exfalso
        have : ∀ (is : List Nat) (k : Nat), getAll σd is ≠ .exc k := by
          intro is
          induction is with
          | nil => intro k h; simp [getAll] at h
          | cons i is ih =>
            intro k h
            unfold getAll at h
            cases h1 : getS σd i with
            | ok x =>
              rw [h1] at h
              cases h2 : getAll σd is with
              | ok y => rw [h2] at h; cases h
              | exc q => exact ih q h2
              | bad => rw [h2] at h; cases h
            | exc q => exact getS_ne q h1
            | bad => rw [h1] at h; cases h
        exact this _ _ hg
      | ok ms =>
        rw [hg] at g
        refine g v H' km dm ⟨⟨rv.1, ?_⟩, fun hf hc => ?_⟩
        · exact outR_of r j.sub j.ms hB.ms (fun a h => hB.hM a h) hg
        · obtain ⟨a, e1, e2, e3, e4⟩ := rv.2 hf hc
          exact ⟨a, e1, e2, e3, e4 ms hg⟩
    cases fl with
    | nx => exact fin (d := .non) g .non ⟨.non, fun _ h => by cases h⟩
    | rt d => exact fin g
    | br => exact g.elim
    | ct => exact g.elim
end
end BF

/-! Snd29 -/
set_option Elab.async false
set_option linter.all false
set_option maxRecDepth 100000
set_option maxHeartbeats 4000000
namespace BF
open PySem L2 PyProof.Rows

section
variable {bb : Bool} {P : Program} {w : World} {Z : Wd} {mg : Str → Option Value} {base : Heap} {fns : List Str} {con : List (Str × D)} {excs : List Str} 
/-- what is known of a def at a level -/
def Lev (P : Program) (w : World) (Z : Wd) (mg : Str → Option Value) (base : Heap) (n : Nat) : Prop :=
  ∀ f fd, Z.tb[f]? = some fd → ∃ (fdt : FuncData) (ps : List Str), FnOk P w Z.K mg base (L2N.CX P w) n (Z.fad f) fdt ps (spF Z fd (Fs Z.tb Z.sub n f)) ∧ L2.Binds Z.K fdt ps [] ∧ PySem.W.keepIn Z.K (.ref (Z.fad f)) = true
theorem Ts_2 {n : Nat} {F : Fns} (h : (Ts Z.tb Z.sub n).2.2 = some F) : ∃ m, m + 2 = n ∧ F = Fs Z.tb Z.sub m := by
  match n with
  | 0 => cases h
  | 1 => cases h
  | m + 2 =>
    have h : some (Ts Z.tb Z.sub m).1 = some F := h
    cases h
    exact ⟨m, rfl, rfl⟩
theorem Lev.fnIn {n : Nat} {X : Cx} (h : Lev P w Z mg base n) (h1 : X.prog = P) (h2 : X.w = w) (h3 : X.K = Z.K) (h4 : X.mg = mg) (h5 : X.base = base) (f : Nat) (fd : Fd) (hf : Z.tb[f]? = some fd) : FnIn X Z n f fd (Fs Z.tb Z.sub n f) := by
  obtain ⟨fdt, ps, q1, q2, q3⟩ := h f fd hf
  exact ⟨fdt, ps, by rw [h1, h2, h3, h4, h5]; exact q1, by rw [h3]; exact q2, by rw [h3]; exact q3⟩
theorem st_bad' {B : Bs} {c : Pl} {W : WX} {X : Cx} {s : Stmt} {f : Sd → R (Fl × Sd)} (h : ∀ σ, f σ = .bad) : PS X s (TSe B Z c W f) := .none fun D σ H ⟨O, σd, _, _, q⟩ => by rw [h] at q; exact q
/-- the context of a def's body -/
theorem okS_of (hT : ∀ f fd, Z.tb[f]? = some fd → DefE Z mg base fns con excs f fd) (G : Gb Z mg fns con excs Z.sub) {n : Nat} (hl : Lev P w Z mg base n) (hl2 : ∀ m, m + 2 ≤ n → Lev P w Z mg base m) {f : Nat} {fd : Fd} {lm : Bool} {name qual : Str} {params : Arguments} {body : List Stmt} {scope : Scope} {dV kV doc pm cdv ct oc : Value} {an od : Option Addr} {osl : Array (Option Value)} {N ps : List Str}
    (d : DefOk Z mg base fns con excs f fd lm name qual params body scope dV kV doc pm cdv ct oc an od osl N ps) (hlb : lm = true → bb = true) {A : Around} {outer : List Env} {s : Shared} {H : Hp} {E : XK} {vs : List V} {O : Addr → Prop} (hr : Room n (A.deeper (envOfC qual scope s.heap.objs.size (Z.fad f) cdv))) (hB : BsOk Z (bsOf fd N O H vs) (plOf fd)) :
    OkS bb (cxOf (L2N.CX P w) P w Z.K mg base N qual scope (Z.fad f) cdv A outer s H E) Z (tcOf fns con excs lm N fd scope) ⟨Z.tb, fd.own, Z.sub, (Ts Z.tb Z.sub n).1, (Ts Z.tb Z.sub n).2.2, runHd Z.tb Z.sub, .bad, none, fd.fresh⟩ (plOf fd) (fun cls d _ H => E cls d H) n (bsOf fd N O H vs) where
  ok := {
    K := rfl
    N := rfl
    nd := d.S.nd
    sc := rfl
    own := rfl
    bor := rfl
    hold := fun _ _ h => nomatch h
    lown := rfl
    tk := L2N.takes_of rfl rfl rfl rfl
    un := by have := hr.un; show (A.deeper _).units + 65 < cLine; omega
    calm := fun _ => ⟨rfl, hr, rfl⟩
    hot := fun _ h => nomatch h
    fns := G.fn_
    con := G.con_
    blt := G.blt
    exc := fun x i h => let ⟨h1, q⟩ := G.exc x i h; ⟨h1, fun z => (q z).1, fun z => (q z).2.1, fun z => raises_own (q z).2.2.1 (q z).2.2.2⟩
    call := fun f fd h => hl.fnIn rfl rfl rfl rfl rfl f fd h
    call2 := fun F h => by
      obtain ⟨m, hm, rfl⟩ := Ts_2 h
      exact ⟨m, by omega, fun f fd h => (hl2 m (by omega)).fnIn rfl rfl rfl rfl rfl f fd h⟩
    lam := fun h => by
      obtain ⟨cc, Pt, h1, h2, h3, h4⟩ := d.lam h
      exact ⟨cc, Pt, h1, h2, h3, h4⟩
    lb := hlb
    gb := G
    defs := hT
    hd := fun F h => ⟨rfl, rfl, rfl⟩ }
  hB := hB
  np := fun i hi => by
    have ok := d.ok
    simp only [fdOk, Bool.and_eq_true, beq_iff_eq, decide_eq_true_eq] at ok
    have := (mSlots_own ok.2 i hi).2.2
    show i < fd.ps.length
    omega
  fr := rfl
  n := rfl
  fn := fun _ => rfl
  hp := fun _ => passes_of rfl
  hs := fun _ => rfl
  hf := rfl
  kind := d.S.kind
  h0 := fun _ => rfl
  sb := rfl
  act := fun _ x p pos pos' _ _ _ _ pn xe W' _ => st_bad' fun _ => rfl
theorem lev_zero (hT : ∀ f fd, Z.tb[f]? = some fd → DefE Z mg base fns con excs f fd) : Lev P w Z mg base 0 := fun f fd hf => by
  obtain ⟨lm, name, qual, params, body, scope, dV, kV, doc, pm, cdv, ct, oc, an, od, osl, N, ps, d⟩ := hT f fd hf
  have no : ∀ vs H Q E, ¬ spF Z fd (Fs Z.tb Z.sub 0 f) vs H Q E := fun vs H Q E ⟨O, ds, _, _, _, g⟩ => g
  exact ⟨_, ps, ⟨fun vs H Q E h => absurd h (no vs H Q E), fun A outer s H args us vs Q E _ _ _ _ h => absurd h (no vs H Q E)⟩, d.bd, d.kp⟩
theorem lev_succ (hL : LamH true Z) (hH : HotH true Z) (G : Gb Z mg fns con excs Z.sub) (hT : ∀ f fd, Z.tb[f]? = some fd → DefE Z mg base fns con excs f fd) {n : Nat} (hl : Lev P w Z mg base n) (hl2 : ∀ m, m + 2 ≤ n → Lev P w Z mg base m) : Lev P w Z mg base (n + 1) := fun f fd hf => by
  obtain ⟨lm, name, qual, params, body, scope, dV, kV, doc, pm, cdv, ct, oc, an, od, osl, N, ps, d⟩ := hT f fd hf
  refine ⟨_, ps, fn_of d.lk d.cd d.S (fun vs H Q E h => ?_) (fun A outer s H vs Q E hr h => ?_), d.bd, d.kp⟩
  · obtain ⟨O, ds, _, ha, _⟩ := h
    rw [(argR_len ha).2, d.len]
  · obtain ⟨O, hB, g⟩ := fn_start (N := N) (l := ⟨Z.tb, fd.own, Z.sub, (Ts Z.tb Z.sub n).1, (Ts Z.tb Z.sub n).2.2, runHd Z.tb Z.sub, .bad, none, fd.fresh⟩) d.ok (fun ds hd => by
      show runFd Z.tb Z.sub _ _ _ _ f ds = _
      unfold runFd
      rw [hf]
      exact if_pos hd) h
    have := (ss_all hL hH 100).ss (okS_of (bb := true) (A := A) (outer := outer) (s := s) (E := E) hT G hl hl2 d (fun _ => rfl) hr hB) body
    refine ⟨_, this, ?_⟩
    have e : trSs 100 (tcOf fns con excs lm N fd scope) body = fd.body := d.tr
    rw [e]
    exact g
theorem lev_all (hL : LamH true Z) (hH : HotH true Z) (G : Gb Z mg fns con excs Z.sub) (hT : ∀ f fd, Z.tb[f]? = some fd → DefE Z mg base fns con excs f fd) (n : Nat) : Lev P w Z mg base n := by
  induction n using Nat.strongRecOn with
  | ind n ih =>
    cases n with
    | zero => exact lev_zero hT
    | succ n => exact lev_succ hL hH G hT (ih n (Nat.lt_succ_self n)) fun m hm => ih m (by omega)
end
end BF

/-! Snd30 -/
set_option Elab.async false
set_option linter.all false
set_option maxRecDepth 100000
set_option maxHeartbeats 4000000
namespace BF
open PySem L2 PySem.Spec PyProof.Rows

/-- a lambda's context; its errors lie as L2N.CX says -/
abbrev lamCxN (X : Cx) (A : Around) (outer : List Env) (s : Shared) (H : Hp) (E : XK) (scope : Scope) (f c' : Addr) : Cx :=
  (LamX.lamCx X A outer s H E scope f c').wish fun e s' => wpAny (model X.prog X.w) (A.deeper (LamX.lamEnv X scope s.heap.objs.size f c')) (leaving (LamX.lamEnv X scope s.heap.objs.size f c') e) (fun _ s2 => L2N.CX X.prog X.w outer H s E e s2) (fun e2 s2 => L2N.CX X.prog X.w outer H s E e2 s2) s'
section
variable {X : Cx} {pins : List (Addr × Obj)} {σ : L2.St} {H : Hp} {s : Shared}
/-- the lambda's object, as it was made -/
structure LamO (X : Cx) (H : Hp) (s : Shared) (ps : Arguments) (b : Expr) (sc : Scope) (f c' : Addr) : Prop where
  obj : ∃ pm ctv, s.heap.get? f = some (PySem.W.kla_obj "<lambda>" (X.env.qual ++ "<lambda>") ps b sc (cloFrom X.env.cells sc.names []) pm c' ctv)
  free : H f = none
  nofr : f ∉ frs X.stack
theorem lam_called {Ng : List Str} {qg : Str} {sg : Scope} {g f c' : Addr} {cdg : Value} {ps : Arguments} {b : Expr} {sc : Scope} {k : Nat} {a : Str} {pn : List (Addr × Obj)} {xe : Value → Shared → Prop} {W : WX} {Eg : XK} {tb : XK → TE} {p1 p2 : Pos}
    (I : Inv X pins σ H s) (L : LamX.LamS X.env.scope sc) (lo : LamO X H s ps b sc f c')
    (hbind : ∀ pm cv ctv, bindArgs (PySem.W.kla_fn "<lambda>" (X.env.qual ++ "<lambda>") ps b sc (cloFrom X.env.cells sc.names []) pm cv ctv) ⟨[], []⟩ = pure [])
    (tk : L2N.Takes ((cxOf (L2N.CX X.prog X.w) X.prog X.w X.K X.mg X.base Ng qg sg g cdg X.A X.stack s H Eg).tr pn xe) W) (hr : Room (k + 1) (X.A.deeper (envOfC qg sg s.heap.objs.size g cdg)))
    (hbody : ∀ (A : Around) (outer : List Env) (s : Shared) (H : Hp) (E : XK), Room k (A.deeper (LamX.lamEnv X sc s.heap.objs.size f c')) → PE (lamCxN X A outer s H E sc f c') b (tb E))
    (hN : Ng[0]? = some a) (hv : Vis sg a) (hd : (a == ("__debug__" : Str)) = false) (hcd : (a == ("__classdict__" : Str)) = false) :
    PE ((cxOf (L2N.CX X.prog X.w) X.prog X.w X.K X.mg X.base Ng qg sg g cdg X.A X.stack s H Eg).tr pn xe) (.Call (.Name a p1) [] [] p2)
      (fun σ2 H2 Q => σ2[0]? = some (some (.ref f)) ∧ H2 c' = some (LamX.CodeO c' (X.env.qual ++ "<lambda>")) ∧ tb (WE W σ2) σ H2 Q) := by
  constructor
  intro pins2 s2 σ2 H2 Q J0 ⟨e1, e2, e3⟩
  have nm := (pe_var (X := (cxOf (L2N.CX X.prog X.w) X.prog X.w X.K X.mg X.base Ng qg sg g cdg X.A X.stack s H Eg).tr pn xe) (pos := p1) (i := 0) hN hv hd hcd).run pins2 s2 σ2 H2 (fun v H1 => v = .ref f ∧ H1 = H2) J0 ⟨.ref f, e1, rfl, rfl⟩
  refine wpAny_Call_Name_kw (thn nm fun u s3 hu => ?_)
  obtain ⟨v, H3, J1, ru, ev, eH⟩ := hu
  subst ev
  rw [eH] at J1
  obtain rfl : u = Value.ref f := ru
  obtain ⟨pm, ctv, ho⟩ := lo.obj
  have ho3 := J1.base.keep f _ ho lo.free lo.nofr (by intro z; cases z)
  refine PySem.W.callWith_F0 ⟨_, _, _, _, ho3⟩ ?_
  have un : Un (frs X.stack) [] H H2 s.heap s3.heap := J1.base
  obtain ⟨⟨oc, vs, t, q1, q2, q3⟩, _, _⟩ := J1.hok c' _ e2
  have run : codeAny (model X.prog X.w) (X.A.deeper (envOfC qg sg s.heap.objs.size g cdg)) (.call (.ref f) ⟨[], []⟩) (CR (L2N.CX X.prog X.w) (envOfC qg sg s.heap.objs.size g cdg :: X.stack) X.prog X.w H2 s3 Q (WE W σ2)) s3 := by
    refine PySem.W.kla_callFunE hr.depth ho3 rfl L.co L.gen rfl ⟨c', oc, vs, t, rfl, q1, q2, q3⟩ ?_
    rw [hbind]
    refine wpAny_pure (wpAny_newFunctionEnv (fun y hy => (L.own y hy).2) (fun y hy => absurd hy (by simp)) (fun h4 hns hsb => ⟨J1.nolimit.fresh _ hsb, ?_⟩) L.kind)
    show codeAny _ _ (.expr b (LamX.lamEnv X sc s3.heap.objs.size f c')) _ _
    have keep4 : ∀ b o, s3.heap.get? b = some o → h4.get? b = some o := fun b o e => hsb.extBut b o (Nat.ne_of_lt (Heap.lt_size e)) (Heap.get?_push_of_some _ e)
    have J2 := (LamX.lam_start2 (A := X.A.deeper (envOfC qg sg s.heap.objs.size g cdg)) (outer := envOfC qg sg s.heap.objs.size g cdg :: X.stack) (E := WE W σ2) (f := f) (c' := c') (tk := s3.toks + ([] : List (Str × Value)).length) I L J1.env0 hr.hd un hns keep4).wish (fun e s' => wpAny (model X.prog X.w) ((X.A.deeper (envOfC qg sg s.heap.objs.size g cdg)).deeper (LamX.lamEnv X sc s3.heap.objs.size f c')) (leaving (LamX.lamEnv X sc s3.heap.objs.size f c') e) (fun _ s2 => L2N.CX X.prog X.w (envOfC qg sg s.heap.objs.size g cdg :: X.stack) H2 s3 (WE W σ2) e s2) (fun e2 s2 => L2N.CX X.prog X.w (envOfC qg sg s.heap.objs.size g cdg :: X.stack) H2 s3 (WE W σ2) e2 s2) s')
    have body := (hbody (X.A.deeper (envOfC qg sg s.heap.objs.size g cdg)) (envOfC qg sg s.heap.objs.size g cdg :: X.stack) s3 H2 (WE W σ2) (hr.deeper _)).run [] _ _ H2 Q J2 e3
    refine PySem.W.kla_codeExpr (wpAny_mono body (fun v s5 hq => ?_) fun e s5 hq => hq)
    obtain ⟨w5, H5, J5, rv, q⟩ := hq
    exact ⟨w5, H5, J5.os, J5.bare, J5.base, J5.hok, rv, q⟩
  have ps2 := L2N.passAt tk σ2
  refine wpAny_call (codeAny_mono run fun r s5 hq => ?_)
  match r, hq with
  | .error e, hq => exact ps2 pins2 H2 s3 e s5 J1 hq
  | .ok (.ret u), hq => exact J1.after hq
  | .ok .next, hq => exact hq.elim
  | .ok .brk, hq => exact hq.elim
  | .ok .cont, hq => exact hq.elim
/-- x(lambda: b) -/
theorem lam_call {T : List (Addr × Str)} {R : L2.St → Hp → VK → Prop} {x a : Str} {g cc Pt : Addr} {k : Nat} {pg : Arguments} {bg : List Stmt} {sg : Scope} {dV kV doc pm cdv ct oc : Value} {nm qn : Str} {an od : Option Addr} {osl : Array (Option Value)} {Ng : List Str}
    {ps : Arguments} {b : Expr} {sc : Scope} {W : WX} {p lpos pos : Pos} (hg : Gl X x) (hm : X.mg x = some (.ref g)) (hk : PySem.W.keepIn X.K (.ref g) = true)
    (lk : X.K.lookup g = some ⟨oc, od, .func (PySem.W.fnOf nm qn pg bg sg dV kV doc pm an cdv ct), osl⟩) (hcg : PySem.W.codeIn X.K cdv qn = true) (hb : L2.Binds X.K (PySem.W.fnOf nm qn pg bg sg dV kV doc pm an cdv ct) [a] []) (Sg : FnScope Ng [a] sg) (tk : L2N.Takes X W)
    (hG : ∀ (f c' : Addr) (s1 : Shared) (σ : L2.St) (H1 : Hp) (Q : VK) (pins : List (Addr × Obj)), Inv X pins σ H1 s1 → LamO X H1 s1 ps b sc f c' → H1 c' = some (LamX.CodeO c' (X.env.qual ++ "<lambda>")) → R σ H1 Q → Room (k + 1) (X.A.deeper (envOfC qn sg s1.heap.objs.size g cdv)) →
      ∃ t, PSs (cxOf (L2N.CX X.prog X.w) X.prog X.w X.K X.mg X.base Ng qn sg g cdv X.A X.stack s1 H1 (WE W σ)) bg t ∧ t { nx := fun _ H' => Q .non H', rt := Q } (L2.start Ng [.ref f]) H1)
    (TB : LamX.TabB X.base X.mg cc Pt) (hcode : X.env.code = .ref cc) (hmT : (Pt, X.env.qual ++ "<lambda>") ∈ T) (hu : ∀ p ∈ T, p.1 = Pt → p.2 = X.env.qual ++ "<lambda>") (hr : Room (k + 2) X.A) (L : LamX.LamS X.env.scope sc) (hdef : defaultsOf ps X.env = ([], []))
    (hdb : (x == ("__debug__" : Str)) = false) :
    PE X (.Call (.Name x p) [.Lambda ps b sc lpos] [] pos) (fun σ H Q => LamX.Tabs T H ∧ ∀ H1, LamX.ExtN H H1 → LamX.Tabs T H1 → R σ H1 Q) := by
  constructor
  intro pins s σ H Q I ⟨hT, h⟩
  refine wpAny_Call_Name_kw (ld_glob I hg hm ?_ hdb)
  refine PySem.W.callWith_K (h₀ := X.base) I.ok.mod.kin hk ?_ (by rfl) (by rfl)
  show wpAny _ _ (spliced ((false, eval (.Lambda ps b sc lpos) X.env) :: backTo pos (starEach [] X.env))) _ _ s
  refine Calls.spliced_cons (LamX.lam_make2 I TB hcode hmT hu hT hdef (L.has I.ok) fun f c' pm' ctv H1 s1 I1 eN T1 hf hfn hfr hco => Calls.spliced_nil ⟨I1.kIn, ?_⟩)
  have lo : LamO X H1 s1 ps b sc f c' := ⟨⟨pm', ctv, hf⟩, hfn, hfr⟩
  have run : codeAny (model X.prog X.w) X.A (.call (.ref g) ⟨[.ref f], []⟩) (CR (L2N.CX X.prog X.w) X.stack X.prog X.w H1 s1 Q (WE W σ)) s1 :=
    LamX.run_ofS (N := Ng) (ps := [a]) (us := [.ref f]) (vs := [.ref f]) lk hcg Sg hr I1.env0 (hb s1 [.ref f] I1.kIn rfl) (.cons rfl .nil) rfl fun hr2 => hG f c' s1 σ H1 Q pins I1 lo hco (h H1 eN T1) hr2
  have ps2 := L2N.passAt tk σ
  refine wpAny_call (codeAny_mono run fun r s5 hq => ?_)
  match r, hq with
  | .error e, hq => exact ps2 pins H1 s1 e s5 I1 hq
  | .ok (.ret u), hq => exact I1.after hq
  | .ok .next, hq => exact hq.elim
  | .ok .brk, hq => exact hq.elim
  | .ok .cont, hq => exact hq.elim
end
end BF

/-! Snd31 -/
set_option Elab.async false
set_option linter.all false
set_option maxRecDepth 100000
set_option maxHeartbeats 4000000
namespace BF
open PySem L2 PySem.Spec PyProof.Rows

section
variable {Z : Wd} {c : Pl} {W : WX} {O : Addr → Prop} {σ : L2.St} {σd : Sd} {H H' : Hp}
/-- all but the tables stays -/
theorem RelS.ext (r : RelS Z c O σd σ H) (l : ∀ b o, H b = some o → NT o → H' b = some o) (t : LamX.Tabs Z.T H') : RelS Z c O σd σ H' := by
  have g : Le (hide H O) (hide H' O) := hide_mono fun a o e t n => ⟨l a o e t, n⟩
  refine ⟨r.len, fun a h => let ⟨o, e, t⟩ := r.dom a h; ⟨o, l a o e t, t⟩, t, r.own, r.inj, fun i d e => ?_, r.hold⟩
  obtain ⟨v, h1, h2, h3, h4⟩ := r.slot i d e
  refine ⟨v, h1, fun z => ?_, fun z1 z2 => ?_, fun z1 z2 => (h4 z1 z2).le g⟩
  · obtain ⟨a, ea, ct⟩ := h2 z
    exact ⟨a, ea, ct.monoN g fun o q t => l a o q t⟩
  · rcases h3 z1 z2 with q | ⟨a, ea, oa, na, ct⟩
    · exact .inl (q.le g)
    · exact .inr ⟨a, ea, oa, na, ct.monoN g fun o q t => l a o q t⟩
/-- the places of a lambda's body -/
def plLam (own bor : List Nat) : Pl := ⟨[], own ++ bor, none, fun _ => False⟩
/-- the maker's slots, as the lambda's body sees them -/
theorem RelS.lam {own bor : List Nat} {O' : Addr → Prop} (r : RelS Z c O σd σ H) (h1 : c.own = own) (h2 : c.bor = bor) (hd : DomO Z O' H') (hO : ∀ b, O b → O' b) (hN : ∀ b o, H b = some o → NT o → ¬ O b → ¬ O' b) (l : ∀ b o, H b = some o → NT o → H' b = some o) : RelS Z (plLam own bor) O' σd σ H' := by
  have g : Le (hide H O) (hide H' O') := hide_mono fun a o e t n => ⟨l a o e t, hN a o e t n⟩
  refine ⟨r.len, hd.1, hd.2, (by intro i hi; cases hi), (by intro i hi; cases hi), fun i d e => ?_, fun i v h => by cases h⟩
  obtain ⟨v, q1, q2, q3, q4⟩ := r.slot i d e
  have np : ∀ a, Apart (plLam own bor) σ a := fun a => ⟨(by intro i hi; cases hi), fun z => z⟩
  refine ⟨v, q1, (by intro hi; cases hi), fun _ z2 => ?_, fun _ z2 => ?_⟩
  · by_cases ho : i ∈ c.own
    · obtain ⟨a, ea, ct⟩ := q2 ho
      exact .inr ⟨a, ea, hO a (r.own i ho a (by rw [q1, ea])), np a, ct.monoN g fun o q t => l a o q t⟩
    · have hb : i ∈ c.bor := by
        have z2 : i ∈ own ++ bor := z2
        rcases List.mem_append.mp z2 with z | z
        · exact absurd (by rw [h1]; exact z) ho
        · rw [h2]; exact z
      rcases q3 ho hb with q | ⟨a, ea, oa, na, ct⟩
      · exact .inl (q.le g)
      · exact .inr ⟨a, ea, hO a oa, np a, ct.monoN g fun o q t => l a o q t⟩
  · have z2 : i ∉ own ++ bor := z2
    have n1 : i ∉ c.own := fun z => z2 (List.mem_append.mpr (.inl (by rw [← h1]; exact z)))
    have n2 : i ∉ c.bor := fun z => z2 (List.mem_append.mpr (.inr (by rw [← h2]; exact z)))
    exact (q4 n1 n2).le g
/-- the lambda's value, without its state -/
def thOf (r : R (D × Sd)) : R D := match r with
  | .ok q => .ok q.1
  | .exc k => .exc k
  | .bad => .bad
theorem lamH_false {Z : Wd} : LamH false Z := by
  intro X tc l c W k o _ x f ps b sc lpos p pos kb _ _ _ hlm
  exact absurd (o.lb hlm) (by decide)
theorem noArgs_eq {ps : Arguments} (h : noArgs ps = true) : ps = ⟨[], [], none, [], [], none, []⟩ := by
  unfold noArgs at h
  split at h
  · rfl
  · cases h
end
end BF

/-! Snd32 -/
set_option Elab.async false
set_option linter.all false
set_option maxRecDepth 100000
set_option maxHeartbeats 4000000
namespace BF
open PySem L2 PySem.Spec PyProof.Rows

section
variable {Z : Wd}
def lvLam (l : Lv) (F2 : Fns) : Lv := { l with own := [], F := F2, F2 := none, Hd := fun _ _ => .bad, th := .bad }
def lvHd (Z : Wd) (fd : Fd) (th : R D) : Lv := ⟨Z.tb, fd.own, Z.sub, fun _ _ => .bad, none, fun _ _ => .bad, th, none, fd.fresh⟩
def bsHd (fd : Fd) (N : List Str) (O : Addr → Prop) (H : Hp) (f : Addr) : Bs := ⟨O, H, [], [], fd.fresh, N.length, some (.ref f)⟩
theorem ok_lam {X : Cx} {tc : Tc} {l : Lv} {c : Pl} {W : WX} {k k2 : Nat} {F2 : Fns} (o : Ok true X Z tc l c W k) (hh : tc.hld = none) (hF : ∀ f fd, l.tb[f]? = some fd → FnIn X Z k2 f fd (F2 f)) {sc : Scope} {A : Around} {outer : List Env} {s : Shared} {H : Hp} {E : XK} {f c' : Addr} (hr : Room k2 (A.deeper (LamX.lamEnv X sc s.heap.objs.size f c'))) :
    Ok true (lamCxN X A outer s H E sc f c') Z { tc with sc := sc, own := [], bor := tc.own ++ tc.bor, hld := none, hx := false, lm := false } (lvLam l F2) (plLam tc.own tc.bor) (fun cls d _ H => E cls d H) k2 where
  K := o.K
  N := o.N
  nd := o.nd
  sc := rfl
  own := rfl
  bor := rfl
  hold := fun _ _ h => nomatch h
  lown := rfl
  tk := L2N.takes_of rfl rfl rfl rfl
  un := by have := hr.un; show (A.deeper _).units + 65 < cLine; omega
  calm := fun _ => ⟨rfl, hr, (o.calm hh).2.2⟩
  hot := fun _ h => nomatch h
  fns := o.fns
  con := o.con
  blt := o.blt
  exc := fun x i h => let q := o.exc x i h; ⟨q.mg, q.keep, q.base, q.rs⟩
  call := fun f fd h => ⟨(hF f fd h).ex⟩
  call2 := fun _ h => nomatch h
  lam := fun h => nomatch h
  lb := fun h => nomatch h
  gb := o.gb
  defs := o.defs
  hd := fun _ h => nomatch h
theorem runHd_eq {f : Nat} {fd : Fd} {th : R D} (h : Z.tb[f]? = some fd) (h2 : fd.ps = [.b] ∧ fd.hd = true) : runHd Z.tb Z.sub f th = (finish fd (exs fd.body (lvHd Z fd th) (List.replicate fd.ns none))).bind fun q => .ok q.1 := by
  unfold runHd
  rw [h]
  exact if_pos h2
theorem ev_lam {f : Nat} {kb : E} {l : Lv} {F2 : Fns} {σ : Sd} (hF : l.F2 = some F2) : ev (.lam f kb) l σ = match ev kb (lvLam l F2) σ with
      | .ok q => (l.Hd f (.ok q.1)).bind fun d => .ok (d, σ)
      | .exc c => (l.Hd f (.exc c)).bind fun d => .ok (d, σ)
      | .bad => .bad := by
  have e : ev (.lam f kb) l σ = (match l.F2 with
    | none => R.bad
    | some F2 => (match ev kb (lvLam l F2) σ with
      | .ok q => (l.Hd f (.ok q.1)).bind fun d => .ok (d, σ)
      | .exc c => (l.Hd f (.exc c)).bind fun d => .ok (d, σ)
      | .bad => .bad)) := rfl
  rw [e, hF]
theorem ev_lam_bad {f : Nat} {kb : E} {l : Lv} {F2 : Fns} {σ : Sd} (hF : l.F2 = some F2) (h : ∀ r, l.Hd f r = .bad) : ev (.lam f kb) l σ = .bad := by
  rw [ev_lam hF]
  cases ev kb (lvLam l F2) σ with
  | ok q => dsimp only; rw [h]; rfl
  | exc q => dsimp only; rw [h]; rfl
  | bad => rfl
/-- the handler, from the lambda's reading -/
theorem hd_start {c : Pl} {W : WX} {O : Addr → Prop} {σ : L2.St} {σd : Sd} {H1 : Hp} {Q : VK} {f : Nat} {fd : Fd} {N : List Str} {th : R D} {fl : Addr} (hps : fd.ps = [.b]) (ok : fdOk fd N = true) (hr : RelS Z c O σd σ H1)
    (g : Go Z c W (((finish fd (exs fd.body (lvHd Z fd th) (List.replicate fd.ns none))).bind fun q => R.ok q.1).bind fun d => .ok (d, σd)) O σ H1 fun d _ H' => ∀ v, Rep Z (hide H' O) d v → Q v H') :
    BsOk Z (bsHd fd N O H1 fl) (plOf fd) ∧ TSe (bsHd fd N O H1 fl) Z (plOf fd) (fun cls d _ H => WE W σ cls d H) (exs fd.body (lvHd Z fd th)) { nx := fun _ H' => Q .non H', rt := Q } (L2.start N [.ref fl]) H1 := by
  have ok' := ok
  simp only [fdOk, Bool.and_eq_true, beq_iff_eq, decide_eq_true_eq] at ok'
  obtain ⟨⟨o1, o2⟩, o3⟩ := ok'
  have z0 : 0 ∉ fd.own ∧ 0 ∈ fd.bor := by
    have := psOk_at (ps := fd.ps) (n := 0) (i := 0) (m := .b) o3 (by rw [hps]; rfl)
    simpa using this
  have l1 : 1 ≤ N.length := by rw [hps] at o2; simpa using o2
  have at0 : ∀ {i : Nat} {a : Addr}, i ∈ fd.own → (L2.start N [V.ref fl])[i]? = some (some (.ref a)) → False := fun {i a} hi e => by
    have := start_of e
    have : i = 0 := by
      have h := (List.getElem?_eq_some_iff.mp this).1
      simp at h; exact h
    exact z0.1 (this ▸ hi)
  have hB : BsOk Z (bsHd fd N O H1 fl) (plOf fd) := ⟨hr.dom, fun a h => (by cases h), fun i h => (by cases h), fun v h => ⟨z0.2, z0.1⟩⟩
  refine ⟨hB, O, List.replicate fd.ns none, ?_, ?_, ?_⟩
  · refine ⟨by unfold L2.start; simp; omega, hr.dom, hr.tab, fun i hi a e => (at0 hi e).elim, fun i hi j hj a e => (at0 hi e).elim, fun i d e => ?_, fun i v h => (by cases h)⟩
    rw [List.getElem?_replicate] at e
    split at e <;> simp at e
  · refine ⟨fun _ h => h, fun _ _ _ _ h => h, fun _ _ e _ _ => e, fun i hi a e => (at0 hi e).elim, trivial, by unfold L2.start; simp [bsHd]; omega, fun v h => ?_⟩
    have h : some (V.ref fl) = some v := h
    cases h
    exact start_at rfl
  · have hms : mSlots fd.ps 0 = [] := by rw [hps]; rfl
    unfold finish at g
    rw [hms] at g
    -- what the maker is told
    have back : ∀ {O' : Addr → Prop} {σ' : L2.St} {H' : Hp} {σ5 : Sd}, RelS Z (plOf fd) O' σ5 σ' H' → J (bsHd fd N O H1 fl) (plOf fd) O' σ' H' → RelS Z c O σd σ H' ∧ KeepE c σ H1 H' := fun {O' σ' H' σ5} r j =>
      ⟨hr.ext (fun b o e t => j.keep b o e t (by intro z; cases z)) r.tab, fun b o e t _ => j.keep b o e t (by intro z; cases z)⟩
    cases hx : exs fd.body (lvHd Z fd th) (List.replicate fd.ns none) with
    | bad => rw [hx] at g; exact g.elim
    | exc q =>
      rw [hx] at g
      intro O' σ' H' r j _
      obtain ⟨b1, b2⟩ := back r j
      exact g H' (by rw [← b1.len]; exact b1.nones) b2
    | ok q =>
      obtain ⟨fl', σ5⟩ := q
      rw [hx] at g
      intro O' σ' H' r j _
      obtain ⟨b1, b2⟩ := back r j
      cases fl' with
      | nx => exact (Go.ok (q := (D.non, σd)) g b1 b2) .non .non
      | rt d => exact fun v rv => (Go.ok (q := (d, σd)) g b1 b2) v rv.1
      | br => exact g.elim
      | ct => exact g.elim
end
end BF

/-! Snd33 -/
set_option Elab.async false
set_option linter.all false
set_option maxRecDepth 100000
set_option maxHeartbeats 4000000
namespace BF
open PySem L2 PySem.Spec PyProof.Rows

section
variable {Z : Wd}
theorem fn_bad {X : Cx} {fns : List Str} {con : List (Str × D)} {excs : List Str} {f : Nat} {fd : Fd} {k : Nat} (hK : X.K = Z.K) (h : DefE Z X.mg X.base fns con excs f fd) : FnIn X Z k f fd (fun _ => .bad) := by
  obtain ⟨lm, name, qual, params, body, scope, dV, kV, doc, pm, cdv, ct, oc, an, od, osl, N, ps, d⟩ := h
  have no : ∀ vs H Q E, ¬ spF Z fd (fun _ => .bad) vs H Q E := fun vs H Q E ⟨O, ds, _, _, _, g⟩ => g
  exact ⟨_, ps, ⟨fun vs H Q E h => absurd h (no vs H Q E), fun A outer s H args us vs Q E _ _ _ _ h => absurd h (no vs H Q E)⟩, by rw [hK]; exact d.bd, by rw [hK]; exact d.kp⟩
/-- lambdas are sound -/
theorem lamH_true (hH : HotH false Z) : LamH true Z := by
  intro X tc l c W k o hh x f ps b sc lpos p pos kb hn hg hf hlm hna hls hbody
  cases hF2 : l.F2 with
  | none =>
    refine pe_bad fun σ => ?_
    have e : ev (.lam f kb) l σ = (match l.F2 with
        | none => R.bad
        | some F2 => (match ev kb (lvLam l F2) σ with
          | .ok q => (l.Hd f (.ok q.1)).bind fun d => .ok (d, σ)
          | .exc c => (l.Hd f (.exc c)).bind fun d => .ok (d, σ)
          | .bad => .bad)) := rfl
    rw [e, hF2]
  | some F2 =>
    obtain ⟨e1, e2, e3⟩ := o.hd F2 hF2
    obtain ⟨k2, hk2, hF⟩ := o.call2 F2 hF2
    have bad_ : (∀ r, runHd Z.tb Z.sub f r = .bad) → PE X (.Call (.Name x p) [.Lambda ps b sc lpos] [] pos) (TEe Z c W (tP Z) (ev (.lam f kb) l)) := fun h => pe_bad fun σ => ev_lam_bad hF2 (by rw [e1]; exact h)
    cases htb : Z.tb[f]? with
    | none => exact bad_ fun r => by unfold runHd; rw [htb]
    | some fd =>
      by_cases hfd : fd.ps = [.b] ∧ fd.hd = true
      · obtain ⟨lm, name, qual, params, body, scope, dV, kV, doc, pm, cdv, ct, oc, an, od, osl, N, psn, d⟩ := o.defs f fd htb
        have hlm' := d.hd hfd.2
        subst hlm'
        have hl1 : psn.length = 1 := by rw [d.len, hfd.1]; rfl
        match psn, hl1 with
        | [a], _ =>
        obtain ⟨cc, Pt, TB, hcode, hmT, hu⟩ := o.lam hlm
        have hrX := (o.calm hh).2.1
        have L : LamX.LamS X.env.scope sc := by rw [o.sc]; exact LamX.lamS_by hls
        have ena := noArgs_eq hna
        subst ena
        have hN0 : N[0]? = some a := by
          have h1 := d.S.pre
          cases N with
          | nil => simp at h1
          | cons y r =>
            simp at h1
            simp [h1]
        have okD := d.ok
        refine (lam_call (k := k2) (T := Z.T) (W := W) (R := fun σ H1 Q => ∃ O σd, RelS Z c O σd σ H1 ∧ Go Z c W (ev (.lam f kb) l σd) O σ H1 fun d _ H' => ∀ v, Rep Z (hide H' O) d v → Q v H') (o.gl hg) (o.fns x f hf) (by rw [o.K]; exact d.kp) (by rw [o.K]; exact d.lk) (by rw [o.K]; exact d.cd) (by rw [o.K]; exact d.bd) d.S o.tk
          (fun f' c' s1 σ H1 Q pins I1 lo hco ⟨O, σd, hr, g⟩ hr2 => ?_) TB hcode hmT hu (hrX.mono hk2) L rfl (okNm_1 hn).1).weak fun σ H Q ⟨O, σd, hr, g⟩ => ⟨hr.tab, fun H1 eN T1 => ⟨O, σd, hr.ext (fun b o e t => eN b o e t) T1, ?_⟩⟩
        · -- the handler's body
          have g := g
          rw [ev_lam hF2, e1] at g
          have gth : Go Z c W (((finish fd (exs fd.body (lvHd Z fd (thOf (ev kb (lvLam l F2) σd))) (List.replicate fd.ns none))).bind fun q => R.ok q.1).bind fun d => .ok (d, σd)) O σ H1 (fun d _ H' => ∀ v, Rep Z (hide H' O) d v → Q v H') := by
            revert g
            cases hE : ev kb (lvLam l F2) σd with
            | ok q => intro g; rw [← runHd_eq htb hfd]; exact g
            | exc q => intro g; rw [← runHd_eq htb hfd]; exact g
            | bad => intro g; exact g.elim
          obtain ⟨hB, ts⟩ := hd_start (f := f) (fl := f') hfd.1 okD hr gth
          have hc0 : c.hold = none := by
            cases hc : c.hold with
            | none => rfl
            | some q => have := o.hold q.1 q.2 (by rw [hc]); rw [hh] at this; cases this
          have okh : OkS false (cxOf (L2N.CX X.prog X.w) X.prog X.w X.K X.mg X.base N qual scope (Z.fad f) cdv X.A X.stack s1 H1 (WE W σ)) Z (tcOf tc.fns tc.con tc.excs false N fd scope) (lvHd Z fd (thOf (ev kb (lvLam l F2) σd))) (plOf fd) (fun cls d _ H => WE W σ cls d H) (k2 + 1) (bsHd fd N O H1 f') := {
            ok := {
              K := o.K
              N := rfl
              nd := d.S.nd
              sc := rfl
              own := rfl
              bor := rfl
              hold := fun _ _ h => (by cases h)
              lown := rfl
              tk := L2N.takes_of rfl rfl rfl rfl
              un := by have := hr2.un; show (X.A.deeper _).units + 65 < cLine; omega
              calm := fun _ => ⟨rfl, hr2, rfl⟩
              hot := fun _ h => (by cases h)
              fns := o.gb.fn_
              con := o.gb.con_
              blt := o.gb.blt
              exc := fun x i h => (by
                obtain ⟨h1, hq⟩ := o.gb.exc x i h
                exact ⟨h1, fun z => (by show PySem.W.keepIn X.K _ = true; rw [o.K]; exact (hq z).1), fun z => (by obtain ⟨q1, q2, q3, q4, q5, q6⟩ := (hq z).2.1; exact ⟨q1, q2, q3, q4, q5, (by show PySem.W.excIn X.K _ _ _ = true; rw [o.K]; exact q6)⟩), fun z => raises_own (by show PySem.W.subIn X.K _ _ = _; rw [o.K]; exact (hq z).2.2.1) (by show PySem.W.typeIn X.K _ = _; rw [o.K]; exact (hq z).2.2.2)⟩)
              call := fun f fd h => ⟨(fn_bad (X := X) o.K (o.defs f fd h)).ex⟩
              call2 := fun _ h => (by cases h)
              lam := fun h => (by cases h)
              lb := fun h => (by cases h)
              gb := o.gb
              defs := o.defs
              hd := fun _ h => (by cases h) }
            hB := hB
            np := fun i h => (by cases h)
            fr := rfl
            n := rfl
            fn := fun _ => rfl
            hp := fun _ => passes_of rfl
            hs := fun _ => rfl
            hf := rfl
            kind := d.S.kind
            h0 := fun _ => rfl
            sb := rfl
            act := fun _ y p1 p2 p3 hy hv hs _ pn xe W' tk' => by
              have hNy : N[0]? = some y := slot_at hs
              refine (ps_expr (lam_called (k := k2) (tb := fun E => TEe Z (plLam tc.own tc.bor) (fun cls d _ H => E cls d H) (tP Z) (ev kb (lvLam l F2))) I1 L lo (fun _ _ _ => rfl) tk' hr2 (fun A outer s H E hr3 => hbody (ok_lam o hh hF hr3)) hNy (vis_1 hv) (okNm_1 hy).1 (okNm_1 hy).2) (BF.swaps_no rfl)).weak fun D σ2 H2 ⟨O2, σh, r2, j2, g2⟩ => ?_
              have km : ∀ b o, H1 b = some o → NT o → H2 b = some o := fun b o e t => j2.keep b o e t (by intro z; cases z)
              refine ⟨j2.hd _ rfl, km _ _ hco (by intro ps e; exact LamX.codeO_ne ps e), O2, σd, hr.lam o.own o.bor ⟨r2.dom, r2.tab⟩ j2.sub j2.new km, ?_⟩
              have ext : ∀ {σ' : Sd} {H3 : Hp}, RelS Z (plLam tc.own tc.bor) O2 σ' σ H3 → KeepE (plLam tc.own tc.bor) σ H2 H3 → RelS Z (plOf fd) O2 σh σ2 H3 ∧ J (bsHd fd N O H1 f') (plOf fd) O2 σ2 H3 ∧ Le (hide H2 O2) (hide H3 O2) := fun {σ' H3} r3 k3 => by
                have kk : ∀ b o, H2 b = some o → NT o → H3 b = some o := fun b o e t => k3 b o e t (by intro i hi; cases hi)
                exact ⟨r2.ext kk r3.tab, j2.keepE fun b o e t _ => kk b o e t, hide_mono fun a o e t n => ⟨kk a o e t, n⟩⟩
              revert g2
              cases hE : ev kb (lvLam l F2) σd with
              | bad => intro g2; exact g2.elim
              | exc q =>
                intro g2 H3 r3 k3
                obtain ⟨x1, x2, x3⟩ := ext r3 k3
                exact g2 O2 σ2 H3 (by rw [← x1.len]; exact x1.nones) x2 x3
              | ok q =>
                intro g2 H3 r3 k3 v _
                obtain ⟨x1, x2, x3⟩ := ext r3 k3
                exact g2 O2 σ2 H3 x1 x2 x3 }
          have := (ss_all (bb := false) lamH_false hH 100).ss okh body
          refine ⟨_, this, ?_⟩
          have e : trSs 100 (tcOf tc.fns tc.con tc.excs false N fd scope) body = fd.body := d.tr
          rw [e]
          exact ts
        · -- the maker's reading behind the lambda's making
          have kE : KeepE c σ H H1 := fun b o e t _ => eN b o e t
          revert g
          cases hX : ev (.lam f kb) l σd with
          | bad => exact id
          | exc q => exact fun g H' r' k' => g H' r' (kE.trans k')
          | ok q => exact fun g H' r' k' => g H' r' (kE.trans k')
      · exact bad_ fun r => by
          unfold runHd
          rw [htb]
          exact if_neg hfd
end
end BF

/-! Hot1 -/
set_option Elab.async false
set_option linter.all false
set_option maxRecDepth 100000
set_option maxHeartbeats 4000000
namespace BF
open PySem L2 PySem.Spec PyProof.Rows HotX

section
variable {prog : Program} {w : World} {A : Around} {E : Value → Shared → Prop} {s : Shared}
/-- a step of an iterator is over where it raises StopIteration: hot -/
theorem hot_upd {x1 it : Addr} {ob : Obj} {vi : Array Value} {g : Obj → Obj} {h : Heap} (hot : HotAt A x1 h) (hi : h.get? it = some ob) (hd : ob.data = .fields vi) (hs : vi.size = 2) : HotAt A x1 (h.update it g) := by
  obtain ⟨q1, o, vs, q2, q3, q4⟩ := hot
  have ne : x1 ≠ it := fun z => by
    subst z
    rw [hi] at q2
    cases q2
    rw [hd] at q3
    cases q3
    have := (Array.getElem?_eq_some_iff.mp q4).1
    omega
  exact ⟨q1, o, vs, by rw [Heap.get?_update_other _ _ (Ne.symm ne)]; exact q2, q3, q4⟩
theorem next_list_hot {it l x1 : Addr} {i : Nat} {items : Array Value} {Q : Option Value → Shared → Prop} (hot : HotAt A x1 s.heap) (iti : s.heap.IsListIter it l i) (isl : s.heap.IsList l items) (over : items[i]? = none)
    (fin : ∀ h', Heap.ExtBut it s.heap h' → Q none { s with heap := h' }) : wpAny (model prog w) A (pyNext (.ref it)) Q E s := by
  obtain ⟨ob, q1, q2, q3⟩ := id iti
  obtain ⟨ol, p1, _, nl, p3⟩ := isl
  unfold pyNext
  refine wpAny_bind (wpAny_attempt (wpAny_callSpecial?_slot (name := Str.ofString "__next__") iti.typeIs slot_listiter_next (wpAny_call_entry slot_listiter_next iti.typeIs entry_listiter_next ?_ (args_listiter_next _))))
  show wpAny _ _ (field (.ref it) 0 >>= _) _ _ _
  refine wpAny_bind (wpAny_field q1 q3 (x := .ref l) rfl ?_)
  show wpAny _ _ (if (Value.ref l == Value.none) = true then _ else _) _ _ _
  rw [if_neg (by intro z; cases z)]
  show wpAny _ _ (field (.ref it) 1 >>= _) _ _ _
  refine wpAny_bind (wpAny_field q1 q3 (x := .int i 0) rfl ?_)
  show wpAny _ _ (seqItems? (.ref l) >>= _) _ _ _
  refine wpAny_bind (wpAny_seqItems p1 p3 ?_)
  simp only [Int.toNat_natCast, over]
  refine wpAny_bind (wpAny_rule (wpAny_bind (wpAny_setField q1 q3 (by simp) (show wpAny _ _ (newExc (.type "StopIteration") [] >>= _) _ _ _ from wpAny_bind ?_))))
  have hot2 := hot_upd (g := Obj.mapFields (·.setIfInBounds 0 .none)) hot q1 q3 (by rfl)
  simp only [newExc, newTuple]
  refine wpAny_bind (wpAny_newObj_type (wpAny_bind (m := firstArgMember _ _) (wpAny_of_eq (a := Value.none) (by first | rfl | (simp only [firstArgMember]; rfl)) (wpAny_newObj_type ?_ (by size_fits)))) (by size_fits))
  obtain ⟨k1, o1, vs1, k2, k3, k4⟩ := hot2
  refine raiseNew_hot (x1 := x1) ⟨k1, o1, vs1, Heap.get?_push_of_some _ (Heap.get?_push_of_some _ k2), k3, k4⟩ (Nat.ne_of_lt (Heap.lt_size (Heap.get?_push_of_some _ k2))) (Heap.get?_push_size _ rfl) rfl (by first | (simp; done) | (simp; omega)) ?_
  refine wpAny_bind (wpAny_isInstance (T := "StopIteration") (b := true) ⟨_, Heap.get?_update_self _ (Heap.get?_push_size _ rfl) rfl, rfl⟩ isSubtype_stop (wpAny_pure (fin _ fun b o nb e => ?_)))
  have e2 : (s.heap.update it (Obj.mapFields (·.setIfInBounds 0 .none))).get? b = some o := by rw [Heap.get?_update_other _ _ (Ne.symm nb)]; exact e
  rw [Heap.get?_update_other _ _ (Nat.ne_of_gt (Heap.lt_size (Heap.get?_push_of_some _ e2)))]
  exact Heap.get?_push_of_some _ (Heap.get?_push_of_some _ e2)
theorem next_tup_hot {it l x1 : Addr} {i : Nat} {items : Array Value} {Q : Option Value → Shared → Prop} (hot : HotAt A x1 s.heap) (iti : IsTupIter s.heap it l i) (isl : IsTup s.heap l items) (over : items[i]? = none)
    (fin : ∀ h', Heap.ExtBut it s.heap h' → Q none { s with heap := h' }) : wpAny (model prog w) A (pyNext (.ref it)) Q E s := by
  obtain ⟨ob, q1, q2, q3⟩ := id iti
  obtain ⟨ol, p1, _, nl, p3⟩ := isl
  unfold pyNext
  refine wpAny_bind (wpAny_attempt (wpAny_callSpecial?_slot (name := Str.ofString "__next__") iti.typeIs slot_tupleiter_next (wpAny_call_entry slot_tupleiter_next iti.typeIs entry_tupleiter_next ?_ (args_tupleiter_next _))))
  show wpAny _ _ (field (.ref it) 0 >>= _) _ _ _
  refine wpAny_bind (wpAny_field q1 q3 (x := .ref l) rfl ?_)
  show wpAny _ _ (if (Value.ref l == Value.none) = true then _ else _) _ _ _
  rw [if_neg (by intro z; cases z)]
  show wpAny _ _ (field (.ref it) 1 >>= _) _ _ _
  refine wpAny_bind (wpAny_field q1 q3 (x := .int i 0) rfl ?_)
  show wpAny _ _ (seqItems? (.ref l) >>= _) _ _ _
  refine wpAny_bind (wpAny_seqItems p1 p3 ?_)
  simp only [Int.toNat_natCast, over]
  refine wpAny_bind (wpAny_rule (wpAny_bind (wpAny_setField q1 q3 (by simp) (show wpAny _ _ (newExc (.type "StopIteration") [] >>= _) _ _ _ from wpAny_bind ?_))))
  have hot2 := hot_upd (g := Obj.mapFields (·.setIfInBounds 0 .none)) hot q1 q3 (by rfl)
  simp only [newExc, newTuple]
  refine wpAny_bind (wpAny_newObj_type (wpAny_bind (m := firstArgMember _ _) (wpAny_of_eq (a := Value.none) (by first | rfl | (simp only [firstArgMember]; rfl)) (wpAny_newObj_type ?_ (by size_fits)))) (by size_fits))
  obtain ⟨k1, o1, vs1, k2, k3, k4⟩ := hot2
  refine raiseNew_hot (x1 := x1) ⟨k1, o1, vs1, Heap.get?_push_of_some _ (Heap.get?_push_of_some _ k2), k3, k4⟩ (Nat.ne_of_lt (Heap.lt_size (Heap.get?_push_of_some _ k2))) (Heap.get?_push_size _ rfl) rfl (by first | (simp; done) | (simp; omega)) ?_
  refine wpAny_bind (wpAny_isInstance (T := "StopIteration") (b := true) ⟨_, Heap.get?_update_self _ (Heap.get?_push_size _ rfl) rfl, rfl⟩ isSubtype_stop (wpAny_pure (fin _ fun b o nb e => ?_)))
  have e2 : (s.heap.update it (Obj.mapFields (·.setIfInBounds 0 .none))).get? b = some o := by rw [Heap.get?_update_other _ _ (Ne.symm nb)]; exact e
  rw [Heap.get?_update_other _ _ (Nat.ne_of_gt (Heap.lt_size (Heap.get?_push_of_some _ e2)))]
  exact Heap.get?_push_of_some _ (Heap.get?_push_of_some _ e2)
theorem hot_ext {x1 : Addr} {h h' : Heap} (hot : HotAt A x1 h) (k : ∀ b o, h.get? b = some o → h'.get? b = some o) : HotAt A x1 h' := by
  obtain ⟨q1, o, vs, q2, q3, q4⟩ := hot
  exact ⟨q1, o, vs, k _ _ q2, q3, q4⟩
/-- a tuple's items are unpacked, hot -/
theorem items_hot {t x1 : Addr} {items : Array Value} {Q : List Value → Shared → Prop} (hot : HotAt A x1 s.heap) (ht : IsTup s.heap t items)
    (fin : ∀ h', (∀ b o, s.heap.get? b = some o → h'.get? b = some o) → Q items.toList { s with heap := h' }) : wpAny (model prog w) A (unpackItems (.ref t) items.size none) Q E s := by
  have lt : t ≠ s.heap.objs.size := by
    obtain ⟨o, q, _⟩ := ht
    exact Nat.ne_of_lt (Heap.lt_size q)
  unfold unpackItems notIterableAtAll
  refine wpAny_bind (wpAny_bind (wpAny_specialOf ht.typeIs slot_tuple_iter.lookup (wpAny_pure ?_)))
  simp only [Bool.false_eq_true, if_false]
  refine wpAny_bind (wpAny_holding (iter_tuple ht (wpAny_bind (wpAny_holding (draw_tuple lt items.size 0 _ _ ⟨_, Heap.get?_push_size _ rfl, rfl, rfl⟩ (ht.push _) (by omega) fun h1 it1 sb1 => ?_)))))
  have all_ : List.take items.size (List.drop 0 items.toList) = items.toList := by
    rw [List.drop_zero]; exact List.take_of_length_le (by simp)
  have t1 : IsTup h1 t items := (ht.push _).extBut sb1.extBut lt
  have ol : ∀ b o, s.heap.get? b = some o → h1.get? b = some o := fun b o e => sb1.extBut b o (Nat.ne_of_lt (Heap.lt_size e)) (Heap.get?_push_of_some _ e)
  rw [all_, if_neg (by simp)]
  refine wpAny_bind (wpAny_holding (next_tup_hot (hot_ext hot ol) it1 t1 (by simp) fun h2 e2 => ?_))
  simp only [Option.isSome_none, Bool.false_eq_true, if_false]
  exact wpAny_pure (fin h2 fun b o e => e2 b o (Nat.ne_of_lt (Heap.lt_size e)) (ol b o e))
theorem assign_hot {env : Env} {es : List Expr} {k1 : Nat} {pos : Pos} {t x1 : Addr} {items : Array Value} {Q : Unit → Shared → Prop} (hot : HotAt A x1 s.heap) (ht : IsTup s.heap t items) (hn : (assignEach es env).length = items.size) (hs : (assignEach es env).findIdx? (·.1) = none)
    (h : ∀ h', (∀ b o, s.heap.get? b = some o → h'.get? b = some o) → wpAny (model prog w) A (assignInOrder ((assignEach es env).map (·.2)) items.toList) Q E { s with heap := h' }) : wpAny (model prog w) A (assign (.Tuple es k1 pos) env (.ref t)) Q E s := by
  rw [assign_Tuple]
  refine wpAny_bind (wpAny_standAt ?_)
  unfold unpack
  rw [hn, hs]
  exact wpAny_bind (wpAny_holding (items_hot hot ht h))
end
end BF

/-! Hot2 -/
set_option Elab.async false
set_option linter.all false
set_option maxRecDepth 100000
set_option maxHeartbeats 4000000
namespace BF
open PySem L2 PySem.Spec PyProof.Rows HotX

section
variable {Z : Wd} {c : Pl} {X : Cx} {pins : List (Addr × Obj)} {σ : L2.St} {H : Hp} {s : Shared}
/-- a block of a suite: its handled error stands as it was -/
structure HotB (X : Cx) (s : Shared) (H : Hp) (fp : List Addr) (p : Addr × Obj) : Prop where
  hot : L2H.Hot1 X.A p
  get : s.heap.get? p.1 = some p.2
  free : H p.1 = none
  nofs : p.1 ∉ frs X.stack
  nofp : p.1 ∉ fp
theorem HotB.at {scope : Scope} {ce : Env} {fp : List Addr} {p : Addr × Obj} {s0 : Shared} {H0 : Hp} (h : HotB X s0 H0 fp p) (I : Inv (X.blk s0 H0 scope ce fp) pins σ H s) : HotAt X.A p.1 s.heap := by
  obtain ⟨q1, vs, q2, q3⟩ := h.hot
  exact ⟨q1, p.2, vs, I.base.keep _ _ h.get h.free h.nofs h.nofp, q2, q3⟩
/-- a tuple as a target, within such a block -/
theorem tg_tupH {es : List Expr} {k : Nat} {ts : List T} {pos : Pos} {scope : Scope} {ce : Env} {fp : List Addr} {p : Addr × Obj} {s0 : Shared} {H0 : Hp} (hb : HotB X s0 H0 fp p) (hK : X.K = Z.K) {P : D → Prop} (hP : ∀ d, P d → isTupD d = true)
    (h : ∀ a, PGs (X.blk s0 H0 scope ce fp) es (TGrs Z (lk c a) ts)) (hl : ts.length = es.length) (hn : (assignEach es ce).length = es.length) (hst : (assignEach es ce).findIdx? (·.1) = none) : PG (X.blk s0 H0 scope ce fp) (.Tuple es k pos) (gLc Z c P (.tup ts)) := by
  constructor
  intro pins s σ H v u Q I r ⟨a, O, σd, d, hr, rd, pd, g⟩
  have hd := hP d pd
  cases d with
  | tup xs =>
    unfold TGo at g
    simp only [asg, itemsOf] at g
    split at g <;> first | exact g.elim | skip
    rename_i σd' hg
    split at hg <;> first | (cases hg; done) | skip
    rename_i hl'
    cases rd with
    | tup sq rs =>
      cases r
      obtain ⟨its, rv, ht, hz⟩ := I.tuple (X := X.blk s0 H0 scope ce fp) (by show SqT X.K H _ _; rw [hK]; exact (hide_le H O).sqT sq)
      refine assign_hot (hb.at I) ht (by rw [hn]; have := rv.length; have := rs.length; simp; omega) hst fun h' kp => ?_
      have I1 := I.kept (t' := s.toks) (h' := h') kp
      refine (h a).run pins _ σ H _ _ Q I1 (by simpa using rv) ⟨O, σd, xs, hr, rs, ?_⟩
      unfold TGos
      rw [hg]
      exact fun σ' r' sm => g σ' r' (by simpa [slotsT] using sm)
  | _ => simp [isTupD] at hd
end
end BF

/-! Hot3 -/
set_option Elab.async false
set_option linter.all false
set_option maxRecDepth 100000
set_option maxHeartbeats 4000000
namespace BF
open PySem L2 PySem.Spec PyProof.Rows HotX

section
variable {X : Cx}
/-- the reading of a comprehension over a list, within a suite -/
def tLcH (K : PySem.W.Frag) (tl : TE) (g : TG) (tt : TT) (te : TE) (vs : List Nat) : TE := tLc (iList K tl) g tt te vs
theorem pe_lcH {elt tg iter : Expr} {ifs : List Expr} {scope : Scope} {own : List (Str × Nat)} {pos : Pos} {tl : TE} {g : TG} {tt : TT} {te : TE} (hot : L2H.HotC X) (hN : X.N.Nodup) (hl : PE X iter tl) (ok : BlkOk X.N X.env.scope scope own)
    (hg : ∀ (s : Shared) (H : Hp) (C : Addr) (cl : List (Str × Addr)) (fp : List Addr) (p : Addr × Obj), HotB X s H fp p → PG (X.blk s H scope (compEnvC scope cl C X.env) fp) tg g) (ht : ∀ (s : Shared) (H : Hp) (C : Addr) (cl : List (Str × Addr)) (fp : List Addr), PTs (X.blk s H scope (compEnvC scope cl C X.env) fp) ifs tt)
    (he : ∀ (s : Shared) (H : Hp) (C : Addr) (cl : List (Str × Addr)) (fp : List Addr), PE (X.blk s H scope (compEnvC scope cl C X.env) fp) elt te) (hs : ∀ x, foldedSetIterable iter X.env x = pure x) :
    PE X (.ListComp elt [⟨tg, iter, ifs, 0⟩] scope pos) (tLcH X.K tl g tt te (own.map (·.2))) := by
  constructor
  intro pins s σ H Q I h
  rw [eval_ListComp]
  obtain ⟨p, hp1, hp2⟩ := hot
  have free_ : ∀ y ∈ scope.names, y.2 = .free → ∃ c, X.env.cells.lookup y.1 = some c := fun y hy e => (ok.free y hy e).elim (fun q => I.ok.has _ (.inl q)) fun q => I.ok.has _ (.inr q)
  refine wpAny_comprehension_free (use := none) rfl hs (closure_ok free_) ok.kind (fun y hy e => by rw [ok.uniq y hy, e]) (thn (hl.run pins s σ H _ I h) fun u s1 hu => ?_)
  obtain ⟨v, H1, I1, ru, a, ev, ⟨xs0, hxs⟩, q⟩ := hu
  subst ev
  cases ru
  obtain ⟨its0, rv0, pl0, hz0⟩ := I1.list hxs
  refine wpAny_pyIter_list pl0.isList (wpAny_newObj_type (newEnv_comp ?_) (by show 0 ≤ sizeLine; decide))
  -- the iterator at IT, the new list at D
  generalize hIT : s1.heap.objs.size = IT
  generalize hs2 : ({ s1 with heap := s1.heap.push { cls := .type "list_iterator", data := .fields #[.ref a, .int 0 0] } } : Shared) = s2
  have h2 : s2.heap = s1.heap.push { cls := .type "list_iterator", data := .fields #[.ref a, .int 0 0] } := by rw [← hs2]
  have I2 : Inv X pins σ H1 s2 := by rw [← hs2]; exact I1.kept (t' := s1.toks) fun b o e => Heap.get?_push_of_some _ e
  have it2 : s2.heap.IsListIter IT a 0 := ⟨_, by rw [h2, ← hIT]; exact Heap.get?_push_size _ rfl, rfl, rfl⟩
  have fIT : FpOk X pins H1 IT := I1.fpOk (Nat.le_of_eq hIT) (I1.hok.fresh (Nat.le_of_eq hIT))
  generalize hD : s2.heap.objs.size = D
  have nD : H1 D = none := I2.hok.fresh (Nat.le_of_eq hD)
  have ltIT : IT < D := by rw [← hD, h2, Heap.size_push, ← hIT]; exact Nat.lt_succ_self _
  obtain ⟨Wv, ⟨m0, w0⟩, turn⟩ := q D nD
  generalize hs3 : ({ s2 with heap := s2.heap.push { cls := .type "list", data := .seq ([] : List Value).toArray } } : Shared) = s3
  have h3 : s3.heap = s2.heap.push { cls := .type "list", data := .seq ([] : List Value).toArray } := by rw [← hs3]
  have I3 : Inv X pins σ (upd H1 D (.lst [])) s3 := by
    rw [← hs3]
    refine I2.laid (a := D) (t' := s2.toks) (fun b o e => Heap.get?_push_of_some _ e) (Nat.le_of_eq hD) ⟨Nat.zero_le _, [], 0, .nil, ?_⟩
    rw [← hD]; exact Heap.get?_push_size _ rfl
  have f3 : ∀ b ∈ [IT], FpOk X pins (upd H1 D (.lst [])) b ∧ b < s3.heap.objs.size := fun b hb => by
    have hb := List.mem_singleton.mp hb
    subst hb
    refine ⟨⟨by rw [upd_ne (Nat.ne_of_lt ltIT)]; exact fIT.1, fIT.2⟩, ?_⟩
    rw [h3, Heap.size_push, hD]; omega
  have it3 : s3.heap.IsListIter IT a 0 := it2.at fun o e => by rw [h3]; exact Heap.get?_push_of_some _ e
  have I4 := block_start I3 ok hN f3
  obtain ⟨g1, g2, g3, g4, g5⟩ := I3.pin p (List.mem_append_left _ hp2)
  have hb : HotB X s3 (upd H1 D (.lst [])) [IT] p := ⟨hp1, g1, g2, fun z => (List.mem_cons.mp (I3.stkSub _ z)).elim g3 g4, fun z => (fIT.2.2.2.2.2 p (List.mem_append_left _ hp2)) (List.mem_singleton.mp z)⟩
  have pg := hg s3 (upd H1 D (.lst [])) s3.heap.objs.size (cellsFrom (s3.heap.objs.size + 1) scope.names (cloFrom X.env.cells scope.names [])) [IT] p hb
  have pt := ht s3 (upd H1 D (.lst [])) s3.heap.objs.size (cellsFrom (s3.heap.objs.size + 1) scope.names (cloFrom X.env.cells scope.names [])) [IT]
  have pe := he s3 (upd H1 D (.lst [])) s3.heap.objs.size (cellsFrom (s3.heap.objs.size + 1) scope.names (cloFrom X.env.cells scope.names [])) [IT]
  have hpl := hb
  generalize hce : compEnvC scope (cellsFrom (s3.heap.objs.size + 1) scope.names (cloFrom X.env.cells scope.names [])) s3.heap.objs.size X.env = ce at I4 pg pt pe
  have cL : ce.locals = s3.heap.objs.size := by subst hce; rfl
  generalize hs4 : ({ s3 with heap := pushCells (s3.heap.push { cls := .type "dict", data := .dict #[] }) scope.names } : Shared) = s4 at I4
  have it4 : s4.heap.IsListIter IT a 0 := it3.at fun o e => by rw [← hs4]; exact pushCells_keeps _ _ _ _ (Heap.get?_push_of_some _ e)
  have turned_ : ∀ {σ' : L2.St} {H' : Hp} {s' : Shared} {h' : Heap}, Inv (X.blk s3 (upd H1 D (.lst [])) scope ce [IT]) [] σ' H' s' → H' IT = none → (∀ b o, b ≠ IT → s'.heap.get? b = some o → h'.get? b = some o) → Inv (X.blk s3 (upd H1 D (.lst [])) scope ce [IT]) [] σ' H' { s' with heap := h' } := fun {σ' H' s' h'} I' n k =>
    I'.turned (t' := s'.toks) k n (I'.ok.exf IT (by simp)).1 (.inl (by simp)) (fun x c e => (I'.ok.exf IT (by simp)).2 x c e) fun q hq => absurd (show q ∈ ([] : List (Addr × Obj)) ++ [] from hq) (by simp)
  have fpB : ∀ {σ' : L2.St} {H' : Hp} {s' : Shared}, Inv (X.blk s3 (upd H1 D (.lst [])) scope ce [IT]) [] σ' H' s' → H' IT = none → ∀ b ∈ [IT], FpOk (X.blk s3 (upd H1 D (.lst [])) scope ce [IT]) [] H' b := fun {σ' H' s'} I' n b hb => by
    have hb := List.mem_singleton.mp hb
    subst hb
    exact ⟨n, (I'.ok.exf b (by simp)).1, I'.ok.exfs b (by simp), .inl (by simp), fun x c e => (I'.ok.exf b (by simp)).2 x c e, fun q hq => absurd (show q ∈ ([] : List (Addr × Obj)) ++ [] from hq) (by simp)⟩
  have n0 : (upd H1 D (.lst [])) IT = none := (f3 IT (by simp)).1.1
  have loop : codeAny (model X.prog X.w) X.A (.compLoop (.ListComp elt [⟨tg, iter, ifs, 0⟩] scope pos) 0 (.ref IT) (.ref D) ce) (compPost (model X.prog X.w) X.A X.xe none (EP X pins σ Q) (.ref D) s3.heap.objs.size) s4 := by
    refine compLoop_any (fun n s' => ∃ i H', Inv (X.blk s3 (upd H1 D (.lst [])) scope ce [IT]) [] (wipe σ (own.map (·.2))) H' s' ∧ s'.heap.IsListIter IT a i ∧ H' IT = none ∧ Wv i n H') ?_ m0 ⟨0, _, I4, it4, n0, w0⟩
    rintro n s5 ⟨i, H5, I5, it5, n5, w5⟩
    rcases turn i n H5 w5 with ⟨⟨xs, hq, hx⟩, qq⟩ | ⟨⟨xs, x, hq, hx⟩, Nx, hNx, step⟩
    · obtain ⟨its, rv, pl, hz⟩ := I5.list hq
      refine next_list_hot (hpl.at I5) it5 pl.isList (by have := rv.length; simp; omega) fun h6 k6 => ?_
      have I6 := turned_ I5 n5 k6
      have I7 : Inv X pins σ H5 { s5 with heap := h6 } := I3.call' (ch := [IT]) I6.os I6.base I6.hok I6.bare fun b hb => ⟨(f3 b hb).1.2.2.2.1, (f3 b hb).1.2.1, (f3 b hb).1.2.2.2.2.1, (f3 b hb).1.2.2.2.2.2⟩
      have nC : H5 s3.heap.objs.size = none := by
        have z : H5 ce.locals = none := I6.free
        rw [cL] at z; exact z
      obtain ⟨m, hn, _⟩ := I6.loc
      have hn : h6.Ns ce.locals m := hn
      rw [cL] at hn
      obtain ⟨c0, c1, c2, c3, c4, c5⟩ := I3.fpOk (Nat.le_refl _) nC
      exact ⟨m, hn, fun h8 sb => ⟨.ref D, H5, I7.turned (t' := s5.toks) (fun b o hb e => (sb.2 b hb).trans e) c0 c1 c3 c4 c5, rfl, qq⟩⟩
    · obtain ⟨its, rv, pl, hz⟩ := I5.list hq
      obtain ⟨u, hu, ru⟩ := rv.get hx
      refine wpAny_pyNext_list_item it5 pl.isList (x := u) (by simpa using hu) fun h6 it6 sb => ?_
      obtain ⟨oi, i1, i2, i3⟩ := id it6
      refine go_of (s := { s5 with heap := h6 }) i1 i2 i3 (by decide) ?_
      have I6 := turned_ (h' := h6) I5 n5 fun b o nb e => (sb.2 b nb).trans e
      have I6' := I6.pinned (fpB I6 n5) fun b hb => by
        have hb := List.mem_singleton.mp hb
        subst hb
        exact ⟨oi, i1, fun v z => by rw [i3] at z; cases z⟩
      have fin : ∀ {σ8 : L2.St} {s' : Shared} {H' : Hp}, wipe σ8 (own.map (·.2)) = wipe σ (own.map (·.2)) → Inv (X.blk s3 (upd H1 D (.lst [])) scope ce [IT]) ([] ++ pinsAt [IT] h6) σ8 H' s' → Nx H' → ∃ m, m < n ∧ ∃ i H', Inv (X.blk s3 (upd H1 D (.lst [])) scope ce [IT]) [] (wipe σ (own.map (·.2))) H' s' ∧ s'.heap.IsListIter IT a i ∧ H' IT = none ∧ Wv i m H' := fun {σ8 s' H'} hw8 I' nx => by
        obtain ⟨m', hm, w'⟩ := hNx H' nx
        have z := I'.pin (IT, oi) (List.mem_append_right _ (List.mem_append_right _ (mem_pinsAt (by simp) i1)))
        have hl : (wipe σ (own.map (·.2))).length = σ8.length := by rw [← hw8, wipe_length]
        exact ⟨m', hm, i + 1, H', (I'.unpinned (pins := [])).weak hl (fun j v e => by rw [← hw8] at e; exact (wipe_some e).1), ⟨oi, z.1, i2, i3⟩, z.2.1, w'⟩
      refine thnF (pg.run _ _ _ H5 x u _ I6' ru (step x H5 ⟨rfl, fun ys hy => by rw [I5.list_inj hy hq]; exact hx⟩)) fun _ s8 hs8 => ?_
      obtain ⟨σ8, H8, I8, hw8, q8⟩ := hs8
      refine thnF (pt.run _ s8 σ8 H8 _ I8 q8) fun b s9 hs9 => ?_
      obtain ⟨H9, I9, q9⟩ := hs9
      cases b with
      | false =>
        simp only [Bool.false_eq_true, if_false] at q9 ⊢
        exact fin hw8 I9 q9
      | true =>
        simp only [if_true] at q9 ⊢
        refine thnF (pe.run _ s9 σ8 H9 _ I9 q9) fun z s10 hs10 => ?_
        obtain ⟨yv, H10, I10, r10, acc, hD10, hz10, nx⟩ := hs10
        exact app_ok (X := X.blk s3 (upd H1 D (.lst [])) scope ce [IT]) I10 hD10 hz10 r10 fun s11 I11 => fin hw8 I11 nx
  have self_ : wpAny (model X.prog X.w) X.A (pyIter (.ref IT)) (fun it' s' => codeAny (model X.prog X.w) X.A (.compLoop (.ListComp elt [⟨tg, iter, ifs, 0⟩] scope pos) 0 it' (.ref D) ce) (compPost (model X.prog X.w) X.A X.xe none (EP X pins σ Q) (.ref D) s3.heap.objs.size) s') (notedBy (model X.prog X.w) X.A ce fun x s' => compPost (model X.prog X.w) X.A X.xe none (EP X pins σ Q) (.ref D) s3.heap.objs.size (.error x) s') s4 :=
    (turn_list (P := X.prog) (w := X.w) (K := X.K) (tg := tg) a IT).self X.A 0 s4 _ _ it4 loop
  have done := codeAny_compStart_list loop self_
  rw [← hce] at done
  exact done
end
section
variable {X : Cx} {Z : Wd} {tc : Tc} {c : Pl}
theorem trN_ok (hN : X.N = tc.N) (nd : tc.N.Nodup) (hsc : X.env.scope = tc.sc) {S : List Nat} (st : StOk X S) (hf : ∀ i, tc.res i = false → i ∈ S → FreeS c i) {n : Nat} {e : Expr} {j : Nat} (h : trT n tc e = some (.var j)) (hs : j ∈ S) : PG X e (TGr Z c (.var j)) := by
  cases n with
  | zero => simp [trT] at h
  | succ n =>
    cases e <;> simp only [trT] at h <;> first | (cases h; done) | skip
    · rename_i x p
      split at h
      · rename_i hx
        simp only [Bool.and_eq_true, Bool.or_eq_true, decide_eq_true_eq] at hx
        cases hi : tc.slot x with
        | none => rw [hi] at h; cases h
        | some i =>
          rw [hi] at h
          dsimp only at h
          split at h
          · cases h
          · rename_i hr
            cases h
            have hi' : X.N[j]? = some x := by rw [hN]; exact slot_at hi
            have lx : L2.Loc X.env.scope x := by rw [hsc]; exact hx.2
            exact tg_name (hf j (by simpa using hr) hs) (by rw [hN]; exact nd) hi' lx (st x j hi' hs lx)
      · cases h
    · obtain ⟨ts, e1, e2⟩ := Option.map_eq_some_iff.mp h
      cases e2
theorem trNs_ok (hN : X.N = tc.N) (nd : tc.N.Nodup) (hsc : X.env.scope = tc.sc) {S : List Nat} (st : StOk X S) (hf : ∀ i, tc.res i = false → i ∈ S → FreeS c i) : ∀ (n : Nat) (es : List Expr) (ts : List T), trTs n tc es = some ts → ts.all isVarT = true → (∀ i ∈ slotsTs ts, i ∈ S) → PGs X es (TGrs Z c ts) ∧ ts.length = es.length ∧ (assignEach es X.env).findIdx? (·.1) = none
  | 0, _, _, h, _, _ => by simp [trTs] at h
  | n + 1, [], ts, h, _, _ => by simp [trTs] at h; subst h; exact ⟨tg_nil, rfl, rfl⟩
  | n + 1, e :: es, ts, h, hv, hs => by
    simp only [trTs] at h
    cases h1 : trT n tc e with
    | none => rw [h1] at h; simp at h
    | some t =>
      cases h2 : trTs n tc es with
      | none => rw [h1, h2] at h; simp at h
      | some ts2 =>
        rw [h1, h2] at h
        dsimp only at h
        cases h
        rw [List.all_cons, Bool.and_eq_true] at hv
        cases t with
        | tup _ => simp [isVarT] at hv
        | var j =>
          have g1 := trN_ok (Z := Z) hN nd hsc st hf h1 (hs j (by simp [slotsTs, slotsT]))
          obtain ⟨g2, g3, g4⟩ := trNs_ok hN nd hsc st hf n es ts2 h2 hv.2 (fun i hi => hs i (by simp [slotsTs, hi]))
          have ns : ∀ z p, e ≠ .Starred z p := fun z p ez => by
            subst ez
            cases n <;> simp [trT] at h1
          have e1 : assignEach (e :: es) X.env = (false, assign e X.env) :: assignEach es X.env := by
            cases e <;> first | rfl | exact absurd rfl (ns _ _)
          refine ⟨tg_cons g1 g2 (by rw [e1]; rfl), by simp [g3], ?_⟩
          rw [e1, List.findIdx?_cons]
          simp [g4]
end
theorem tie_list {X : Cx} {Z : Wd} {c : Pl} {W : WX} {k : E} {l : Lv} {σ : L2.St} {H : Hp} {R : It → Hp → Prop} (hK : X.K = Z.K) (h : TIe Z c W (evi (.lst k) l) σ H R) : iList X.K (TEe Z c W (tP Z) (ev k l)) σ H R := by
  obtain ⟨O, σd, hr, hg⟩ := h
  refine ⟨O, σd, hr, (Go.bind (r := ev k l σd) hg).imp fun d σ1 H1 _ r1 k1 g v rv => ?_⟩
  obtain ⟨xs, ex, g⟩ := Go.opt g
  have fin := g.ok r1 KeepE.refl
  cases d <;> simp only [lstsOf, Option.some.injEq] at ex <;> first | (cases ex; done) | (subst ex)
  · cases rv with
    | lst s rs => exact ⟨_, rfl, ⟨_, by rw [hK]; exact (hide_le _ _).sqL (SqL.of s)⟩, fin _ (by rw [hK]; exact wk_list rfl (SqL.of s) rs)⟩
  · cases rv with
    | frz s rs => exact ⟨_, rfl, ⟨_, by rw [hK]; exact (hide_le _ _).sqL s⟩, fin _ (by rw [hK]; exact wk_list rfl s rs)⟩
theorem Ok.blkH {bb : Bool} {X : Cx} {Z : Wd} {tc : Tc} {l : Lv} {c : Pl} {W : WX} {k : Nat} (o : Ok bb X Z tc l c W k) (a : Addr) (s : Shared) (H : Hp) (scope : Scope) (C : Addr) (cl : List (Str × Addr)) (fp : List Addr) : Ok bb (X.blk s H scope (compEnvC scope cl C X.env) fp) Z { tc with sc := relS scope tc.sc, hx := false } (noTh l) (lk c a) W0 k where
  K := o.K
  N := o.N
  nd := o.nd
  sc := by show relS scope X.env.scope = relS scope tc.sc; rw [o.sc]
  own := o.own
  bor := o.bor
  hold := o.hold
  lown := o.lown
  tk := takesN0
  un := o.un
  calm := fun h => o.calm h
  hot := fun i _ h => by cases h
  fns := o.fns
  con := o.con
  blt := o.blt
  exc := fun x i h => let q := o.exc x i h; ⟨q.mg, q.keep, q.base, q.rs⟩
  call := fun f fd h => ⟨(o.call f fd h).ex⟩
  call2 := fun F h => let ⟨k2, h1, h2⟩ := o.call2 F h; ⟨k2, h1, fun f fd q => ⟨(h2 f fd q).ex⟩⟩
  lam := o.lam
  lb := o.lb
  gb := o.gb
  defs := o.defs
  hd := o.hd
/-- comprehensions in a suite are sound -/
theorem hotH {bb : Bool} {Z : Wd} : HotH bb Z := by
  intro X tc l c W k i o hh hx elt tg iter ifs scope own pos ke kv t cc ok hf hts hi hflat hown m ht he htt hs
  obtain ⟨hot, a, k', h1, h2, _⟩ := o.hot i hh hx
  have hld : l.hld.isSome = true := by rw [h2]; rfl
  have hN : X.N.Nodup := by rw [o.N]; exact o.nd
  have stB : ∀ (s : Shared) (H : Hp) (C : Addr) (cl : List (Str × Addr)) (fp : List Addr), StOk (X.blk s H scope (compEnvC scope cl C X.env) fp) (own.map (·.2)) := fun s H C cl fp x j hj hS lx => by
    obtain ⟨q, hq, rfl⟩ := List.mem_map.mp hS
    obtain ⟨kk, k1, k2⟩ := hown q hq
    have e1 := ok.ix q hq
    have e2 : X.N[q.2]? = some x := hj
    rw [e1] at e2
    have e3 : q.1 = x := by simpa using e2
    rw [e3] at k1
    have e4 := ok.uniq _ k1
    rcases k2 with rfl | rfl
    · exact .inr (lookup_relS_keep (by decide) e4)
    · refine .inl ?_
      show (scope.names.lookup x == some .cell) = true
      rw [e4]; rfl
  refine (pe_lcH (tl := TEe Z c W (tP Z) (ev kv l)) (g := gLc Z c (fun d => l.hld.isSome = true → isTupD d = true) t) (tt := ttLc Z c (evc cc (noTh l))) (te := teLc Z c (ev ke (noTh l))) hot hN hi ok (fun s H C cl fp p hb => ?_) (fun s H C cl fp => .ex fun a => htt (o.blkH a s H scope C cl fp)) (fun s H C cl fp => .ex fun a => he (o.blkH a s H scope C cl fp)) hs).weak fun σ H Q q => tie_list o.K (lc_red hf hts q)
  have ob := fun a => o.blkH a s H scope C cl fp
  cases t with
  | var j => exact gLc_pg fun a => trN_ok (ob a).N (ob a).nd (ob a).sc (stB s H C cl fp) (fun i hi _ => res_no hi (ob a)) ht (hts j (by simp [slotsT]))
  | tup ts =>
    obtain ⟨es, kk, p', rfl⟩ := trT_tup ht
    cases m with
    | zero => simp [trT] at ht
    | succ m =>
      simp only [trT] at ht
      obtain ⟨ts2, e1, e2⟩ := Option.map_eq_some_iff.mp ht
      cases e2
      have all_ := fun a => trNs_ok (Z := Z) (ob a).N (ob a).nd (ob a).sc (stB s H C cl fp) (fun i hi _ => res_no hi (ob a)) m es ts e1 hflat (fun i hi => hts i (by simpa [slotsT] using hi))
      have a0 := all_ a
      exact tg_tupH hb o.K (fun d h => h hld) (fun a => (all_ a).1) a0.2.1 (assignE_len es _) a0.2.2
end BF

/-! Top -/
set_option Elab.async false
set_option linter.all false
set_option maxRecDepth 100000
set_option maxHeartbeats 4000000
/-! From a law's statement to the small language. -/
namespace BF
open PySem PySem.Spec PyProof.Rows L2 He

/-! ### a plain def's parameters -/
def plainP (a : Arguments) : Bool := match a with
  | ⟨[], _, none, [], [], none, []⟩ => true
  | _ => false
def psOf (a : Arguments) : List Str := a.args.map (·.arg)
theorem lookup_zip {x : Str} {v : Value} : ∀ {ps : List Str} {us : List Value}, us.length = ps.length → ps.Nodup → x ∈ ps → ((ps.zip us).lookup x).isSome = true
  | [], _, _, _, h => by cases h
  | p :: ps, [], h, _, _ => by cases h
  | p :: ps, u :: us, hl, hn, h => by
    show (List.lookup x ((p, u) :: ps.zip us)).isSome = true
    unfold List.lookup
    cases q : (x == p) with
    | true => rfl
    | false =>
      have : x ≠ p := fun e => by rw [e] at q; simp at q
      exact lookup_zip (v := v) (by simpa using hl) (List.nodup_cons.mp hn).2 ((List.mem_cons.mp h).resolve_left this)
theorem filterMap_zip : ∀ {ps : List Str} {us : List Value} {l : List (Str × Value)}, us.length = ps.length → ps.Nodup → (∀ x ∈ ps, l.lookup x = (ps.zip us).lookup x) → ps.filterMap (fun n => (l.lookup n).map (n, ·)) = ps.zip us
  | [], _, _, _, _, _ => rfl
  | p :: ps, [], _, h, _, _ => by cases h
  | p :: ps, u :: us, l, hl, hn, h => by
    obtain ⟨n1, n2⟩ := List.nodup_cons.mp hn
    have e : l.lookup p = some u := by
      rw [h p List.mem_cons_self]
      simp
    rw [List.filterMap_cons, e]
    show (p, u) :: _ = (p, u) :: ps.zip us
    congr 1
    refine filterMap_zip (by simpa using hl) n2 fun x hx => ?_
    rw [h x (List.mem_cons_of_mem _ hx)]
    have ne : (x == p) = false := by
      cases q : (x == p) with
      | false => rfl
      | true =>
        have e := eq_of_beq q
        rw [e] at hx
        exact absurd hx n1
    rw [List.zip_cons_cons, List.lookup_cons, ne]
theorem bind_plain {fd : FuncData} {us : List Value} (hp : plainP fd.params = true) (hd : fd.defaults = .none) (hn : (psOf fd.params).Nodup) (hl : us.length = (psOf fd.params).length) : bindArgs fd ⟨us, []⟩ = pure ((psOf fd.params).zip us) := by
  obtain ⟨n1, n2, ⟨a1, a2, a3, a4, a5, a6, a7⟩, n4, n5, n6, n7, n8, n9, n10, n11, n12, n13, n14, n15⟩ := fd
  unfold plainP at hp
  split at hp
  · rename_i e
    cases e
    cases hd
    unfold bindArgs
    unfold psOf at hn hl ⊢
    dsimp only at hn hl ⊢
    generalize (a2.map (·.arg)) = L at hn hl ⊢
    have h2 : L.filter (fun n => ((L.zip us).lookup n).isNone) = [] := by
      rw [List.filter_eq_nil_iff]
      intro x hx
      have := lookup_zip (v := .none) hl hn hx
      cases q : (L.zip us).lookup x with
      | none => rw [q] at this; cases this
      | some u => simp
    have h3 := filterMap_zip (l := L.zip us) hl hn fun _ _ => rfl
    have h4 : seqItems? Value.none = pure none := rfl
    simp [h4, h2, h3, hl]
  · cases hp
/-! ### what is written of a law -/
structure Rw where
  fd : Fd
  i : Nat
  N : List Str
  lm : Bool
structure Lw where
  p : Program
  rows : List Rw
  excs : List Str
  con : List (Str × D)
  anc : List (List Nat)
def dAt (p : Program) (i : Nat) : DefD := match p.main.body[i]? with
  | some (.FunctionDef n a b _ _ _ sc _ _ _) => ⟨(n, none), n, n, a, b, sc, [], []⟩
  | _ => ⟨("law", none), "law", "law", ⟨[], [], none, [], [], none, []⟩, [], ⟨.function, [], false, false, []⟩, [], []⟩
theorem dAt_at (p : Program) (i : Nat) : (dAt p i).at_ = ((dAt p i).name, none) ∧ (dAt p i).qual = (dAt p i).name ∧ (dAt p i).dfl = [] ∧ (dAt p i).kwd = [] := by
  unfold dAt
  split <;> exact ⟨rfl, rfl, rfl, rfl⟩
def Lw.d (L : Lw) (r : Rw) : DefD := dAt L.p r.i
def Lw.fns (L : Lw) : List Str := L.rows.map fun r => (L.d r).name
def Lw.fdO (L : Lw) (fns : List Str) (r : Rw) : Fd := { r.fd with body := trFd fns L.con L.excs r.lm r.N r.fd (L.d r).body (L.d r).scope }
def Lw.tbO (L : Lw) : List Fd := L.rows.map (L.fdO L.fns)
def Lw.sub (L : Lw) (a b : Nat) : Bool := (L.anc.getD a (L.anc.headD [])).contains b
def scB (N P : List Str) (sc : Scope) : Bool := (match sc.kind with | .function => true | _ => false) && !sc.isCoroutine && !sc.isGenerator && decide N.Nodup && decide (N.take P.length = P) &&
  P.all (fun x => match sc.names.lookup x with | some .local => true | some .cell => true | _ => false) && sc.names.all (fun y => match y.2 with | .free => false | _ => true)
theorem scB_ok {N P : List Str} {sc : Scope} (h : scB N P sc = true) : FnScope N P sc := by
  unfold scB at h
  simp only [Bool.and_eq_true, Bool.not_eq_true', decide_eq_true_eq] at h
  obtain ⟨⟨⟨⟨⟨⟨h1, h2⟩, h3⟩, h4⟩, h5⟩, h6⟩, h7⟩ := h
  refine ⟨?_, h2, h3, h4, h5, fun x hx => ?_, fun y hy e => ?_⟩
  · split at h1
    · assumption
    · cases h1
  · have := List.all_eq_true.mp h6 x hx
    split at this
    · rename_i e; exact .inl e
    · rename_i e; exact .inr e
    · cases this
  · have := List.all_eq_true.mp h7 y hy
    rw [e] at this
    cases this
def Lw.rowB (L : Lw) (r : Rw) : Bool := scB r.N (psOf (L.d r).params) (L.d r).scope && plainP (L.d r).params && (psOf (L.d r).params).length == r.fd.ps.length && fdOk r.fd r.N && (!r.fd.hd || !r.lm)
def conFa (q : Str × D) : Fa := match q.2 with
  | .int i => .int q.1 i
  | .str z => .str q.1 z
  | _ => .free q.1
def conB (q : Str × D) : Bool := match q.2 with
  | .int _ => true
  | .str _ => true
  | _ => false
def Lw.prs (L : Lw) : List (Str × Str × Bool) := (List.range L.excs.length).flatMap fun a => (List.range L.excs.length).map fun b => (L.excs.getD a "", L.excs.getD b "", L.sub a b)
def Lw.fa (L : Lw) : List Fa := L.fns.map .glo ++ L.excs.map .glo ++ bltN.map .free ++ (L.excs.filter plainX).map .exc ++ L.con.map conFa ++ L.prs.map fun q => .exm q.1 q.2.1 q.2.2
def Lw.fn (L : Lw) : List DefD := L.rows.map L.d
def Lw.tf (L : Lw) : List Defn := (L.rows.filter (·.lm)).map fun r => ((L.d r).name, none)
def excCB (K : PySem.W.Frag) (D : Addr) : Bool :=
  decide (PySem.W.findIn K (.ref D) "__getattribute__" = some (some (.builtin "BaseException.__getattribute__"))) &&
  decide (PySem.W.findIn K (.ref D) "__getattr__" = some none) &&
  decide (PySem.W.subIn K (.ref D) (.type "BaseException") = some true) && PySem.W.hasDictIn K D &&
  decide (PySem.W.findIn K (.ref D) "__class__" = some (some (.builtin "object.__class__"))) &&
  decide (PySem.W.specialIn K (.builtin "object.__class__") "__get__" = some (some (.builtin "getset_descriptor.__get__"))) &&
  decide (PySem.W.takesIn K (.builtin "object.__class__") = some true) && decide (PySem.W.mroIn K D (.type "object") = some true)
theorem excCB_ok {K : PySem.W.Frag} {D : Addr} (h : excCB K D = true) : ExcC K D := by
  unfold excCB at h
  simp only [Bool.and_eq_true, decide_eq_true_eq] at h
  obtain ⟨⟨⟨⟨⟨⟨⟨h1, h2⟩, h3⟩, h4⟩, h5⟩, h6⟩, h7⟩, h8⟩ := h
  exact ⟨h1, h2, h3, h4, h5, h6, h7, h8⟩
def Lw.ex (L : Lw) (K : PySem.W.Frag) : Bool := L.excs.all (fun x => excCB K (ga K x)) && L.prs.all (fun q => decide (PySem.W.kitOne K (.ref (ga K q.1)) (.ref (ga K q.2.1)) = some q.2.2)) && decide ((L.tf.map fun p => (cT K p).2).Nodup)
def Lw.Z (L : Lw) (tb : List Fd) (K : PySem.W.Frag) : Wd where
  K := K
  fad := fun i => ga K (L.fns.getD i "law")
  cad := fun i => ga K (L.excs.getD i (L.excs.headD ""))
  T := L.tf.map fun p => ((cT K p).2, p.1 ++ ".<locals>." ++ "<lambda>")
  tb := tb
  sub := L.sub
theorem nodup_inj {α β : Type} {f : α → β} : ∀ {l : List α}, (l.map f).Nodup → ∀ {a b : α}, a ∈ l → b ∈ l → f a = f b → a = b
  | [], _, _, _, h, _, _ => by cases h
  | x :: l, hn, a, b, ha, hb, e => by
    obtain ⟨n1, n2⟩ := List.nodup_cons.mp (show (f x :: l.map f).Nodup from hn)
    rcases List.mem_cons.mp ha with h1 | h1
    · rcases List.mem_cons.mp hb with h2 | h2
      · rw [h1, h2]
      · exact absurd (List.mem_map.mpr ⟨b, h2, by rw [← e, h1]⟩) n1
    · rcases List.mem_cons.mp hb with h2 | h2
      · exact absurd (List.mem_map.mpr ⟨a, h1, by rw [e, h2]⟩) n1
      · exact nodup_inj n2 h1 h2 e
/-- what is checked of the text alone -/
structure Lw.Ok (L : Lw) (tb : List Fd) : Prop where
  tb : L.tbO = tb
  rows : L.rows.all L.rowB = true
  con : L.con.all conB = true
  anc : L.anc.length = L.excs.length
  e0 : L.excs ≠ []
section
variable {L : Lw} {tb : List Fd} {P : Program} {w : World} {K : PySem.W.Frag} {mg : Str → Option Value} {base : Heap}
theorem slotGo_mem {x : Str} {N : List Str} {i : Nat} (h : slotGo x N 0 = some i) : N[i]? = some x := slot_at h
theorem Lw.Ok.subD (o : L.Ok tb) (k' b : Nat) : L.sub k' b = L.sub (if k' < L.excs.length then k' else 0) b := by
  unfold Lw.sub
  by_cases h : k' < L.excs.length
  · rw [if_pos h]
  · rw [if_neg h]
    have h1 : L.anc.getD k' (L.anc.headD []) = L.anc.headD [] := by
      rw [List.getD_eq_getElem?_getD, List.getElem?_eq_none_iff.mpr (by rw [o.anc]; omega)]
      rfl
    have h2 : L.anc.getD 0 (L.anc.headD []) = L.anc.headD [] := by
      cases L.anc <;> rfl
    rw [h1, h2]
theorem Lw.Ok.cadD (o : L.Ok tb) (k' : Nat) : L.excs.getD k' (L.excs.headD "") = L.excs.getD (if k' < L.excs.length then k' else 0) "" := by
  have hp : 0 < L.excs.length := List.length_pos_iff.mpr o.e0
  by_cases h : k' < L.excs.length
  · rw [if_pos h]
    simp [List.getD_eq_getElem?_getD, List.getElem?_eq_getElem h]
  · rw [if_neg h]
    rw [List.getD_eq_getElem?_getD, List.getElem?_eq_none_iff.mpr (by omega), List.getD_eq_getElem?_getD]
    cases q : L.excs with
    | nil => exact absurd q o.e0
    | cons a r => rfl
theorem Lw.Ok.idx (o : L.Ok tb) (k' : Nat) : (if k' < L.excs.length then k' else 0) < L.excs.length := by
  have hp : 0 < L.excs.length := List.length_pos_iff.mpr o.e0
  split <;> omega
theorem Lw.Ok.prs_mem {a b : Nat} (ha : a < L.excs.length) (hb : b < L.excs.length) : (L.excs.getD a "", L.excs.getD b "", L.sub a b) ∈ L.prs := by
  unfold Lw.prs
  exact List.mem_flatMap.mpr ⟨a, List.mem_range.mpr ha, List.mem_map.mpr ⟨b, List.mem_range.mpr hb, rfl⟩⟩
theorem getD_of {x : Str} {N : List Str} {i : Nat} {y : Str} (h : N[i]? = some x) : N.getD i y = x := by
  rw [List.getD_eq_getElem?_getD, h]; rfl
theorem getD_mem {N : List Str} {i : Nat} {y : Str} (h : i < N.length) : N.getD i y ∈ N := by
  rw [List.getD_eq_getElem?_getD, List.getElem?_eq_getElem h]; exact List.getElem_mem h
/-- the module's names -/
theorem Lw.Ok.gb (o : L.Ok tb) (c : SaysD L.fa L.fn K) (e : L.ex K = true) (X : K.In base) (G : base.Ns mainGlobals mg) : Gb (L.Z tb K) mg L.fns L.con L.excs L.sub := by
  have fact : ∀ {f : Fa}, f ∈ L.fa → f.ok K = true := fun h => c.facts h
  have m1 : ∀ x ∈ L.fns, Fa.glo x ∈ L.fa := fun x hx => by
    unfold Lw.fa; simp only [List.mem_append, List.mem_map]; exact .inl (.inl (.inl (.inl (.inl ⟨x, hx, rfl⟩))))
  have m2 : ∀ x ∈ L.excs, Fa.glo x ∈ L.fa := fun x hx => by
    unfold Lw.fa; simp only [List.mem_append, List.mem_map]; exact .inl (.inl (.inl (.inl (.inr ⟨x, hx, rfl⟩))))
  have m3 : ∀ x ∈ bltN, Fa.free x ∈ L.fa := fun x hx => by
    unfold Lw.fa; simp only [List.mem_append, List.mem_map]; exact .inl (.inl (.inl (.inr ⟨x, hx, rfl⟩)))
  have m4 : ∀ x ∈ L.excs, plainX x = true → Fa.exc x ∈ L.fa := fun x hx hp => by
    unfold Lw.fa; simp only [List.mem_append, List.mem_map]; exact .inl (.inl (.inr ⟨x, List.mem_filter.mpr ⟨hx, hp⟩, rfl⟩))
  have m5 : ∀ q ∈ L.con, conFa q ∈ L.fa := fun q hq => by
    unfold Lw.fa; simp only [List.mem_append, List.mem_map]; exact .inl (.inr ⟨q, hq, rfl⟩)
  have m6 : ∀ q ∈ L.prs, Fa.exm q.1 q.2.1 q.2.2 ∈ L.fa := fun q hq => by
    unfold Lw.fa; simp only [List.mem_append, List.mem_map]; exact .inr ⟨q, hq, rfl⟩
  unfold Lw.ex at e
  simp only [Bool.and_eq_true] at e
  obtain ⟨⟨e1, e2⟩, e3⟩ := e
  refine ⟨fun x i h => ?_, fun x d _ h => ?_, fun x hx => free_ok X G (fact (m3 x hx)), fun x i h => ?_, fun x k h k' => ?_, fun x k h k' => ?_, fun k' => ?_⟩
  · have h := slotGo_mem h
    show mg x = some (.ref (ga K (L.fns.getD i "law")))
    rw [getD_of h]
    exact glo_ok X G (fact (m1 x (List.mem_of_getElem? h)))
  · have hm : (x, d) ∈ L.con := by
      have : ∀ l : List (Str × D), l.lookup x = some d → (x, d) ∈ l := by
        intro l
        induction l with
        | nil => intro h; cases h
        | cons q r ih =>
          intro h
          obtain ⟨y, u⟩ := q
          rw [List.lookup_cons] at h
          cases z : (x == y) with
          | true => rw [z] at h; cases h; rw [eq_of_beq z]; exact List.mem_cons_self
          | false => rw [z] at h; exact List.mem_cons_of_mem _ (ih h)
      exact this _ h
    have hc := List.all_eq_true.mp o.con _ hm
    have hf := fact (m5 _ hm)
    cases d with
    | int i =>
      obtain ⟨t, ht⟩ := int_ok X G (show (Fa.int x i).ok K = true from hf)
      exact ⟨_, .int i, ht, ⟨t, rfl⟩, fun H => .int i⟩
    | str z =>
      obtain ⟨t, ht⟩ := str_ok X G (show (Fa.str x z).ok K = true from hf)
      exact ⟨_, .str z, ht, ⟨t, rfl⟩, fun H => .str z⟩
    | _ => cases hc
  · have h := slotGo_mem h
    have hm := List.mem_of_getElem? h
    show mg x = some (.ref (ga K (L.excs.getD i _))) ∧ (plainX x = true → PySem.W.keepIn K (.ref (ga K (L.excs.getD i _))) = true ∧ (∃ (bmB : List Value) (B newId initId : String), ExcBaseFacts B newId initId bmB ∧ PySem.W.excIn K (ga K (L.excs.getD i _)) bmB newId = true) ∧ PySem.W.subIn K (.ref (ga K (L.excs.getD i _))) (.type "BaseException") = some true ∧ PySem.W.typeIn K (.ref (ga K (L.excs.getD i _))) = some (.type "type"))
    rw [getD_of h]
    refine ⟨glo_ok X G (fact (m2 x hm)), fun hp => ?_⟩
    obtain ⟨h1, h2, h3, h4⟩ := He.exc_ok (fact (m4 x hm hp))
    exact ⟨h2, ⟨_, _, _, _, PySem.F.excBase_ValueError, h1⟩, h3, h4⟩
  · have h := slotGo_mem h
    have hk : k < L.excs.length := (List.getElem?_eq_some_iff.mp h).1
    show PySem.W.exmOne K (.ref (ga K (L.excs.getD k' _))) (.ref (ga K (L.excs.getD k _))) = some (L.sub k' k)
    rw [o.cadD k', o.cadD k, o.subD k' k, if_pos hk]
    exact exm_ok (fact (m6 _ (Lw.Ok.prs_mem (o.idx k') hk)))
  · have h := slotGo_mem h
    have hk : k < L.excs.length := (List.getElem?_eq_some_iff.mp h).1
    show PySem.W.kitOne K (.ref (ga K (L.excs.getD k' _))) (.ref (ga K (L.excs.getD k _))) = some (L.sub k' k)
    rw [o.cadD k', o.cadD k, o.subD k' k, if_pos hk]
    exact of_decide_eq_true (List.all_eq_true.mp e2 _ (Lw.Ok.prs_mem (o.idx k') hk))
  · show ExcC K (ga K (L.excs.getD k' _))
    rw [o.cadD k']
    exact excCB_ok (List.all_eq_true.mp e1 _ (getD_mem (o.idx k')))

/-- a def of the table, as it stands -/
theorem Lw.Ok.def_ (o : L.Ok tb) (c : SaysD L.fa L.fn K) (e : L.ex K = true) (HT : ∀ p ∈ L.tf.map (cT K), LamX.TabB base mg p.1 p.2) {f : Nat} {fd : Fd} (hf : tb[f]? = some fd) :
    ∃ r, L.rows[f]? = some r ∧ ∃ (kV doc pm cdv ct oc : Value) (an od : Option Addr) (osl : Array (Option Value)),
      DefOk (L.Z tb K) mg base L.fns L.con L.excs f fd r.lm (L.d r).name (L.d r).name (L.d r).params (L.d r).body (L.d r).scope .none kV doc pm cdv ct oc an od osl r.N (psOf (L.d r).params) := by
  rw [← o.tb] at hf
  unfold Lw.tbO at hf
  rw [List.getElem?_map] at hf
  cases hr : L.rows[f]? with
  | none => rw [hr] at hf; cases hf
  | some r =>
    rw [hr] at hf
    have hfd : L.fdO L.fns r = fd := by simpa using hf
    subst hfd
    refine ⟨r, rfl, ?_⟩
    have hm := List.mem_of_getElem? hr
    have hb := List.all_eq_true.mp o.rows r hm
    unfold Lw.rowB at hb
    simp only [Bool.and_eq_true, beq_iff_eq] at hb
    obtain ⟨⟨⟨⟨b1, b2⟩, b3⟩, b4⟩, b5⟩ := hb
    have hd : L.fn[f]? = some (L.d r) := by unfold Lw.fn; rw [List.getElem?_map, hr]; rfl
    obtain ⟨fdt, FD⟩ := c.def_ f hd
    obtain ⟨oc, od, dV, kV, doc, pm, an, cdv, ct, osl, rfl, lk, hcd, hD, _⟩ := FD.ex
    obtain ⟨a1, a2, a3, a4⟩ := dAt_at L.p r.i
    have ea : fAd K (L.d r).at_ = ga K (L.d r).name := by
      show fAd K (dAt L.p r.i).at_ = _
      rw [a1]; rfl
    have ef : (L.Z tb K).fad f = ga K (L.d r).name := by
      show ga K (L.fns.getD f "law") = _
      have : L.fns[f]? = some (L.d r).name := by unfold Lw.fns; rw [List.getElem?_map, hr]; rfl
      rw [getD_of this]
    have e0 : (L.d r).dvs K = [] := by
      show (dAt L.p r.i).dfl.map _ = []
      rw [a3]; rfl
    have eq_ : (L.d r).qual = (L.d r).name := a2
    have hdV : dV = .none := by
      rw [e0] at hD
      rcases hD with ⟨_, q⟩ | ⟨q, _⟩
      · exact q
      · exact absurd rfl q
    subst hdV
    rw [eq_] at lk hcd
    have hnd : (psOf (L.d r).params).Nodup := by
      have S := scB_ok b1
      rw [← S.pre]
      exact (List.take_sublist _ _).nodup S.nd
    refine ⟨kV, doc, pm, cdv, ct, oc, an, od, osl, ?_⟩
    exact {
      lk := by rw [ef, ← ea]; exact lk
      cd := hcd
      S := scB_ok b1
      len := b3
      ok := b4
      tr := rfl
      bd := .all fun us hl => bind_plain b2 rfl hnd hl
      kp := by rw [ef, ← ea]; exact FD.kp
      lam := fun hl => by
        obtain ⟨cc, ecc⟩ := He.codeIn_ref hcd
        subst ecc
        have hmem : ((L.d r).name, (none : Option Str)) ∈ L.tf := by
          unfold Lw.tf
          exact List.mem_map.mpr ⟨r, List.mem_filter.mpr ⟨hm, hl⟩, rfl⟩
        have hc0 : codeOf K ((L.d r).name, none) = cc := codeOf_eq (by show K.lookup (ga K (L.d r).name) = _; rw [← ea]; exact lk) rfl
        refine ⟨cc, tabOf K cc, ?_, rfl, ?_, ?_⟩
        · have := HT (cT K ((L.d r).name, none)) (List.mem_map.mpr ⟨_, hmem, rfl⟩)
          unfold cT at this
          rw [hc0] at this
          exact this
        · show _ ∈ L.tf.map fun p => ((cT K p).2, p.1 ++ ".<locals>." ++ "<lambda>")
          refine List.mem_map.mpr ⟨_, hmem, ?_⟩
          unfold cT
          rw [hc0]
        · intro p hp e1
          obtain ⟨q, hq, rfl⟩ := List.mem_map.mp (show p ∈ L.tf.map fun p => ((cT K p).2, p.1 ++ ".<locals>." ++ "<lambda>") from hp)
          have hnT : (L.tf.map fun p => (cT K p).2).Nodup := by
            unfold Lw.ex at e
            simp only [Bool.and_eq_true, decide_eq_true_eq] at e
            exact e.2
          have : (cT K q).2 = (cT K ((L.d r).name, none)).2 := by
            show _ = tabOf K (codeOf K _)
            rw [hc0]
            exact e1
          have := nodup_inj hnT hq hmem this
          rw [this]
      hd := fun h => by
        cases hl : r.lm with
        | false => rfl
        | true =>
          have h2 : r.fd.hd = true := h
          rw [h2, hl] at b5
          cases b5 }
theorem Lw.Ok.defE (o : L.Ok tb) (c : SaysD L.fa L.fn K) (e : L.ex K = true) (HT : ∀ p ∈ L.tf.map (cT K), LamX.TabB base mg p.1 p.2) (f : Nat) (fd : Fd) (hf : tb[f]? = some fd) : DefE (L.Z tb K) mg base L.fns L.con L.excs f fd := by
  obtain ⟨r, _, kV, doc, pm, cdv, ct, oc, an, od, osl, d⟩ := o.def_ c e HT hf
  exact ⟨_, _, _, _, _, _, _, _, _, _, _, _, _, _, _, _, _, _, d⟩
/-- one def, at its level -/
theorem fn_at {Z : Wd} {fns : List Str} {con : List (Str × D)} {excs : List Str} (G : Gb Z mg fns con excs Z.sub) (hT : ∀ f fd, Z.tb[f]? = some fd → DefE Z mg base fns con excs f fd) {f : Nat} {fd : Fd} (hf : Z.tb[f]? = some fd) {lm : Bool} {name qual : Str} {params : Arguments} {body : List Stmt} {scope : Scope} {dV kV doc pm cdv ct oc : Value} {an od : Option Addr} {osl : Array (Option Value)} {N ps : List Str}
    (d : DefOk Z mg base fns con excs f fd lm name qual params body scope dV kV doc pm cdv ct oc an od osl N ps) (n : Nat) : FnOk P w Z.K mg base (L2N.CX P w) (n + 1) (Z.fad f) (PySem.W.fnOf name qual params body scope dV kV doc pm an cdv ct) ps (spF Z fd (Fs Z.tb Z.sub (n + 1) f)) := by
  have all_ : ∀ m, Lev P w Z mg base m := lev_all (lamH_true hotH) hotH G hT
  refine fn_of d.lk d.cd d.S (fun vs H Q E h => ?_) (fun A outer s H vs Q E hr h => ?_)
  · obtain ⟨O, ds, _, ha, _⟩ := h
    rw [(argR_len ha).2, d.len]
  · obtain ⟨O, hB, g⟩ := fn_start (N := N) (l := ⟨Z.tb, fd.own, Z.sub, (Ts Z.tb Z.sub n).1, (Ts Z.tb Z.sub n).2.2, runHd Z.tb Z.sub, .bad, none, fd.fresh⟩) d.ok (fun ds hd => by
      show runFd Z.tb Z.sub _ _ _ _ f ds = _
      unfold runFd
      rw [hf]
      exact if_pos hd) h
    have := (ss_all (lamH_true hotH) hotH 100).ss (okS_of (bb := true) (A := A) (outer := outer) (s := s) (E := E) hT G (all_ n) (fun m _ => all_ m) d (fun _ => rfl) hr hB) body
    refine ⟨_, this, ?_⟩
    have e : trSs 100 (tcOf fns con excs lm N fd scope) body = fd.body := d.tr
    rw [e]
    exact g
end

abbrev Lw.hook (L : Lw) (n : Nat) : PySem.W.Hook := hookX n L.fa L.fn [] L.tf L.ex
/-- what a law's walk asks: that the small language says true -/
theorem law_at {l : PySem.W.OpenLaw} {L : Lw} {tb : List Fd} (o : L.Ok tb) {hn idx n : Nat} {fdl : Fd} {rl : Rw} (hf : tb[idx]? = some fdl) (hr : L.rows[idx]? = some rl) (hps : fdl.ps = [.b]) (hsc : psOf (L.d rl).params = [("script" : Str)]) (hnm : (L.d rl).name = ("law" : Str))
    (hlaw : ∀ ns : List Int, ns.length ≤ 63 → ∃ ms, Fs tb L.sub (n + 1) idx [.frz (intL ns)] = .ok (.bl true, ms)) (w : World) (mg : Str → Option Value) (fa : Addr) (h : Heap) (Y : (L.hook hn).says w h) (G : h.Ns mainGlobals mg) (hmg : mg ("law" : Str) = some (.ref fa)) :
    ∃ K : PySem.W.Frag, K.In h ∧ LamX.LawAtS l w K (L2N.CX l.prog w) (n + 1) 63 "script" mg fa h := by
  obtain ⟨K, KX, c⟩ := Y
  refine ⟨K, KX, ?_⟩
  have cd : SaysD L.fa L.fn K := SaysT.d c.t
  have hd : L.fn[idx]? = some (L.d rl) := by unfold Lw.fn; rw [List.getElem?_map, hr]; rfl
  obtain ⟨fdt, FD⟩ := cd.def_ idx hd
  obtain ⟨oc0, od0, dV0, kV0, doc0, pm0, an0, cdv0, ct0, osl0, efdt, lk0, _, hD0, _⟩ := FD.ex
  obtain ⟨a1, a2, a3, a4⟩ := dAt_at L.p rl.i
  have ea : fAd K (L.d rl).at_ = ga K (L.d rl).name := by
    show fAd K (dAt L.p rl.i).at_ = _
    rw [a1]; rfl
  have efn : L.fns[idx]? = some (L.d rl).name := by unfold Lw.fns; rw [List.getElem?_map, hr]; rfl
  have ef : (L.Z tb K).fad idx = ga K (L.d rl).name := by
    show ga K (L.fns.getD idx "law") = _
    rw [getD_of efn]
  have efa : ga K (L.d rl).name = fa := by
    have mem : Fa.glo (L.d rl).name ∈ L.fa := by
      unfold Lw.fa; simp only [List.mem_append, List.mem_map]; exact .inl (.inl (.inl (.inl (.inl ⟨_, List.mem_of_getElem? efn, rfl⟩))))
    have := glo_ok KX G (cd.facts mem)
    rw [hnm] at this ⊢
    rw [hmg] at this
    simpa using this.symm
  have hrow := List.all_eq_true.mp o.rows rl (List.mem_of_getElem? hr)
  unfold Lw.rowB at hrow
  simp only [Bool.and_eq_true, beq_iff_eq] at hrow
  obtain ⟨⟨⟨⟨b1, b2⟩, b3⟩, b4⟩, b5⟩ := hrow
  have hdV : dV0 = .none := by
    have e0 : (L.d rl).dvs K = [] := by
      show (dAt L.p rl.i).dfl.map _ = []
      rw [a3]; rfl
    rw [e0] at hD0
    rcases hD0 with ⟨_, q⟩ | ⟨q, _⟩
    · exact q
    · exact absurd rfl q
  have csm : ∀ p ∈ L.tf.map (cT K), ∃ q ∈ L.tf, cT K q = p := fun p hp => by
    obtain ⟨q, h1, h2⟩ := List.mem_map.mp hp
    exact ⟨q, h1, h2⟩
  refine ⟨fdt, L.tf.map (cT K), spF (L.Z tb K) fdl (Fs tb L.sub (n + 1) idx), fun p hp => ?_, fun p hp => ?_, fun p hp => ?_, fun s u => ?_, fun H a ns hl _ hT hS => ?_, fun base KB GB HT => ?_⟩
  · obtain ⟨q, h1, rfl⟩ := csm p hp
    exact c.empty q h1
  · obtain ⟨q, h1, rfl⟩ := csm p hp
    exact c.out q h1
  · obtain ⟨q, h1, rfl⟩ := csm p hp
    exact PySem.W.codeHd_of_K KX (c.hd q h1)
  · have hnd : (psOf (L.d rl).params).Nodup := by rw [hsc]; decide
    have := bind_plain (fd := fdt) (us := [u]) (by rw [efdt]; exact b2) (by rw [efdt, hdV] <;> rfl) (by rw [efdt]; exact hnd) (by rw [efdt]; show _ = (psOf (L.d rl).params).length; rw [hsc]; rfl)
    refine .of_eq ?_
    rw [this]
    have e1 : psOf fdt.params = [("script" : Str)] := by rw [efdt]; exact hsc
    rw [e1]
    rfl
  · obtain ⟨ms, hE⟩ := hlaw ns hl
    refine ⟨fun _ => False, [.frz (intL ns)], ⟨fun _ z => z.elim, fun p hp => ?_⟩, ?_, ?_, ?_⟩
    · obtain ⟨q, hq, rfl⟩ := List.mem_map.mp (show p ∈ L.tf.map fun p => ((cT K p).2, p.1 ++ ".<locals>." ++ "<lambda>") from hp)
      exact LamX.TabS.nil (hT _ (List.mem_map.mpr ⟨q, hq, rfl⟩))
    · rw [hps]
      refine ⟨.inl (.frz (vs := ns.map V.int) ?_ ?_), trivial⟩
      · rcases hS with r | r
        · refine .inl ?_
          rcases r with r | ⟨ob, r⟩
          · exact .inl (hide_some.mpr ⟨⟨fun z => z, nt_lst⟩, r⟩)
          · refine .inr ⟨ob, hide_some.mpr ⟨⟨fun z => z, fun _ z => nomatch z⟩, r⟩⟩
        · exact .inr r
      · unfold intL
        have reps : ∀ l : List Int, Reps (L.Z tb K) (hide H fun _ => False) (l.map D.int) (l.map V.int) := fun l => by
          induction l with
          | nil => exact .nil
          | cons x r ih => exact .cons (.int x) ih
        exact reps ns
    · rw [hps]; exact List.nodup_nil
    · rw [hE]
      intro v H' _ _ hR
      have h1 := hR.1.1
      cases h1
      rfl
  · have G' := o.gb cd c.more KB GB
    have hT' := fun f fd hf => o.defE cd c.more HT f fd hf
    obtain ⟨r, hr2, kV, doc, pm, cdv, ct, oc, an, od, osl, d⟩ := o.def_ cd c.more HT hf
    rw [hr] at hr2
    cases hr2
    have F := fn_at (P := l.prog) (w := w) (Z := L.Z tb K) G' hT' hf d n
    have lk := d.lk
    rw [ef] at lk F
    rw [ea] at lk0
    have lk' : K.lookup (ga K (L.d rl).name) = _ := lk
    rw [lk0] at lk'
    injection lk' with e1
    injection e1 with _ _ e2 _
    injection e2 with e3
    rw [← e3, efa, hsc] at F
    exact F
/-- nothing leaves a law -/
theorem law_nox (P : Program) (w : World) (H : Hp) (s : Shared) (e : Value) (s' : Shared) (h : L2N.CX P w [] H s (fun _ _ _ => False) e s') : False := by
  obtain ⟨_, _, _, _, _, _, _, _, _, _, _, _, q⟩ := h
  exact q
/-- the whole: the walk of a law's call -/
theorem law_walk {l : PySem.W.OpenLaw} {L : Lw} {tb : List Fd} (o : L.Ok tb) {q : Program} {loose : List Str} {XP : (Str → Option Value) → Heap → Prop} {dr : DefRec} {hn idx n : Nat} {fdl : Fd} {rl : Rw} (hf : tb[idx]? = some fdl) (hr : L.rows[idx]? = some rl) (hps : fdl.ps = [.b]) (hsc : psOf (L.d rl).params = [("script" : Str)]) (hnm : (L.d rl).name = ("law" : Str))
    (hm : l.most = some 63) (hdf : dr.params.defaults = []) (hdn : dr.name = ("law" : Str)) (hroom : n + 1 ≤ 220)
    (hlaw : ∀ ns : List Int, ns.length ≤ 63 → ∃ ms, Fs tb L.sub (n + 1) idx [.frz (intL ns)] = .ok (.bl true, ms)) :
    PySem.W.WalkO q loose XP (L.hook hn).says l.row.toRowW dr [] (fun f vs => PySem.call f vs) :=
  LamX.walk_ofTsE (l := l) (n := 63) (k := n + 1) (x := "script") (CX := fun w => L2N.CX l.prog w) hm (by decide) hdf (Room.mono (k := 220) ⟨rfl, by decide, by decide⟩ hroom)
    (fun w mg fa h Y G hmg => law_at o hf hr hps hsc hnm hlaw w mg fa h Y G (by rw [← hdn]; exact hmg)) fun w H s e s' z => law_nox _ w H s e s' z
end BF

/-! Sx -/
set_option linter.all false
set_option maxRecDepth 100000
/-! The small language run on letters: what each word does, as equations. -/
namespace BF
open PySem
section
variable {α β γ : Type}
@[simp] theorem bind_ok (a : α) (f : α → R β) : (R.ok a).bind f = f a := rfl
@[simp] theorem bind_exc (c : Nat) (f : α → R β) : (R.exc c).bind f = .exc c := rfl
@[simp] theorem bind_bad (f : α → R β) : (R.bad).bind f = .bad := rfl
@[simp] theorem ofO_some (a : α) : R.ofO (some a) = .ok a := rfl
@[simp] theorem ofO_none : R.ofO (none : Option α) = .bad := rfl
@[simp] theorem noxx_ok (a : α) : nox (R.ok a) = .ok a := rfl
@[simp] theorem bind_ite {p : Prop} [Decidable p] (a b : R α) (f : α → R β) : (if p then a else b).bind f = if p then a.bind f else b.bind f := by split <;> rfl
theorem bind_assoc (a : R α) (f : α → R β) (g : β → R γ) : (a.bind f).bind g = a.bind fun x => (f x).bind g := by cases a <;> rfl
end
/-! ### loops, as words -/
def forS (t : T) (b : Ss) (l : Lv) (xs : List D) (σ : Sd) : R (Fl × Sd) := forGo (fun x σ => (asg t x σ).bind fun σ1 => exs b l σ1) xs σ
def whS (c : E) (b : Ss) (l : Lv) (n : Nat) (σ : Sd) : R (Fl × Sd) := whGo (fun σ => (lent c (ev c l σ) σ).bind fun p => (R.ofO (tru p.1)).bind fun k => .ok (k, p.2)) (fun σ => exs b l σ) n σ
/-- one turn of a comprehension, the block's names told nothing -/
def lcT (elt : E) (t : T) (c : Eo) (l : Lv) (x : D) (σ : Sd) : R (Option D × Sd) := (asg t x σ).bind fun σ1 => (evc c { l with th := .bad } σ1).bind fun q => if q.1 = true then (ev elt { l with th := .bad } q.2).bind fun r => .ok (some r.1, r.2) else .ok (none, q.2)
def lcS (own : List Nat) (elt : E) (t : T) (c : Eo) (l : Lv) (σ0 : Sd) (xs : List D) (σ : Sd) : R (D × Sd) := (nox (lcGo (fun x σ => lcT elt t c l x (wipeD σ own)) xs σ [])).bind fun q => .ok (.lst q.1, back own σ0 q.2)
/-! ### expressions -/
section
variable {l : Lv} {σ : Sd}
@[simp] theorem ev_var (i) : ev (.var i) l σ = (getS σ i).bind fun d => .ok (d, σ) := rfl
@[simp] theorem ev_rv (i) : ev (.rv i) l σ = .bad := rfl
@[simp] theorem ev_cst (d) : ev (.cst d) l σ = .ok (d, σ) := rfl
@[simp] theorem ev_fn (f) : ev (.fn f) l σ = .ok (.fn f, σ) := rfl
@[simp] theorem ev_tup (es) : ev (.tup es) l σ = (evs es l σ).bind fun q => if q.1.length ≤ SZ then .ok (.tup q.1, q.2) else .bad := rfl
@[simp] theorem ev_lst (es) : ev (.lst es) l σ = (evs es l σ).bind fun q => if q.1.length ≤ SZ then .ok (.lst q.1, q.2) else .bad := rfl
@[simp] theorem ev_bin (op a b) : ev (.bin op a b) l σ = (lent a (ev a l σ) σ).bind fun p => (lent b (ev b l p.2) p.2).bind fun q => (rr a p.1 q.2).bind fun x => (R.ofO (bop op x q.1)).bind fun d => .ok (d, q.2) := rfl
@[simp] theorem ev_neg (a) : ev (.neg a) l σ = (ev a l σ).bind fun p => match p.1 with
    | .int i => .ok (.int (-i), p.2)
    | _ => .bad := rfl
@[simp] theorem ev_not (a) : ev (.not a) l σ = (lent a (ev a l σ) σ).bind fun p => (R.ofO (tru p.1)).bind fun k => .ok (.bl (!k), p.2) := rfl
@[simp] theorem ev_and (a b) : ev (.and a b) l σ = (ev a l σ).bind fun p => (R.ofO (tru p.1)).bind fun k => if k = true then ev b l p.2 else .ok p := rfl
@[simp] theorem ev_or (a b) : ev (.or a b) l σ = (ev a l σ).bind fun p => (R.ofO (tru p.1)).bind fun k => if k = true then .ok p else ev b l p.2 := rfl
@[simp] theorem ev_cmp (op a b) : ev (.cmp op a b) l σ = (lent a (ev a l σ) σ).bind fun p => (lent b (ev b l p.2) p.2).bind fun q => (rr a p.1 q.2).bind fun x => (R.ofO (cmpD op x q.1)).bind fun k => .ok (.bl k, q.2) := rfl
@[simp] theorem ev_chain (op op' a b c) : ev (.chain op op' a b c) l σ = (lent a (ev a l σ) σ).bind fun p => (ev b l p.2).bind fun q => (rr a p.1 q.2).bind fun x => (R.ofO (cmpD op x q.1)).bind fun k =>
    if k = true then (lent c (ev c l q.2) q.2).bind fun r => (R.ofO (cmpD op' q.1 r.1)).bind fun k' => .ok (.bl k', r.2) else .ok (.bl false, q.2) := rfl
@[simp] theorem ev_ite (c a b) : ev (.ite c a b) l σ = (lent c (ev c l σ) σ).bind fun p => (R.ofO (tru p.1)).bind fun k => if k = true then ev a l p.2 else ev b l p.2 := rfl
def callS (l : Lv) (f : Nat) (as : Es) (own : List Nat) (σ : Sd) (fd : Fd) : R (D × Sd) := if modesOk own (outsOf fd.ps as) fd.ps as && nodupB (outsOf fd.ps as) then
        (evbs as l σ).bind fun q => (rrs as q.1 q.2).bind fun ds => (l.F f ds).bind fun r => (putOuts (outsOf fd.ps as) r.2 q.2).bind fun σ' => .ok (r.1, σ')
      else .bad
def callO (l : Lv) (f : Nat) (as : Es) (own : List Nat) (σ : Sd) : Option Fd → R (D × Sd)
  | none => .bad
  | some fd => callS l f as own σ fd
@[simp] theorem callO_some (f as own fd) : callO l f as own σ (some fd) = callS l f as own σ fd := rfl
@[simp] theorem ev_call (f as) : ev (.call f as) l σ = callO l f as l.own σ l.tb[f]? := by
  show (match l.tb[f]? with | none => _ | some fd => _) = _
  cases l.tb[f]? <;> rfl
def calS (l : Lv) (as : Es) (σ : Sd) : D → R (D × Sd)
  | .fn f => callO l f as [] σ l.tb[f]?
  | _ => .bad
@[simp] theorem calS_fn (as f) : calS l as σ (.fn f) = callO l f as [] σ l.tb[f]? := rfl
@[simp] theorem ev_cal (i as) : ev (.cal i as) l σ = (getS σ i).bind fun d => calS l as σ d := by
  show ((getS σ i).bind fun d => _) = _
  congr 1
def lvL (l : Lv) (F2 : Fns) : Lv := { l with own := [], F := F2, F2 := none, Hd := fun _ _ => .bad, th := .bad }
def lamS (f : Nat) (b : E) (l : Lv) (σ : Sd) : Option Fns → R (D × Sd)
  | none => .bad
  | some F2 => match ev b (lvL l F2) σ with
      | .ok q => (l.Hd f (.ok q.1)).bind fun d => .ok (d, σ)
      | .exc c => (l.Hd f (.exc c)).bind fun d => .ok (d, σ)
      | .bad => .bad
@[simp] theorem evx_lam (f b) : ev (.lam f b) l σ = lamS f b l σ l.F2 := by
  show (match l.F2 with | none => _ | some F2 => _) = _
  cases l.F2 <;> rfl
@[simp] theorem ev_bi (b as) : ev (.bi b as) l σ = (evbs as l σ).bind fun q => (rrs as q.1 q.2).bind fun ds => (R.ofO (biD b ds)).bind fun d => .ok (d, q.2) := rfl
@[simp] theorem ev_mt (m a as) : ev (.mt m a as) l σ = (ev a l σ).bind fun p => if isStrD p.1 then (evbs as l p.2).bind fun q => (rrs as q.1 q.2).bind fun ds => (R.ofO (mtD m p.1 ds)).bind fun d => .ok (d, q.2) else .bad := rfl
@[simp] theorem ev_mm (m i as) : ev (.mm m i as) l σ = (getS σ i).bind fun a0 => if isLstD a0 then (evs as l σ).bind fun q => (getS q.2 i).bind fun a => (R.ofO (mmD m a q.1)).bind fun r => .ok (r.1, q.2.set i (some r.2)) else .bad := rfl
@[simp] theorem ev_sub (a b) : ev (.sub a b) l σ = (lent a (ev a l σ) σ).bind fun p => (ev b l p.2).bind fun q => (rr a p.1 q.2).bind fun x => (R.ofO (subD x q.1)).bind fun d => .ok (d, q.2) := rfl
def slD (x : D) (lo hi : Option Int) (σ : Sd) : R (D × Sd) := match x with
    | .tup xs => .ok (.tup (cut xs lo hi), σ)
    | .lst xs => .ok (.lst (cut xs lo hi), σ)
    | _ => .bad
@[simp] theorem slD_tup (xs lo hi) : slD (.tup xs) lo hi σ = .ok (.tup (cut xs lo hi), σ) := rfl
@[simp] theorem slD_lst (xs lo hi) : slD (.lst xs) lo hi σ = .ok (.lst (cut xs lo hi), σ) := rfl
@[simp] theorem ev_sl (a lo hi) : ev (.sl a lo hi) l σ = (lent a (ev a l σ) σ).bind fun p => (evo lo l p.2).bind fun q => (evo hi l q.2).bind fun r => (rr a p.1 r.2).bind fun x => slD x q.1 r.1 r.2 := rfl
@[simp] theorem ev_rev (a) : ev (.rev a) l σ = (lent a (ev a l σ) σ).bind fun p => match p.1 with
    | .tup xs => .ok (.tup xs.reverse, p.2)
    | .lst xs => .ok (.lst xs.reverse, p.2)
    | _ => .bad := rfl
@[simp] theorem evx_lc (own elt t it c) : ev (.lc own elt t it c) l σ = (evi it l σ).bind fun p => if l.hld.isSome && !p.1.all isTupD then .bad else lcS own elt t c l σ p.1 p.2 := rfl
@[simp] theorem ev_dic (es) : ev (.dic es) l σ = (evs es l σ).bind fun q => (R.ofO (upD q.1)).bind fun ps => if decide (ps.length ≤ 15) then .ok (.dic (putsD [] ps), q.2) else .bad := rfl
@[simp] theorem evx_om (m a as) : ev (.om m a as) l σ = (lent a (ev a l σ) σ).bind fun p => if omT m p.1 then (evs as l p.2).bind fun q => (rr a p.1 q.2).bind fun x => (R.ofO (omD m x q.1)).bind fun d => .ok (d, q.2) else .bad := rfl
@[simp] theorem evx_lof (t it) : ev (.lof t it) l σ = (evi it l σ).bind fun p => if p.1.length ≤ SZ then .ok (if t then .tup p.1 else .lst p.1, p.2) else .bad := rfl
@[simp] theorem upD_nil : upD [] = some [] := rfl
@[simp] theorem upD_cons (k v r) : upD (k :: v :: r) = if keyD k then (upD r).map ((k, v) :: ·) else none := rfl
@[simp] theorem keyD_int (i) : keyD (.int i) = true := rfl
@[simp] theorem keyD_str (x) : keyD (.str x) = true := rfl
@[simp] theorem omT_index (xs) : omT .index (.lst xs) = true := rfl
@[simp] theorem omT_count (xs) : omT .count (.lst xs) = true := rfl
@[simp] theorem omT_get2 (xs) : omT .get2 (.dic xs) = true := rfl
@[simp] theorem omD_get2 (xs k x) : omD .get2 (.dic xs) [k, x] = if keyD k then some ((dget xs k).getD x) else none := rfl
@[simp] theorem putsD_nil (a) : putsD a [] = a := rfl
@[simp] theorem putsD_cons (a p r) : putsD a (p :: r) = putsD (dput a p.1 p.2) r := rfl
@[simp] theorem evs_nil : evs .nil l σ = .ok ([], σ) := rfl
@[simp] theorem evs_cons (e es) : evs (.cons e es) l σ = (ev e l σ).bind fun p => (evs es l p.2).bind fun q => .ok (p.1 :: q.1, q.2) := rfl
@[simp] theorem evbs_nil : evbs .nil l σ = .ok ([], σ) := rfl
@[simp] theorem evbs_cons (e es) : evbs (.cons e es) l σ = (lent e (ev e l σ) σ).bind fun p => (evbs es l p.2).bind fun q => .ok (p.1 :: q.1, q.2) := rfl
@[simp] theorem evo_none : evo .none l σ = .ok (none, σ) := rfl
@[simp] theorem evo_some (e) : evo (.some e) l σ = (ev e l σ).bind fun p => match p.1 with
    | .int i => .ok (some i, p.2)
    | _ => .bad := rfl
@[simp] theorem evc_none : evc .none l σ = .ok (true, σ) := rfl
@[simp] theorem evc_some (e) : evc (.some e) l σ = (lent e (ev e l σ) σ).bind fun p => (R.ofO (tru p.1)).bind fun k => .ok (k, p.2) := rfl
@[simp] theorem evi_val (e) : evi (.val e) l σ = (ev e l σ).bind fun p => (R.ofO (itemsOf p.1)).bind fun xs => .ok (xs, p.2) := rfl
@[simp] theorem evi_lst (e) : evi (.lst e) l σ = (ev e l σ).bind fun p => (R.ofO (lstsOf p.1)).bind fun xs => .ok (xs, p.2) := rfl
@[simp] theorem evi_rng1 (e) : evi (.rng1 e) l σ = (ev e l σ).bind fun p => match p.1 with
    | .int j => if rngOk j then .ok (rangeL 0 j, p.2) else .bad
    | _ => .bad := rfl
@[simp] theorem evi_rng2 (a b) : evi (.rng2 a b) l σ = (ev a l σ).bind fun p => (ev b l p.2).bind fun q => match p.1, q.1 with
    | .int i, .int j => if rngOk i && rngOk j then .ok (rangeL i j, q.2) else .bad
    | _, _ => .bad := rfl
@[simp] theorem evi_rng3 (a b c) : evi (.rng3 a b c) l σ = (ev a l σ).bind fun p => (ev b l p.2).bind fun q => (ev c l q.2).bind fun r => match p.1, q.1, r.1 with
    | .int i, .int j, .int k => if rngOk i && rngOk j && decide (k = -1) then .ok (rng3L i j k, r.2) else .bad
    | _, _, _ => .bad := rfl
@[simp] theorem evi_items (a) : evi (.items a) l σ = (lent a (ev a l σ) σ).bind fun p => match p.1 with
    | .dic kvs => .ok (itemsL kvs, p.2)
    | _ => .bad := rfl
@[simp] theorem evi_enum (e) : evi (.enum e) l σ = (ev e l σ).bind fun p => (R.ofO (itemsOf p.1)).bind fun xs => .ok (enumL xs, p.2) := rfl
@[simp] theorem evi_zip (a b) : evi (.zip a b) l σ = (ev a l σ).bind fun p => (ev b l p.2).bind fun q => (R.ofO (zipsOf p.1 q.1)).bind fun xs => .ok (zipL xs.1 xs.2, q.2) := rfl
/-! ### lent names -/
@[simp] theorem lent_rv (i r) : lent (.rv i) r σ = (getS σ i).bind fun d => .ok (d, σ) := rfl
theorem lent_of {e : E} (h : isRv e = false) (r) : lent e r σ = r := by cases e <;> first | rfl | cases h
theorem rr_of {e : E} (h : isRv e = false) (d) : rr e d σ = .ok d := by cases e <;> first | rfl | cases h
@[simp] theorem rr_rv (i d) : rr (.rv i) d σ = getS σ i := rfl
@[simp] theorem lent_var {i} (r) : lent (.var i) r σ = r := rfl
@[simp] theorem rr_var {i} (d') : rr (.var i) d' σ = .ok d' := rfl
@[simp] theorem lent_cst {d} (r) : lent (.cst d) r σ = r := rfl
@[simp] theorem rr_cst {d} (d') : rr (.cst d) d' σ = .ok d' := rfl
@[simp] theorem lent_fn {f} (r) : lent (.fn f) r σ = r := rfl
@[simp] theorem rr_fn {f} (d') : rr (.fn f) d' σ = .ok d' := rfl
@[simp] theorem lent_tup {es} (r) : lent (.tup es) r σ = r := rfl
@[simp] theorem rr_tup {es} (d') : rr (.tup es) d' σ = .ok d' := rfl
@[simp] theorem lent_lst {es} (r) : lent (.lst es) r σ = r := rfl
@[simp] theorem rr_lst {es} (d') : rr (.lst es) d' σ = .ok d' := rfl
@[simp] theorem lent_bin {op a b} (r) : lent (.bin op a b) r σ = r := rfl
@[simp] theorem rr_bin {op a b} (d') : rr (.bin op a b) d' σ = .ok d' := rfl
@[simp] theorem lent_neg {a} (r) : lent (.neg a) r σ = r := rfl
@[simp] theorem rr_neg {a} (d') : rr (.neg a) d' σ = .ok d' := rfl
@[simp] theorem lent_not {a} (r) : lent (.not a) r σ = r := rfl
@[simp] theorem rr_not {a} (d') : rr (.not a) d' σ = .ok d' := rfl
@[simp] theorem lent_and {a b} (r) : lent (.and a b) r σ = r := rfl
@[simp] theorem rr_and {a b} (d') : rr (.and a b) d' σ = .ok d' := rfl
@[simp] theorem lent_or {a b} (r) : lent (.or a b) r σ = r := rfl
@[simp] theorem rr_or {a b} (d') : rr (.or a b) d' σ = .ok d' := rfl
@[simp] theorem lent_cmp {op a b} (r) : lent (.cmp op a b) r σ = r := rfl
@[simp] theorem rr_cmp {op a b} (d') : rr (.cmp op a b) d' σ = .ok d' := rfl
@[simp] theorem lent_chain {op op' a b c} (r) : lent (.chain op op' a b c) r σ = r := rfl
@[simp] theorem rr_chain {op op' a b c} (d') : rr (.chain op op' a b c) d' σ = .ok d' := rfl
@[simp] theorem lent_ite {c a b} (r) : lent (.ite c a b) r σ = r := rfl
@[simp] theorem rr_ite {c a b} (d') : rr (.ite c a b) d' σ = .ok d' := rfl
@[simp] theorem lent_call {f as} (r) : lent (.call f as) r σ = r := rfl
@[simp] theorem rr_call {f as} (d') : rr (.call f as) d' σ = .ok d' := rfl
@[simp] theorem lent_cal {i as} (r) : lent (.cal i as) r σ = r := rfl
@[simp] theorem rr_cal {i as} (d') : rr (.cal i as) d' σ = .ok d' := rfl
@[simp] theorem lent_lam {f b} (r) : lent (.lam f b) r σ = r := rfl
@[simp] theorem rr_lam {f b} (d') : rr (.lam f b) d' σ = .ok d' := rfl
@[simp] theorem lent_bi {bb as} (r) : lent (.bi bb as) r σ = r := rfl
@[simp] theorem rr_bi {bb as} (d') : rr (.bi bb as) d' σ = .ok d' := rfl
@[simp] theorem lent_mt {m a as} (r) : lent (.mt m a as) r σ = r := rfl
@[simp] theorem rr_mt {m a as} (d') : rr (.mt m a as) d' σ = .ok d' := rfl
@[simp] theorem lent_mm {m i as} (r) : lent (.mm m i as) r σ = r := rfl
@[simp] theorem rr_mm {m i as} (d') : rr (.mm m i as) d' σ = .ok d' := rfl
@[simp] theorem lent_sub {a b} (r) : lent (.sub a b) r σ = r := rfl
@[simp] theorem rr_sub {a b} (d') : rr (.sub a b) d' σ = .ok d' := rfl
@[simp] theorem lent_sl {a lo hi} (r) : lent (.sl a lo hi) r σ = r := rfl
@[simp] theorem rr_sl {a lo hi} (d') : rr (.sl a lo hi) d' σ = .ok d' := rfl
@[simp] theorem lent_rev {a} (r) : lent (.rev a) r σ = r := rfl
@[simp] theorem rr_rev {a} (d') : rr (.rev a) d' σ = .ok d' := rfl
@[simp] theorem lent_lc {own elt t it c} (r) : lent (.lc own elt t it c) r σ = r := rfl
@[simp] theorem rr_lc {own elt t it c} (d') : rr (.lc own elt t it c) d' σ = .ok d' := rfl
@[simp] theorem lent_dic {es} (r) : lent (.dic es) r σ = r := rfl
@[simp] theorem rr_dic {es} (d') : rr (.dic es) d' σ = .ok d' := rfl
@[simp] theorem lent_om {m a as} (r) : lent (.om m a as) r σ = r := rfl
@[simp] theorem rr_om {m a as} (d') : rr (.om m a as) d' σ = .ok d' := rfl
@[simp] theorem lent_lof {t it} (r) : lent (.lof t it) r σ = r := rfl
@[simp] theorem rr_lof {t it} (d') : rr (.lof t it) d' σ = .ok d' := rfl
@[simp] theorem lent_isx {i f} (r) : lent (.isx i f) r σ = r := rfl
@[simp] theorem rr_isx {i f} (d') : rr (.isx i f) d' σ = .ok d' := rfl
@[simp] theorem rrs_nil : rrs .nil [] σ = .ok [] := rfl
@[simp] theorem rrs_cons (e es d ds) : rrs (.cons e es) (d :: ds) σ = (rr e d σ).bind fun x => (rrs es ds σ).bind fun xs => .ok (x :: xs) := rfl
/-! ### the parameters' ways -/
def bOk (ms : List Nat) (e : E) : Bool := match e with
  | .rv i => !ms.contains i
  | _ => true
def mOk (own : List Nat) (e : E) : Bool := match e with
  | .rv i => own.contains i
  | _ => false
@[simp] theorem modesOk_nil (own ms) : modesOk own ms [] .nil = true := rfl
@[simp] theorem modesOk_s (own ms ps e es) : modesOk own ms (.s :: ps) (.cons e es) = (!isRv e && modesOk own ms ps es) := rfl
@[simp] theorem modesOk_b (own ms ps e es) : modesOk own ms (.b :: ps) (.cons e es) = (bOk ms e && modesOk own ms ps es) := rfl
@[simp] theorem modesOk_m (own ms ps e es) : modesOk own ms (.m :: ps) (.cons e es) = (mOk own e && modesOk own ms ps es) := rfl
@[simp] theorem bOk_rv (ms i) : bOk ms (.rv i) = !ms.contains i := rfl
@[simp] theorem mOk_rv (own i) : mOk own (.rv i) = own.contains i := rfl
@[simp] theorem isRv_rv (i) : isRv (.rv i) = true := rfl
@[simp] theorem nodupB_nil : nodupB [] = true := rfl
@[simp] theorem nodupB_cons (x r) : nodupB (x :: r) = (!r.contains x && nodupB r) := rfl
@[simp] theorem isRv_var {i} : isRv (.var i) = false := rfl
@[simp] theorem bOk_var {ms : List Nat} {i} : bOk ms (.var i) = true := rfl
@[simp] theorem isRv_cst {d} : isRv (.cst d) = false := rfl
@[simp] theorem bOk_cst {ms : List Nat} {d} : bOk ms (.cst d) = true := rfl
@[simp] theorem isRv_fn {f} : isRv (.fn f) = false := rfl
@[simp] theorem bOk_fn {ms : List Nat} {f} : bOk ms (.fn f) = true := rfl
@[simp] theorem isRv_tup {es} : isRv (.tup es) = false := rfl
@[simp] theorem bOk_tup {ms : List Nat} {es} : bOk ms (.tup es) = true := rfl
@[simp] theorem isRv_lst {es} : isRv (.lst es) = false := rfl
@[simp] theorem bOk_lst {ms : List Nat} {es} : bOk ms (.lst es) = true := rfl
@[simp] theorem isRv_bin {op a b} : isRv (.bin op a b) = false := rfl
@[simp] theorem bOk_bin {ms : List Nat} {op a b} : bOk ms (.bin op a b) = true := rfl
@[simp] theorem isRv_neg {a} : isRv (.neg a) = false := rfl
@[simp] theorem bOk_neg {ms : List Nat} {a} : bOk ms (.neg a) = true := rfl
@[simp] theorem isRv_not {a} : isRv (.not a) = false := rfl
@[simp] theorem bOk_not {ms : List Nat} {a} : bOk ms (.not a) = true := rfl
@[simp] theorem isRv_and {a b} : isRv (.and a b) = false := rfl
@[simp] theorem bOk_and {ms : List Nat} {a b} : bOk ms (.and a b) = true := rfl
@[simp] theorem isRv_or {a b} : isRv (.or a b) = false := rfl
@[simp] theorem bOk_or {ms : List Nat} {a b} : bOk ms (.or a b) = true := rfl
@[simp] theorem isRv_cmp {op a b} : isRv (.cmp op a b) = false := rfl
@[simp] theorem bOk_cmp {ms : List Nat} {op a b} : bOk ms (.cmp op a b) = true := rfl
@[simp] theorem isRv_chain {op op' a b c} : isRv (.chain op op' a b c) = false := rfl
@[simp] theorem bOk_chain {ms : List Nat} {op op' a b c} : bOk ms (.chain op op' a b c) = true := rfl
@[simp] theorem isRv_ite {c a b} : isRv (.ite c a b) = false := rfl
@[simp] theorem bOk_ite {ms : List Nat} {c a b} : bOk ms (.ite c a b) = true := rfl
@[simp] theorem isRv_call {f as} : isRv (.call f as) = false := rfl
@[simp] theorem bOk_call {ms : List Nat} {f as} : bOk ms (.call f as) = true := rfl
@[simp] theorem isRv_cal {i as} : isRv (.cal i as) = false := rfl
@[simp] theorem bOk_cal {ms : List Nat} {i as} : bOk ms (.cal i as) = true := rfl
@[simp] theorem isRv_lam {f b} : isRv (.lam f b) = false := rfl
@[simp] theorem bOk_lam {ms : List Nat} {f b} : bOk ms (.lam f b) = true := rfl
@[simp] theorem isRv_bi {bb : Bi} {as} : isRv (.bi bb as) = false := rfl
@[simp] theorem bOk_bi {ms : List Nat} {bb as} : bOk ms (.bi bb as) = true := rfl
@[simp] theorem isRv_mt {m a as} : isRv (.mt m a as) = false := rfl
@[simp] theorem bOk_mt {ms : List Nat} {m a as} : bOk ms (.mt m a as) = true := rfl
@[simp] theorem isRv_mm {m i as} : isRv (.mm m i as) = false := rfl
@[simp] theorem bOk_mm {ms : List Nat} {m i as} : bOk ms (.mm m i as) = true := rfl
@[simp] theorem isRv_sub {a b} : isRv (.sub a b) = false := rfl
@[simp] theorem bOk_sub {ms : List Nat} {a b} : bOk ms (.sub a b) = true := rfl
@[simp] theorem isRv_sl {a lo hi} : isRv (.sl a lo hi) = false := rfl
@[simp] theorem bOk_sl {ms : List Nat} {a lo hi} : bOk ms (.sl a lo hi) = true := rfl
@[simp] theorem isRv_rev {a} : isRv (.rev a) = false := rfl
@[simp] theorem bOk_rev {ms : List Nat} {a} : bOk ms (.rev a) = true := rfl
@[simp] theorem isRv_lc {own elt t it c} : isRv (.lc own elt t it c) = false := rfl
@[simp] theorem bOk_lc {ms : List Nat} {own elt t it c} : bOk ms (.lc own elt t it c) = true := rfl
@[simp] theorem isRv_dic {es} : isRv (.dic es) = false := rfl
@[simp] theorem isRv_om {m a as} : isRv (.om m a as) = false := rfl
@[simp] theorem isRv_lof {t it} : isRv (.lof t it) = false := rfl
@[simp] theorem bOk_om {ms : List Nat} {m a as} : bOk ms (.om m a as) = true := rfl
@[simp] theorem bOk_lof {ms : List Nat} {t it} : bOk ms (.lof t it) = true := rfl
@[simp] theorem bOk_dic {ms : List Nat} {es} : bOk ms (.dic es) = true := rfl
@[simp] theorem isRv_isx {i f} : isRv (.isx i f) = false := rfl
@[simp] theorem bOk_isx {ms : List Nat} {i f} : bOk ms (.isx i f) = true := rfl
@[simp] theorem mSlots_nil (i : Nat) : mSlots [] i = [] := rfl
@[simp] theorem mSlots_s (ps : List Md) (i : Nat) : mSlots (.s :: ps) i = mSlots ps (i + 1) := rfl
@[simp] theorem mSlots_b (ps : List Md) (i : Nat) : mSlots (.b :: ps) i = mSlots ps (i + 1) := rfl
@[simp] theorem mSlots_m (ps : List Md) (i : Nat) : mSlots (.m :: ps) i = i :: mSlots ps (i + 1) := rfl
@[simp] theorem outsOf_nil : outsOf [] .nil = [] := rfl
@[simp] theorem outsOf_s (ps e es) : outsOf (.s :: ps) (.cons e es) = outsOf ps es := by cases e <;> rfl
@[simp] theorem outsOf_b (ps e es) : outsOf (.b :: ps) (.cons e es) = outsOf ps es := by cases e <;> rfl
@[simp] theorem outsOf_m (ps i es) : outsOf (.m :: ps) (.cons (.rv i) es) = i :: outsOf ps es := rfl
@[simp] theorem putOuts_nil (σ : Sd) : putOuts [] [] σ = .ok σ := rfl
@[simp] theorem putOuts_cons (i is d ds) (σ : Sd) : putOuts (i :: is) (d :: ds) σ = putOuts is ds (σ.set i (some d)) := rfl
/-! ### statements -/
@[simp] theorem exs_nil : exs .nil l σ = .ok (.nx, σ) := rfl
def flS (ss : Ss) (l : Lv) : Fl × Sd → R (Fl × Sd)
  | (.nx, σ) => exs ss l σ
  | (f, σ) => .ok (f, σ)
@[simp] theorem flS_nx (ss) : flS ss l (.nx, σ) = exs ss l σ := rfl
@[simp] theorem flS_ct (ss) : flS ss l (.ct, σ) = .ok (.ct, σ) := rfl
@[simp] theorem flS_br (ss) : flS ss l (.br, σ) = .ok (.br, σ) := rfl
@[simp] theorem flS_rt (ss d) : flS ss l (.rt d, σ) = .ok (.rt d, σ) := rfl
@[simp] theorem exs_cons (s ss) : exs (.cons s ss) l σ = (ex s l σ).bind (flS ss l) := by
  show ((ex s l σ).bind fun q => _) = _
  congr 1
  funext q
  obtain ⟨f, σ'⟩ := q
  cases f <;> rfl
@[simp] theorem ex_expr (e) : ex (.expr e) l σ = (ev e l σ).bind fun p => .ok (.nx, p.2) := rfl
@[simp] theorem ex_asg (t e) : ex (.asg t e) l σ = (ev e l σ).bind fun p => (asg t p.1 p.2).bind fun σ' => .ok (.nx, σ') := rfl
@[simp] theorem ex_asgr (i e) : ex (.asgr i e) l σ = if freshE (frOf l.tb) e then (ev e l σ).bind fun p => if isContainer p.1 then .ok (.nx, p.2.set i (some p.1)) else .bad else .bad := rfl
@[simp] theorem ex_par (is es) : ex (.par is es) l σ = if parOk (frOf l.tb) is es then (evs es l σ).bind fun p => (setAll is p.1 p.2).bind fun σ' => .ok (.nx, σ')
    else .bad := rfl
@[simp] theorem ex_seti (i k e) : ex (.seti i k e) l σ = (ev e l σ).bind fun p => (getS p.2 i).bind fun _ => (ev k l p.2).bind fun q => (getS q.2 i).bind fun a => (R.ofO (setD a q.1 p.1)).bind fun b => .ok (.nx, q.2.set i (some b)) := rfl
@[simp] theorem ex_ifs (c a b) : ex (.ifs c a b) l σ = (lent c (ev c l σ) σ).bind fun p => (R.ofO (tru p.1)).bind fun k => if k = true then exs a l p.2 else exs b l p.2 := rfl
@[simp] theorem ex_for (t it b) : ex (.for t it b) l σ = (evi it l σ).bind fun p => forS t b l p.1 p.2 := rfl
@[simp] theorem ex_while (c b) : ex (.while c b) l σ = whS c b l WF σ := rfl
@[simp] theorem ex_ret (e) : ex (.ret e) l σ = (ev e l σ).bind fun p => if l.fr && !freshE (frOf l.tb) e && isContainer p.1 then .bad else .ok (.rt p.1, p.2) := rfl
@[simp] theorem ex_retr (i) : ex (.retr i) l σ = (getS σ i).bind fun d => .ok (.rt d, σ) := rfl
@[simp] theorem ex_retN : ex .retN l σ = .ok (.rt .non, σ) := rfl
@[simp] theorem ex_raise (c) : ex (.raise c) l σ = .exc c := rfl
@[simp] theorem ex_pass : ex .pass l σ = .ok (.nx, σ) := rfl
@[simp] theorem ex_cont : ex .cont l σ = .ok (.ct, σ) := rfl
@[simp] theorem ex_brk : ex .brk l σ = .ok (.br, σ) := rfl
@[simp] theorem ex_acts : ex .acts l σ = l.th.bind fun _ => .ok (.nx, σ) := rfl
end
/-! ### slots -/
@[simp] theorem getS_zero (d : D) (σ : Sd) : getS (some d :: σ) 0 = .ok d := rfl
@[simp] theorem getS_succ (x : Option D) (σ : Sd) (i : Nat) : getS (x :: σ) (i + 1) = getS σ i := rfl
@[simp] theorem asg_var (i : Nat) (d : D) (σ : Sd) : asg (.var i) d σ = .ok (σ.set i (some d)) := rfl
@[simp] theorem asg_tup (ts : List T) (xs : List D) (σ : Sd) : asg (.tup ts) (.tup xs) σ = if xs.length = ts.length then asgs ts xs σ else .bad := rfl
@[simp] theorem asg_lst (ts : List T) (xs : List D) (σ : Sd) : asg (.tup ts) (.lst xs) σ = if xs.length = ts.length then asgs ts xs σ else .bad := rfl
@[simp] theorem asgs_nil (σ : Sd) : asgs [] [] σ = .ok σ := rfl
@[simp] theorem asgs_cons (t : T) (ts : List T) (d : D) (ds : List D) (σ : Sd) : asgs (t :: ts) (d :: ds) σ = (asg t d σ).bind fun σ1 => asgs ts ds σ1 := rfl
/-! ### what a def leans on -/
def LV (tb : List Fd) (sub : Nat → Nat → Bool) (n : Nat) (fd : Fd) : Lv := ⟨tb, fd.own, sub, Fs tb sub n, (Ts tb sub n).2.2, runHd tb sub, .bad, none, fd.fresh⟩
section
variable {tb : List Fd} {sub : Nat → Nat → Bool} {n : Nat} {fd : Fd}
@[simp] theorem LV_tb : (LV tb sub n fd).tb = tb := rfl
@[simp] theorem LV_own : (LV tb sub n fd).own = fd.own := rfl
@[simp] theorem LV_F : (LV tb sub n fd).F = Fs tb sub n := rfl
@[simp] theorem LV_F2 : (LV tb sub (n + 2) fd).F2 = some (Fs tb sub n) := rfl
@[simp] theorem LV_Hd : (LV tb sub n fd).Hd = runHd tb sub := rfl
@[simp] theorem LV_th : (LV tb sub n fd).th = .bad := rfl
@[simp] theorem LV_hld : (LV tb sub n fd).hld = none := rfl
@[simp] theorem LV_fr : (LV tb sub n fd).fr = fd.fresh := rfl
@[simp] theorem LV_sub : (LV tb sub n fd).sub = sub := rfl
@[simp] theorem LV_noth : ({ LV tb sub n fd with th := .bad } : Lv) = LV tb sub n fd := rfl
/-- a def, called -/
theorem call_eq {f : Nat} {as : List D} (h : tb[f]? = some fd) (hl : as.length = fd.ps.length) : Fs tb sub (n + 1) f as = finish fd (exs fd.body (LV tb sub n fd) (start fd as)) := by
  show runFd tb sub (Ts tb sub n).1 (Ts tb sub n).2.2 (runHd tb sub) .bad f as = _
  unfold runFd
  rw [h]
  exact if_pos hl
@[simp] theorem finish_rt (d : D) (σ : Sd) : finish fd (.ok (.rt d, σ)) = (getAll σ (mSlots fd.ps 0)).bind fun ds => .ok (d, ds) := rfl
@[simp] theorem finish_nx (σ : Sd) : finish fd (.ok (.nx, σ)) = (getAll σ (mSlots fd.ps 0)).bind fun ds => .ok (.non, ds) := rfl
@[simp] theorem finish_exc (c : Nat) : finish fd (.exc c) = .exc c := rfl
@[simp] theorem getAll_nil (σ : Sd) : getAll σ [] = .ok [] := rfl
@[simp] theorem getAll_cons (σ : Sd) (i : Nat) (is : List Nat) : getAll σ (i :: is) = (getS σ i).bind fun d => (getAll σ is).bind fun ds => .ok (d :: ds) := rfl
@[simp] theorem finish_ite {p : Prop} [Decidable p] (a b : R (Fl × Sd)) : finish fd (if p then a else b) = if p then finish fd a else finish fd b := by split <;> rfl
end

/-! ### operators -/
section
variable {i j : Int} {a b : Bool} {x y : Str} {xs ys : List D} {d : D}
@[simp] theorem bop_add : bop .add (.int i) (.int j) = some (.int (i + j)) := rfl
@[simp] theorem bop_sub : bop .sub (.int i) (.int j) = some (.int (i - j)) := rfl
theorem bop_mul (h : (-(2 ^ 64) < i ∧ i < 2 ^ 64) ∨ (-(2 ^ 64) < j ∧ j < 2 ^ 64)) : bop .mul (.int i) (.int j) = some (.int (i * j)) := by
  show (if (-(2 ^ 64) < i ∧ i < 2 ^ 64) ∨ (-(2 ^ 64) < j ∧ j < 2 ^ 64) then some (i * j) else none).map D.int = _
  rw [if_pos h]
  rfl
theorem bop_fdivW (h : 0 < j) (h2 : j.natAbs.log2 < 9000) : bop .fdiv (.int i) (.int j) = some (.int (i / j)) := by
  show (if 0 < j ∧ j.natAbs.log2 < 9000 then some (i / j) else none).map D.int = _
  rw [if_pos ⟨h, h2⟩]
  rfl
theorem bop_fdiv (h : 0 < j) (h2 : j < 1073741824) : bop .fdiv (.int i) (.int j) = some (.int (i / j)) :=
  bop_fdivW h (Nat.lt_of_lt_of_le ((Nat.log2_lt (k := 30) (by omega)).mpr (by omega)) (by decide))
theorem bop_mod (h : 0 < j) : bop .mod (.int i) (.int j) = some (.int (i % j)) := by
  show (if 0 < j then some (i % j) else none).map D.int = _
  rw [if_pos h]
  rfl
@[simp] theorem SZ_num : SZ = 16777216 := rfl
@[simp] theorem bop_addS (h : x.length + y.length ≤ SZ) : bop .add (.str x) (.str y) = some (.str (x ++ y)) := if_pos h
@[simp] theorem tru_non : tru .non = some false := rfl
@[simp] theorem tru_bl : tru (.bl a) = some a := rfl
@[simp] theorem tru_int : tru (.int i) = some (i != 0) := rfl
@[simp] theorem tru_lst : tru (.lst xs) = some (!xs.isEmpty) := rfl
@[simp] theorem tru_tup : tru (.tup xs) = some (!xs.isEmpty) := rfl
@[simp] theorem cmpD_lt : cmpD .lt (.int i) (.int j) = some (decide (i < j)) := rfl
@[simp] theorem cmpD_le : cmpD .le (.int i) (.int j) = some (decide (i ≤ j)) := rfl
@[simp] theorem cmpD_gt : cmpD .gt (.int i) (.int j) = some (decide (j < i)) := rfl
@[simp] theorem cmpD_ge : cmpD .ge (.int i) (.int j) = some (decide (j ≤ i)) := rfl
@[simp] theorem cmpD_eq_int : cmpD .eq (.int i) (.int j) = some (decide (i = j)) := by
  show some (i == j) = _
  rfl
@[simp] theorem cmpD_ne_int : cmpD .ne (.int i) (.int j) = some (!decide (i = j)) := rfl
@[simp] theorem cmpD_eq_bl : cmpD .eq (.bl a) (.bl b) = some (a == b) := rfl
@[simp] theorem cmpD_ne_bl : cmpD .ne (.bl a) (.bl b) = some (!(a == b)) := rfl
@[simp] theorem cmpD_eq_str : cmpD .eq (.str x) (.str y) = some (x == y) := rfl
@[simp] theorem cmpD_ne_str : cmpD .ne (.str x) (.str y) = some (!(x == y)) := rfl
@[simp] theorem cmpD_is_non : cmpD .is .non .non = some true := rfl
@[simp] theorem cmpD_is_int : cmpD .is (.int i) .non = some false := rfl
@[simp] theorem cmpD_is_bl : cmpD .is (.bl a) .non = some false := rfl
@[simp] theorem cmpD_is_str : cmpD .is (.str x) .non = some false := rfl
@[simp] theorem cmpD_is_tup : cmpD .is (.tup xs) .non = some false := rfl
@[simp] theorem cmpD_is_lst : cmpD .is (.lst xs) .non = some false := rfl
@[simp] theorem cmpD_is_blb : cmpD .is (.bl a) (.bl b) = some (decide (a = b)) := rfl
@[simp] theorem cmpD_isn_blb : cmpD .isn (.bl a) (.bl b) = some (!decide (a = b)) := rfl
@[simp] theorem cmpD_isn_bl : cmpD .isn (.bl a) .non = some true := rfl
@[simp] theorem cmpD_isn_str : cmpD .isn (.str x) .non = some true := rfl
@[simp] theorem cmpD_isn_non : cmpD .isn .non .non = some false := rfl
@[simp] theorem cmpD_isn_int : cmpD .isn (.int i) .non = some true := rfl
@[simp] theorem cmpD_isn_tup : cmpD .isn (.tup xs) .non = some true := rfl
@[simp] theorem cmpD_isn_lst : cmpD .isn (.lst xs) .non = some true := rfl
@[simp] theorem biD_lenT : biD .len [.tup xs] = some (.int xs.length) := rfl
@[simp] theorem biD_lenL : biD .len [.lst xs] = some (.int xs.length) := rfl
@[simp] theorem biD_int : biD .int [.int i] = some (.int i) := rfl
@[simp] theorem biD_intb : biD .int [.bl a] = some (.int (if a then 1 else 0)) := rfl
@[simp] theorem biD_listT : biD .list [.tup xs] = some (.lst xs) := rfl
@[simp] theorem biD_listL : biD .list [.lst xs] = some (.lst xs) := rfl
@[simp] theorem biD_listF : biD .list [.frz xs] = some (.lst xs) := rfl
@[simp] theorem biD_tupleT : biD .tuple [.tup xs] = some (.tup xs) := rfl
@[simp] theorem biD_tupleL : biD .tuple [.lst xs] = some (.tup xs) := rfl
@[simp] theorem biD_abs : biD .abs [.int i] = some (.int (if i < 0 then -i else i)) := rfl
@[simp] theorem biD_min2 : biD .min2 [.int i, .int j] = some (.int (if j < i then j else i)) := rfl
@[simp] theorem biD_max2 : biD .max2 [.int i, .int j] = some (.int (if j > i then j else i)) := rfl
theorem bls_map {α : Type} (f : α → Bool) : ∀ l : List α, bls (l.map fun x => D.bl (f x)) = some (l.map f)
  | [] => rfl
  | x :: l => by show (bls (l.map _)).map _ = _; rw [bls_map f l]; rfl
theorem dints_map {α : Type} (f : α → Int) : ∀ l : List α, dints (l.map fun x => D.int (f x)) = some (l.map f)
  | [] => rfl
  | x :: l => by show (dints (l.map _)).map _ = _; rw [dints_map f l]; rfl
@[simp] theorem biD_all (bs : List Bool) : biD .all [.lst (bs.map D.bl)] = some (.bl (bs.all id)) := by
  show (bls (bs.map D.bl)).map _ = _
  rw [show bs.map D.bl = bs.map fun b => D.bl (id b) from rfl, bls_map]
  simp
@[simp] theorem biD_any (bs : List Bool) : biD .any [.lst (bs.map D.bl)] = some (.bl (bs.any id)) := by
  show (bls (bs.map D.bl)).map _ = _
  rw [show bs.map D.bl = bs.map fun b => D.bl (id b) from rfl, bls_map]
  simp
@[simp] theorem isInt_int : biD .isInt [.int i] = some (.bl true) := rfl
@[simp] theorem isInt_bl : biD .isInt [.bl a] = some (.bl true) := rfl
@[simp] theorem isInt_non : biD .isInt [.non] = some (.bl false) := rfl
@[simp] theorem isInt_str : biD .isInt [.str x] = some (.bl false) := rfl
@[simp] theorem isInt_tup : biD .isInt [.tup xs] = some (.bl false) := rfl
@[simp] theorem isInt_lst : biD .isInt [.lst xs] = some (.bl false) := rfl
@[simp] theorem isBool_int : biD .isBool [.int i] = some (.bl false) := rfl
@[simp] theorem isBool_bl : biD .isBool [.bl a] = some (.bl true) := rfl
@[simp] theorem isBool_non : biD .isBool [.non] = some (.bl false) := rfl
@[simp] theorem isBool_str : biD .isBool [.str x] = some (.bl false) := rfl
@[simp] theorem isBool_tup : biD .isBool [.tup xs] = some (.bl false) := rfl
@[simp] theorem isBool_lst : biD .isBool [.lst xs] = some (.bl false) := rfl
@[simp] theorem isStr_int : biD .isStr [.int i] = some (.bl false) := rfl
@[simp] theorem isStr_bl : biD .isStr [.bl a] = some (.bl false) := rfl
@[simp] theorem isStr_non : biD .isStr [.non] = some (.bl false) := rfl
@[simp] theorem isStr_str : biD .isStr [.str x] = some (.bl true) := rfl
@[simp] theorem isStr_tup : biD .isStr [.tup xs] = some (.bl false) := rfl
@[simp] theorem isStr_lst : biD .isStr [.lst xs] = some (.bl false) := rfl
@[simp] theorem isTuple_int : biD .isTuple [.int i] = some (.bl false) := rfl
@[simp] theorem isTuple_bl : biD .isTuple [.bl a] = some (.bl false) := rfl
@[simp] theorem isTuple_non : biD .isTuple [.non] = some (.bl false) := rfl
@[simp] theorem isTuple_str : biD .isTuple [.str x] = some (.bl false) := rfl
@[simp] theorem isTuple_tup : biD .isTuple [.tup xs] = some (.bl true) := rfl
@[simp] theorem isTuple_lst : biD .isTuple [.lst xs] = some (.bl false) := rfl
@[simp] theorem isList_int : biD .isList [.int i] = some (.bl false) := rfl
@[simp] theorem isList_bl : biD .isList [.bl a] = some (.bl false) := rfl
@[simp] theorem isList_non : biD .isList [.non] = some (.bl false) := rfl
@[simp] theorem isList_str : biD .isList [.str x] = some (.bl false) := rfl
@[simp] theorem isList_tup : biD .isList [.tup xs] = some (.bl false) := rfl
@[simp] theorem isList_lst : biD .isList [.lst xs] = some (.bl true) := rfl
theorem subD_tup {k : Nat} (h : xs[k]? = some d) : subD (.tup xs) (.int k) = some d := by
  have hk : k < xs.length := (List.getElem?_eq_some_iff.mp h).1
  show (ixn xs.length k).bind _ = _
  unfold ixn
  rw [if_pos (by omega), if_pos (by omega)]
  simpa using h
theorem subD_lst {k : Nat} (h : xs[k]? = some d) : subD (.lst xs) (.int k) = some d := by
  have hk : k < xs.length := (List.getElem?_eq_some_iff.mp h).1
  show (ixn xs.length k).bind _ = _
  unfold ixn
  rw [if_pos (by omega), if_pos (by omega)]
  simpa using h
@[simp] theorem subD_t0 : subD (.tup (d :: xs)) (.int 0) = some d := subD_tup (k := 0) rfl
@[simp] theorem subD_l0 : subD (.lst (d :: xs)) (.int 0) = some d := subD_lst (k := 0) rfl
variable {d1 d2 d3 d4 d5 : D}
@[simp] theorem subD_t1 : subD (.tup (d :: d1 :: xs)) (.int 1) = some d1 := subD_tup (k := 1) rfl
@[simp] theorem subD_l1 : subD (.lst (d :: d1 :: xs)) (.int 1) = some d1 := subD_lst (k := 1) rfl
@[simp] theorem subD_t2 : subD (.tup (d :: d1 :: d2 :: xs)) (.int 2) = some d2 := subD_tup (k := 2) rfl
@[simp] theorem subD_l2 : subD (.lst (d :: d1 :: d2 :: xs)) (.int 2) = some d2 := subD_lst (k := 2) rfl
@[simp] theorem subD_t3 : subD (.tup (d :: d1 :: d2 :: d3 :: xs)) (.int 3) = some d3 := subD_tup (k := 3) rfl
@[simp] theorem subD_t4 : subD (.tup (d :: d1 :: d2 :: d3 :: d4 :: xs)) (.int 4) = some d4 := subD_tup (k := 4) rfl
@[simp] theorem subD_t5 : subD (.tup (d :: d1 :: d2 :: d3 :: d4 :: d5 :: xs)) (.int 5) = some d5 := subD_tup (k := 5) rfl
@[simp] theorem itemsOf_tup : itemsOf (.tup xs) = some xs := rfl
@[simp] theorem itemsOf_lst : itemsOf (.lst xs) = some xs := rfl
@[simp] theorem lstsOf_lst : lstsOf (.lst xs) = some xs := rfl
@[simp] theorem zipsOf_tup : zipsOf (.tup xs) (.tup ys) = some (xs, ys) := rfl
@[simp] theorem zipsOf_lst : zipsOf (.lst xs) (.lst ys) = some (xs, ys) := rfl
@[simp] theorem isContainer_lst : isContainer (.lst xs) = true := rfl
@[simp] theorem isContainer_tup : isContainer (.tup xs) = false := rfl
@[simp] theorem isContainer_int : isContainer (.int i) = false := rfl
@[simp] theorem isContainer_bl : isContainer (.bl a) = false := rfl
@[simp] theorem isContainer_str : isContainer (.str x) = false := rfl
@[simp] theorem isContainer_non : isContainer .non = false := rfl
@[simp] theorem isLstD_lst : isLstD (.lst xs) = true := rfl
@[simp] theorem isStrD_str : isStrD (.str x) = true := rfl
end

/-! ### what is new -/
section
variable {fr : Nat → Bool}
@[simp] theorem freshE_lst {es} : freshE fr (.lst es) = true := rfl
@[simp] theorem freshE_lc {own elt t it c} : freshE fr (.lc own elt t it c) = true := rfl
@[simp] theorem freshE_dic {es} : freshE fr (.dic es) = true := rfl
@[simp] theorem freshE_om {m a as} : freshE fr (.om m a as) = false := rfl
@[simp] theorem freshE_lof {t it} : freshE fr (.lof t it) = !t := rfl
@[simp] theorem freshE_bi_dict {as} : freshE fr (.bi .dict1 as) = true := rfl
@[simp] theorem freshE_bin {op a b} : freshE fr (.bin op a b) = true := rfl
@[simp] theorem freshE_sl {a lo hi} : freshE fr (.sl a lo hi) = true := rfl
@[simp] theorem freshE_rev {a} : freshE fr (.rev a) = true := rfl
@[simp] theorem freshE_bi_list {as} : freshE fr (.bi .list as) = true := rfl
@[simp] theorem freshE_bi_sorted {as} : freshE fr (.bi .sorted as) = true := rfl
@[simp] theorem freshE_ite {c a b} : freshE fr (.ite c a b) = (freshE fr a && freshE fr b) := rfl
@[simp] theorem freshE_call {f as} : freshE fr (.call f as) = fr f := rfl
@[simp] theorem freshE_var {i} : freshE fr (.var i) = false := rfl
@[simp] theorem freshE_rv {i} : freshE fr (.rv i) = false := rfl
@[simp] theorem freshE_cst {d} : freshE fr (.cst d) = false := rfl
@[simp] theorem freshE_fn {f} : freshE fr (.fn f) = false := rfl
@[simp] theorem freshE_tup {es} : freshE fr (.tup es) = false := rfl
@[simp] theorem freshE_neg {a} : freshE fr (.neg a) = false := rfl
@[simp] theorem freshE_not {a} : freshE fr (.not a) = false := rfl
@[simp] theorem freshE_and {a b} : freshE fr (.and a b) = false := rfl
@[simp] theorem freshE_or {a b} : freshE fr (.or a b) = false := rfl
@[simp] theorem freshE_cmp {op a b} : freshE fr (.cmp op a b) = false := rfl
@[simp] theorem freshE_chain {op op' a b c} : freshE fr (.chain op op' a b c) = false := rfl
@[simp] theorem freshE_cal {i as} : freshE fr (.cal i as) = false := rfl
@[simp] theorem freshE_lam {f b} : freshE fr (.lam f b) = false := rfl
@[simp] theorem freshE_bi_tuple {as} : freshE fr (.bi .tuple as) = false := rfl
@[simp] theorem freshE_bi_len {as} : freshE fr (.bi .len as) = false := rfl
@[simp] theorem freshE_bi_all {as} : freshE fr (.bi .all as) = false := rfl
@[simp] theorem freshE_bi_any {as} : freshE fr (.bi .any as) = false := rfl
@[simp] theorem freshE_bi_sum {as} : freshE fr (.bi .sum as) = false := rfl
@[simp] theorem freshE_bi_int {as} : freshE fr (.bi .int as) = false := rfl
@[simp] theorem freshE_bi_abs {as} : freshE fr (.bi .abs as) = false := rfl
@[simp] theorem freshE_bi_str {as} : freshE fr (.bi .str as) = false := rfl
@[simp] theorem freshE_bi_min1 {as} : freshE fr (.bi .min1 as) = false := rfl
@[simp] theorem freshE_bi_min2 {as} : freshE fr (.bi .min2 as) = false := rfl
@[simp] theorem freshE_bi_max1 {as} : freshE fr (.bi .max1 as) = false := rfl
@[simp] theorem freshE_bi_max2 {as} : freshE fr (.bi .max2 as) = false := rfl
@[simp] theorem freshE_bi_isInt {as} : freshE fr (.bi .isInt as) = false := rfl
@[simp] theorem freshE_bi_isBool {as} : freshE fr (.bi .isBool as) = false := rfl
@[simp] theorem freshE_bi_isStr {as} : freshE fr (.bi .isStr as) = false := rfl
@[simp] theorem freshE_bi_isTuple {as} : freshE fr (.bi .isTuple as) = false := rfl
@[simp] theorem freshE_bi_isList {as} : freshE fr (.bi .isList as) = false := rfl
@[simp] theorem freshE_mt {m a as} : freshE fr (.mt m a as) = false := rfl
@[simp] theorem freshE_mm {m i as} : freshE fr (.mm m i as) = false := rfl
@[simp] theorem freshE_sub {a b} : freshE fr (.sub a b) = false := rfl
@[simp] theorem freshE_isx {i f} : freshE fr (.isx i f) = false := rfl
end
/-! ### ways, joined -/
section
variable {β : Type} {p : Prop} [Decidable p] {σ : β} {a b : D}
@[simp] theorem ite_okD : (if p then R.ok (a, σ) else R.ok (b, σ)) = R.ok (if p then a else b, σ) := by by_cases h : p <;> simp [h]
@[simp] theorem ite_okR : (if p then R.ok (Fl.rt a, σ) else R.ok (Fl.rt b, σ)) = R.ok (Fl.rt (if p then a else b), σ) := by by_cases h : p <;> simp [h]
@[simp] theorem ite_int {i j : Int} : (if p then D.int i else D.int j) = D.int (if p then i else j) := by by_cases h : p <;> simp [h]
@[simp] theorem ite_bl {i j : Bool} : (if p then D.bl i else D.bl j) = D.bl (if p then i else j) := by by_cases h : p <;> simp [h]
@[simp] theorem ite_lst {i j : List D} : (if p then D.lst i else D.lst j) = D.lst (if p then i else j) := by by_cases h : p <;> simp [h]
@[simp] theorem ite_tup {i j : List D} : (if p then D.tup i else D.tup j) = D.tup (if p then i else j) := by by_cases h : p <;> simp [h]
@[simp] theorem ite_str {i j : Str} : (if p then D.str i else D.str j) = D.str (if p then i else j) := by by_cases h : p <;> simp [h]
end
/-! ### sizes -/
def Fit {α : Type} (m : Nat) (xs : List α) : Prop := xs.length ≤ m
section
variable {α β : Type} {m : Nat} {xs ys : List α} {p : Prop} [Decidable p]
theorem Fit.of {k : Nat} (h : xs.length ≤ k) : ∀ m, k ≤ m → Fit m xs := fun _ hm => Nat.le_trans h hm
@[simp] theorem fit_nil : Fit m ([] : List α) := Nat.zero_le _
@[simp] theorem fit_cons {x : α} (h1 : 0 < m) (h : Fit (m - 1) xs) : Fit m (x :: xs) := by unfold Fit at *; simp; omega
@[simp] theorem fit_app (h1 : Fit (m / 2) xs) (h2 : Fit (m / 2) ys) : Fit m (xs ++ ys) := by unfold Fit at *; simp; omega
@[simp] theorem fit_ite (h1 : Fit m xs) (h2 : Fit m ys) : Fit m (if p then xs else ys) := by split <;> assumption
@[simp] theorem fit_map {f : α → β} : Fit m (xs.map f) = Fit m xs := by unfold Fit; simp
@[simp] theorem fit_filter {f : α → Bool} (h : Fit m xs) : Fit m (xs.filter f) := Nat.le_trans (List.length_filter_le _ _) h
@[simp] theorem fit_filterMap {f : α → Option β} (h : Fit m xs) : Fit m (xs.filterMap f) := Nat.le_trans (List.length_filterMap_le _ _) h
@[simp] theorem fit_rev : Fit m xs.reverse = Fit m xs := by unfold Fit; simp
@[simp] theorem fit_take {k : Nat} (h : Fit m xs) : Fit m (xs.take k) := by unfold Fit at *; simp; omega
@[simp] theorem fit_drop {k : Nat} (h : Fit m xs) : Fit m (xs.drop k) := by unfold Fit at *; simp; omega
theorem fit_len : Fit m xs = (xs.length ≤ m) := rfl
@[simp] theorem fit_range {k : Nat} : Fit m (List.range k) = (k ≤ m) := by unfold Fit; simp
end
section
variable {xs ys : List D} {d : D}
@[simp] theorem bop_addL (h1 : Fit 8388608 xs) (h2 : Fit 8388608 ys) : bop .add (.lst xs) (.lst ys) = some (.lst (xs ++ ys)) := if_pos (by unfold Fit at *; unfold SZ; omega)
@[simp] theorem bop_addT (h1 : Fit 8388608 xs) (h2 : Fit 8388608 ys) : bop .add (.tup xs) (.tup ys) = some (.tup (xs ++ ys)) := if_pos (by unfold Fit at *; unfold SZ; omega)
@[simp] theorem mmD_append (h : Fit 16777215 xs) : mmD .append (.lst xs) [d] = some (.non, .lst (xs ++ [d])) := if_pos (by unfold Fit at *; unfold SZ; omega)
end
@[simp] theorem intL_nil : intL [] = [] := rfl
@[simp] theorem intL_cons (x : Int) (xs : List Int) : intL (x :: xs) = .int x :: intL xs := rfl
@[simp] theorem intL_app (xs ys : List Int) : intL (xs ++ ys) = intL xs ++ intL ys := by simp [intL]
@[simp] theorem intL_ite {p : Prop} [Decidable p] (xs ys : List Int) : intL (if p then xs else ys) = if p then intL xs else intL ys := by split <;> rfl
@[simp] theorem intL_len (xs : List Int) : (intL xs).length = xs.length := by simp [intL]
@[simp] theorem fit_intL {m : Nat} (xs : List Int) : Fit m (intL xs) = Fit m xs := by simp [intL]
@[simp] theorem parOk_nil (fr) : parOk fr [] .nil = true := rfl
@[simp] theorem parOk_cons (fr i is e es) : parOk fr (i :: is) (.cons e es) = ((!i.2 || freshE fr e) && parOk fr is es) := rfl
@[simp] theorem setAll_nil (σ) : setAll [] [] σ = .ok σ := rfl
@[simp] theorem setAll_cons (i is d ds σ) : setAll (i :: is) (d :: ds) σ = if i.2 && !isContainer d then .bad else setAll is ds (σ.set i.1 (some d)) := rfl
end BF

/-! Sx2 -/
set_option linter.all false
set_option maxRecDepth 100000
/-! Loops and comprehensions, as wholes. -/
namespace BF
open PySem
@[simp] theorem wipeD_nil (σ : Sd) : wipeD σ [] = σ := rfl
@[simp] theorem wipeD_cons (σ : Sd) (v : Nat) (vs : List Nat) : wipeD σ (v :: vs) = (wipeD σ vs).set v none := rfl
@[simp] theorem back_nil (σ0 σ : Sd) : back [] σ0 σ = σ := rfl
@[simp] theorem back_cons (σ0 σ : Sd) (v : Nat) (vs : List Nat) : back (v :: vs) σ0 σ = (back vs σ0 σ).set v ((σ0[v]?).getD none) := rfl
section
variable {p : Prop} [Decidable p] {β : Type} {σ : β}
@[simp] theorem ite_okO {a b : Option D} : (if p then R.ok (a, σ) else R.ok (b, σ)) = R.ok (if p then a else b, σ) := by by_cases h : p <;> simp [h]
@[simp] theorem ite_someD {a b : D} : (if p then some a else some b) = some (if p then a else b) := by by_cases h : p <;> simp [h]
end
theorem wipe_len (σ : Sd) : ∀ vs : List Nat, (wipeD σ vs).length = σ.length
  | [] => rfl
  | v :: vs => by rw [wipeD_cons, List.length_set, wipe_len σ vs]
theorem wipe_at (σ : Sd) : ∀ (vs : List Nat) (i : Nat), (wipeD σ vs)[i]? = if i ∈ vs then (σ[i]?).map (fun _ => none) else σ[i]?
  | [], i => by simp
  | v :: vs, i => by
    rw [wipeD_cons, List.getElem?_set, wipe_at σ vs i, wipe_len]
    by_cases h : v = i
    · subst h
      by_cases h2 : v < σ.length
      · simp [h2]
      · simp [h2, Nat.not_lt.mp h2]
    · have : ¬ i = v := fun e => h e.symm
      simp [h, this]
theorem backx_len (σ0 σ : Sd) : ∀ vs : List Nat, (back vs σ0 σ).length = σ.length
  | [] => rfl
  | v :: vs => by rw [back_cons, List.length_set, backx_len σ0 σ vs]
theorem back_at (σ0 σ : Sd) : ∀ (vs : List Nat) (i : Nat), (back vs σ0 σ)[i]? = if i ∈ vs then (σ[i]?).map (fun _ => (σ0[i]?).getD none) else σ[i]?
  | [], i => by simp
  | v :: vs, i => by
    rw [back_cons, List.getElem?_set, back_at σ0 σ vs i, backx_len]
    by_cases h : v = i
    · subst h
      by_cases h2 : v < σ.length
      · simp [h2]
      · simp [h2, Nat.not_lt.mp h2]
    · have : ¬ i = v := fun e => h e.symm
      simp [h, this]
/-- what is put back hangs on what is not wiped alone -/
theorem back_wipe {σ0 σ σ' : Sd} {vs : List Nat} (h : wipeD σ' vs = wipeD σ vs) : back vs σ0 σ' = back vs σ0 σ := by
  have hl : σ'.length = σ.length := by rw [← wipe_len σ' vs, h, wipe_len]
  apply List.ext_getElem?
  intro i
  have := congrArg (fun z : Sd => z[i]?) h
  simp only [wipe_at] at this
  rw [back_at, back_at]
  by_cases hi : i ∈ vs
  · simp only [hi, if_true]
    by_cases h2 : i < σ.length
    · have h2' : i < σ'.length := by omega
      simp [h2, h2']
    · have e1 : σ[i]? = none := List.getElem?_eq_none_iff.mpr (by omega)
      have e2 : σ'[i]? = none := List.getElem?_eq_none_iff.mpr (by omega)
      rw [e1, e2]
  · simpa only [hi, if_false] using this
section
variable {α : Type} {own : List Nat} {elt : E} {t : T} {c : Eo} {l : Lv} {σ0 σ : Sd}
theorem lcGo_eq (enc : α → D) (o : α → Option D) {σw : Sd} : ∀ (ys : List α) (σ : Sd) (acc : List D), wipeD σ own = σw → (∀ y ∈ ys, ∃ σ', lcT elt t c l (enc y) σw = .ok (o y, σ') ∧ wipeD σ' own = σw) → acc.length + ys.length ≤ SZ →
    ∃ σ', lcGo (fun x σ => lcT elt t c l x (wipeD σ own)) (ys.map enc) σ acc = .ok (acc ++ ys.filterMap o, σ') ∧ wipeD σ' own = σw
  | [], σ, acc, hw, _, _ => ⟨σ, by simp [lcGo], hw⟩
  | y :: ys, σ, acc, hw, h, hl => by
    obtain ⟨σ1, h1, h2⟩ := h y List.mem_cons_self
    have h' := fun z hz => h z (List.mem_cons_of_mem _ hz)
    cases hy : o y with
    | some d =>
      obtain ⟨σ', e1, e2⟩ := lcGo_eq enc o ys σ1 (acc ++ [d]) h2 h' (by simp at hl ⊢; omega)
      refine ⟨σ', ?_, e2⟩
      rw [List.map_cons]
      unfold lcGo
      rw [hw, h1, hy]
      simp only [bind_ok]
      rw [if_pos (by simp at hl; unfold SZ; omega), e1, List.filterMap_cons_some hy]
      simp
    | none =>
      obtain ⟨σ', e1, e2⟩ := lcGo_eq enc o ys σ1 acc h2 h' (by simp at hl ⊢; omega)
      refine ⟨σ', ?_, e2⟩
      rw [List.map_cons]
      unfold lcGo
      rw [hw, h1, hy]
      simp only [bind_ok]
      rw [e1, List.filterMap_cons_none hy]
/-- a turn's end, the block's names forgotten -/
def lcR (own : List Nat) (r : R (Option D × Sd)) : R (Option D × Sd) := r.bind fun q => .ok (q.1, wipeD q.2 own)
@[simp] theorem lcR_ok (own : List Nat) (d : Option D) (σ : Sd) : lcR own (.ok (d, σ)) = .ok (d, wipeD σ own) := rfl
theorem lcR_of {r : R (Option D × Sd)} {d : Option D} {σw : Sd} (h : lcR own r = .ok (d, σw)) : ∃ σ', r = .ok (d, σ') ∧ wipeD σ' own = σw := by
  cases r with
  | ok q =>
    obtain ⟨x, σ'⟩ := q
    simp at h
    exact ⟨σ', by rw [h.1], h.2⟩
  | exc c => cases h
  | bad => cases h
/-- a comprehension over things told by enc: what each turn gives -/
theorem lcS_opt (enc : α → D) (o : α → Option D) {ys : List α} (hl : Fit 16777216 ys) (h : ∀ y ∈ ys, lcR own (lcT elt t c l (enc y) (wipeD σ own)) = .ok (o y, wipeD σ own)) : lcS own elt t c l σ0 (ys.map enc) σ = .ok (.lst (ys.filterMap o), back own σ0 σ) := by
  obtain ⟨σ', e1, e2⟩ := lcGo_eq enc o ys σ [] rfl (fun y hy => lcR_of (h y hy)) (by unfold Fit at hl; unfold SZ; simpa using hl)
  unfold lcS
  rw [e1]
  simp [back_wipe e2]
theorem lcS_map (enc : α → D) (g : α → D) {ys : List α} (hl : Fit 16777216 ys) (h : ∀ y ∈ ys, lcR own (lcT elt t c l (enc y) (wipeD σ own)) = .ok (some (g y), wipeD σ own)) : lcS own elt t c l σ0 (ys.map enc) σ = .ok (.lst (ys.map g), back own σ0 σ) := by
  rw [lcS_opt enc (fun y => some (g y)) hl h]
  simp
theorem lcS_filt (enc : α → D) (p : α → Prop) [DecidablePred p] (g : α → D) {ys : List α} (hl : Fit 16777216 ys) (h : ∀ y ∈ ys, lcR own (lcT elt t c l (enc y) (wipeD σ own)) = .ok (if p y then some (g y) else none, wipeD σ own)) : lcS own elt t c l σ0 (ys.map enc) σ = .ok (.lst ((ys.filter fun y => decide (p y)).map g), back own σ0 σ) := by
  rw [lcS_opt enc (fun y => if p y then some (g y) else none) hl h]
  congr 3
  induction ys with
  | nil => rfl
  | cons y ys ih =>
    have ih := ih (by unfold Fit at *; simp at hl; omega) fun z hz => h z (List.mem_cons_of_mem _ hz)
    by_cases hp : p y
    · rw [List.filterMap_cons_some (b := g y) (by simp [hp]), List.filter_cons_of_pos (by simp [hp]), List.map_cons, ih]
    · rw [List.filterMap_cons_none (by simp [hp]), List.filter_cons_of_neg (by simp [hp]), ih]
/-! ### for -/
/-- a loop that goes to its end -/
theorem forS_inv {b : Ss} (enc : α → D) (Inv : List α → Sd → Prop) {ys : List α} {σ : Sd} (h0 : Inv [] σ)
    (hs : ∀ pre y post σ, ys = pre ++ y :: post → Inv pre σ → ∃ σ2, ((asg t (enc y) σ).bind fun σ1 => exs b l σ1) = .ok (.nx, σ2) ∧ Inv (pre ++ [y]) σ2) : ∃ σ', forS t b l (ys.map enc) σ = .ok (.nx, σ') ∧ Inv ys σ' := by
  have key : ∀ (post pre : List α) (σ : Sd), ys = pre ++ post → Inv pre σ → ∃ σ', forS t b l (post.map enc) σ = .ok (.nx, σ') ∧ Inv ys σ' := by
    intro post
    induction post with
    | nil => intro pre σ e hI; exact ⟨σ, rfl, by rw [e]; simpa using hI⟩
    | cons y post ih =>
      intro pre σ e hI
      obtain ⟨σ2, h1, h2⟩ := hs pre y post σ e hI
      obtain ⟨σ', h3, h4⟩ := ih (pre ++ [y]) σ2 (by simp [e]) h2
      refine ⟨σ', ?_, h4⟩
      unfold forS at h3 ⊢
      rw [List.map_cons]
      unfold forGo
      rw [h1]
      exact h3
  exact key ys [] σ rfl h0
/-- a loop that may end with a return: at the first y of which p holds -/
theorem forS_find {b : Ss} (enc : α → D) (p : α → Bool) (Inv : List α → Sd → Prop) (Q : α → D → Sd → Prop) {ys : List α} {σ : Sd} (h0 : Inv [] σ)
    (hs : ∀ pre y post σ, ys = pre ++ y :: post → (∀ z ∈ pre, p z = false) → p y = false → Inv pre σ → ∃ σ2, ((asg t (enc y) σ).bind fun σ1 => exs b l σ1) = .ok (.nx, σ2) ∧ Inv (pre ++ [y]) σ2)
    (hf : ∀ pre y post σ, ys = pre ++ y :: post → (∀ z ∈ pre, p z = false) → p y = true → Inv pre σ → ∃ d σ2, ((asg t (enc y) σ).bind fun σ1 => exs b l σ1) = .ok (.rt d, σ2) ∧ Q y d σ2) :
    (ys.find? p = none ∧ ∃ σ', forS t b l (ys.map enc) σ = .ok (.nx, σ') ∧ Inv ys σ') ∨ ∃ y d σ', ys.find? p = some y ∧ forS t b l (ys.map enc) σ = .ok (.rt d, σ') ∧ Q y d σ' := by
  have key : ∀ (post pre : List α) (σ : Sd), ys = pre ++ post → (∀ z ∈ pre, p z = false) → Inv pre σ → (post.find? p = none ∧ ∃ σ', forS t b l (post.map enc) σ = .ok (.nx, σ') ∧ Inv ys σ') ∨ ∃ y d σ', post.find? p = some y ∧ forS t b l (post.map enc) σ = .ok (.rt d, σ') ∧ Q y d σ' := by
    intro post
    induction post with
    | nil => intro pre σ e hp hI; exact .inl ⟨rfl, σ, rfl, by rw [e]; simpa using hI⟩
    | cons y post ih =>
      intro pre σ e hp hI
      cases hy : p y with
      | true =>
        obtain ⟨d, σ2, h1, h2⟩ := hf pre y post σ e hp hy hI
        refine .inr ⟨y, d, σ2, by simp [hy], ?_, h2⟩
        unfold forS
        rw [List.map_cons]
        unfold forGo
        rw [h1]
        rfl
      | false =>
        obtain ⟨σ2, h1, h2⟩ := hs pre y post σ e hp hy hI
        have st : forS t b l ((y :: post).map enc) σ = forS t b l (post.map enc) σ2 := by
          unfold forS
          rw [List.map_cons]
          conv => lhs; unfold forGo
          rw [h1]
          rfl
        rcases ih (pre ++ [y]) σ2 (by simp [e]) (fun z hz => by
          rcases List.mem_append.mp hz with h | h
          · exact hp z h
          · rw [List.mem_singleton.mp h]; exact hy) h2 with ⟨h3, σ', h4, h5⟩ | ⟨z, d, σ', h3, h4, h5⟩
        · exact .inl ⟨by simp [hy, h3], σ', by rw [st]; exact h4, h5⟩
        · exact .inr ⟨z, d, σ', by simp [hy, h3], by rw [st]; exact h4, h5⟩
  exact key ys [] σ rfl (fun z hz => by cases hz) h0
end
/-! ### ranges -/
theorem rangeL_nat (k : Nat) : rangeL 0 k = (List.range k).map fun i : Nat => D.int i := by
  unfold rangeL
  simp
theorem rangeL_from (lo : Int) (k : Nat) (hi : Int) (h : hi = lo + k) : rangeL lo hi = (List.range k).map fun i : Nat => D.int (lo + i) := by
  unfold rangeL
  rw [show (hi - lo).toNat = k by omega]
theorem rngOk_of {i : Int} (h : -1000000000 ≤ i) (h2 : i ≤ 1000000000) : rngOk i = true := by
  unfold rngOk
  simp
  omega

/-! ### what the laws compare -/
def sortD : D → Int
  | .non => 0 | .bl _ => 1 | .int _ => 2 | .str _ => 3 | .tup _ => 4 | .lst _ => 5 | _ => 6
mutual
/-- plain, at most so deep, no row too long -/
def lkd : Nat → D → Bool
  | _, .non => true
  | _, .bl _ => true
  | _, .int _ => true
  | _, .str _ => true
  | n, .lst xs => (match n with | 0 => false | n + 1 => decide (xs.length ≤ 16777216) && lkds n xs)
  | n, .tup xs => (match n with | 0 => false | n + 1 => decide (xs.length ≤ 16777216) && lkds n xs)
  | _, _ => false
def lkds : Nat → List D → Bool
  | _, [] => true
  | n, x :: xs => lkd n x && lkds n xs
end
theorem lks_mem {n : Nat} : ∀ {xs : List D}, lkds n xs = true → ∀ x ∈ xs, lkd n x = true
  | [], _, x, h => by cases h
  | y :: xs, h, x, hx => by
    unfold lkds at h
    simp only [Bool.and_eq_true] at h
    rcases List.mem_cons.mp hx with rfl | hx
    · exact h.1
    · exact lks_mem h.2 x hx
@[simp] theorem lk_non (n) : lkd n .non = true := by unfold lkd; rfl
@[simp] theorem lk_bl (n b) : lkd n (.bl b) = true := by unfold lkd; rfl
@[simp] theorem lk_int (n i) : lkd n (.int i) = true := by unfold lkd; rfl
@[simp] theorem lk_str (n x) : lkd n (.str x) = true := by unfold lkd; rfl
@[simp] theorem lk_lst (n xs) : lkd (n + 1) (.lst xs) = (decide (xs.length ≤ 16777216) && lkds n xs) := by rw [lkd]
@[simp] theorem lk_tup (n xs) : lkd (n + 1) (.tup xs) = (decide (xs.length ≤ 16777216) && lkds n xs) := by rw [lkd]
@[simp] theorem lks_nil (n) : lkds n [] = true := by unfold lkds; rfl
@[simp] theorem lks_cons (n x xs) : lkds n (x :: xs) = (lkd n x && lkds n xs) := by conv => lhs; unfold lkds
@[simp] theorem lks_app (n xs ys) : lkds n (xs ++ ys) = (lkds n xs && lkds n ys) := by
  induction xs with
  | nil => simp
  | cons x xs ih => simp [ih, Bool.and_assoc]
theorem lks_map {α : Type} {n : Nat} {f : α → D} {ys : List α} (h : ∀ y ∈ ys, lkd n (f y) = true) : lkds n (ys.map f) = true := by
  induction ys with
  | nil => simp
  | cons y ys ih => simp [h y, ih fun z hz => h z (List.mem_cons_of_mem _ hz)]
theorem lks_flatMap {α : Type} {n : Nat} {f : α → List D} {ys : List α} (h : ∀ y ∈ ys, lkds n (f y) = true) : lkds n (ys.flatMap f) = true := by
  induction ys with
  | nil => simp
  | cons y ys ih => simp [h y, ih fun z hz => h z (List.mem_cons_of_mem _ hz)]
@[simp] theorem lks_intL (n xs) : lkds n (intL xs) = true := lks_map fun _ _ => by simp
theorem zipL_self (xs : List D) : zipL xs xs = xs.map fun x => D.tup [x, x] := by
  unfold zipL
  induction xs with
  | nil => rfl
  | cons x xs ih => simp only [List.zip_cons_cons, List.map_cons]; rw [ih]
theorem enumL_map {α : Type} (f : α → D) (ys : List α) : enumL (ys.map f) = ((List.range ys.length).zip ys).map fun q => D.tup [.int (q.1 : Nat), f q.2] := by
  unfold enumL
  rw [List.length_map, List.zip_map_right, List.map_map]
  rfl
theorem enumL_range (f : Nat → D) (k : Nat) : enumL ((List.range k).map f) = (List.range k).map fun i => D.tup [.int (i : Nat), f i] := by
  rw [enumL_map, List.length_range]
  have : ∀ l : List Nat, (l.zip l).map (fun q : Nat × Nat => D.tup [.int (q.1 : Nat), f q.2]) = l.map fun i => D.tup [.int (i : Nat), f i] := fun l => by
    induction l with
    | nil => rfl
    | cons x xs ih => simp only [List.zip_cons_cons, List.map_cons]; rw [ih]
  exact this _
/-- a list of drawn numbers: a cup -/
def Cup (d : D) : Prop := ∃ a b : Int, 0 ≤ a ∧ 0 ≤ b ∧ d = .lst [.int a, .int b]
@[simp] theorem cmpD_eq_non : cmpD .eq .non .non = some true := rfl
theorem cmpD_eq_nil : cmpD .eq (.lst []) (.lst []) = some true := rfl

/-! ### in -/
def inO (a : D) (xs : List D) : Option Bool := if flat a && xs.all flat then some (xs.any fun y => deq y a) else none
section
variable {i j : Int} {x y : Str} {a b : Bool} {xs : List D} {d : D}
@[simp] theorem cmpD_in_tup : cmpD .isin d (.tup xs) = inO d xs := rfl
theorem cin_lstF (h : flat d = true) : cin d (.lst xs) = inO d xs := by
  show (if (if flat d then xs.all flat else dp 60 d && dps 59 xs) then some (xs.any fun y => deq y d) else none) = _
  unfold inO
  rw [h]
  simp
@[simp] theorem cmpD_in_lst_int : cmpD .isin (.int i) (.lst xs) = inO (.int i) xs := cin_lstF rfl
@[simp] theorem cmpD_in_lst_str : cmpD .isin (.str x) (.lst xs) = inO (.str x) xs := cin_lstF rfl
@[simp] theorem cmpD_in_lst_bl : cmpD .isin (.bl a) (.lst xs) = inO (.bl a) xs := cin_lstF rfl
@[simp] theorem cmpD_in_lst_non : cmpD .isin .non (.lst xs) = inO .non xs := cin_lstF rfl
@[simp] theorem cmpD_notin_tup : cmpD .notin d (.tup xs) = (inO d xs).map (!·) := rfl
@[simp] theorem cmpD_notin_lst_int : cmpD .notin (.int i) (.lst xs) = (inO (.int i) xs).map (!·) := by show (cin _ _).map _ = _; rw [cin_lstF rfl]
@[simp] theorem cmpD_notin_lst_str : cmpD .notin (.str x) (.lst xs) = (inO (.str x) xs).map (!·) := by show (cin _ _).map _ = _; rw [cin_lstF rfl]
@[simp] theorem cmpD_notin_lst_bl : cmpD .notin (.bl a) (.lst xs) = (inO (.bl a) xs).map (!·) := by show (cin _ _).map _ = _; rw [cin_lstF rfl]
@[simp] theorem cmpD_notin_lst_non : cmpD .notin .non (.lst xs) = (inO .non xs).map (!·) := by show (cin _ _).map _ = _; rw [cin_lstF rfl]
@[simp] theorem inO_int_nil : inO (.int i) [] = some false := rfl
@[simp] theorem inO_str_nil : inO (.str x) [] = some false := rfl
@[simp] theorem inO_bl_nil : inO (.bl a) [] = some false := rfl
theorem inO_cons {e : D} (he : flat e = true) (hd : flat d = true) : inO d (e :: xs) = (inO d xs).map (deq e d || ·) := by
  unfold inO
  simp only [List.all_cons, he, hd, Bool.true_and, List.any_cons]
  split <;> rfl
@[simp] theorem inO_int_int : inO (.int i) (.int j :: xs) = (inO (.int i) xs).map (decide (i = j) || ·) := by
  rw [inO_cons rfl rfl]
  have : deq (.int j) (.int i) = decide (i = j) := by
    show decide (j = i) = _
    exact decide_eq_decide.mpr ⟨Eq.symm, Eq.symm⟩
  rw [this]
@[simp] theorem inO_str_str : inO (.str x) (.str y :: xs) = (inO (.str x) xs).map ((y == x) || ·) := inO_cons rfl rfl
theorem inO_intL (is : List Int) : inO (.int i) (intL is) = some (decide (i ∈ is)) := by
  induction is with
  | nil => rfl
  | cons j is ih =>
    rw [intL_cons, inO_int_int, ih]
    simp
end

/-! ### more operators -/
section
variable {i j : Int} {xs : List D} {d d0 d1 v : D}
theorem bop_pow (h : 0 ≤ j) (h2 : j ≤ 1000000) (h3 : i.natAbs < 2 ^ 64) : bop .pow (.int i) (.int j) = some (.int (i ^ j.toNat)) := by
  show (if 0 ≤ j ∧ j ≤ 1000000 ∧ i.natAbs < 2 ^ 64 then some (i ^ j.toNat) else none).map D.int = _
  rw [if_pos ⟨h, h2, h3⟩]
  rfl
theorem bop_shl (h : 0 ≤ j) (h2 : j ≤ 1000000) (h3 : i.natAbs < 2 ^ 64) : bop .shl (.int i) (.int j) = some (.int (i * 2 ^ j.toNat)) := by
  show (if 0 ≤ j ∧ j ≤ 1000000 ∧ i.natAbs < 2 ^ 64 then some (i * 2 ^ j.toNat) else none).map D.int = _
  rw [if_pos ⟨h, h2, h3⟩]
  rfl
theorem bop_shr (h : 0 ≤ j) : bop .shr (.int i) (.int j) = some (.int (i / 2 ^ j.toNat)) := by
  show (if 0 ≤ j then some (i / 2 ^ j.toNat) else none).map D.int = _
  rw [if_pos h]
  rfl
theorem bop_band (h : 0 ≤ i) (h2 : 0 ≤ j) : bop .band (.int i) (.int j) = some (.int ((i.toNat &&& j.toNat : Nat) : Int)) := by
  show (if 0 ≤ i ∧ 0 ≤ j then some ((i.toNat &&& j.toNat : Nat) : Int) else none).map D.int = _
  rw [if_pos ⟨h, h2⟩]
  rfl
theorem bop_bxor (h : 0 ≤ i) (h2 : 0 ≤ j) : bop .bxor (.int i) (.int j) = some (.int ((i.toNat ^^^ j.toNat : Nat) : Int)) := by
  show (if 0 ≤ i ∧ 0 ≤ j then some ((i.toNat ^^^ j.toNat : Nat) : Int) else none).map D.int = _
  rw [if_pos ⟨h, h2⟩]
  rfl
theorem setD_lst {k : Nat} (h : k < xs.length) : setD (.lst xs) (.int k) v = some (.lst (xs.set k v)) := by
  show (ixn xs.length k).map _ = _
  unfold ixn
  rw [if_pos (by omega), if_pos (by omega)]
  simp
@[simp] theorem setD_l0 : setD (.lst (d :: xs)) (.int 0) v = some (.lst (v :: xs)) := setD_lst (k := 0) (by simp)
@[simp] theorem setD_l1 : setD (.lst (d :: d0 :: xs)) (.int 1) v = some (.lst (d :: v :: xs)) := setD_lst (k := 1) (by simp)
end
end BF
namespace BF
/-! ### for the kernel -/
theorem exs_step {s : S} {ss : Ss} {l : Lv} {σ σ1 : Sd} {r : R (Fl × Sd)} (h : ex s l σ = .ok (.nx, σ1)) (h2 : exs ss l σ1 = r) : exs (.cons s ss) l σ = r := by
  rw [exs_cons, h]
  exact h2
/-- a return of True, the first name as it was -/
def rtT (r : R (Fl × Sd)) : Option D := match r with
  | .ok (.rt (.bl true), some c :: _) => some c
  | _ => none
theorem rtT_of {r : R (Fl × Sd)} {c : D} (h : rtT r = some c) : ∃ σ, r = .ok (.rt (.bl true), some c :: σ) := by
  unfold rtT at h
  split at h
  · cases h; exact ⟨_, rfl⟩
  · cases h
end BF

/-! Sx3 -/
set_option linter.all false
set_option maxRecDepth 100000
/-! Draws, bits, small numbers. -/
namespace BF
open PySem
theorem wipe_wipe (σ : Sd) (vs : List Nat) : wipeD (wipeD σ vs) vs = wipeD σ vs := by
  apply List.ext_getElem?
  intro i
  rw [wipe_at, wipe_at]
  by_cases h : i ∈ vs
  · simp only [h, if_true, Option.map_map]
    rfl
  · simp [h]
section
variable {α β : Type} {own : List Nat} {elt : E} {t : T} {c : Eo} {l : Lv} {σ0 σ : Sd}
theorem lcR_inv {r : R (Option D × Sd)} {d : Option D} {σw : Sd} (h : lcR own r = .ok (d, σw)) : ∃ σ', r = .ok (d, σ') ∧ σw = wipeD σ' own := by
  obtain ⟨σ', h1, h2⟩ := lcR_of h
  exact ⟨σ', h1, h2.symm⟩
theorem lcGo_draw (enc : α → D) (dec : β → D) (P : β → Prop) (Inv : Sd → Prop) : ∀ (ys : List α) (σ : Sd) (acc : List D), Inv (wipeD σ own) →
    (∀ y ∈ ys, ∀ σw, Inv σw → ∃ b σw', lcR own (lcT elt t c l (enc y) σw) = .ok (some (dec b), σw') ∧ P b ∧ Inv σw') → acc.length + ys.length ≤ SZ →
    ∃ (bs : List β) (σ' : Sd), lcGo (fun x σ => lcT elt t c l x (wipeD σ own)) (ys.map enc) σ acc = .ok (acc ++ bs.map dec, σ') ∧ Inv (wipeD σ' own) ∧ bs.length = ys.length ∧ ∀ b ∈ bs, P b
  | [], σ, acc, h0, _, _ => ⟨[], σ, by simp [lcGo], h0, rfl, fun b hb => nomatch hb⟩
  | y :: ys, σ, acc, h0, h, hl => by
    obtain ⟨b, σw, h1, h2, h3⟩ := h y List.mem_cons_self _ h0
    obtain ⟨σ1, h4, h5⟩ := lcR_inv h1
    subst h5
    obtain ⟨bs, σ', e1, e2, e3, e4⟩ := lcGo_draw enc dec P Inv ys σ1 (acc ++ [dec b]) h3 (fun z hz => h z (List.mem_cons_of_mem _ hz)) (by simp at hl ⊢; omega)
    refine ⟨b :: bs, σ', ?_, e2, by simp [e3], fun x hx => ?_⟩
    · rw [List.map_cons]
      unfold lcGo
      rw [h4]
      simp only [bind_ok]
      rw [if_pos (by simp at hl; unfold SZ; omega), e1]
      simp
    · rcases List.mem_cons.mp hx with rfl | hx
      · exact h2
      · exact e4 x hx
/-- a comprehension that draws: what is kept from turn to turn -/
theorem lcS_draw (enc : α → D) (dec : β → D) (P : β → Prop) (Inv : Sd → Prop) {ys : List α} (hl : Fit 16777216 ys) (h0 : Inv (wipeD σ own)) (h : ∀ y ∈ ys, ∀ σw, Inv σw → ∃ b σw', lcR own (lcT elt t c l (enc y) σw) = .ok (some (dec b), σw') ∧ P b ∧ Inv σw') :
    ∃ (bs : List β) (σw : Sd), lcS own elt t c l σ0 (ys.map enc) σ = .ok (.lst (bs.map dec), back own σ0 σw) ∧ Inv σw ∧ bs.length = ys.length ∧ ∀ b ∈ bs, P b := by
  obtain ⟨bs, σ', e1, e2, e3, e4⟩ := lcGo_draw enc dec P Inv ys σ [] h0 h (by unfold Fit at hl; unfold SZ; simpa using hl)
  refine ⟨bs, wipeD σ' own, ?_, e2, e3, e4⟩
  unfold lcS
  rw [e1]
  simp [back_wipe (wipe_wipe σ' own)]
end
/-! ### bits, small numbers -/
def bitD (b : Bool) : D := .int (if b then 1 else 0)
abbrev natD (n : Nat) : D := .int n
@[simp] theorem biD_allF {α : Type} (f : α → Bool) (l : List α) : biD .all [.lst (l.map fun x => D.bl (f x))] = some (.bl (l.all f)) := by
  show (bls (l.map fun x => D.bl (f x))).map _ = _
  rw [bls_map]
  simp
@[simp] theorem biD_anyF {α : Type} (f : α → Bool) (l : List α) : biD .any [.lst (l.map fun x => D.bl (f x))] = some (.bl (l.any f)) := by
  show (bls (l.map fun x => D.bl (f x))).map _ = _
  rw [bls_map]
  simp
theorem subD_tupM {α : Type} {f : α → D} {ys : List α} {k : Nat} {y : α} (h : ys[k]? = some y) : subD (.tup (ys.map f)) (.int k) = some (f y) := subD_tup (by simp [h])
theorem subD_lstM {α : Type} {f : α → D} {ys : List α} {k : Nat} {y : α} (h : ys[k]? = some y) : subD (.lst (ys.map f)) (.int k) = some (f y) := subD_lst (by simp [h])
theorem lkd_bit (n : Nat) (b : Bool) : lkd n (bitD b) = true := by unfold bitD; simp
theorem lkds_bits (n : Nat) (bs : List Bool) : lkds n (bs.map bitD) = true := lks_map fun b _ => lkd_bit n b
theorem rangeL_of {i : Int} {k : Nat} (h : i = k) : rangeL 0 i = (List.range k).map fun j : Nat => D.int j := by rw [h, rangeL_nat]
/-- d rows: equal as they are written -/
theorem cmpD_eq_dp {a b : D} (ha : dp 60 a = true) (hb : dp 60 b = true) : cmpD .eq a b = some (deq a b) := by
  show (if scalD a b || (dp 60 a && dp 60 b) then some (deq a b) else none) = _
  rw [ha, hb]
  simp
mutual
theorem deq_refl : ∀ (d : D) (n : Nat), dp n d = true → deq d d = true
  | .non, _, _ => rfl
  | .bl b, _, _ => by unfold deq; simp
  | .int i, _, _ => by unfold deq; simp
  | .str x, _, _ => by unfold deq; simp
  | .lst xs, n, h => by
    cases n with
    | zero => unfold dp at h; cases h
    | succ n => unfold dp at h; unfold deq; exact deqs_refl xs n h
  | .tup xs, n, h => by
    cases n with
    | zero => unfold dp at h; cases h
    | succ n => unfold dp at h; unfold deq; exact deqs_refl xs n h
  | .dic _, n, h => by unfold dp at h; cases h
  | .fn _, n, h => by unfold dp at h; cases h
  | .frz _, n, h => by unfold dp at h; cases h
theorem deqs_refl : ∀ (ds : List D) (n : Nat), dps n ds = true → deqs ds ds = true
  | [], _, _ => rfl
  | d :: ds, n, h => by
    unfold dps at h
    simp only [Bool.and_eq_true] at h
    unfold deqs
    simp [deq_refl d n h.1, deqs_refl ds n h.2]
end

theorem cut_tail (xs : List D) : cut xs (some 1) none = xs.drop 1 := by
  unfold cut six
  cases xs with
  | nil => rfl
  | cons x xs =>
    simp only [List.length_cons]
    rw [show (if (1 : Int) < 0 then (1 + ((xs.length + 1 : Nat) : Int)).toNat else min (1 : Int).toNat (xs.length + 1)) = 1 by rw [if_neg (by decide)]; simp]
    simp
theorem zipL_maps {α β : Type} (f : α → D) (g : β → D) (xs : List α) (ys : List β) : zipL (xs.map f) (ys.map g) = (xs.zip ys).map fun q => D.tup [f q.1, g q.2] := by
  unfold zipL
  rw [List.zip_map, List.map_map]
  rfl
theorem mem_zipR {α : Type} {ys : List α} {q : Nat × α} (h : q ∈ (List.range ys.length).zip ys) : ys[q.1]? = some q.2 := by
  obtain ⟨i, hi, e⟩ := List.mem_iff_getElem.mp h
  rw [List.getElem_zip] at e
  rw [← e]
  simp at hi
  simp [hi]
theorem zipR_len {α : Type} (ys : List α) : ((List.range ys.length).zip ys).length = ys.length := by simp

theorem natL_int (l : List Nat) : l.map natD = intL (l.map fun w : Nat => (w : Int)) := by simp [intL]
theorem inO_natL (w : Nat) (l : List Nat) : inO (.int (w : Int)) (l.map natD) = some (decide (w ∈ l)) := by
  rw [natL_int, inO_intL]
  congr 1
  rw [decide_eq_decide, List.mem_map]
  exact ⟨fun ⟨a, h, e⟩ => by rw [show w = a by omega]; exact h, fun h => ⟨w, h, rfl⟩⟩
/-! ### sorting -/
def insN (x : Nat) : List Nat → List Nat
  | [] => [x]
  | y :: r => if x ≤ y then x :: y :: r else y :: insN x r
def sortN : List Nat → List Nat
  | [] => []
  | x :: r => insN x (sortN r)
theorem ins_nat (x : Nat) : ∀ l : List Nat, ins (x : Int) (l.map fun w : Nat => (w : Int)) = (insN x l).map fun w : Nat => (w : Int)
  | [] => rfl
  | y :: r => by
    show (if (x : Int) ≤ (y : Int) then _ else _) = _
    unfold insN
    by_cases h : x ≤ y
    · rw [if_pos h, if_pos (by omega)]
      rfl
    · rw [if_neg h, if_neg (by omega), ins_nat x r]
      rfl
theorem isort_nat : ∀ l : List Nat, isort (l.map fun w : Nat => (w : Int)) = (sortN l).map fun w : Nat => (w : Int)
  | [] => rfl
  | x :: r => by
    show ins (x : Int) (isort (r.map _)) = _
    rw [isort_nat r, ins_nat]
    rfl
theorem mem_insN {x z : Nat} : ∀ {l : List Nat}, z ∈ insN x l ↔ z = x ∨ z ∈ l
  | [] => by simp [insN]
  | y :: r => by
    unfold insN
    by_cases h : x ≤ y
    · rw [if_pos h]; simp
    · rw [if_neg h, List.mem_cons, mem_insN (l := r), List.mem_cons]
      constructor
      · rintro (h | h | h)
        · exact .inr (.inl h)
        · exact .inl h
        · exact .inr (.inr h)
      · rintro (h | h | h)
        · exact .inr (.inl h)
        · exact .inl h
        · exact .inr (.inr h)
theorem mem_sortN {z : Nat} : ∀ {l : List Nat}, z ∈ sortN l ↔ z ∈ l
  | [] => by simp [sortN]
  | x :: r => by
    show z ∈ insN x (sortN r) ↔ _
    rw [mem_insN, mem_sortN (l := r), List.mem_cons]
theorem insN_len (x : Nat) : ∀ l : List Nat, (insN x l).length = l.length + 1
  | [] => rfl
  | y :: r => by
    unfold insN
    split
    · rfl
    · simp [insN_len x r]
theorem sortN_len : ∀ l : List Nat, (sortN l).length = l.length
  | [] => rfl
  | x :: r => by
    show (insN x (sortN r)).length = _
    rw [insN_len, sortN_len r]
    rfl
theorem insN_asc {x : Nat} : ∀ {l : List Nat}, l.Pairwise (· < ·) → x ∉ l → (insN x l).Pairwise (· < ·)
  | [], _, _ => by simp [insN]
  | y :: r, h, hx => by
    obtain ⟨h1, h2⟩ := List.pairwise_cons.mp h
    unfold insN
    by_cases hxy : x ≤ y
    · rw [if_pos hxy]
      have hne : x ≠ y := fun e => hx (by rw [e]; exact List.mem_cons_self)
      refine List.pairwise_cons.mpr ⟨fun z hz => ?_, h⟩
      rcases List.mem_cons.mp hz with rfl | hz
      · omega
      · have := h1 z hz; omega
    · rw [if_neg hxy]
      refine List.pairwise_cons.mpr ⟨fun z hz => ?_, insN_asc h2 fun hm => hx (List.mem_cons_of_mem _ hm)⟩
      rcases mem_insN.mp hz with rfl | hz
      · omega
      · exact h1 z hz
theorem sortN_asc : ∀ {l : List Nat}, l.Nodup → (sortN l).Pairwise (· < ·)
  | [], _ => by simp [sortN]
  | x :: r, h => by
    obtain ⟨h1, h2⟩ := List.nodup_cons.mp h
    exact insN_asc (sortN_asc h2) fun hm => h1 (mem_sortN.mp hm)
theorem biD_sortN {l : List Nat} : biD .sorted [.lst (l.map natD)] = some (.lst ((sortN l).map natD)) := by
  show (dints (l.map natD)).map _ = _
  rw [show l.map natD = l.map fun w : Nat => D.int ((fun w : Nat => (w : Int)) w) from rfl, dints_map]
  simp only [Option.map_some]
  rw [isort_nat, ← natL_int]
/-! ### rows of bits, compared -/
theorem deqs_bits : ∀ a b : List Bool, deqs (a.map bitD) (b.map bitD) = decide (a = b)
  | [], [] => by simp [deqs]
  | [], _ :: _ => by simp [deqs]
  | _ :: _, [] => by simp [deqs]
  | x :: a, y :: b => by
    simp only [List.map_cons]
    unfold deqs
    rw [deqs_bits a b]
    cases x <;> cases y <;> simp [bitD, deq]
theorem dps_bits (n : Nat) : ∀ a : List Bool, dps n (a.map bitD) = true
  | [] => by simp [dps]
  | x :: a => by
    simp only [List.map_cons]
    unfold dps
    rw [dps_bits n a]
    unfold bitD dp
    rfl
theorem cmpD_bits (a b : List Bool) : cmpD .eq (.lst (a.map bitD)) (.lst (b.map bitD)) = some (decide (a = b)) := by
  rw [cmpD_eq_dp]
  · unfold deq; rw [deqs_bits]
  · unfold dp; exact dps_bits 59 a
  · unfold dp; exact dps_bits 59 b
theorem pow_toNat (k : Nat) : (1 : Int) * 2 ^ ((k : Int).toNat) = ((2 ^ k : Nat) : Int) := by simp

/-- the bit at a place -/
def bg (bits : List Bool) (w : Nat) : Bool := bits.getD w false
theorem bg_at {bits : List Bool} {w : Nat} (h : w < bits.length) : bits[w]? = some (bg bits w) := by
  unfold bg
  rw [List.getD_eq_getElem?_getD, List.getElem?_eq_getElem h]
  rfl
theorem subD_bgL {bits : List Bool} {w : Nat} (h : w < bits.length) : subD (.lst (bits.map bitD)) (.int (w : Nat)) = some (bitD (bg bits w)) := subD_lstM (bg_at h)
theorem subD_bgT {bits : List Bool} {w : Nat} (h : w < bits.length) : subD (.tup (bits.map bitD)) (.int (w : Nat)) = some (bitD (bg bits w)) := subD_tupM (bg_at h)
end BF

set_option maxRecDepth 100000
set_option maxHeartbeats 4000000
namespace BF.k21
open BF PySem
/- classes: 0 ForgeError(ValueError), 1 InvalidNumber(ForgeError), 2 InvalidSort(ForgeError), 3 InvalidSet(ForgeError), 4 InvalidTree(ForgeError), 5 InvalidValues(ForgeError), 6 InvalidGates(ForgeError), 7 InvalidEdge(ForgeError), 8 InvalidPaper(ForgeError), 9 NotFound(ForgeError), 10 NotNow(ForgeError), 11 TooMany(ForgeError) -/
def i_is_whole : Nat := 0
def i_is_tuple_of : Nat := 1
def i_is_ascending : Nat := 2
def i_are_bits : Nat := 3
def i_is_node : Nat := 4
def i_is_gates : Nat := 5
def i_need_gates : Nat := 6
def i_first_node : Nat := 7
def i_things_in : Nat := 8
def i_need_edge : Nat := 9
def i_fits_frame : Nat := 10
def i_need_frame : Nat := 11
def i_inner_in : Nat := 12
def i_wide_bit : Nat := 13
def i_rows_of : Nat := 14
def i_sign_bits : Nat := 15
def i_truth_in : Nat := 16
def i_alike_in : Nat := 17
def i_need_all : Nat := 18
def i_is_told_by : Nat := 19
def i_truth_by : Nat := 20
def i_nodes_within : Nat := 21
def i_are_alike_by : Nat := 22
def i__law_cup : Nat := 23
def i__law_roll : Nat := 24
def i__law_sort : Nat := 25
def i__law_like : Nat := 26
def i__law_turned : Nat := 27
def i__law_first : Nat := 28
def i__law_bit : Nat := 29
def i__law_bits : Nat := 30
def i__law_all_bits : Nat := 31
def i__law_gates : Nat := 32
def i__law_thing : Nat := 33
def i__law_known : Nat := 34
def i__law_odd_gates : Nat := 35
def i__law_error : Nat := 36
def i__law_told : Nat := 37
def i__law_by : Nat := 38
def i__law_truth : Nat := 39
def i__law_within : Nat := 40
def i__law_right : Nat := 41
def i__law_drawn_frame : Nat := 42
def i__law_errors_right : Nat := 43
def i__law_written_right : Nat := 44
def i_law : Nat := 45
def x_ForgeError : Nat := 0
def x_InvalidNumber : Nat := 1
def x_InvalidSort : Nat := 2
def x_InvalidSet : Nat := 3
def x_InvalidTree : Nat := 4
def x_InvalidValues : Nat := 5
def x_InvalidGates : Nat := 6
def x_InvalidEdge : Nat := 7
def x_InvalidPaper : Nat := 8
def x_NotFound : Nat := 9
def x_NotNow : Nat := 10
def x_TooMany : Nat := 11
def b_is_whole : Ss := (Ss.cons (S.ret (E.and (E.bi Bi.isInt (Es.cons (E.var 0) Es.nil)) (E.and (E.not (E.bi Bi.isBool (Es.cons (E.var 0) Es.nil))) (E.chain Cm.le Cm.le (E.rv 1) (E.var 0) (E.rv 2)))))
  Ss.nil)
def f_is_whole : Fd := { ps := [Md.s, Md.b, Md.b], ns := 3, own := [], bor := [1, 2], fresh := false, hd := false, body := b_is_whole }
def b_is_tuple_of : Ss := (Ss.cons (S.ret (E.and (E.bi Bi.isTuple (Es.cons (E.rv 0) Es.nil)) (E.chain Cm.le Cm.le (E.rv 1) (E.bi Bi.len (Es.cons (E.rv 0) Es.nil)) (E.rv 2))))
  Ss.nil)
def f_is_tuple_of : Fd := { ps := [Md.b, Md.b, Md.b], ns := 3, own := [], bor := [0, 1, 2], fresh := false, hd := false, body := b_is_tuple_of }
def e_is_ascending_1 : E := (E.cmp Cm.lt (E.var 1) (E.var 2))
def b_is_ascending : Ss := (Ss.cons (S.ret (E.bi Bi.all (Es.cons (E.lc [1, 2] e_is_ascending_1 (T.tup [(T.var 1), (T.var 2)]) (I.zip (E.var 0) (E.sl (E.var 0) (Eo.some (E.cst (D.int 1))) Eo.none)) Eo.none) Es.nil)))
  Ss.nil)
def f_is_ascending : Fd := { ps := [Md.s], ns := 3, own := [], bor := [], fresh := false, hd := false, body := b_is_ascending }
def e_are_bits_1 : E := (E.call i_is_whole (Es.cons (E.var 2) (Es.cons (E.cst (D.int 0)) (Es.cons (E.cst (D.int 1)) Es.nil))))
def b_are_bits : Ss := (Ss.cons (S.ret (E.and (E.call i_is_tuple_of (Es.cons (E.var 0) (Es.cons (E.rv 1) (Es.cons (E.rv 1) Es.nil)))) (E.bi Bi.all (Es.cons (E.lc [2] e_are_bits_1 (T.var 2) (I.val (E.var 0)) Eo.none) Es.nil))))
  Ss.nil)
def f_are_bits : Fd := { ps := [Md.s, Md.b], ns := 3, own := [], bor := [1], fresh := false, hd := false, body := b_are_bits }
def b_is_node : Ss := (Ss.cons (S.ifs (E.or (E.not (E.call i_is_tuple_of (Es.cons (E.rv 0) (Es.cons (E.cst (D.int 2)) (Es.cons (E.cst (D.int 2)) Es.nil))))) (E.not (E.call i_is_whole (Es.cons (E.sub (E.rv 0) (E.cst (D.int 0))) (Es.cons (E.cst (D.int 0)) (Es.cons (E.bin Op2.sub (E.bin Op2.mul (E.cst (D.int 2)) (E.rv 1)) (E.cst (D.int 1))) Es.nil)))))) (Ss.cons (S.ret (E.cst (D.bl false)))
  Ss.nil) Ss.nil)
  (Ss.cons (S.ret (E.call i_is_whole (Es.cons (E.sub (E.rv 0) (E.cst (D.int 1))) (Es.cons (E.bin Op2.add (E.sub (E.rv 0) (E.cst (D.int 0))) (E.cst (D.int 1))) (Es.cons (E.bin Op2.sub (E.bin Op2.mul (E.cst (D.int 2)) (E.rv 1)) (E.cst (D.int 1))) Es.nil)))))
  Ss.nil))
def f_is_node : Fd := { ps := [Md.b, Md.b], ns := 2, own := [], bor := [0, 1], fresh := false, hd := false, body := b_is_node }
def e_is_gates_1 : E := (E.call i_is_whole (Es.cons (E.var 10) (Es.cons (E.cst (D.int 0)) (Es.cons (E.var 9) Es.nil))))
def e_is_gates_2 : E := (E.call i_is_node (Es.cons (E.var 8) (Es.cons (E.bin Op2.add (E.bin Op2.add (E.bin Op2.add (E.cst (D.int 1)) (E.var 1)) (E.var 2)) (E.var 7)) Es.nil)))
def b_is_gates : Ss := (Ss.cons (S.ifs (E.or (E.not (E.call i_is_tuple_of (Es.cons (E.var 0) (Es.cons (E.cst (D.int 6)) (Es.cons (E.cst (D.int 6)) Es.nil))))) (E.or (E.not (E.call i_is_whole (Es.cons (E.sub (E.var 0) (E.cst (D.int 0))) (Es.cons (E.cst (D.int 0)) (Es.cons (E.cst (D.int 8)) Es.nil))))) (E.not (E.call i_is_whole (Es.cons (E.sub (E.var 0) (E.cst (D.int 1))) (Es.cons (E.cst (D.int 0)) (Es.cons (E.cst (D.int 6)) Es.nil))))))) (Ss.cons (S.ret (E.cst (D.bl false)))
  Ss.nil) Ss.nil)
  (Ss.cons (S.asg (T.tup [(T.var 1), (T.var 2), (T.var 3), (T.var 4), (T.var 5), (T.var 6)]) (E.var 0))
  (Ss.cons (S.ifs (E.or (E.not (E.call i_are_bits (Es.cons (E.var 3) (Es.cons (E.var 2) Es.nil)))) (E.or (E.not (E.call i_is_tuple_of (Es.cons (E.var 4) (Es.cons (E.cst (D.int 0)) (Es.cons (E.cst (D.int 400)) Es.nil))))) (E.not (E.call i_is_tuple_of (Es.cons (E.var 5) (Es.cons (E.var 2) (Es.cons (E.var 2) Es.nil))))))) (Ss.cons (S.ret (E.cst (D.bl false)))
  Ss.nil) Ss.nil)
  (Ss.cons (S.ifs (E.not (E.bi Bi.all (Es.cons (E.lc [7, 8] e_is_gates_2 (T.tup [(T.var 7), (T.var 8)]) (I.enum (E.var 4)) Eo.none) Es.nil))) (Ss.cons (S.ret (E.cst (D.bl false)))
  Ss.nil) Ss.nil)
  (Ss.cons (S.asg (T.var 9) (E.bin Op2.sub (E.bin Op2.mul (E.cst (D.int 2)) (E.bin Op2.add (E.bin Op2.add (E.bin Op2.add (E.cst (D.int 1)) (E.var 1)) (E.var 2)) (E.bi Bi.len (Es.cons (E.var 4) Es.nil)))) (E.cst (D.int 1))))
  (Ss.cons (S.ret (E.and (E.call i_is_tuple_of (Es.cons (E.var 6) (Es.cons (E.cst (D.int 1)) (Es.cons (E.cst (D.int 16)) Es.nil)))) (E.bi Bi.all (Es.cons (E.lc [10] e_is_gates_1 (T.var 10) (I.val (E.bin Op2.add (E.var 5) (E.var 6))) Eo.none) Es.nil))))
  Ss.nil))))))
def f_is_gates : Fd := { ps := [Md.s], ns := 11, own := [], bor := [], fresh := false, hd := false, body := b_is_gates }
def b_need_gates : Ss := (Ss.cons (S.ifs (E.not (E.call i_is_gates (Es.cons (E.var 0) Es.nil))) (Ss.cons (S.raise x_InvalidGates)
  Ss.nil) Ss.nil)
  Ss.nil)
def f_need_gates : Fd := { ps := [Md.s], ns := 1, own := [], bor := [], fresh := false, hd := false, body := b_need_gates }
def b_first_node : Ss := (Ss.cons (S.ret (E.bin Op2.add (E.bin Op2.add (E.cst (D.int 1)) (E.sub (E.rv 0) (E.cst (D.int 0)))) (E.sub (E.rv 0) (E.cst (D.int 1)))))
  Ss.nil)
def f_first_node : Fd := { ps := [Md.b], ns := 1, own := [], bor := [0], fresh := true, hd := false, body := b_first_node }
def b_things_in : Ss := (Ss.cons (S.ret (E.bin Op2.add (E.call i_first_node (Es.cons (E.rv 0) Es.nil)) (E.bi Bi.len (Es.cons (E.sub (E.rv 0) (E.cst (D.int 3))) Es.nil))))
  Ss.nil)
def f_things_in : Fd := { ps := [Md.b], ns := 1, own := [], bor := [0], fresh := true, hd := false, body := b_things_in }
def b_need_edge : Ss := (Ss.cons (S.ifs (E.not (E.call i_is_whole (Es.cons (E.var 1) (Es.cons (E.cst (D.int 0)) (Es.cons (E.bin Op2.sub (E.bin Op2.mul (E.cst (D.int 2)) (E.call i_things_in (Es.cons (E.rv 0) Es.nil))) (E.cst (D.int 1))) Es.nil))))) (Ss.cons (S.raise x_InvalidEdge)
  Ss.nil) Ss.nil)
  Ss.nil)
def f_need_edge : Fd := { ps := [Md.b, Md.s], ns := 2, own := [], bor := [0], fresh := false, hd := false, body := b_need_edge }
def e_fits_frame_1 : E := (E.call i_is_whole (Es.cons (E.var 2) (Es.cons (E.cst (D.int 1)) (Es.cons (E.bin Op2.sub (E.call i_things_in (Es.cons (E.rv 0) Es.nil)) (E.cst (D.int 1))) Es.nil))))
def b_fits_frame : Ss := (Ss.cons (S.ifs (E.or (E.not (E.call i_is_tuple_of (Es.cons (E.var 1) (Es.cons (E.cst (D.int 0)) (Es.cons (E.cst (D.int 6)) Es.nil))))) (E.not (E.bi Bi.all (Es.cons (E.lc [2] e_fits_frame_1 (T.var 2) (I.val (E.var 1)) Eo.none) Es.nil)))) (Ss.cons (S.ret (E.cst (D.bl false)))
  Ss.nil) Ss.nil)
  (Ss.cons (S.ret (E.call i_is_ascending (Es.cons (E.var 1) Es.nil)))
  Ss.nil))
def f_fits_frame : Fd := { ps := [Md.b, Md.s], ns := 3, own := [], bor := [0], fresh := false, hd := false, body := b_fits_frame }
def b_need_frame : Ss := (Ss.cons (S.ifs (E.not (E.call i_fits_frame (Es.cons (E.rv 0) (Es.cons (E.var 1) Es.nil)))) (Ss.cons (S.raise x_InvalidSet)
  Ss.nil) Ss.nil)
  Ss.nil)
def f_need_frame : Fd := { ps := [Md.b, Md.s], ns := 2, own := [], bor := [0], fresh := false, hd := false, body := b_need_frame }
def e_inner_in_1 : E := (E.bin Op2.fdiv (E.var 7) (E.cst (D.int 2)))
def t_inner_in_2 : E := (E.cmp Cm.ne (E.rv 5) (E.lst Es.nil))
def l_inner_in_2 : Ss := (Ss.cons (S.asg (T.var 6) (E.mm Mm.pop0 5 Es.nil))
  (Ss.cons (S.ifs (E.or (E.cmp Cm.eq (E.var 6) (E.cst (D.int 0))) (E.or (E.cmp Cm.isin (E.var 6) (E.rv 2)) (E.cmp Cm.isin (E.bin Op2.sub (E.var 6) (E.var 3)) (E.rv 4)))) (Ss.cons S.cont
  Ss.nil) Ss.nil)
  (Ss.cons (S.ifs (E.cmp Cm.lt (E.var 6) (E.var 3)) (Ss.cons (S.ret (E.cst D.non))
  Ss.nil) Ss.nil)
  (Ss.cons (S.expr (E.mm Mm.append 4 (Es.cons (E.bin Op2.sub (E.var 6) (E.var 3)) Es.nil)))
  (Ss.cons (S.asgr 5 (E.bin Op2.add (E.rv 5) (E.lc [7] e_inner_in_1 (T.var 7) (I.val (E.sub (E.sub (E.rv 0) (E.cst (D.int 3))) (E.bin Op2.sub (E.var 6) (E.var 3)))) Eo.none)))
  Ss.nil)))))
def b_inner_in : Ss := (Ss.cons (S.par [(3, false), (4, true), (5, true)] (Es.cons (E.call i_first_node (Es.cons (E.rv 0) Es.nil)) (Es.cons (E.lst Es.nil) (Es.cons (E.lst (Es.cons (E.bin Op2.fdiv (E.rv 1) (E.cst (D.int 2))) Es.nil)) Es.nil))))
  (Ss.cons (S.while t_inner_in_2 l_inner_in_2)
  (Ss.cons (S.ret (E.bi Bi.sorted (Es.cons (E.rv 4) Es.nil)))
  Ss.nil)))
def f_inner_in : Fd := { ps := [Md.b, Md.b, Md.b], ns := 8, own := [4, 5], bor := [0, 1, 2], fresh := false, hd := false, body := b_inner_in }
def b_wide_bit : Ss := (Ss.cons (S.ret (E.ite (E.cmp Cm.eq (E.bin Op2.mod (E.rv 1) (E.cst (D.int 2))) (E.cst (D.int 0))) (E.sub (E.rv 0) (E.bin Op2.fdiv (E.rv 1) (E.cst (D.int 2)))) (E.bin Op2.sub (E.rv 2) (E.sub (E.rv 0) (E.bin Op2.fdiv (E.rv 1) (E.cst (D.int 2)))))))
  Ss.nil)
def f_wide_bit : Fd := { ps := [Md.b, Md.b, Md.b], ns := 3, own := [], bor := [0, 1, 2], fresh := false, hd := false, body := b_wide_bit }
def b_rows_of : Ss := (Ss.cons (S.ret (E.bin Op2.shl (E.cst (D.int 1)) (E.rv 0)))
  Ss.nil)
def f_rows_of : Fd := { ps := [Md.b], ns := 1, own := [], bor := [0], fresh := true, hd := false, body := b_rows_of }
def e_sign_bits_1 : E := (E.call i_rows_of (Es.cons (E.var 2) Es.nil))
def c_sign_bits_1 : Eo := (Eo.some (E.cmp Cm.eq (E.bin Op2.mod (E.bin Op2.fdiv (E.var 2) (E.call i_rows_of (Es.cons (E.rv 0) Es.nil))) (E.cst (D.int 2))) (E.cst (D.int 1))))
def b_sign_bits : Ss := (Ss.cons (S.ret (E.bi Bi.sum (Es.cons (E.lc [2] e_sign_bits_1 (T.var 2) (I.rng1 (E.call i_rows_of (Es.cons (E.rv 1) Es.nil))) c_sign_bits_1) Es.nil)))
  Ss.nil)
def f_sign_bits : Fd := { ps := [Md.b, Md.b], ns := 3, own := [], bor := [0, 1], fresh := false, hd := false, body := b_sign_bits }
def e_truth_in_1 : E := (E.bin Op2.mod (E.bin Op2.fdiv (E.var 13) (E.call i_rows_of (Es.cons (E.var 14) Es.nil))) (E.cst (D.int 2)))
def l_truth_in_2 : Ss := (Ss.cons (S.asg (T.tup [(T.var 11), (T.var 12)]) (E.sub (E.sub (E.rv 0) (E.cst (D.int 3))) (E.var 10)))
  (Ss.cons (S.seti 7 (E.bin Op2.add (E.var 5) (E.var 10)) (E.bin Op2.band (E.call i_wide_bit (Es.cons (E.rv 7) (Es.cons (E.var 11) (Es.cons (E.var 6) Es.nil)))) (E.call i_wide_bit (Es.cons (E.rv 7) (Es.cons (E.var 12) (Es.cons (E.var 6) Es.nil))))))
  Ss.nil))
def l_truth_in_3 : Ss := (Ss.cons (S.seti 7 (E.var 9) (E.call i_sign_bits (Es.cons (E.var 8) (Es.cons (E.bi Bi.len (Es.cons (E.var 2) Es.nil)) Es.nil))))
  Ss.nil)
def b_truth_in : Ss := (Ss.cons (S.par [(3, false), (4, false)] (Es.cons (E.call i_inner_in (Es.cons (E.rv 0) (Es.cons (E.rv 1) (Es.cons (E.var 2) Es.nil)))) (Es.cons (E.call i_rows_of (Es.cons (E.bi Bi.len (Es.cons (E.var 2) Es.nil)) Es.nil)) Es.nil)))
  (Ss.cons (S.ifs (E.cmp Cm.is (E.var 3) (E.cst D.non)) (Ss.cons (S.ret (E.cst D.non))
  Ss.nil) Ss.nil)
  (Ss.cons (S.par [(5, false), (6, false), (7, true)] (Es.cons (E.call i_first_node (Es.cons (E.rv 0) Es.nil)) (Es.cons (E.bin Op2.sub (E.call i_rows_of (Es.cons (E.var 4) Es.nil)) (E.cst (D.int 1))) (Es.cons (E.dic (Es.cons (E.cst (D.int 0)) (Es.cons (E.cst (D.int 0)) Es.nil))) Es.nil))))
  (Ss.cons (S.for (T.tup [(T.var 8), (T.var 9)]) (I.enum (E.var 2)) l_truth_in_3)
  (Ss.cons (S.for (T.var 10) (I.val (E.var 3)) l_truth_in_2)
  (Ss.cons (S.asg (T.var 13) (E.call i_wide_bit (Es.cons (E.rv 7) (Es.cons (E.rv 1) (Es.cons (E.var 6) Es.nil)))))
  (Ss.cons (S.ret (E.bi Bi.tuple (Es.cons (E.lc [14] e_truth_in_1 (T.var 14) (I.rng1 (E.var 4)) Eo.none) Es.nil)))
  Ss.nil)))))))
def f_truth_in : Fd := { ps := [Md.b, Md.b, Md.s], ns := 15, own := [7], bor := [0, 1], fresh := false, hd := false, body := b_truth_in }
def b_alike_in : Ss := (Ss.cons (S.asg (T.var 4) (E.call i_truth_in (Es.cons (E.rv 0) (Es.cons (E.rv 1) (Es.cons (E.var 3) Es.nil)))))
  (Ss.cons (S.ret (E.and (E.cmp Cm.isn (E.var 4) (E.cst D.non)) (E.cmp Cm.eq (E.var 4) (E.call i_truth_in (Es.cons (E.rv 0) (Es.cons (E.rv 2) (Es.cons (E.var 3) Es.nil)))))))
  Ss.nil))
def f_alike_in : Fd := { ps := [Md.b, Md.b, Md.b, Md.s], ns := 5, own := [], bor := [0, 1, 2], fresh := false, hd := false, body := b_alike_in }
def b_need_all : Ss := (Ss.cons (S.expr (E.call i_need_gates (Es.cons (E.var 0) Es.nil)))
  (Ss.cons (S.expr (E.call i_need_edge (Es.cons (E.var 0) (Es.cons (E.var 1) Es.nil))))
  (Ss.cons (S.expr (E.call i_need_frame (Es.cons (E.var 0) (Es.cons (E.var 2) Es.nil))))
  Ss.nil)))
def f_need_all : Fd := { ps := [Md.s, Md.s, Md.s], ns := 3, own := [], bor := [], fresh := false, hd := false, body := b_need_all }
def b_is_told_by : Ss := (Ss.cons (S.expr (E.call i_need_all (Es.cons (E.var 0) (Es.cons (E.var 1) (Es.cons (E.var 2) Es.nil)))))
  (Ss.cons (S.ret (E.cmp Cm.isn (E.call i_inner_in (Es.cons (E.var 0) (Es.cons (E.var 1) (Es.cons (E.var 2) Es.nil)))) (E.cst D.non)))
  Ss.nil))
def f_is_told_by : Fd := { ps := [Md.s, Md.s, Md.s], ns := 3, own := [], bor := [], fresh := false, hd := false, body := b_is_told_by }
def b_truth_by : Ss := (Ss.cons (S.expr (E.call i_need_all (Es.cons (E.var 0) (Es.cons (E.var 1) (Es.cons (E.var 2) Es.nil)))))
  (Ss.cons (S.asg (T.var 3) (E.call i_truth_in (Es.cons (E.var 0) (Es.cons (E.var 1) (Es.cons (E.var 2) Es.nil)))))
  (Ss.cons (S.ifs (E.cmp Cm.is (E.var 3) (E.cst D.non)) (Ss.cons (S.raise x_NotFound)
  Ss.nil) Ss.nil)
  (Ss.cons (S.ret (E.var 3))
  Ss.nil))))
def f_truth_by : Fd := { ps := [Md.s, Md.s, Md.s], ns := 4, own := [], bor := [], fresh := false, hd := false, body := b_truth_by }
def b_nodes_within : Ss := (Ss.cons (S.expr (E.call i_need_all (Es.cons (E.var 0) (Es.cons (E.var 1) (Es.cons (E.var 2) Es.nil)))))
  (Ss.cons (S.asg (T.var 3) (E.call i_inner_in (Es.cons (E.var 0) (Es.cons (E.var 1) (Es.cons (E.var 2) Es.nil)))))
  (Ss.cons (S.ifs (E.cmp Cm.is (E.var 3) (E.cst D.non)) (Ss.cons (S.raise x_NotFound)
  Ss.nil) Ss.nil)
  (Ss.cons (S.ret (E.bi Bi.tuple (Es.cons (E.var 3) Es.nil)))
  Ss.nil))))
def f_nodes_within : Fd := { ps := [Md.s, Md.s, Md.s], ns := 4, own := [], bor := [], fresh := false, hd := false, body := b_nodes_within }
def b_are_alike_by : Ss := (Ss.cons (S.expr (E.call i_need_gates (Es.cons (E.var 0) Es.nil)))
  (Ss.cons (S.expr (E.call i_need_edge (Es.cons (E.var 0) (Es.cons (E.var 1) Es.nil))))
  (Ss.cons (S.expr (E.call i_need_edge (Es.cons (E.var 0) (Es.cons (E.var 2) Es.nil))))
  (Ss.cons (S.expr (E.call i_need_frame (Es.cons (E.var 0) (Es.cons (E.var 3) Es.nil))))
  (Ss.cons (S.ret (E.call i_alike_in (Es.cons (E.var 0) (Es.cons (E.var 1) (Es.cons (E.var 2) (Es.cons (E.var 3) Es.nil))))))
  Ss.nil)))))
def f_are_alike_by : Fd := { ps := [Md.s, Md.s, Md.s, Md.s], ns := 4, own := [], bor := [], fresh := false, hd := false, body := b_are_alike_by }
def b__law_cup : Ss := (Ss.cons (S.asg (T.var 1) (E.bi Bi.abs (Es.cons (E.sub (E.bin Op2.add (E.bi Bi.list (Es.cons (E.rv 0) Es.nil)) (E.lst (Es.cons (E.cst (D.int 0)) Es.nil))) (E.cst (D.int 0))) Es.nil)))
  (Ss.cons (S.ret (E.lst (Es.cons (E.ite (E.cmp Cm.ge (E.var 1) (E.bin Op2.pow (E.cst (D.int 10)) (E.cst (D.int 18)))) (E.bin Op2.fdiv (E.var 1) (E.cst (D.int 257))) (E.cst (D.int 0))) (Es.cons (E.bin Op2.add (E.bin Op2.mod (E.bi Bi.int (Es.cons (E.bin Op2.add (E.bin Op2.mul (E.var 1) (E.cst (D.int 521))) (E.cst (D.int 7853))) Es.nil)) (E.cst (D.int 99829))) (E.cst (D.int 373))) Es.nil))))
  Ss.nil))
def f__law_cup : Fd := { ps := [Md.b], ns := 2, own := [], bor := [0], fresh := true, hd := false, body := b__law_cup }
def b__law_roll : Ss := (Ss.cons (S.ifs (E.cmp Cm.gt (E.sub (E.rv 0) (E.cst (D.int 0))) (E.cst (D.int 0))) (Ss.cons (S.asg (T.var 2) (E.bin Op2.mod (E.bi Bi.int (Es.cons (E.sub (E.rv 0) (E.cst (D.int 0))) Es.nil)) (E.rv 1)))
  (Ss.cons (S.seti 0 (E.cst (D.int 0)) (E.bin Op2.fdiv (E.sub (E.rv 0) (E.cst (D.int 0))) (E.rv 1)))
  (Ss.cons (S.ret (E.var 2))
  Ss.nil))) Ss.nil)
  (Ss.cons (S.seti 0 (E.cst (D.int 1)) (E.bin Op2.mod (E.bi Bi.int (Es.cons (E.bin Op2.add (E.bin Op2.mul (E.sub (E.rv 0) (E.cst (D.int 1))) (E.cst (D.int 139))) (E.cst (D.int 2543))) Es.nil)) (E.cst (D.int 99829))))
  (Ss.cons (S.ret (E.bin Op2.mod (E.bi Bi.int (Es.cons (E.bin Op2.fdiv (E.sub (E.rv 0) (E.cst (D.int 1))) (E.cst (D.int 53))) Es.nil)) (E.rv 1)))
  Ss.nil)))
def f__law_roll : Fd := { ps := [Md.m, Md.b], ns := 3, own := [0], bor := [1], fresh := false, hd := false, body := b__law_roll }
def b__law_sort : Ss := (Ss.cons (S.ifs (E.or (E.cmp Cm.is (E.rv 0) (E.cst D.non)) (E.bi Bi.isBool (Es.cons (E.rv 0) Es.nil))) (Ss.cons (S.ret (E.ite (E.cmp Cm.is (E.rv 0) (E.cst D.non)) (E.cst (D.int 0)) (E.cst (D.int 1))))
  Ss.nil) Ss.nil)
  (Ss.cons (S.ifs (E.or (E.bi Bi.isInt (Es.cons (E.rv 0) Es.nil)) (E.bi Bi.isStr (Es.cons (E.rv 0) Es.nil))) (Ss.cons (S.ret (E.ite (E.bi Bi.isInt (Es.cons (E.rv 0) Es.nil)) (E.cst (D.int 2)) (E.cst (D.int 3))))
  Ss.nil) Ss.nil)
  (Ss.cons (S.ret (E.ite (E.bi Bi.isTuple (Es.cons (E.rv 0) Es.nil)) (E.cst (D.int 4)) (E.ite (E.bi Bi.isList (Es.cons (E.rv 0) Es.nil)) (E.cst (D.int 5)) (E.cst (D.int 6)))))
  Ss.nil)))
def f__law_sort : Fd := { ps := [Md.b], ns := 1, own := [], bor := [0], fresh := false, hd := false, body := b__law_sort }
def e__law_like_1 : E := (E.cst (D.int 1))
def c__law_like_1 : Eo := (Eo.some (E.not (E.call i__law_like (Es.cons (E.var 3) (Es.cons (E.var 4) Es.nil)))))
def b__law_like : Ss := (Ss.cons (S.asg (T.var 2) (E.call i__law_sort (Es.cons (E.var 1) Es.nil)))
  (Ss.cons (S.ifs (E.or (E.cmp Cm.ne (E.call i__law_sort (Es.cons (E.var 0) Es.nil)) (E.var 2)) (E.cmp Cm.eq (E.var 2) (E.cst (D.int 6)))) (Ss.cons (S.ret (E.cst (D.bl false)))
  Ss.nil) Ss.nil)
  (Ss.cons (S.ifs (E.cmp Cm.isin (E.var 2) (E.tup (Es.cons (E.cst (D.int 4)) (Es.cons (E.cst (D.int 5)) Es.nil)))) (Ss.cons (S.ret (E.and (E.cmp Cm.eq (E.bi Bi.len (Es.cons (E.var 0) Es.nil)) (E.bi Bi.len (Es.cons (E.var 1) Es.nil))) (E.cmp Cm.eq (E.lc [3, 4] e__law_like_1 (T.tup [(T.var 3), (T.var 4)]) (I.zip (E.var 0) (E.var 1)) c__law_like_1) (E.lst Es.nil))))
  Ss.nil) Ss.nil)
  (Ss.cons (S.ret (E.cmp Cm.eq (E.var 0) (E.var 1)))
  Ss.nil))))
def f__law_like : Fd := { ps := [Md.s, Md.s], ns := 5, own := [], bor := [], fresh := false, hd := false, body := b__law_like }
def b__law_turned : Ss := (Ss.cons (S.ret (E.ite (E.cmp Cm.eq (E.bin Op2.mod (E.bi Bi.int (Es.cons (E.rv 0) Es.nil)) (E.cst (D.int 2))) (E.cst (D.int 0))) (E.bin Op2.add (E.rv 0) (E.cst (D.int 1))) (E.bin Op2.sub (E.rv 0) (E.cst (D.int 1)))))
  Ss.nil)
def f__law_turned : Fd := { ps := [Md.b], ns := 1, own := [], bor := [0], fresh := true, hd := false, body := b__law_turned }
def b__law_first : Ss := (Ss.cons (S.ret (E.bin Op2.add (E.bin Op2.add (E.cst (D.int 1)) (E.sub (E.rv 0) (E.cst (D.int 0)))) (E.sub (E.rv 0) (E.cst (D.int 1)))))
  Ss.nil)
def f__law_first : Fd := { ps := [Md.b], ns := 1, own := [], bor := [0], fresh := true, hd := false, body := b__law_first }
def b__law_bit : Ss := (Ss.cons (S.ret (E.ite (E.cmp Cm.eq (E.bin Op2.mod (E.bi Bi.int (Es.cons (E.rv 1) Es.nil)) (E.cst (D.int 2))) (E.cst (D.int 0))) (E.sub (E.rv 0) (E.bin Op2.fdiv (E.rv 1) (E.cst (D.int 2)))) (E.bin Op2.sub (E.cst (D.int 1)) (E.sub (E.rv 0) (E.bin Op2.fdiv (E.rv 1) (E.cst (D.int 2)))))))
  Ss.nil)
def f__law_bit : Fd := { ps := [Md.b, Md.b], ns := 2, own := [], bor := [0, 1], fresh := false, hd := false, body := b__law_bit }
def l__law_bits_1 : Ss := (Ss.cons (S.expr (E.mm Mm.append 3 (Es.cons (E.bin Op2.mul (E.call i__law_bit (Es.cons (E.rv 3) (Es.cons (E.var 4) Es.nil))) (E.call i__law_bit (Es.cons (E.rv 3) (Es.cons (E.var 5) Es.nil)))) Es.nil)))
  Ss.nil)
def b__law_bits : Ss := (Ss.cons (S.asgr 3 (E.bin Op2.add (E.bin Op2.add (E.lst (Es.cons (E.cst (D.int 0)) Es.nil)) (E.bi Bi.list (Es.cons (E.rv 1) Es.nil))) (E.bi Bi.list (Es.cons (E.rv 2) Es.nil))))
  (Ss.cons (S.for (T.tup [(T.var 4), (T.var 5)]) (I.val (E.sub (E.rv 0) (E.cst (D.int 3)))) l__law_bits_1)
  (Ss.cons (S.retr 3)
  Ss.nil)))
def f__law_bits : Fd := { ps := [Md.b, Md.b, Md.b], ns := 6, own := [3], bor := [0, 1, 2], fresh := true, hd := false, body := b__law_bits }
def e__law_all_bits_1 : E := (E.bin Op2.add (E.var 3) (E.tup (Es.cons (E.cst (D.int 0)) Es.nil)))
def e__law_all_bits_2 : E := (E.bin Op2.add (E.var 3) (E.tup (Es.cons (E.cst (D.int 1)) Es.nil)))
def l__law_all_bits_3 : Ss := (Ss.cons (S.asg (T.var 1) (E.bin Op2.add (E.lc [3] e__law_all_bits_1 (T.var 3) (I.val (E.var 1)) Eo.none) (E.lc [3] e__law_all_bits_2 (T.var 3) (I.val (E.var 1)) Eo.none)))
  Ss.nil)
def b__law_all_bits : Ss := (Ss.cons (S.asg (T.var 1) (E.lst (Es.cons (E.tup Es.nil) Es.nil)))
  (Ss.cons (S.for (T.var 2) (I.rng1 (E.var 0)) l__law_all_bits_3)
  (Ss.cons (S.ret (E.var 1))
  Ss.nil)))
def f__law_all_bits : Fd := { ps := [Md.s], ns := 4, own := [], bor := [], fresh := false, hd := false, body := b__law_all_bits }
def e__law_gates_1 : E := (E.bin Op2.add (E.bin Op2.mul (E.cst (D.int 2)) (E.call i__law_thing (Es.cons (E.rv 0) (Es.cons (E.var 6) Es.nil)))) (E.call i__law_roll (Es.cons (E.rv 0) (Es.cons (E.cst (D.int 2)) Es.nil))))
def e__law_gates_2 : E := (E.bin Op2.add (E.bin Op2.mul (E.cst (D.int 2)) (E.call i__law_thing (Es.cons (E.rv 0) (Es.cons (E.var 6) Es.nil)))) (E.call i__law_roll (Es.cons (E.rv 0) (Es.cons (E.cst (D.int 2)) Es.nil))))
def e__law_gates_3 : E := (E.call i__law_roll (Es.cons (E.rv 0) (Es.cons (E.cst (D.int 2)) Es.nil)))
def e__law_gates_4 : E := (E.bin Op2.add (E.bin Op2.mul (E.cst (D.int 2)) (E.call i__law_thing (Es.cons (E.rv 0) (Es.cons (E.var 6) Es.nil)))) (E.call i__law_roll (Es.cons (E.rv 0) (Es.cons (E.cst (D.int 2)) Es.nil))))
def l__law_gates_5 : Ss := (Ss.cons (S.asg (T.var 6) (E.bin Op2.add (E.bin Op2.add (E.bin Op2.add (E.cst (D.int 1)) (E.var 1)) (E.var 2)) (E.bi Bi.len (Es.cons (E.rv 4) Es.nil))))
  (Ss.cons (S.asgr 7 (E.lc [8] e__law_gates_4 (T.var 8) (I.rng1 (E.cst (D.int 2))) Eo.none))
  (Ss.cons (S.ifs (E.cmp Cm.eq (E.sub (E.rv 7) (E.cst (D.int 0))) (E.sub (E.rv 7) (E.cst (D.int 1)))) (Ss.cons (S.seti 7 (E.cst (D.int 1)) (E.call i__law_turned (Es.cons (E.sub (E.rv 7) (E.cst (D.int 1))) Es.nil)))
  Ss.nil) Ss.nil)
  (Ss.cons (S.expr (E.mm Mm.append 4 (Es.cons (E.tup (Es.cons (E.bi Bi.min1 (Es.cons (E.rv 7) Es.nil)) (Es.cons (E.bi Bi.max1 (Es.cons (E.rv 7) Es.nil)) Es.nil))) Es.nil)))
  Ss.nil))))
def b__law_gates : Ss := (Ss.cons (S.par [(1, false), (2, false), (4, true)] (Es.cons (E.bin Op2.add (E.cst (D.int 1)) (E.call i__law_roll (Es.cons (E.rv 0) (Es.cons (E.var 1) Es.nil)))) (Es.cons (E.call i__law_roll (Es.cons (E.rv 0) (Es.cons (E.bin Op2.add (E.var 2) (E.cst (D.int 1))) Es.nil))) (Es.cons (E.lst Es.nil) Es.nil))))
  (Ss.cons (S.for (T.var 5) (I.rng1 (E.call i__law_roll (Es.cons (E.rv 0) (Es.cons (E.bin Op2.add (E.rv 3) (E.cst (D.int 1))) Es.nil)))) l__law_gates_5)
  (Ss.cons (S.asg (T.var 6) (E.bin Op2.add (E.bin Op2.add (E.bin Op2.add (E.cst (D.int 1)) (E.var 1)) (E.var 2)) (E.bi Bi.len (Es.cons (E.rv 4) Es.nil))))
  (Ss.cons (S.asg (T.var 9) (E.bi Bi.tuple (Es.cons (E.lc [8] e__law_gates_3 (T.var 8) (I.rng1 (E.var 2)) Eo.none) Es.nil)))
  (Ss.cons (S.asg (T.var 10) (E.bi Bi.tuple (Es.cons (E.lc [8] e__law_gates_2 (T.var 8) (I.rng1 (E.var 2)) Eo.none) Es.nil)))
  (Ss.cons (S.asg (T.var 11) (E.bin Op2.add (E.tup (Es.cons (E.bin Op2.mul (E.cst (D.int 2)) (E.bin Op2.sub (E.var 6) (E.cst (D.int 1)))) Es.nil)) (E.bi Bi.tuple (Es.cons (E.lc [8] e__law_gates_1 (T.var 8) (I.rng1 (E.call i__law_roll (Es.cons (E.rv 0) (Es.cons (E.cst (D.int 3)) Es.nil)))) Eo.none) Es.nil))))
  (Ss.cons (S.ret (E.tup (Es.cons (E.var 1) (Es.cons (E.var 2) (Es.cons (E.var 9) (Es.cons (E.bi Bi.tuple (Es.cons (E.rv 4) Es.nil)) (Es.cons (E.var 10) (Es.cons (E.var 11) Es.nil))))))))
  Ss.nil)))))))
def f__law_gates : Fd := { ps := [Md.m, Md.s, Md.s, Md.b], ns := 12, own := [0, 4, 7], bor := [3], fresh := false, hd := false, body := b__law_gates }
def b__law_thing : Ss := (Ss.cons (S.asg (T.var 2) (E.call i__law_roll (Es.cons (E.rv 0) (Es.cons (E.rv 1) Es.nil))))
  (Ss.cons (S.ret (E.ite (E.or (E.cmp Cm.gt (E.var 2) (E.cst (D.int 0))) (E.cmp Cm.eq (E.call i__law_roll (Es.cons (E.rv 0) (Es.cons (E.cst (D.int 4)) Es.nil))) (E.cst (D.int 0)))) (E.var 2) (E.bin Op2.sub (E.rv 1) (E.cst (D.int 1)))))
  Ss.nil))
def f__law_thing : Fd := { ps := [Md.m, Md.b], ns := 3, own := [0], bor := [1], fresh := false, hd := false, body := b__law_thing }
def b__law_known : Ss := (Ss.cons (S.asg (T.var 0) (E.tup (Es.cons (E.cst (D.int 2)) (Es.cons (E.cst (D.int 1)) (Es.cons (E.tup (Es.cons (E.cst (D.int 0)) Es.nil)) (Es.cons (E.tup (Es.cons (E.tup (Es.cons (E.cst (D.int 2)) (Es.cons (E.cst (D.int 4)) Es.nil))) (Es.cons (E.tup (Es.cons (E.cst (D.int 3)) (Es.cons (E.cst (D.int 5)) Es.nil))) (Es.cons (E.tup (Es.cons (E.cst (D.int 9)) (Es.cons (E.cst (D.int 11)) Es.nil))) (Es.cons (E.tup (Es.cons (E.cst (D.int 6)) (Es.cons (E.cst (D.int 12)) Es.nil))) (Es.cons (E.tup (Es.cons (E.cst (D.int 7)) (Es.cons (E.cst (D.int 13)) Es.nil))) (Es.cons (E.tup (Es.cons (E.cst (D.int 15)) (Es.cons (E.cst (D.int 17)) Es.nil))) Es.nil))))))) (Es.cons (E.tup (Es.cons (E.cst (D.int 18)) Es.nil)) (Es.cons (E.tup (Es.cons (E.cst (D.int 6)) (Es.cons (E.cst (D.int 13)) Es.nil))) Es.nil))))))))
  (Ss.cons (S.asg (T.var 1) (E.tup (Es.cons (E.cst (D.int 2)) (Es.cons (E.cst (D.int 0)) (Es.cons (E.tup Es.nil) (Es.cons (E.tup (Es.cons (E.tup (Es.cons (E.cst (D.int 2)) (Es.cons (E.cst (D.int 4)) Es.nil))) (Es.cons (E.tup (Es.cons (E.cst (D.int 2)) (Es.cons (E.cst (D.int 6)) Es.nil))) (Es.cons (E.tup (Es.cons (E.cst (D.int 3)) (Es.cons (E.cst (D.int 6)) Es.nil))) (Es.cons (E.tup (Es.cons (E.cst (D.int 7)) (Es.cons (E.cst (D.int 9)) Es.nil))) Es.nil))))) (Es.cons (E.tup Es.nil) (Es.cons (E.tup (Es.cons (E.cst (D.int 8)) (Es.cons (E.cst (D.int 10)) (Es.cons (E.cst (D.int 12)) Es.nil)))) Es.nil))))))))
  (Ss.cons (S.asg (T.var 2) (E.tup (Es.cons (E.cst (D.int 4)) (Es.cons (E.cst (D.int 0)) (Es.cons (E.tup Es.nil) (Es.cons (E.tup (Es.cons (E.tup (Es.cons (E.cst (D.int 2)) (Es.cons (E.cst (D.int 4)) Es.nil))) (Es.cons (E.tup (Es.cons (E.cst (D.int 6)) (Es.cons (E.cst (D.int 10)) Es.nil))) (Es.cons (E.tup (Es.cons (E.cst (D.int 8)) (Es.cons (E.cst (D.int 12)) Es.nil))) Es.nil)))) (Es.cons (E.tup Es.nil) (Es.cons (E.tup (Es.cons (E.cst (D.int 14)) Es.nil)) Es.nil))))))))
  (Ss.cons (S.asg (T.var 3) (E.tup (Es.cons (E.cst (D.int 1)) (Es.cons (E.cst (D.int 3)) (Es.cons (E.tup (Es.cons (E.cst (D.int 0)) (Es.cons (E.cst (D.int 0)) (Es.cons (E.cst (D.int 1)) Es.nil)))) (Es.cons (E.tup (Es.cons (E.tup (Es.cons (E.cst (D.int 4)) (Es.cons (E.cst (D.int 7)) Es.nil))) (Es.cons (E.tup (Es.cons (E.cst (D.int 9)) (Es.cons (E.cst (D.int 10)) Es.nil))) Es.nil))) (Es.cons (E.tup (Es.cons (E.cst (D.int 2)) (Es.cons (E.cst (D.int 2)) (Es.cons (E.cst (D.int 8)) Es.nil)))) (Es.cons (E.tup (Es.cons (E.cst (D.int 8)) (Es.cons (E.cst (D.int 11)) (Es.cons (E.cst (D.int 6)) Es.nil)))) Es.nil))))))))
  (Ss.cons (S.asg (T.var 4) (E.tup (Es.cons (E.cst (D.int 2)) (Es.cons (E.cst (D.int 0)) (Es.cons (E.tup Es.nil) (Es.cons (E.tup (Es.cons (E.tup (Es.cons (E.cst (D.int 0)) (Es.cons (E.cst (D.int 1)) Es.nil))) (Es.cons (E.tup (Es.cons (E.cst (D.int 0)) (Es.cons (E.cst (D.int 2)) Es.nil))) (Es.cons (E.tup (Es.cons (E.cst (D.int 1)) (Es.cons (E.cst (D.int 4)) Es.nil))) (Es.cons (E.tup (Es.cons (E.cst (D.int 2)) (Es.cons (E.cst (D.int 3)) Es.nil))) (Es.cons (E.tup (Es.cons (E.cst (D.int 2)) (Es.cons (E.cst (D.int 4)) Es.nil))) (Es.cons (E.tup (Es.cons (E.cst (D.int 2)) (Es.cons (E.cst (D.int 4)) Es.nil))) (Es.cons (E.tup (Es.cons (E.cst (D.int 14)) (Es.cons (E.cst (D.int 16)) Es.nil))) (Es.cons (E.tup (Es.cons (E.cst (D.int 3)) (Es.cons (E.cst (D.int 15)) Es.nil))) Es.nil))))))))) (Es.cons (E.tup Es.nil) (Es.cons (E.tup (Es.cons (E.cst (D.int 6)) (Es.cons (E.cst (D.int 8)) (Es.cons (E.cst (D.int 10)) (Es.cons (E.cst (D.int 12)) (Es.cons (E.cst (D.int 18)) (Es.cons (E.cst (D.int 21)) Es.nil))))))) Es.nil))))))))
  (Ss.cons (S.asg (T.var 5) (E.tup (Es.cons (E.cst (D.int 3)) (Es.cons (E.cst (D.int 0)) (Es.cons (E.tup Es.nil) (Es.cons (E.tup (Es.cons (E.tup (Es.cons (E.cst (D.int 2)) (Es.cons (E.cst (D.int 4)) Es.nil))) (Es.cons (E.tup (Es.cons (E.cst (D.int 2)) (Es.cons (E.cst (D.int 5)) Es.nil))) (Es.cons (E.tup (Es.cons (E.cst (D.int 9)) (Es.cons (E.cst (D.int 11)) Es.nil))) (Es.cons (E.tup (Es.cons (E.cst (D.int 3)) (Es.cons (E.cst (D.int 13)) Es.nil))) (Es.cons (E.tup (Es.cons (E.cst (D.int 6)) (Es.cons (E.cst (D.int 9)) Es.nil))) (Es.cons (E.tup (Es.cons (E.cst (D.int 7)) (Es.cons (E.cst (D.int 12)) Es.nil))) (Es.cons (E.tup (Es.cons (E.cst (D.int 2)) (Es.cons (E.cst (D.int 9)) Es.nil))) (Es.cons (E.tup (Es.cons (E.cst (D.int 3)) (Es.cons (E.cst (D.int 9)) Es.nil))) Es.nil))))))))) (Es.cons (E.tup Es.nil) (Es.cons (E.tup (Es.cons (E.cst (D.int 14)) (Es.cons (E.cst (D.int 16)) (Es.cons (E.cst (D.int 18)) (Es.cons (E.cst (D.int 20)) (Es.cons (E.cst (D.int 22)) Es.nil)))))) Es.nil))))))))
  (Ss.cons (S.ret (E.tup (Es.cons (E.var 0) (Es.cons (E.var 1) (Es.cons (E.var 2) (Es.cons (E.var 3) (Es.cons (E.var 4) (Es.cons (E.var 5) (Es.cons (E.tup (Es.cons (E.cst (D.int 1)) (Es.cons (E.cst (D.int 0)) (Es.cons (E.tup Es.nil) (Es.cons (E.tup Es.nil) (Es.cons (E.tup Es.nil) (Es.cons (E.tup (Es.cons (E.cst (D.int 2)) Es.nil)) Es.nil))))))) (Es.cons (E.tup (Es.cons (E.cst (D.int 0)) (Es.cons (E.cst (D.int 1)) (Es.cons (E.tup (Es.cons (E.cst (D.int 1)) Es.nil)) (Es.cons (E.tup Es.nil) (Es.cons (E.tup (Es.cons (E.cst (D.int 3)) Es.nil)) (Es.cons (E.tup (Es.cons (E.cst (D.int 2)) (Es.cons (E.cst (D.int 1)) Es.nil))) Es.nil))))))) Es.nil))))))))))
  Ss.nil)))))))
def f__law_known : Fd := { ps := [], ns := 6, own := [], bor := [], fresh := false, hd := false, body := b__law_known }
def b__law_odd_gates : Ss := (Ss.cons (S.asg (T.var 0) (E.lst (Es.cons (E.cst D.non) (Es.cons (E.tup Es.nil) (Es.cons (E.tup (Es.cons (E.cst (D.int 1)) (Es.cons (E.cst (D.int 0)) (Es.cons (E.tup Es.nil) (Es.cons (E.tup Es.nil) (Es.cons (E.tup Es.nil) Es.nil)))))) (Es.cons (E.lst (Es.cons (E.cst (D.int 1)) (Es.cons (E.cst (D.int 0)) (Es.cons (E.tup Es.nil) (Es.cons (E.tup Es.nil) (Es.cons (E.tup Es.nil) (Es.cons (E.tup (Es.cons (E.cst (D.int 2)) Es.nil)) Es.nil))))))) (Es.cons (E.tup (Es.cons (E.cst (D.int 9)) (Es.cons (E.cst (D.int 0)) (Es.cons (E.tup Es.nil) (Es.cons (E.tup Es.nil) (Es.cons (E.tup Es.nil) (Es.cons (E.tup (Es.cons (E.cst (D.int 2)) Es.nil)) Es.nil))))))) (Es.cons (E.tup (Es.cons (E.cst (D.int 1)) (Es.cons (E.cst (D.int 0)) (Es.cons (E.tup Es.nil) (Es.cons (E.tup Es.nil) (Es.cons (E.tup Es.nil) (Es.cons (E.tup Es.nil) Es.nil))))))) (Es.cons (E.tup (Es.cons (E.cst (D.int 1)) (Es.cons (E.cst (D.int 0)) (Es.cons (E.tup Es.nil) (Es.cons (E.tup (Es.cons (E.tup (Es.cons (E.cst (D.int 2)) (Es.cons (E.cst (D.int 2)) Es.nil))) Es.nil)) (Es.cons (E.tup Es.nil) (Es.cons (E.tup (Es.cons (E.cst (D.int 2)) Es.nil)) Es.nil))))))) (Es.cons (E.cst (D.int 0)) Es.nil))))))))))
  (Ss.cons (S.ret (E.bin Op2.add (E.var 0) (E.lst (Es.cons (E.tup (Es.cons (E.cst (D.int 1)) (Es.cons (E.cst (D.int 0)) (Es.cons (E.tup Es.nil) (Es.cons (E.tup (Es.cons (E.tup (Es.cons (E.cst (D.int 3)) (Es.cons (E.cst (D.int 2)) Es.nil))) Es.nil)) (Es.cons (E.tup Es.nil) (Es.cons (E.tup (Es.cons (E.cst (D.int 2)) Es.nil)) Es.nil))))))) (Es.cons (E.tup (Es.cons (E.cst (D.int 1)) (Es.cons (E.cst (D.int 0)) (Es.cons (E.tup Es.nil) (Es.cons (E.tup (Es.cons (E.tup (Es.cons (E.cst (D.int 2)) (Es.cons (E.cst (D.int 4)) Es.nil))) Es.nil)) (Es.cons (E.tup Es.nil) (Es.cons (E.tup (Es.cons (E.cst (D.int 2)) Es.nil)) Es.nil))))))) (Es.cons (E.tup (Es.cons (E.cst (D.int 1)) (Es.cons (E.cst (D.int 1)) (Es.cons (E.tup (Es.cons (E.cst (D.int 0)) Es.nil)) (Es.cons (E.tup Es.nil) (Es.cons (E.tup Es.nil) (Es.cons (E.tup (Es.cons (E.cst (D.int 2)) Es.nil)) Es.nil))))))) (Es.cons (E.tup (Es.cons (E.cst (D.int 1)) (Es.cons (E.cst (D.int 0)) (Es.cons (E.tup Es.nil) (Es.cons (E.tup Es.nil) (Es.cons (E.tup Es.nil) (Es.cons (E.tup (Es.cons (E.cst (D.int 4)) Es.nil)) Es.nil))))))) (Es.cons (E.tup (Es.cons (E.cst (D.bl true)) (Es.cons (E.cst (D.int 0)) (Es.cons (E.tup Es.nil) (Es.cons (E.tup Es.nil) (Es.cons (E.tup Es.nil) (Es.cons (E.tup (Es.cons (E.cst (D.int 0)) Es.nil)) Es.nil))))))) Es.nil))))))))
  Ss.nil))
def f__law_odd_gates : Fd := { ps := [], ns := 1, own := [], bor := [], fresh := true, hd := false, body := b__law_odd_gates }
def e__law_error_1 : E := (E.var 3)
def c__law_error_1 : Eo := (Eo.some (E.var 4))
def b__law_error : Ss := (Ss.cons (S.tryx (Ss.cons S.acts
  Ss.nil) x_ForgeError (some 1) (Ss.cons (S.asg (T.var 2) (E.lst (Es.cons (E.tup (Es.cons (E.cst (D.str ⟨#[103, 97, 116, 101, 115]⟩)) (Es.cons (E.isx 1 x_InvalidGates) Es.nil))) (Es.cons (E.tup (Es.cons (E.cst (D.str ⟨#[110, 117, 109, 98, 101, 114]⟩)) (Es.cons (E.isx 1 x_InvalidNumber) Es.nil))) (Es.cons (E.tup (Es.cons (E.cst (D.str ⟨#[101, 100, 103, 101]⟩)) (Es.cons (E.isx 1 x_InvalidEdge) Es.nil))) Es.nil)))))
  (Ss.cons (S.asg (T.var 2) (E.bin Op2.add (E.var 2) (E.lst (Es.cons (E.tup (Es.cons (E.cst (D.str ⟨#[115, 101, 116]⟩)) (Es.cons (E.isx 1 x_InvalidSet) Es.nil))) (Es.cons (E.tup (Es.cons (E.cst (D.str ⟨#[115, 111, 114, 116]⟩)) (Es.cons (E.isx 1 x_InvalidSort) Es.nil))) (Es.cons (E.tup (Es.cons (E.cst (D.str ⟨#[112, 97, 112, 101, 114]⟩)) (Es.cons (E.isx 1 x_InvalidPaper) Es.nil))) Es.nil))))))
  (Ss.cons (S.asg (T.var 2) (E.bin Op2.add (E.var 2) (E.lst (Es.cons (E.tup (Es.cons (E.cst (D.str ⟨#[118, 97, 108, 117, 101, 115]⟩)) (Es.cons (E.isx 1 x_InvalidValues) Es.nil))) (Es.cons (E.tup (Es.cons (E.cst (D.str ⟨#[116, 114, 101, 101]⟩)) (Es.cons (E.isx 1 x_InvalidTree) Es.nil))) (Es.cons (E.tup (Es.cons (E.cst (D.str ⟨#[102, 111, 117, 110, 100]⟩)) (Es.cons (E.isx 1 x_NotFound) Es.nil))) (Es.cons (E.tup (Es.cons (E.cst (D.str ⟨#[110, 111, 119]⟩)) (Es.cons (E.isx 1 x_NotNow) Es.nil))) Es.nil)))))))
  (Ss.cons (S.ifs (E.isx 1 x_TooMany) (Ss.cons (S.expr E.bad)
  Ss.nil) Ss.nil)
  (Ss.cons (S.ret (E.or (E.mt Mt.join (E.cst (D.str ⟨#[32]⟩)) (Es.cons (E.lc [3, 4] e__law_error_1 (T.tup [(T.var 3), (T.var 4)]) (I.lst (E.var 2)) c__law_error_1) Es.nil)) (E.cst (D.str ⟨#[111, 116, 104, 101, 114]⟩))))
  Ss.nil))))))
  (Ss.cons (S.ret (E.cst (D.str ⟨#[]⟩)))
  Ss.nil))
def f__law_error : Fd := { ps := [Md.b], ns := 5, own := [], bor := [0], fresh := false, hd := true, body := b__law_error }
def l__law_told_1 : Ss := (Ss.cons (S.ifs (E.and (E.cmp Cm.isin (E.bin Op2.fdiv (E.var 7) (E.cst (D.int 2))) (E.rv 3)) (E.cmp Cm.isin (E.bin Op2.fdiv (E.var 8) (E.cst (D.int 2))) (E.rv 3))) (Ss.cons (S.seti 3 (E.bin Op2.add (E.var 4) (E.var 6)) (E.cst (D.bl true)))
  Ss.nil) Ss.nil)
  Ss.nil)
def e__law_told_2 : E := (E.tup (Es.cons (E.var 5) (Es.cons (E.cst (D.bl true)) Es.nil)))
def b__law_told : Ss := (Ss.cons (S.par [(3, true), (4, false)] (Es.cons (E.bi Bi.dict1 (Es.cons (E.lc [5] e__law_told_2 (T.var 5) (I.val (E.bin Op2.add (E.lst (Es.cons (E.cst (D.int 0)) Es.nil)) (E.bi Bi.list (Es.cons (E.rv 2) Es.nil)))) Eo.none) Es.nil)) (Es.cons (E.call i__law_first (Es.cons (E.rv 0) Es.nil)) Es.nil)))
  (Ss.cons (S.for (T.tup [(T.var 6), (T.tup [(T.var 7), (T.var 8)])]) (I.enum (E.sub (E.rv 0) (E.cst (D.int 3)))) l__law_told_1)
  (Ss.cons (S.ret (E.cmp Cm.isin (E.bin Op2.fdiv (E.rv 1) (E.cst (D.int 2))) (E.rv 3)))
  Ss.nil)))
def f__law_told : Fd := { ps := [Md.b, Md.b, Md.b], ns := 9, own := [3], bor := [0, 1, 2], fresh := false, hd := false, body := b__law_told }
def e__law_by_1 : E := (E.ite (E.cmp Cm.eq (E.bin Op2.mod (E.bi Bi.int (Es.cons (E.var 9) Es.nil)) (E.cst (D.int 2))) (E.cst (D.int 0))) (E.sub (E.rv 3) (E.bin Op2.fdiv (E.var 9) (E.cst (D.int 2)))) (E.bin Op2.sub (E.cst (D.int 1)) (E.sub (E.rv 3) (E.bin Op2.fdiv (E.var 9) (E.cst (D.int 2))))))
def l__law_by_2 : Ss := (Ss.cons (S.ifs (E.and (E.cmp Cm.notin (E.bin Op2.add (E.var 4) (E.var 5)) (E.rv 3)) (E.and (E.cmp Cm.isin (E.bin Op2.fdiv (E.var 6) (E.cst (D.int 2))) (E.rv 3)) (E.cmp Cm.isin (E.bin Op2.fdiv (E.var 7) (E.cst (D.int 2))) (E.rv 3)))) (Ss.cons (S.asg (T.var 8) (E.lc [9] e__law_by_1 (T.var 9) (I.val (E.tup (Es.cons (E.var 6) (Es.cons (E.var 7) Es.nil)))) Eo.none))
  (Ss.cons (S.seti 3 (E.bin Op2.add (E.var 4) (E.var 5)) (E.bin Op2.mul (E.sub (E.var 8) (E.cst (D.int 0))) (E.sub (E.var 8) (E.cst (D.int 1)))))
  Ss.nil)) Ss.nil)
  Ss.nil)
def b__law_by : Ss := (Ss.cons (S.par [(3, true), (4, false)] (Es.cons (E.bi Bi.dict1 (Es.cons (E.lof false (I.items (E.rv 2))) Es.nil)) (Es.cons (E.call i__law_first (Es.cons (E.rv 0) Es.nil)) Es.nil)))
  (Ss.cons (S.for (T.tup [(T.var 5), (T.tup [(T.var 6), (T.var 7)])]) (I.enum (E.sub (E.rv 0) (E.cst (D.int 3)))) l__law_by_2)
  (Ss.cons (S.ret (E.ite (E.cmp Cm.eq (E.bin Op2.mod (E.bi Bi.int (Es.cons (E.rv 1) Es.nil)) (E.cst (D.int 2))) (E.cst (D.int 0))) (E.sub (E.rv 3) (E.bin Op2.fdiv (E.rv 1) (E.cst (D.int 2)))) (E.bin Op2.sub (E.cst (D.int 1)) (E.sub (E.rv 3) (E.bin Op2.fdiv (E.rv 1) (E.cst (D.int 2)))))))
  Ss.nil)))
def f__law_by : Fd := { ps := [Md.b, Md.b, Md.b], ns := 10, own := [3], bor := [0, 1, 2], fresh := false, hd := false, body := b__law_by }
def e__law_truth_1 : E := (E.call i__law_by (Es.cons (E.rv 0) (Es.cons (E.rv 1) (Es.cons (E.bi Bi.dict1 (Es.cons (E.bin Op2.add (E.lst (Es.cons (E.tup (Es.cons (E.cst (D.int 0)) (Es.cons (E.cst (D.int 0)) Es.nil))) Es.nil)) (E.lof false (I.zip (E.var 2) (E.var 3)))) Es.nil)) Es.nil))))
def b__law_truth : Ss := (Ss.cons (S.ifs (E.not (E.call i__law_told (Es.cons (E.rv 0) (Es.cons (E.rv 1) (Es.cons (E.var 2) Es.nil))))) (Ss.cons (S.ret (E.cst D.non))
  Ss.nil) Ss.nil)
  (Ss.cons (S.ret (E.bi Bi.tuple (Es.cons (E.lc [3] e__law_truth_1 (T.var 3) (I.val (E.call i__law_all_bits (Es.cons (E.bi Bi.len (Es.cons (E.var 2) Es.nil)) Es.nil))) Eo.none) Es.nil)))
  Ss.nil))
def f__law_truth : Fd := { ps := [Md.b, Md.b, Md.s], ns := 4, own := [], bor := [0, 1], fresh := false, hd := false, body := b__law_truth }
def l__law_within_1 : Ss := (Ss.cons (S.seti 5 (E.bin Op2.fdiv (E.var 7) (E.cst (D.int 2))) (E.cst (D.bl true)))
  Ss.nil)
def l__law_within_2 : Ss := (Ss.cons (S.ifs (E.and (E.cmp Cm.isin (E.bin Op2.add (E.var 4) (E.var 6)) (E.rv 5)) (E.cmp Cm.notin (E.bin Op2.add (E.var 4) (E.var 6)) (E.rv 2))) (Ss.cons (S.expr (E.mm Mm.append 3 (Es.cons (E.var 6) Es.nil)))
  (Ss.cons (S.for (T.var 7) (I.val (E.sub (E.sub (E.rv 0) (E.cst (D.int 3))) (E.var 6))) l__law_within_1)
  Ss.nil)) Ss.nil)
  Ss.nil)
def b__law_within : Ss := (Ss.cons (S.par [(3, true), (4, false), (5, true)] (Es.cons (E.lst Es.nil) (Es.cons (E.call i__law_first (Es.cons (E.rv 0) Es.nil)) (Es.cons (E.dic (Es.cons (E.bin Op2.fdiv (E.rv 1) (E.cst (D.int 2))) (Es.cons (E.cst (D.bl true)) Es.nil))) Es.nil))))
  (Ss.cons (S.for (T.var 6) (I.rng3 (E.bin Op2.sub (E.bi Bi.len (Es.cons (E.sub (E.rv 0) (E.cst (D.int 3))) Es.nil)) (E.cst (D.int 1))) (E.neg (E.cst (D.int 1))) (E.neg (E.cst (D.int 1)))) l__law_within_2)
  (Ss.cons (S.retr 3)
  Ss.nil)))
def f__law_within : Fd := { ps := [Md.b, Md.b, Md.b], ns := 8, own := [3, 5], bor := [0, 1, 2], fresh := true, hd := false, body := b__law_within }
def e__law_right_1 : E := (E.bin Op2.mul (E.sub (E.var 10) (E.var 13)) (E.sub (E.lst (Es.cons (E.cst (D.int 1)) (Es.cons (E.cst (D.int 2)) (Es.cons (E.cst (D.int 4)) (Es.cons (E.cst (D.int 8)) (Es.cons (E.cst (D.int 16)) (Es.cons (E.cst (D.int 32)) Es.nil))))))) (E.var 11)))
def e__law_right_2 : E := (E.call i__law_roll (Es.cons (E.rv 0) (Es.cons (E.cst (D.int 2)) Es.nil)))
def e__law_right_3 : E := (E.call i__law_roll (Es.cons (E.rv 0) (Es.cons (E.cst (D.int 2)) Es.nil)))
def l__law_right_4 : Ss := (Ss.cons (S.asg (T.var 10) (E.call i__law_bits (Es.cons (E.var 1) (Es.cons (E.lc [11] e__law_right_2 (T.var 11) (I.rng1 (E.sub (E.var 1) (E.cst (D.int 0)))) Eo.none) (Es.cons (E.lc [11] e__law_right_3 (T.var 11) (I.rng1 (E.sub (E.var 1) (E.cst (D.int 1)))) Eo.none) Es.nil)))))
  (Ss.cons (S.asg (T.var 12) (E.bi Bi.sum (Es.cons (E.lc [11, 13] e__law_right_1 (T.tup [(T.var 11), (T.var 13)]) (I.enum (E.var 4)) Eo.none) Es.nil)))
  (Ss.cons (S.ifs (E.or (E.cmp Cm.ne (E.sub (E.var 5) (E.var 12)) (E.call i__law_bit (Es.cons (E.var 10) (Es.cons (E.var 2) Es.nil)))) (E.and (E.var 8) (E.cmp Cm.ne (E.call i__law_bit (Es.cons (E.var 10) (Es.cons (E.var 2) Es.nil))) (E.call i__law_bit (Es.cons (E.var 10) (Es.cons (E.var 3) Es.nil)))))) (Ss.cons (S.ret (E.cst (D.bl false)))
  Ss.nil) Ss.nil)
  Ss.nil)))
def e__law_right_5 : E := (E.lam i__law_error (E.cal 7 (Es.cons (E.var 1) (Es.cons (E.var 2) (Es.cons (E.var 4) Es.nil)))))
def b__law_right : Ss := (Ss.cons (S.par [(5, false), (6, false)] (Es.cons (E.call i__law_truth (Es.cons (E.var 1) (Es.cons (E.var 2) (Es.cons (E.var 4) Es.nil)))) (Es.cons (E.call i__law_truth (Es.cons (E.var 1) (Es.cons (E.var 3) (Es.cons (E.var 4) Es.nil)))) Es.nil)))
  (Ss.cons (S.ifs (E.not (E.call i__law_like (Es.cons (E.lst (Es.cons (E.call i_is_told_by (Es.cons (E.var 1) (Es.cons (E.var 2) (Es.cons (E.var 4) Es.nil)))) (Es.cons (E.call i_is_told_by (Es.cons (E.var 1) (Es.cons (E.var 3) (Es.cons (E.var 4) Es.nil)))) Es.nil))) (Es.cons (E.lst (Es.cons (E.cmp Cm.isn (E.var 5) (E.cst D.non)) (Es.cons (E.cmp Cm.isn (E.var 6) (E.cst D.non)) Es.nil))) Es.nil)))) (Ss.cons (S.ret (E.cst (D.bl false)))
  Ss.nil) Ss.nil)
  (Ss.cons (S.ifs (E.cmp Cm.is (E.var 5) (E.cst D.non)) (Ss.cons (S.ret (E.and (E.cmp Cm.eq (E.lc [7] e__law_right_5 (T.var 7) (I.val (E.tup (Es.cons (E.fn i_truth_by) (Es.cons (E.fn i_nodes_within) Es.nil)))) Eo.none) (E.lst (Es.cons (E.cst (D.str ⟨#[102, 111, 117, 110, 100]⟩)) (Es.cons (E.cst (D.str ⟨#[102, 111, 117, 110, 100]⟩)) Es.nil)))) (E.cmp Cm.is (E.call i_are_alike_by (Es.cons (E.var 1) (Es.cons (E.var 2) (Es.cons (E.var 3) (Es.cons (E.var 4) Es.nil))))) (E.cst (D.bl false)))))
  Ss.nil) Ss.nil)
  (Ss.cons (S.ifs (E.not (E.call i__law_like (Es.cons (E.lst (Es.cons (E.call i_truth_by (Es.cons (E.var 1) (Es.cons (E.var 2) (Es.cons (E.var 4) Es.nil)))) (Es.cons (E.call i_nodes_within (Es.cons (E.var 1) (Es.cons (E.var 2) (Es.cons (E.var 4) Es.nil)))) Es.nil))) (Es.cons (E.lst (Es.cons (E.var 5) (Es.cons (E.bi Bi.tuple (Es.cons (E.bi Bi.sorted (Es.cons (E.call i__law_within (Es.cons (E.var 1) (Es.cons (E.var 2) (Es.cons (E.var 4) Es.nil)))) Es.nil)) Es.nil)) Es.nil))) Es.nil)))) (Ss.cons (S.ret (E.cst (D.bl false)))
  Ss.nil) Ss.nil)
  (Ss.cons (S.asg (T.var 8) (E.and (E.cmp Cm.isn (E.var 6) (E.cst D.non)) (E.cmp Cm.eq (E.var 5) (E.var 6))))
  (Ss.cons (S.ifs (E.not (E.call i__law_like (Es.cons (E.lst (Es.cons (E.call i_are_alike_by (Es.cons (E.var 1) (Es.cons (E.var 2) (Es.cons (E.var 3) (Es.cons (E.var 4) Es.nil))))) (Es.cons (E.call i_are_alike_by (Es.cons (E.var 1) (Es.cons (E.var 3) (Es.cons (E.var 2) (Es.cons (E.var 4) Es.nil))))) Es.nil))) (Es.cons (E.lst (Es.cons (E.var 8) (Es.cons (E.var 8) Es.nil))) Es.nil)))) (Ss.cons (S.ret (E.cst (D.bl false)))
  Ss.nil) Ss.nil)
  (Ss.cons (S.for (T.var 9) (I.rng1 (E.cst (D.int 3))) l__law_right_4)
  (Ss.cons (S.ret (E.cst (D.bl true)))
  Ss.nil))))))))
def f__law_right : Fd := { ps := [Md.m, Md.s, Md.s, Md.s, Md.s], ns := 14, own := [0], bor := [], fresh := false, hd := false, body := b__law_right }
def l__law_drawn_frame_1 : Ss := (Ss.cons (S.ifs (E.cmp Cm.ne (E.rv 3) (E.lst Es.nil)) (Ss.cons (S.expr (E.mm Mm.append 4 (Es.cons (E.mm Mm.pop1 3 (Es.cons (E.call i__law_roll (Es.cons (E.rv 0) (Es.cons (E.bi Bi.len (Es.cons (E.rv 3) Es.nil)) Es.nil))) Es.nil)) Es.nil)))
  Ss.nil) Ss.nil)
  Ss.nil)
def b__law_drawn_frame : Ss := (Ss.cons (S.asgr 3 (E.lof false (I.rng2 (E.cst (D.int 1)) (E.bin Op2.add (E.call i__law_first (Es.cons (E.rv 1) Es.nil)) (E.bi Bi.len (Es.cons (E.sub (E.rv 1) (E.cst (D.int 3))) Es.nil))))))
  (Ss.cons (S.asgr 4 (E.lst Es.nil))
  (Ss.cons (S.for (T.var 5) (I.rng1 (E.call i__law_roll (Es.cons (E.rv 0) (Es.cons (E.bin Op2.add (E.rv 2) (E.cst (D.int 1))) Es.nil)))) l__law_drawn_frame_1)
  (Ss.cons (S.ret (E.bi Bi.tuple (Es.cons (E.bi Bi.sorted (Es.cons (E.rv 4) Es.nil)) Es.nil)))
  Ss.nil))))
def f__law_drawn_frame : Fd := { ps := [Md.m, Md.b, Md.b], ns := 6, own := [0, 3, 4], bor := [1, 2], fresh := false, hd := false, body := b__law_drawn_frame }
def e__law_errors_right_1 : E := (E.lam i__law_error (E.cal 3 (Es.cons (E.var 0) (Es.cons (E.cst (D.int 12)) (Es.cons (E.var 2) Es.nil)))))
def l__law_errors_right_2 : Ss := (Ss.cons (S.asgr 1 (E.bin Op2.add (E.rv 1) (E.lc [3] e__law_errors_right_1 (T.var 3) (I.val (E.tup (Es.cons (E.fn i_is_told_by) (Es.cons (E.fn i_truth_by) (Es.cons (E.fn i_nodes_within) Es.nil))))) Eo.none)))
  (Ss.cons (S.expr (E.mm Mm.append 1 (Es.cons (E.lam i__law_error (E.call i_are_alike_by (Es.cons (E.var 0) (Es.cons (E.cst (D.int 12)) (Es.cons (E.cst (D.int 2)) (Es.cons (E.var 2) Es.nil)))))) Es.nil)))
  Ss.nil))
def e__law_errors_right_3 : E := (E.lam i__law_error (E.cal 3 (Es.cons (E.var 0) (Es.cons (E.var 2) (Es.cons (E.cst D.non) Es.nil)))))
def l__law_errors_right_4 : Ss := (Ss.cons (S.asgr 1 (E.bin Op2.add (E.rv 1) (E.lc [3] e__law_errors_right_3 (T.var 3) (I.val (E.tup (Es.cons (E.fn i_is_told_by) (Es.cons (E.fn i_truth_by) (Es.cons (E.fn i_nodes_within) Es.nil))))) Eo.none)))
  (Ss.cons (S.expr (E.mm Mm.append 1 (Es.cons (E.lam i__law_error (E.call i_are_alike_by (Es.cons (E.var 0) (Es.cons (E.var 2) (Es.cons (E.cst D.non) (Es.cons (E.cst D.non) Es.nil)))))) Es.nil)))
  (Ss.cons (S.expr (E.mm Mm.append 1 (Es.cons (E.lam i__law_error (E.call i_are_alike_by (Es.cons (E.var 0) (Es.cons (E.cst (D.int 2)) (Es.cons (E.var 2) (Es.cons (E.cst D.non) Es.nil)))))) Es.nil)))
  Ss.nil)))
def e__law_errors_right_5 : E := (E.lam i__law_error (E.cal 3 (Es.cons (E.var 2) (Es.cons (E.cst D.non) (Es.cons (E.cst D.non) Es.nil)))))
def l__law_errors_right_6 : Ss := (Ss.cons (S.asgr 1 (E.bin Op2.add (E.rv 1) (E.lc [3] e__law_errors_right_5 (T.var 3) (I.val (E.tup (Es.cons (E.fn i_is_told_by) (Es.cons (E.fn i_truth_by) (Es.cons (E.fn i_nodes_within) Es.nil))))) Eo.none)))
  (Ss.cons (S.expr (E.mm Mm.append 1 (Es.cons (E.lam i__law_error (E.call i_are_alike_by (Es.cons (E.var 2) (Es.cons (E.cst D.non) (Es.cons (E.cst D.non) (Es.cons (E.cst D.non) Es.nil)))))) Es.nil)))
  Ss.nil))
def b__law_errors_right : Ss := (Ss.cons (S.par [(0, false), (1, true)] (Es.cons (E.sub (E.call i__law_known Es.nil) (E.cst (D.int 0))) (Es.cons (E.lst Es.nil) Es.nil)))
  (Ss.cons (S.for (T.var 2) (I.val (E.call i__law_odd_gates Es.nil)) l__law_errors_right_6)
  (Ss.cons (S.ifs (E.cmp Cm.ne (E.rv 1) (E.bin Op2.mul (E.bin Op2.mul (E.lst (Es.cons (E.cst (D.str ⟨#[103, 97, 116, 101, 115]⟩)) Es.nil)) (E.cst (D.int 4))) (E.bi Bi.len (Es.cons (E.call i__law_odd_gates Es.nil) Es.nil)))) (Ss.cons (S.ret (E.cst (D.bl false)))
  Ss.nil) Ss.nil)
  (Ss.cons (S.asgr 1 (E.lst Es.nil))
  (Ss.cons (S.for (T.var 2) (I.val (E.tup (Es.cons (E.cst D.non) (Es.cons (E.neg (E.cst (D.int 1))) (Es.cons (E.cst (D.int 20)) (Es.cons (E.cst (D.bl true)) (Es.cons (E.cst (D.str ⟨#[50]⟩)) (Es.cons (E.tup (Es.cons (E.cst (D.int 2)) Es.nil)) Es.nil)))))))) l__law_errors_right_4)
  (Ss.cons (S.ifs (E.cmp Cm.ne (E.rv 1) (E.bin Op2.mul (E.lst (Es.cons (E.cst (D.str ⟨#[101, 100, 103, 101]⟩)) Es.nil)) (E.cst (D.int 30)))) (Ss.cons (S.ret (E.cst (D.bl false)))
  Ss.nil) Ss.nil)
  (Ss.cons (S.asgr 1 (E.lst Es.nil))
  (Ss.cons (S.for (T.var 2) (I.val (E.tup (Es.cons (E.cst D.non) (Es.cons (E.lst (Es.cons (E.cst (D.int 1)) Es.nil)) (Es.cons (E.tup (Es.cons (E.cst (D.int 0)) Es.nil)) (Es.cons (E.tup (Es.cons (E.cst (D.int 10)) Es.nil)) (Es.cons (E.tup (Es.cons (E.cst (D.int 2)) (Es.cons (E.cst (D.int 1)) Es.nil))) (Es.cons (E.tup (Es.cons (E.cst (D.int 1)) (Es.cons (E.cst (D.int 1)) Es.nil))) (Es.cons (E.tup (Es.cons (E.cst (D.bl true)) Es.nil)) (Es.cons (E.tup (Es.cons (E.cst (D.int 1)) (Es.cons (E.cst (D.int 2)) (Es.cons (E.cst (D.int 3)) (Es.cons (E.cst (D.int 4)) (Es.cons (E.cst (D.int 5)) (Es.cons (E.cst (D.int 6)) (Es.cons (E.cst (D.int 7)) Es.nil)))))))) (Es.cons (E.cst (D.str ⟨#[49]⟩)) (Es.cons (E.cst (D.int 1)) Es.nil)))))))))))) l__law_errors_right_2)
  (Ss.cons (S.ret (E.cmp Cm.eq (E.rv 1) (E.bin Op2.mul (E.lst (Es.cons (E.cst (D.str ⟨#[115, 101, 116]⟩)) Es.nil)) (E.cst (D.int 40)))))
  Ss.nil)))))))))
def f__law_errors_right : Fd := { ps := [], ns := 4, own := [1], bor := [], fresh := false, hd := false, body := b__law_errors_right }
def b__law_written_right : Ss := (Ss.cons (S.asg (T.tup [(T.var 0), (T.var 1), (T.var 2), (T.var 3), (T.var 4), (T.var 5), (T.var 6), (T.var 7)]) (E.call i__law_known Es.nil))
  (Ss.cons (S.asg (T.var 8) (E.lst (Es.cons (E.call i_is_told_by (Es.cons (E.var 0) (Es.cons (E.cst (D.int 12)) (Es.cons (E.tup (Es.cons (E.cst (D.int 1)) (Es.cons (E.cst (D.int 2)) Es.nil))) Es.nil)))) (Es.cons (E.call i_is_told_by (Es.cons (E.var 0) (Es.cons (E.cst (D.int 18)) (Es.cons (E.tup (Es.cons (E.cst (D.int 1)) (Es.cons (E.cst (D.int 2)) Es.nil))) Es.nil)))) (Es.cons (E.call i_truth_by (Es.cons (E.var 0) (Es.cons (E.cst (D.int 12)) (Es.cons (E.tup (Es.cons (E.cst (D.int 1)) (Es.cons (E.cst (D.int 2)) Es.nil))) Es.nil)))) (Es.cons (E.call i_truth_by (Es.cons (E.var 0) (Es.cons (E.cst (D.int 18)) (Es.cons (E.tup (Es.cons (E.cst (D.int 3)) (Es.cons (E.cst (D.int 6)) Es.nil))) Es.nil)))) (Es.cons (E.call i_truth_by (Es.cons (E.var 0) (Es.cons (E.cst (D.int 19)) (Es.cons (E.tup (Es.cons (E.cst (D.int 1)) (Es.cons (E.cst (D.int 2)) (Es.cons (E.cst (D.int 3)) Es.nil)))) Es.nil)))) (Es.cons (E.call i_nodes_within (Es.cons (E.var 0) (Es.cons (E.cst (D.int 18)) (Es.cons (E.tup (Es.cons (E.cst (D.int 3)) (Es.cons (E.cst (D.int 6)) Es.nil))) Es.nil)))) (Es.cons (E.call i_nodes_within (Es.cons (E.var 0) (Es.cons (E.cst (D.int 2)) (Es.cons (E.tup (Es.cons (E.cst (D.int 1)) Es.nil)) Es.nil)))) (Es.cons (E.call i_are_alike_by (Es.cons (E.var 1) (Es.cons (E.cst (D.int 8)) (Es.cons (E.cst (D.int 6)) (Es.cons (E.tup (Es.cons (E.cst (D.int 1)) (Es.cons (E.cst (D.int 2)) Es.nil))) Es.nil))))) (Es.cons (E.call i_are_alike_by (Es.cons (E.var 1) (Es.cons (E.cst (D.int 10)) (Es.cons (E.cst (D.int 0)) (Es.cons (E.tup (Es.cons (E.cst (D.int 1)) (Es.cons (E.cst (D.int 3)) Es.nil))) Es.nil))))) (Es.cons (E.call i_truth_by (Es.cons (E.var 0) (Es.cons (E.cst (D.int 1)) (Es.cons (E.tup Es.nil) Es.nil)))) Es.nil))))))))))))
  (Ss.cons (S.asg (T.var 9) (E.lst (Es.cons (E.cst (D.bl true)) (Es.cons (E.cst (D.bl false)) (Es.cons (E.tup (Es.cons (E.cst (D.int 0)) (Es.cons (E.cst (D.int 1)) (Es.cons (E.cst (D.int 1)) (Es.cons (E.cst (D.int 0)) Es.nil))))) (Es.cons (E.tup (Es.cons (E.cst (D.int 0)) (Es.cons (E.cst (D.int 1)) (Es.cons (E.cst (D.int 1)) (Es.cons (E.cst (D.int 0)) Es.nil))))) (Es.cons (E.tup (Es.cons (E.cst (D.int 1)) (Es.cons (E.cst (D.int 0)) (Es.cons (E.cst (D.int 0)) (Es.cons (E.cst (D.int 1)) (Es.cons (E.cst (D.int 0)) (Es.cons (E.cst (D.int 1)) (Es.cons (E.cst (D.int 1)) (Es.cons (E.cst (D.int 0)) Es.nil))))))))) (Es.cons (E.tup (Es.cons (E.cst (D.int 3)) (Es.cons (E.cst (D.int 4)) (Es.cons (E.cst (D.int 5)) Es.nil)))) (Es.cons (E.tup Es.nil) (Es.cons (E.cst (D.bl true)) (Es.cons (E.cst (D.bl false)) (Es.cons (E.tup (Es.cons (E.cst (D.int 1)) Es.nil)) Es.nil))))))))))))
  (Ss.cons (S.asg (T.var 9) (E.bin Op2.add (E.var 9) (E.lst (Es.cons (E.cst (D.bl false)) (Es.cons (E.cst (D.bl true)) (Es.cons (E.cst (D.bl true)) (Es.cons (E.cst (D.bl false)) (Es.cons (E.cst (D.int 0)) (Es.cons (E.tup (Es.cons (E.cst (D.int 0)) (Es.cons (E.cst (D.int 0)) (Es.cons (E.cst (D.int 0)) (Es.cons (E.cst (D.int 0)) Es.nil))))) (Es.cons (E.tup (Es.cons (E.cst (D.int 0)) (Es.cons (E.cst (D.int 0)) (Es.cons (E.cst (D.int 1)) (Es.cons (E.cst (D.int 1)) Es.nil))))) (Es.cons (E.tup (Es.cons (E.cst (D.int 1)) (Es.cons (E.cst (D.int 2)) Es.nil))) Es.nil)))))))))))
  (Ss.cons (S.asg (T.var 10) (E.lst (Es.cons (E.call i_are_alike_by (Es.cons (E.var 0) (Es.cons (E.cst (D.int 2)) (Es.cons (E.cst (D.int 4)) (Es.cons (E.tup (Es.cons (E.cst (D.int 1)) (Es.cons (E.cst (D.int 2)) Es.nil))) Es.nil))))) (Es.cons (E.call i_are_alike_by (Es.cons (E.var 1) (Es.cons (E.cst (D.int 10)) (Es.cons (E.cst (D.int 0)) (Es.cons (E.tup (Es.cons (E.cst (D.int 1)) (Es.cons (E.cst (D.int 2)) Es.nil))) Es.nil))))) (Es.cons (E.call i_is_told_by (Es.cons (E.var 0) (Es.cons (E.cst (D.int 18)) (Es.cons (E.tup (Es.cons (E.cst (D.int 7)) (Es.cons (E.cst (D.int 8)) Es.nil))) Es.nil)))) (Es.cons (E.call i_is_told_by (Es.cons (E.var 0) (Es.cons (E.cst (D.int 18)) (Es.cons (E.tup (Es.cons (E.cst (D.int 3)) (Es.cons (E.cst (D.int 4)) Es.nil))) Es.nil)))) (Es.cons (E.sub (E.call i_truth_by (Es.cons (E.var 2) (Es.cons (E.cst (D.int 15)) (Es.cons (E.tup (Es.cons (E.cst (D.int 1)) (Es.cons (E.cst (D.int 2)) (Es.cons (E.cst (D.int 3)) (Es.cons (E.cst (D.int 4)) Es.nil))))) Es.nil)))) (E.cst (D.int 15))) (Es.cons (E.call i_truth_by (Es.cons (E.var 5) (Es.cons (E.cst (D.int 14)) (Es.cons (E.tup (Es.cons (E.cst (D.int 1)) (Es.cons (E.cst (D.int 2)) Es.nil))) Es.nil)))) (Es.cons (E.call i_truth_by (Es.cons (E.var 0) (Es.cons (E.cst (D.int 8)) (Es.cons (E.tup (Es.cons (E.cst (D.int 1)) (Es.cons (E.cst (D.int 4)) Es.nil))) Es.nil)))) (Es.cons (E.call i_nodes_within (Es.cons (E.var 2) (Es.cons (E.cst (D.int 14)) (Es.cons (E.tup (Es.cons (E.cst (D.int 3)) (Es.cons (E.cst (D.int 4)) (Es.cons (E.cst (D.int 5)) Es.nil)))) Es.nil)))) Es.nil))))))))))
  (Ss.cons (S.ret (E.call i__law_like (Es.cons (E.bin Op2.add (E.var 8) (E.var 10)) (Es.cons (E.var 9) Es.nil))))
  Ss.nil))))))
def f__law_written_right : Fd := { ps := [], ns := 11, own := [], bor := [], fresh := false, hd := false, body := b__law_written_right }
def e_law_1 : E := (E.var 6)
def c_law_1 : Eo := (Eo.some (E.not (E.call i__law_right (Es.cons (E.rv 1) (Es.cons (E.var 3) (Es.cons (E.var 6) (Es.cons (E.call i__law_roll (Es.cons (E.rv 1) (Es.cons (E.bin Op2.mul (E.cst (D.int 2)) (E.var 4)) Es.nil))) (Es.cons (E.call i__law_drawn_frame (Es.cons (E.rv 1) (Es.cons (E.var 3) (Es.cons (E.cst (D.int 3)) Es.nil)))) Es.nil))))))))
def l_law_2 : Ss := (Ss.cons (S.asg (T.var 4) (E.bin Op2.add (E.call i__law_first (Es.cons (E.var 3) Es.nil)) (E.bi Bi.len (Es.cons (E.sub (E.var 3) (E.cst (D.int 3))) Es.nil))))
  (Ss.cons (S.ifs (E.cmp Cm.ne (E.lc [6] e_law_1 (T.var 6) (I.rng1 (E.bin Op2.mul (E.cst (D.int 2)) (E.var 4))) c_law_1) (E.lst Es.nil)) (Ss.cons (S.ret (E.cst (D.bl false)))
  Ss.nil) Ss.nil)
  Ss.nil))
def l_law_3 : Ss := (Ss.cons (S.par [(6, false), (7, false)] (Es.cons (E.call i__law_roll (Es.cons (E.rv 1) (Es.cons (E.bin Op2.mul (E.cst (D.int 2)) (E.var 4)) Es.nil))) (Es.cons (E.call i__law_roll (Es.cons (E.rv 1) (Es.cons (E.bin Op2.mul (E.cst (D.int 2)) (E.var 4)) Es.nil))) Es.nil)))
  (Ss.cons (S.ifs (E.not (E.call i__law_right (Es.cons (E.rv 1) (Es.cons (E.var 3) (Es.cons (E.var 6) (Es.cons (E.var 7) (Es.cons (E.call i__law_drawn_frame (Es.cons (E.rv 1) (Es.cons (E.var 3) (Es.cons (E.cst (D.int 4)) Es.nil)))) Es.nil))))))) (Ss.cons (S.ret (E.cst (D.bl false)))
  Ss.nil) Ss.nil)
  (Ss.cons (S.ifs (E.not (E.call i__law_right (Es.cons (E.rv 1) (Es.cons (E.var 3) (Es.cons (E.var 6) (Es.cons (E.var 7) (Es.cons (E.lof true (I.rng2 (E.cst (D.int 1)) (E.call i__law_first (Es.cons (E.var 3) Es.nil)))) Es.nil))))))) (Ss.cons (S.ret (E.cst (D.bl false)))
  Ss.nil) Ss.nil)
  Ss.nil)))
def l_law_4 : Ss := (Ss.cons (S.asg (T.var 3) (E.call i__law_gates (Es.cons (E.rv 1) (Es.cons (E.cst (D.int 4)) (Es.cons (E.cst (D.int 2)) (Es.cons (E.cst (D.int 10)) Es.nil))))))
  (Ss.cons (S.asg (T.var 4) (E.bin Op2.add (E.call i__law_first (Es.cons (E.var 3) Es.nil)) (E.bi Bi.len (Es.cons (E.sub (E.var 3) (E.cst (D.int 3))) Es.nil))))
  (Ss.cons (S.for (T.var 5) (I.rng1 (E.cst (D.int 3))) l_law_3)
  Ss.nil)))
def b_law : Ss := (Ss.cons (S.asgr 1 (E.call i__law_cup (Es.cons (E.rv 0) Es.nil)))
  (Ss.cons (S.for (T.var 2) (I.rng1 (E.cst (D.int 10))) l_law_4)
  (Ss.cons (S.for (T.var 3) (I.val (E.call i__law_known Es.nil)) l_law_2)
  (Ss.cons (S.ret (E.and (E.call i__law_errors_right Es.nil) (E.call i__law_written_right Es.nil)))
  Ss.nil))))
def f_law : Fd := { ps := [Md.b], ns := 8, own := [1], bor := [0], fresh := false, hd := false, body := b_law }
def tb : List Fd := [f_is_whole, f_is_tuple_of, f_is_ascending, f_are_bits, f_is_node, f_is_gates, f_need_gates, f_first_node, f_things_in, f_need_edge, f_fits_frame, f_need_frame, f_inner_in, f_wide_bit, f_rows_of, f_sign_bits, f_truth_in, f_alike_in, f_need_all, f_is_told_by, f_truth_by, f_nodes_within, f_are_alike_by, f__law_cup, f__law_roll, f__law_sort, f__law_like, f__law_turned, f__law_first, f__law_bit, f__law_bits, f__law_all_bits, f__law_gates, f__law_thing, f__law_known, f__law_odd_gates, f__law_error, f__law_told, f__law_by, f__law_truth, f__law_within, f__law_right, f__law_drawn_frame, f__law_errors_right, f__law_written_right, f_law]
def anc : List (List Nat) := [[0], [1, 0], [2, 0], [3, 0], [4, 0], [5, 0], [6, 0], [7, 0], [8, 0], [9, 0], [10, 0], [11, 0]]
def sub (a b : Nat) : Bool := (anc.getD a (anc.headD [])).contains b
@[simp] theorem tb_is_whole : tb[i_is_whole]? = some f_is_whole := rfl
@[simp] theorem ps_is_whole : f_is_whole.ps = [Md.s, Md.b, Md.b] := rfl
@[simp] theorem own_is_whole : f_is_whole.own = [] := rfl
@[simp] theorem fro_is_whole : frOf tb i_is_whole = false := rfl
@[simp] theorem fr_is_whole : f_is_whole.fresh = false := rfl
theorem call_is_whole {n : Nat} {a0 a1 a2 : D} : Fs tb sub (n + 1) i_is_whole [a0, a1, a2] = finish f_is_whole (exs b_is_whole (LV tb sub n f_is_whole) [some a0, some a1, some a2]) := call_eq (fd := f_is_whole) rfl rfl
@[simp] theorem tb_is_tuple_of : tb[i_is_tuple_of]? = some f_is_tuple_of := rfl
@[simp] theorem ps_is_tuple_of : f_is_tuple_of.ps = [Md.b, Md.b, Md.b] := rfl
@[simp] theorem own_is_tuple_of : f_is_tuple_of.own = [] := rfl
@[simp] theorem fro_is_tuple_of : frOf tb i_is_tuple_of = false := rfl
@[simp] theorem fr_is_tuple_of : f_is_tuple_of.fresh = false := rfl
theorem call_is_tuple_of {n : Nat} {a0 a1 a2 : D} : Fs tb sub (n + 1) i_is_tuple_of [a0, a1, a2] = finish f_is_tuple_of (exs b_is_tuple_of (LV tb sub n f_is_tuple_of) [some a0, some a1, some a2]) := call_eq (fd := f_is_tuple_of) rfl rfl
@[simp] theorem tb_is_ascending : tb[i_is_ascending]? = some f_is_ascending := rfl
@[simp] theorem ps_is_ascending : f_is_ascending.ps = [Md.s] := rfl
@[simp] theorem own_is_ascending : f_is_ascending.own = [] := rfl
@[simp] theorem fro_is_ascending : frOf tb i_is_ascending = false := rfl
@[simp] theorem fr_is_ascending : f_is_ascending.fresh = false := rfl
theorem call_is_ascending {n : Nat} {a0 : D} : Fs tb sub (n + 1) i_is_ascending [a0] = finish f_is_ascending (exs b_is_ascending (LV tb sub n f_is_ascending) [some a0, none, none]) := call_eq (fd := f_is_ascending) rfl rfl
@[simp] theorem tb_are_bits : tb[i_are_bits]? = some f_are_bits := rfl
@[simp] theorem ps_are_bits : f_are_bits.ps = [Md.s, Md.b] := rfl
@[simp] theorem own_are_bits : f_are_bits.own = [] := rfl
@[simp] theorem fro_are_bits : frOf tb i_are_bits = false := rfl
@[simp] theorem fr_are_bits : f_are_bits.fresh = false := rfl
theorem call_are_bits {n : Nat} {a0 a1 : D} : Fs tb sub (n + 1) i_are_bits [a0, a1] = finish f_are_bits (exs b_are_bits (LV tb sub n f_are_bits) [some a0, some a1, none]) := call_eq (fd := f_are_bits) rfl rfl
@[simp] theorem tb_is_node : tb[i_is_node]? = some f_is_node := rfl
@[simp] theorem ps_is_node : f_is_node.ps = [Md.b, Md.b] := rfl
@[simp] theorem own_is_node : f_is_node.own = [] := rfl
@[simp] theorem fro_is_node : frOf tb i_is_node = false := rfl
@[simp] theorem fr_is_node : f_is_node.fresh = false := rfl
theorem call_is_node {n : Nat} {a0 a1 : D} : Fs tb sub (n + 1) i_is_node [a0, a1] = finish f_is_node (exs b_is_node (LV tb sub n f_is_node) [some a0, some a1]) := call_eq (fd := f_is_node) rfl rfl
@[simp] theorem tb_is_gates : tb[i_is_gates]? = some f_is_gates := rfl
@[simp] theorem ps_is_gates : f_is_gates.ps = [Md.s] := rfl
@[simp] theorem own_is_gates : f_is_gates.own = [] := rfl
@[simp] theorem fro_is_gates : frOf tb i_is_gates = false := rfl
@[simp] theorem fr_is_gates : f_is_gates.fresh = false := rfl
theorem call_is_gates {n : Nat} {a0 : D} : Fs tb sub (n + 1) i_is_gates [a0] = finish f_is_gates (exs b_is_gates (LV tb sub n f_is_gates) [some a0, none, none, none, none, none, none, none, none, none, none]) := call_eq (fd := f_is_gates) rfl rfl
@[simp] theorem tb_need_gates : tb[i_need_gates]? = some f_need_gates := rfl
@[simp] theorem ps_need_gates : f_need_gates.ps = [Md.s] := rfl
@[simp] theorem own_need_gates : f_need_gates.own = [] := rfl
@[simp] theorem fro_need_gates : frOf tb i_need_gates = false := rfl
@[simp] theorem fr_need_gates : f_need_gates.fresh = false := rfl
theorem call_need_gates {n : Nat} {a0 : D} : Fs tb sub (n + 1) i_need_gates [a0] = finish f_need_gates (exs b_need_gates (LV tb sub n f_need_gates) [some a0]) := call_eq (fd := f_need_gates) rfl rfl
@[simp] theorem tb_first_node : tb[i_first_node]? = some f_first_node := rfl
@[simp] theorem ps_first_node : f_first_node.ps = [Md.b] := rfl
@[simp] theorem own_first_node : f_first_node.own = [] := rfl
@[simp] theorem fro_first_node : frOf tb i_first_node = true := rfl
@[simp] theorem fr_first_node : f_first_node.fresh = true := rfl
theorem call_first_node {n : Nat} {a0 : D} : Fs tb sub (n + 1) i_first_node [a0] = finish f_first_node (exs b_first_node (LV tb sub n f_first_node) [some a0]) := call_eq (fd := f_first_node) rfl rfl
@[simp] theorem tb_things_in : tb[i_things_in]? = some f_things_in := rfl
@[simp] theorem ps_things_in : f_things_in.ps = [Md.b] := rfl
@[simp] theorem own_things_in : f_things_in.own = [] := rfl
@[simp] theorem fro_things_in : frOf tb i_things_in = true := rfl
@[simp] theorem fr_things_in : f_things_in.fresh = true := rfl
theorem call_things_in {n : Nat} {a0 : D} : Fs tb sub (n + 1) i_things_in [a0] = finish f_things_in (exs b_things_in (LV tb sub n f_things_in) [some a0]) := call_eq (fd := f_things_in) rfl rfl
@[simp] theorem tb_need_edge : tb[i_need_edge]? = some f_need_edge := rfl
@[simp] theorem ps_need_edge : f_need_edge.ps = [Md.b, Md.s] := rfl
@[simp] theorem own_need_edge : f_need_edge.own = [] := rfl
@[simp] theorem fro_need_edge : frOf tb i_need_edge = false := rfl
@[simp] theorem fr_need_edge : f_need_edge.fresh = false := rfl
theorem call_need_edge {n : Nat} {a0 a1 : D} : Fs tb sub (n + 1) i_need_edge [a0, a1] = finish f_need_edge (exs b_need_edge (LV tb sub n f_need_edge) [some a0, some a1]) := call_eq (fd := f_need_edge) rfl rfl
@[simp] theorem tb_fits_frame : tb[i_fits_frame]? = some f_fits_frame := rfl
@[simp] theorem ps_fits_frame : f_fits_frame.ps = [Md.b, Md.s] := rfl
@[simp] theorem own_fits_frame : f_fits_frame.own = [] := rfl
@[simp] theorem fro_fits_frame : frOf tb i_fits_frame = false := rfl
@[simp] theorem fr_fits_frame : f_fits_frame.fresh = false := rfl
theorem call_fits_frame {n : Nat} {a0 a1 : D} : Fs tb sub (n + 1) i_fits_frame [a0, a1] = finish f_fits_frame (exs b_fits_frame (LV tb sub n f_fits_frame) [some a0, some a1, none]) := call_eq (fd := f_fits_frame) rfl rfl
@[simp] theorem tb_need_frame : tb[i_need_frame]? = some f_need_frame := rfl
@[simp] theorem ps_need_frame : f_need_frame.ps = [Md.b, Md.s] := rfl
@[simp] theorem own_need_frame : f_need_frame.own = [] := rfl
@[simp] theorem fro_need_frame : frOf tb i_need_frame = false := rfl
@[simp] theorem fr_need_frame : f_need_frame.fresh = false := rfl
theorem call_need_frame {n : Nat} {a0 a1 : D} : Fs tb sub (n + 1) i_need_frame [a0, a1] = finish f_need_frame (exs b_need_frame (LV tb sub n f_need_frame) [some a0, some a1]) := call_eq (fd := f_need_frame) rfl rfl
@[simp] theorem tb_inner_in : tb[i_inner_in]? = some f_inner_in := rfl
@[simp] theorem ps_inner_in : f_inner_in.ps = [Md.b, Md.b, Md.b] := rfl
@[simp] theorem own_inner_in : f_inner_in.own = [4, 5] := rfl
@[simp] theorem fro_inner_in : frOf tb i_inner_in = false := rfl
@[simp] theorem fr_inner_in : f_inner_in.fresh = false := rfl
theorem call_inner_in {n : Nat} {a0 a1 a2 : D} : Fs tb sub (n + 1) i_inner_in [a0, a1, a2] = finish f_inner_in (exs b_inner_in (LV tb sub n f_inner_in) [some a0, some a1, some a2, none, none, none, none, none]) := call_eq (fd := f_inner_in) rfl rfl
@[simp] theorem tb_wide_bit : tb[i_wide_bit]? = some f_wide_bit := rfl
@[simp] theorem ps_wide_bit : f_wide_bit.ps = [Md.b, Md.b, Md.b] := rfl
@[simp] theorem own_wide_bit : f_wide_bit.own = [] := rfl
@[simp] theorem fro_wide_bit : frOf tb i_wide_bit = false := rfl
@[simp] theorem fr_wide_bit : f_wide_bit.fresh = false := rfl
theorem call_wide_bit {n : Nat} {a0 a1 a2 : D} : Fs tb sub (n + 1) i_wide_bit [a0, a1, a2] = finish f_wide_bit (exs b_wide_bit (LV tb sub n f_wide_bit) [some a0, some a1, some a2]) := call_eq (fd := f_wide_bit) rfl rfl
@[simp] theorem tb_rows_of : tb[i_rows_of]? = some f_rows_of := rfl
@[simp] theorem ps_rows_of : f_rows_of.ps = [Md.b] := rfl
@[simp] theorem own_rows_of : f_rows_of.own = [] := rfl
@[simp] theorem fro_rows_of : frOf tb i_rows_of = true := rfl
@[simp] theorem fr_rows_of : f_rows_of.fresh = true := rfl
theorem call_rows_of {n : Nat} {a0 : D} : Fs tb sub (n + 1) i_rows_of [a0] = finish f_rows_of (exs b_rows_of (LV tb sub n f_rows_of) [some a0]) := call_eq (fd := f_rows_of) rfl rfl
@[simp] theorem tb_sign_bits : tb[i_sign_bits]? = some f_sign_bits := rfl
@[simp] theorem ps_sign_bits : f_sign_bits.ps = [Md.b, Md.b] := rfl
@[simp] theorem own_sign_bits : f_sign_bits.own = [] := rfl
@[simp] theorem fro_sign_bits : frOf tb i_sign_bits = false := rfl
@[simp] theorem fr_sign_bits : f_sign_bits.fresh = false := rfl
theorem call_sign_bits {n : Nat} {a0 a1 : D} : Fs tb sub (n + 1) i_sign_bits [a0, a1] = finish f_sign_bits (exs b_sign_bits (LV tb sub n f_sign_bits) [some a0, some a1, none]) := call_eq (fd := f_sign_bits) rfl rfl
@[simp] theorem tb_truth_in : tb[i_truth_in]? = some f_truth_in := rfl
@[simp] theorem ps_truth_in : f_truth_in.ps = [Md.b, Md.b, Md.s] := rfl
@[simp] theorem own_truth_in : f_truth_in.own = [7] := rfl
@[simp] theorem fro_truth_in : frOf tb i_truth_in = false := rfl
@[simp] theorem fr_truth_in : f_truth_in.fresh = false := rfl
theorem call_truth_in {n : Nat} {a0 a1 a2 : D} : Fs tb sub (n + 1) i_truth_in [a0, a1, a2] = finish f_truth_in (exs b_truth_in (LV tb sub n f_truth_in) [some a0, some a1, some a2, none, none, none, none, none, none, none, none, none, none, none, none]) := call_eq (fd := f_truth_in) rfl rfl
@[simp] theorem tb_alike_in : tb[i_alike_in]? = some f_alike_in := rfl
@[simp] theorem ps_alike_in : f_alike_in.ps = [Md.b, Md.b, Md.b, Md.s] := rfl
@[simp] theorem own_alike_in : f_alike_in.own = [] := rfl
@[simp] theorem fro_alike_in : frOf tb i_alike_in = false := rfl
@[simp] theorem fr_alike_in : f_alike_in.fresh = false := rfl
theorem call_alike_in {n : Nat} {a0 a1 a2 a3 : D} : Fs tb sub (n + 1) i_alike_in [a0, a1, a2, a3] = finish f_alike_in (exs b_alike_in (LV tb sub n f_alike_in) [some a0, some a1, some a2, some a3, none]) := call_eq (fd := f_alike_in) rfl rfl
@[simp] theorem tb_need_all : tb[i_need_all]? = some f_need_all := rfl
@[simp] theorem ps_need_all : f_need_all.ps = [Md.s, Md.s, Md.s] := rfl
@[simp] theorem own_need_all : f_need_all.own = [] := rfl
@[simp] theorem fro_need_all : frOf tb i_need_all = false := rfl
@[simp] theorem fr_need_all : f_need_all.fresh = false := rfl
theorem call_need_all {n : Nat} {a0 a1 a2 : D} : Fs tb sub (n + 1) i_need_all [a0, a1, a2] = finish f_need_all (exs b_need_all (LV tb sub n f_need_all) [some a0, some a1, some a2]) := call_eq (fd := f_need_all) rfl rfl
@[simp] theorem tb_is_told_by : tb[i_is_told_by]? = some f_is_told_by := rfl
@[simp] theorem ps_is_told_by : f_is_told_by.ps = [Md.s, Md.s, Md.s] := rfl
@[simp] theorem own_is_told_by : f_is_told_by.own = [] := rfl
@[simp] theorem fro_is_told_by : frOf tb i_is_told_by = false := rfl
@[simp] theorem fr_is_told_by : f_is_told_by.fresh = false := rfl
theorem call_is_told_by {n : Nat} {a0 a1 a2 : D} : Fs tb sub (n + 1) i_is_told_by [a0, a1, a2] = finish f_is_told_by (exs b_is_told_by (LV tb sub n f_is_told_by) [some a0, some a1, some a2]) := call_eq (fd := f_is_told_by) rfl rfl
@[simp] theorem tb_truth_by : tb[i_truth_by]? = some f_truth_by := rfl
@[simp] theorem ps_truth_by : f_truth_by.ps = [Md.s, Md.s, Md.s] := rfl
@[simp] theorem own_truth_by : f_truth_by.own = [] := rfl
@[simp] theorem fro_truth_by : frOf tb i_truth_by = false := rfl
@[simp] theorem fr_truth_by : f_truth_by.fresh = false := rfl
theorem call_truth_by {n : Nat} {a0 a1 a2 : D} : Fs tb sub (n + 1) i_truth_by [a0, a1, a2] = finish f_truth_by (exs b_truth_by (LV tb sub n f_truth_by) [some a0, some a1, some a2, none]) := call_eq (fd := f_truth_by) rfl rfl
@[simp] theorem tb_nodes_within : tb[i_nodes_within]? = some f_nodes_within := rfl
@[simp] theorem ps_nodes_within : f_nodes_within.ps = [Md.s, Md.s, Md.s] := rfl
@[simp] theorem own_nodes_within : f_nodes_within.own = [] := rfl
@[simp] theorem fro_nodes_within : frOf tb i_nodes_within = false := rfl
@[simp] theorem fr_nodes_within : f_nodes_within.fresh = false := rfl
theorem call_nodes_within {n : Nat} {a0 a1 a2 : D} : Fs tb sub (n + 1) i_nodes_within [a0, a1, a2] = finish f_nodes_within (exs b_nodes_within (LV tb sub n f_nodes_within) [some a0, some a1, some a2, none]) := call_eq (fd := f_nodes_within) rfl rfl
@[simp] theorem tb_are_alike_by : tb[i_are_alike_by]? = some f_are_alike_by := rfl
@[simp] theorem ps_are_alike_by : f_are_alike_by.ps = [Md.s, Md.s, Md.s, Md.s] := rfl
@[simp] theorem own_are_alike_by : f_are_alike_by.own = [] := rfl
@[simp] theorem fro_are_alike_by : frOf tb i_are_alike_by = false := rfl
@[simp] theorem fr_are_alike_by : f_are_alike_by.fresh = false := rfl
theorem call_are_alike_by {n : Nat} {a0 a1 a2 a3 : D} : Fs tb sub (n + 1) i_are_alike_by [a0, a1, a2, a3] = finish f_are_alike_by (exs b_are_alike_by (LV tb sub n f_are_alike_by) [some a0, some a1, some a2, some a3]) := call_eq (fd := f_are_alike_by) rfl rfl
@[simp] theorem tb__law_cup : tb[i__law_cup]? = some f__law_cup := rfl
@[simp] theorem ps__law_cup : f__law_cup.ps = [Md.b] := rfl
@[simp] theorem own__law_cup : f__law_cup.own = [] := rfl
@[simp] theorem fro__law_cup : frOf tb i__law_cup = true := rfl
@[simp] theorem fr__law_cup : f__law_cup.fresh = true := rfl
theorem call__law_cup {n : Nat} {a0 : D} : Fs tb sub (n + 1) i__law_cup [a0] = finish f__law_cup (exs b__law_cup (LV tb sub n f__law_cup) [some a0, none]) := call_eq (fd := f__law_cup) rfl rfl
@[simp] theorem tb__law_roll : tb[i__law_roll]? = some f__law_roll := rfl
@[simp] theorem ps__law_roll : f__law_roll.ps = [Md.m, Md.b] := rfl
@[simp] theorem own__law_roll : f__law_roll.own = [0] := rfl
@[simp] theorem fro__law_roll : frOf tb i__law_roll = false := rfl
@[simp] theorem fr__law_roll : f__law_roll.fresh = false := rfl
theorem call__law_roll {n : Nat} {a0 a1 : D} : Fs tb sub (n + 1) i__law_roll [a0, a1] = finish f__law_roll (exs b__law_roll (LV tb sub n f__law_roll) [some a0, some a1, none]) := call_eq (fd := f__law_roll) rfl rfl
@[simp] theorem tb__law_sort : tb[i__law_sort]? = some f__law_sort := rfl
@[simp] theorem ps__law_sort : f__law_sort.ps = [Md.b] := rfl
@[simp] theorem own__law_sort : f__law_sort.own = [] := rfl
@[simp] theorem fro__law_sort : frOf tb i__law_sort = false := rfl
@[simp] theorem fr__law_sort : f__law_sort.fresh = false := rfl
theorem call__law_sort {n : Nat} {a0 : D} : Fs tb sub (n + 1) i__law_sort [a0] = finish f__law_sort (exs b__law_sort (LV tb sub n f__law_sort) [some a0]) := call_eq (fd := f__law_sort) rfl rfl
@[simp] theorem tb__law_like : tb[i__law_like]? = some f__law_like := rfl
@[simp] theorem ps__law_like : f__law_like.ps = [Md.s, Md.s] := rfl
@[simp] theorem own__law_like : f__law_like.own = [] := rfl
@[simp] theorem fro__law_like : frOf tb i__law_like = false := rfl
@[simp] theorem fr__law_like : f__law_like.fresh = false := rfl
theorem call__law_like {n : Nat} {a0 a1 : D} : Fs tb sub (n + 1) i__law_like [a0, a1] = finish f__law_like (exs b__law_like (LV tb sub n f__law_like) [some a0, some a1, none, none, none]) := call_eq (fd := f__law_like) rfl rfl
@[simp] theorem tb__law_turned : tb[i__law_turned]? = some f__law_turned := rfl
@[simp] theorem ps__law_turned : f__law_turned.ps = [Md.b] := rfl
@[simp] theorem own__law_turned : f__law_turned.own = [] := rfl
@[simp] theorem fro__law_turned : frOf tb i__law_turned = true := rfl
@[simp] theorem fr__law_turned : f__law_turned.fresh = true := rfl
theorem call__law_turned {n : Nat} {a0 : D} : Fs tb sub (n + 1) i__law_turned [a0] = finish f__law_turned (exs b__law_turned (LV tb sub n f__law_turned) [some a0]) := call_eq (fd := f__law_turned) rfl rfl
@[simp] theorem tb__law_first : tb[i__law_first]? = some f__law_first := rfl
@[simp] theorem ps__law_first : f__law_first.ps = [Md.b] := rfl
@[simp] theorem own__law_first : f__law_first.own = [] := rfl
@[simp] theorem fro__law_first : frOf tb i__law_first = true := rfl
@[simp] theorem fr__law_first : f__law_first.fresh = true := rfl
theorem call__law_first {n : Nat} {a0 : D} : Fs tb sub (n + 1) i__law_first [a0] = finish f__law_first (exs b__law_first (LV tb sub n f__law_first) [some a0]) := call_eq (fd := f__law_first) rfl rfl
@[simp] theorem tb__law_bit : tb[i__law_bit]? = some f__law_bit := rfl
@[simp] theorem ps__law_bit : f__law_bit.ps = [Md.b, Md.b] := rfl
@[simp] theorem own__law_bit : f__law_bit.own = [] := rfl
@[simp] theorem fro__law_bit : frOf tb i__law_bit = false := rfl
@[simp] theorem fr__law_bit : f__law_bit.fresh = false := rfl
theorem call__law_bit {n : Nat} {a0 a1 : D} : Fs tb sub (n + 1) i__law_bit [a0, a1] = finish f__law_bit (exs b__law_bit (LV tb sub n f__law_bit) [some a0, some a1]) := call_eq (fd := f__law_bit) rfl rfl
@[simp] theorem tb__law_bits : tb[i__law_bits]? = some f__law_bits := rfl
@[simp] theorem ps__law_bits : f__law_bits.ps = [Md.b, Md.b, Md.b] := rfl
@[simp] theorem own__law_bits : f__law_bits.own = [3] := rfl
@[simp] theorem fro__law_bits : frOf tb i__law_bits = true := rfl
@[simp] theorem fr__law_bits : f__law_bits.fresh = true := rfl
theorem call__law_bits {n : Nat} {a0 a1 a2 : D} : Fs tb sub (n + 1) i__law_bits [a0, a1, a2] = finish f__law_bits (exs b__law_bits (LV tb sub n f__law_bits) [some a0, some a1, some a2, none, none, none]) := call_eq (fd := f__law_bits) rfl rfl
@[simp] theorem tb__law_all_bits : tb[i__law_all_bits]? = some f__law_all_bits := rfl
@[simp] theorem ps__law_all_bits : f__law_all_bits.ps = [Md.s] := rfl
@[simp] theorem own__law_all_bits : f__law_all_bits.own = [] := rfl
@[simp] theorem fro__law_all_bits : frOf tb i__law_all_bits = false := rfl
@[simp] theorem fr__law_all_bits : f__law_all_bits.fresh = false := rfl
theorem call__law_all_bits {n : Nat} {a0 : D} : Fs tb sub (n + 1) i__law_all_bits [a0] = finish f__law_all_bits (exs b__law_all_bits (LV tb sub n f__law_all_bits) [some a0, none, none, none]) := call_eq (fd := f__law_all_bits) rfl rfl
@[simp] theorem tb__law_gates : tb[i__law_gates]? = some f__law_gates := rfl
@[simp] theorem ps__law_gates : f__law_gates.ps = [Md.m, Md.s, Md.s, Md.b] := rfl
@[simp] theorem own__law_gates : f__law_gates.own = [0, 4, 7] := rfl
@[simp] theorem fro__law_gates : frOf tb i__law_gates = false := rfl
@[simp] theorem fr__law_gates : f__law_gates.fresh = false := rfl
theorem call__law_gates {n : Nat} {a0 a1 a2 a3 : D} : Fs tb sub (n + 1) i__law_gates [a0, a1, a2, a3] = finish f__law_gates (exs b__law_gates (LV tb sub n f__law_gates) [some a0, some a1, some a2, some a3, none, none, none, none, none, none, none, none]) := call_eq (fd := f__law_gates) rfl rfl
@[simp] theorem tb__law_thing : tb[i__law_thing]? = some f__law_thing := rfl
@[simp] theorem ps__law_thing : f__law_thing.ps = [Md.m, Md.b] := rfl
@[simp] theorem own__law_thing : f__law_thing.own = [0] := rfl
@[simp] theorem fro__law_thing : frOf tb i__law_thing = false := rfl
@[simp] theorem fr__law_thing : f__law_thing.fresh = false := rfl
theorem call__law_thing {n : Nat} {a0 a1 : D} : Fs tb sub (n + 1) i__law_thing [a0, a1] = finish f__law_thing (exs b__law_thing (LV tb sub n f__law_thing) [some a0, some a1, none]) := call_eq (fd := f__law_thing) rfl rfl
@[simp] theorem tb__law_known : tb[i__law_known]? = some f__law_known := rfl
@[simp] theorem ps__law_known : f__law_known.ps = [] := rfl
@[simp] theorem own__law_known : f__law_known.own = [] := rfl
@[simp] theorem fro__law_known : frOf tb i__law_known = false := rfl
@[simp] theorem fr__law_known : f__law_known.fresh = false := rfl
@[simp] theorem tb__law_odd_gates : tb[i__law_odd_gates]? = some f__law_odd_gates := rfl
@[simp] theorem ps__law_odd_gates : f__law_odd_gates.ps = [] := rfl
@[simp] theorem own__law_odd_gates : f__law_odd_gates.own = [] := rfl
@[simp] theorem fro__law_odd_gates : frOf tb i__law_odd_gates = true := rfl
@[simp] theorem fr__law_odd_gates : f__law_odd_gates.fresh = true := rfl
@[simp] theorem tb__law_error : tb[i__law_error]? = some f__law_error := rfl
@[simp] theorem ps__law_error : f__law_error.ps = [Md.b] := rfl
@[simp] theorem own__law_error : f__law_error.own = [] := rfl
@[simp] theorem fro__law_error : frOf tb i__law_error = false := rfl
@[simp] theorem fr__law_error : f__law_error.fresh = false := rfl
theorem call__law_error {n : Nat} {a0 : D} : Fs tb sub (n + 1) i__law_error [a0] = finish f__law_error (exs b__law_error (LV tb sub n f__law_error) [some a0, none, none, none, none]) := call_eq (fd := f__law_error) rfl rfl
@[simp] theorem tb__law_told : tb[i__law_told]? = some f__law_told := rfl
@[simp] theorem ps__law_told : f__law_told.ps = [Md.b, Md.b, Md.b] := rfl
@[simp] theorem own__law_told : f__law_told.own = [3] := rfl
@[simp] theorem fro__law_told : frOf tb i__law_told = false := rfl
@[simp] theorem fr__law_told : f__law_told.fresh = false := rfl
theorem call__law_told {n : Nat} {a0 a1 a2 : D} : Fs tb sub (n + 1) i__law_told [a0, a1, a2] = finish f__law_told (exs b__law_told (LV tb sub n f__law_told) [some a0, some a1, some a2, none, none, none, none, none, none]) := call_eq (fd := f__law_told) rfl rfl
@[simp] theorem tb__law_by : tb[i__law_by]? = some f__law_by := rfl
@[simp] theorem ps__law_by : f__law_by.ps = [Md.b, Md.b, Md.b] := rfl
@[simp] theorem own__law_by : f__law_by.own = [3] := rfl
@[simp] theorem fro__law_by : frOf tb i__law_by = false := rfl
@[simp] theorem fr__law_by : f__law_by.fresh = false := rfl
theorem call__law_by {n : Nat} {a0 a1 a2 : D} : Fs tb sub (n + 1) i__law_by [a0, a1, a2] = finish f__law_by (exs b__law_by (LV tb sub n f__law_by) [some a0, some a1, some a2, none, none, none, none, none, none, none]) := call_eq (fd := f__law_by) rfl rfl
@[simp] theorem tb__law_truth : tb[i__law_truth]? = some f__law_truth := rfl
@[simp] theorem ps__law_truth : f__law_truth.ps = [Md.b, Md.b, Md.s] := rfl
@[simp] theorem own__law_truth : f__law_truth.own = [] := rfl
@[simp] theorem fro__law_truth : frOf tb i__law_truth = false := rfl
@[simp] theorem fr__law_truth : f__law_truth.fresh = false := rfl
theorem call__law_truth {n : Nat} {a0 a1 a2 : D} : Fs tb sub (n + 1) i__law_truth [a0, a1, a2] = finish f__law_truth (exs b__law_truth (LV tb sub n f__law_truth) [some a0, some a1, some a2, none]) := call_eq (fd := f__law_truth) rfl rfl
@[simp] theorem tb__law_within : tb[i__law_within]? = some f__law_within := rfl
@[simp] theorem ps__law_within : f__law_within.ps = [Md.b, Md.b, Md.b] := rfl
@[simp] theorem own__law_within : f__law_within.own = [3, 5] := rfl
@[simp] theorem fro__law_within : frOf tb i__law_within = true := rfl
@[simp] theorem fr__law_within : f__law_within.fresh = true := rfl
theorem call__law_within {n : Nat} {a0 a1 a2 : D} : Fs tb sub (n + 1) i__law_within [a0, a1, a2] = finish f__law_within (exs b__law_within (LV tb sub n f__law_within) [some a0, some a1, some a2, none, none, none, none, none]) := call_eq (fd := f__law_within) rfl rfl
@[simp] theorem tb__law_right : tb[i__law_right]? = some f__law_right := rfl
@[simp] theorem ps__law_right : f__law_right.ps = [Md.m, Md.s, Md.s, Md.s, Md.s] := rfl
@[simp] theorem own__law_right : f__law_right.own = [0] := rfl
@[simp] theorem fro__law_right : frOf tb i__law_right = false := rfl
@[simp] theorem fr__law_right : f__law_right.fresh = false := rfl
theorem call__law_right {n : Nat} {a0 a1 a2 a3 a4 : D} : Fs tb sub (n + 1) i__law_right [a0, a1, a2, a3, a4] = finish f__law_right (exs b__law_right (LV tb sub n f__law_right) [some a0, some a1, some a2, some a3, some a4, none, none, none, none, none, none, none, none, none]) := call_eq (fd := f__law_right) rfl rfl
@[simp] theorem tb__law_drawn_frame : tb[i__law_drawn_frame]? = some f__law_drawn_frame := rfl
@[simp] theorem ps__law_drawn_frame : f__law_drawn_frame.ps = [Md.m, Md.b, Md.b] := rfl
@[simp] theorem own__law_drawn_frame : f__law_drawn_frame.own = [0, 3, 4] := rfl
@[simp] theorem fro__law_drawn_frame : frOf tb i__law_drawn_frame = false := rfl
@[simp] theorem fr__law_drawn_frame : f__law_drawn_frame.fresh = false := rfl
theorem call__law_drawn_frame {n : Nat} {a0 a1 a2 : D} : Fs tb sub (n + 1) i__law_drawn_frame [a0, a1, a2] = finish f__law_drawn_frame (exs b__law_drawn_frame (LV tb sub n f__law_drawn_frame) [some a0, some a1, some a2, none, none, none]) := call_eq (fd := f__law_drawn_frame) rfl rfl
@[simp] theorem tb__law_errors_right : tb[i__law_errors_right]? = some f__law_errors_right := rfl
@[simp] theorem ps__law_errors_right : f__law_errors_right.ps = [] := rfl
@[simp] theorem own__law_errors_right : f__law_errors_right.own = [1] := rfl
@[simp] theorem fro__law_errors_right : frOf tb i__law_errors_right = false := rfl
@[simp] theorem fr__law_errors_right : f__law_errors_right.fresh = false := rfl
@[simp] theorem tb__law_written_right : tb[i__law_written_right]? = some f__law_written_right := rfl
@[simp] theorem ps__law_written_right : f__law_written_right.ps = [] := rfl
@[simp] theorem own__law_written_right : f__law_written_right.own = [] := rfl
@[simp] theorem fro__law_written_right : frOf tb i__law_written_right = false := rfl
@[simp] theorem fr__law_written_right : f__law_written_right.fresh = false := rfl
@[simp] theorem tb_law : tb[i_law]? = some f_law := rfl
@[simp] theorem ps_law : f_law.ps = [Md.b] := rfl
@[simp] theorem own_law : f_law.own = [1] := rfl
@[simp] theorem fro_law : frOf tb i_law = false := rfl
@[simp] theorem fr_law : f_law.fresh = false := rfl
theorem call_law {n : Nat} {a0 : D} : Fs tb sub (n + 1) i_law [a0] = finish f_law (exs b_law (LV tb sub n f_law) [some a0, none, none, none, none, none, none, none]) := call_eq (fd := f_law) rfl rfl

/-! ### the law's own helpers -/
section
variable {n : Nat}
theorem run_sort {d : D} {k : Nat} (h : lkd k d = true) : Fs tb sub (n + 1) i__law_sort [d] = .ok (.int (sortD d), []) := by
  rw [call__law_sort]
  cases d <;> first | (simp [b__law_sort, sortD]; done) | (unfold lkd at h; cases h)
theorem run_like : ∀ (k : Nat) (d : D), lkd k d = true → Fs tb sub (n + k + 2) i__law_like [d, d] = .ok (.bl true, [])
  | k, d, h => by
    rw [call__law_like]
    have hs : Fs tb sub (n + k + 1) i__law_sort [d] = .ok (.int (sortD d), []) := run_sort h
    have seq : ∀ (xs : List D) (m : Nat) (σ : Sd) (d1 d2 : D), (∀ x ∈ xs, Fs tb sub m i__law_like [x, x] = .ok (.bl true, [])) → xs.length ≤ 16777216 → lcS [3, 4] e__law_like_1 (T.tup [(T.var 3), (T.var 4)]) c__law_like_1 (LV tb sub m f__law_like) [some d1, some d2, some (.int (sortD d)), none, none] (zipL xs xs) [some d1, some d2, some (.int (sortD d)), none, none] = .ok (.lst [], [some d1, some d2, some (.int (sortD d)), none, none]) := by
      intro xs m σ d1 d2 hx hl
      rw [zipL_self, lcS_filt (fun x => D.tup [x, x]) (fun _ => False) (fun _ => .non) (Fit.of hl _ (Nat.le_refl _))]
      · simp
      · intro x hm
        simp [lcT, c__law_like_1, callS, hx x hm]
    cases d with
    | tup xs =>
      cases k with
      | zero => unfold lkd at h; cases h
      | succ k =>
        simp at h
        have ih := fun x hx => run_like k x (lks_mem h.2 x hx)
        have := seq xs (n + k + 2) [] (.tup xs) (.tup xs) ih h.1
        have hs : Fs tb sub (n + k + 2) i__law_sort [.tup xs] = .ok (.int (sortD (.tup xs)), []) := run_sort (k := k + 1) (by simpa using h)
        simp [sortD] at hs this
        simp [b__law_like, callS, hs, this, cmpD_eq_nil, show n + (k + 1) + 1 = n + k + 2 by omega]
    | lst xs =>
      cases k with
      | zero => unfold lkd at h; cases h
      | succ k =>
        simp at h
        have ih := fun x hx => run_like k x (lks_mem h.2 x hx)
        have := seq xs (n + k + 2) [] (.lst xs) (.lst xs) ih h.1
        have hs : Fs tb sub (n + k + 2) i__law_sort [.lst xs] = .ok (.int (sortD (.lst xs)), []) := run_sort (k := k + 1) (by simpa using h)
        simp [sortD] at hs this
        simp [b__law_like, callS, hs, this, cmpD_eq_nil, show n + (k + 1) + 1 = n + k + 2 by omega]
    | non => simp [sortD] at hs; simp [b__law_like, callS, hs, cmpD_eq_non]
    | bl b => simp [sortD] at hs; simp [b__law_like, callS, hs, cmpD_eq_non]
    | int b => simp [sortD] at hs; simp [b__law_like, callS, hs, cmpD_eq_non]
    | str b => simp [sortD] at hs; simp [b__law_like, callS, hs, cmpD_eq_non]
    | _ => unfold lkd at h; cases h
end
section
variable {n : Nat}
theorem run_cup {ns : List Int} (hn : ns.length ≤ 63) : ∃ c, Fs tb sub (n + 1) i__law_cup [.frz (intL ns)] = .ok (c, []) ∧ Cup c := by
  rw [call__law_cup]
  have hf : Fit 8388608 (intL ns) := by simp; exact Fit.of hn _ (by decide)
  have hp : bop .pow (.int 10) (.int 18) = some (.int (10 ^ 18)) := bop_pow (by decide) (by decide) (by decide)
  have key : ∀ (x : Int) (r : List Int), ns ++ [0] = x :: r → ∃ c, finish f__law_cup (exs b__law_cup (LV tb sub n f__law_cup) [some (.frz (intL ns)), none]) = .ok (c, []) ∧ Cup c := by
    intro x r e
    have e2 : intL ns ++ [D.int 0] = .int x :: intL r := by
      have := congrArg intL e
      simpa using this
    refine ⟨.lst [.int (if 1000000000000000000 ≤ (if x < 0 then -x else x) then (if x < 0 then -x else x) / 257 else 0), .int (((if x < 0 then -x else x) * 521 + 7853) % 99829 + 373)], by simp [b__law_cup, hf, hp, e2, bop_mul, bop_fdiv, bop_mod], _, _, ?_, ?_, rfl⟩
    · split
      · split <;> omega
      · omega
    · have := Int.emod_nonneg ((if x < 0 then -x else x) * 521 + 7853) (b := 99829) (by decide)
      omega
  cases ns with
  | nil => exact key 0 [] rfl
  | cons x r => exact key x (r ++ [0]) rfl
theorem run_roll {a b k : Int} (ha : 0 ≤ a) (hb : 0 ≤ b) (hk : 0 < k) (hk2 : k < 1000000) : ∃ r c, Fs tb sub (n + 1) i__law_roll [.lst [.int a, .int b], .int k] = .ok (.int r, [c]) ∧ Cup c ∧ 0 ≤ r ∧ r < k := by
  rw [call__law_roll]
  have h1 : bop .mod (.int a) (.int k) = some (.int (a % k)) := bop_mod hk
  have h2 : bop .fdiv (.int a) (.int k) = some (.int (a / k)) := bop_fdiv hk (by omega)
  by_cases h : 0 < a
  · refine ⟨a % k, .lst [.int (a / k), .int b], ?_, ⟨_, _, Int.ediv_nonneg ha (by omega), hb, rfl⟩, Int.emod_nonneg _ (by omega), Int.emod_lt_of_pos _ hk⟩
    simp [b__law_roll, h, h1, h2]
  · refine ⟨(b * 139 + 2543) % 99829 / 53 % k, .lst [.int a, .int ((b * 139 + 2543) % 99829)], ?_, ⟨_, _, ha, Int.emod_nonneg _ (by omega), rfl⟩, Int.emod_nonneg _ (by omega), Int.emod_lt_of_pos _ hk⟩
    simp [b__law_roll, h, bop_mod hk, bop_mod, bop_mul, bop_fdiv]
theorem run_rollC {c : D} {k : Int} (hc : Cup c) (hk : 0 < k) (hk2 : k < 1000000) : ∃ r c', Fs tb sub (n + 1) i__law_roll [c, .int k] = .ok (.int r, [c']) ∧ Cup c' ∧ 0 ≤ r ∧ r < k := by
  obtain ⟨a, b, ha, hb, rfl⟩ := hc
  exact run_roll ha hb hk hk2
end
/-! ### judges of plain values -/
section
variable {n : Nat} {i lo hi : Int} {xs : List D} {b : Bool} {x : Str}
@[simp] theorem whole_int : Fs tb sub (n + 1) i_is_whole [.int i, .int lo, .int hi] = .ok (.bl (decide (lo ≤ i ∧ i ≤ hi)), []) := by
  rw [call_is_whole]
  simp [b_is_whole]
@[simp] theorem whole_bl : Fs tb sub (n + 1) i_is_whole [.bl b, .int lo, .int hi] = .ok (.bl false, []) := by
  rw [call_is_whole]
  simp [b_is_whole]
@[simp] theorem whole_non : Fs tb sub (n + 1) i_is_whole [.non, .int lo, .int hi] = .ok (.bl false, []) := by
  rw [call_is_whole]
  simp [b_is_whole]
@[simp] theorem whole_str : Fs tb sub (n + 1) i_is_whole [.str x, .int lo, .int hi] = .ok (.bl false, []) := by
  rw [call_is_whole]
  simp [b_is_whole]
@[simp] theorem whole_tup : Fs tb sub (n + 1) i_is_whole [.tup xs, .int lo, .int hi] = .ok (.bl false, []) := by
  rw [call_is_whole]
  simp [b_is_whole]
@[simp] theorem whole_lst : Fs tb sub (n + 1) i_is_whole [.lst xs, .int lo, .int hi] = .ok (.bl false, []) := by
  rw [call_is_whole]
  simp [b_is_whole]
@[simp] theorem tupof_tup : Fs tb sub (n + 1) i_is_tuple_of [.tup xs, .int lo, .int hi] = .ok (.bl (decide (lo ≤ xs.length ∧ xs.length ≤ hi)), []) := by
  rw [call_is_tuple_of]
  simp [b_is_tuple_of]
end
/-! ### bits -/
section
variable {n : Nat}
@[simp] theorem whole_bit {b : Bool} : Fs tb sub (n + 1) i_is_whole [bitD b, .int 0, .int 1] = .ok (.bl true, []) := by
  unfold bitD
  rw [whole_int]
  cases b <;> simp
theorem run_are_bits {bs : List Bool} {m : Int} (hl : bs.length ≤ 16777216) : Fs tb sub (n + 2) i_are_bits [.tup (bs.map bitD), .int m] = .ok (.bl (decide ((bs.length : Int) = m)), []) := by
  rw [call_are_bits]
  simp [b_are_bits, callS]
  rw [lcS_map bitD (fun _ => D.bl true) (Fit.of hl _ (by decide)) (by
    intro b hb
    simp [lcT, e_are_bits_1, callS])]
  simp
  rw [Bool.eq_iff_iff]; simp; omega
/-! ### draws of bits, of small numbers -/
theorem run_rollB {c : D} (hc : Cup c) : ∃ b c', Fs tb sub (n + 1) i__law_roll [c, .int 2] = .ok (bitD b, [c']) ∧ Cup c' := by
  obtain ⟨r, c', h1, h2, h3, h4⟩ := run_rollC (n := n) (k := 2) hc (by decide) (by decide)
  refine ⟨decide (r = 1), c', ?_, h2⟩
  rw [h1]
  unfold bitD
  by_cases h : r = 1
  · simp [h]
  · simp [h]; omega
theorem run_rollN {c : D} {k : Int} (hc : Cup c) (hk : 0 < k) (hk2 : k < 1000000) : ∃ (r : Nat) (c' : D), Fs tb sub (n + 1) i__law_roll [c, .int k] = .ok (natD r, [c']) ∧ Cup c' ∧ (r : Int) < k := by
  obtain ⟨r, c', h1, h2, h3, h4⟩ := run_rollC (n := n) (k := k) hc hk hk2
  refine ⟨r.toNat, c', ?_, h2, by omega⟩
  rw [h1]
  show _ = R.ok (D.int ((r.toNat : Nat) : Int), _)
  rw [show ((r.toNat : Nat) : Int) = r by omega]
end
/-! ### nets of gates -/
structure Gt where
  ins : Nat
  sts : Nat
  firsts : List Bool
  nds : List (Nat × Nat)
  nexts : List Nat
  outs : List Nat
def ndD (p : Nat × Nat) : D := .tup [natD p.1, natD p.2]
def gtD (g : Gt) : D := .tup [natD g.ins, natD g.sts, .tup (g.firsts.map bitD), .tup (g.nds.map ndD), .tup (g.nexts.map natD), .tup (g.outs.map natD)]
structure GtOk (g : Gt) : Prop where
  ins : g.ins ≤ 8
  sts : g.sts ≤ 6
  firsts : g.firsts.length = g.sts
  ndl : g.nds.length ≤ 400
  nd : ∀ i p, g.nds[i]? = some p → p.1 < p.2 ∧ p.2 < 2 * (1 + g.ins + g.sts + i)
  nexts : g.nexts.length = g.sts
  nextLt : ∀ w ∈ g.nexts, w < 2 * (1 + g.ins + g.sts + g.nds.length)
  outs : 1 ≤ g.outs.length ∧ g.outs.length ≤ 16
  outLt : ∀ w ∈ g.outs, w < 2 * (1 + g.ins + g.sts + g.nds.length)
/-- the bit at an edge -/
def eb (bits : List Bool) (e : Nat) : Bool := if e % 2 = 0 then bg bits (e / 2) else !bg bits (e / 2)
def allB (nds : List (Nat × Nat)) (bits : List Bool) : List Bool := nds.foldl (fun b p => b ++ [eb b p.1 && eb b p.2]) bits
theorem allB_len : ∀ (nds : List (Nat × Nat)) (bits : List Bool), (allB nds bits).length = bits.length + nds.length
  | [], _ => rfl
  | p :: r, bits => by
    show (allB r (bits ++ [_])).length = _
    rw [allB_len r]
    simp
    omega
theorem allB_app (a b : List (Nat × Nat)) (bits : List Bool) : allB (a ++ b) bits = allB b (allB a bits) := by unfold allB; rw [List.foldl_append]
def bits0 (given held : List Bool) : List Bool := false :: (given ++ held)
def outsG (g : Gt) (given held : List Bool) (ws : List Nat) : List Bool := ws.map fun e => eb (allB g.nds (bits0 given held)) e
def stepG (g : Gt) (given held : List Bool) : D := .tup [.tup ((outsG g given held g.outs).map bitD), .tup ((outsG g given held g.nexts).map bitD)]
section
variable {n : Nat}
theorem run_is_node {p : Nat × Nat} {m : Nat} {k : Int} (hk : k = m) (h1 : p.1 < p.2) (h2 : p.2 < 2 * m) : Fs tb sub (n + 2) i_is_node [ndD p, .int k] = .ok (.bl true, []) := by
  have hm : bop .mul (.int 2) (.int k) = some (.int (2 * k)) := bop_mul (.inl (by omega))
  rw [call_is_node]
  unfold ndD
  simp [b_is_node, callS, hm, show (p.1 : Int) ≤ 2 * k - 1 by omega, show (p.2 : Int) ≤ 2 * k - 1 by omega, show (p.1 : Int) + 1 ≤ p.2 by omega]
theorem run_is_gates {g : Gt} (h : GtOk g) : Fs tb sub (n + 4) i_is_gates [gtD g] = .ok (.bl true, []) := by
  obtain ⟨h1, h2, h3, h4, h5, h6, h7, h8, h9⟩ := h
  have hb := run_are_bits (n := n + 1) (bs := g.firsts) (m := g.sts) (by omega)
  have hm : bop .mul (.int 2) (.int ((1 : Int) + g.ins + g.sts + g.nds.length)) = some (.int (2 * ((1 : Int) + g.ins + g.sts + g.nds.length))) := bop_mul (.inl (by omega))
  rw [call_is_gates]
  unfold gtD
  simp [b_is_gates, callS, hb, h3, h4, h6, show (g.ins : Int) ≤ 8 by omega, show (g.sts : Int) ≤ 6 by omega, show (g.nds.length : Int) ≤ 400 by omega]
  rw [enumL_map]
  rw [lcS_map (fun q : Nat × (Nat × Nat) => D.tup [natD q.1, ndD q.2]) (fun _ => D.bl true) (Fit.of (k := 400) (by rw [zipR_len]; omega) _ (by decide)) (by
    intro q hq
    have ht := h5 q.1 q.2 (mem_zipR hq)
    have hr := run_is_node (n := n + 1) (k := (1 : Int) + g.ins + g.sts + q.1) (m := 1 + g.ins + g.sts + q.1) (by omega) ht.1 ht.2
    simp [lcT, e_is_gates_2, callS, hr])]
  have f1 : Fit 8388608 g.nexts := Fit.of (k := 6) (by omega) _ (by decide)
  have f2 : Fit 8388608 g.outs := Fit.of h8.2 _ (by decide)
  simp [callS, hm, show (1 : Int) ≤ g.outs.length by omega, show (g.outs.length : Int) ≤ 16 by omega, f1, f2]
  rw [← List.map_append]
  rw [lcS_map natD (fun _ => D.bl true) (Fit.of (k := 22) (by simp; omega) _ (by decide)) (by
    intro w hw
    have hw : w < 2 * (1 + g.ins + g.sts + g.nds.length) := by
      rcases List.mem_append.mp hw with q | q
      · exact h7 w q
      · exact h9 w q
    simp [lcT, e_is_gates_1, callS]
    omega)]
  simp [-List.map_append]
theorem run_need_gates {g : Gt} (h : GtOk g) : Fs tb sub (n + 5) i_need_gates [gtD g] = .ok (.non, []) := by
  rw [call_need_gates]
  simp [b_need_gates, callS, run_is_gates h]
end
/-! ### while -/
theorem whS_inv {c : E} {b : Ss} {l : Lv} (Inv : Nat → Sd → Prop) (Post : R (Fl × Sd) → Prop)
    (hs : ∀ m σ, Inv m σ → (∃ σ1, ((lent c (ev c l σ) σ).bind fun p => (R.ofO (tru p.1)).bind fun k => R.ok (k, p.2)) = .ok (false, σ1) ∧ Post (.ok (.nx, σ1))) ∨
      (∃ σ1, ((lent c (ev c l σ) σ).bind fun p => (R.ofO (tru p.1)).bind fun k => R.ok (k, p.2)) = .ok (true, σ1) ∧ ((∃ σ2 m', m' < m ∧ (exs b l σ1 = .ok (.nx, σ2) ∨ exs b l σ1 = .ok (.ct, σ2)) ∧ Inv m' σ2) ∨ ∃ d σ2, exs b l σ1 = .ok (.rt d, σ2) ∧ Post (.ok (.rt d, σ2))))) :
    ∀ (m : Nat) (σ : Sd) (n : Nat), Inv m σ → m < n → Post (whS c b l n σ) := by
  intro m
  induction m using Nat.strongRecOn with
  | _ m ih =>
    intro σ n hI hn
    cases n with
    | zero => omega
    | succ n =>
      unfold whS whGo
      rcases hs m σ hI with ⟨σ1, e, p⟩ | ⟨σ1, e, ⟨σ2, m', hm, e2, hI'⟩ | ⟨d, σ2, e2, p⟩⟩
      · simp only [e, bind_ok]
        exact p
      · have := ih m' hm σ2 n hI' (by omega)
        unfold whS at this
        simp only [e, bind_ok, if_true]
        rcases e2 with e2 | e2 <;> simp only [e2, bind_ok] <;> exact this
      · simp only [e, bind_ok, if_true, e2]
        exact p
/-! ### dicts with small numbers as keys -/
def mapD (kvs : List (Nat × D)) : List (D × D) := kvs.map fun p => (natD p.1, p.2)
def lk : List (Nat × D) → Nat → Option D
  | [], _ => none
  | p :: r, k => if p.1 = k then some p.2 else lk r k
theorem lk_cons (p : Nat × D) (r : List (Nat × D)) (k : Nat) : lk (p :: r) k = if p.1 = k then some p.2 else lk r k := rfl
theorem deq_natD (a b : Nat) : deq (natD a) (natD b) = decide (a = b) := by
  unfold natD deq
  by_cases h : a = b
  · simp [h]
  · simp [h]
    omega
theorem dget_lk (k : Nat) : ∀ kvs : List (Nat × D), dget (mapD kvs) (natD k) = lk kvs k
  | [] => rfl
  | p :: r => by
    show (((natD p.1, p.2) :: mapD r).find? fun q => deq q.1 (natD k)).map (·.2) = _
    rw [List.find?_cons, deq_natD]
    unfold lk
    by_cases h : p.1 = k
    · simp [h]
    · simp only [h, decide_false, if_false]
      exact dget_lk k r
theorem any_lk (k : Nat) : ∀ kvs : List (Nat × D), ((mapD kvs).any fun q => deq q.1 (natD k)) = (lk kvs k).isSome
  | [] => rfl
  | p :: r => by
    show (((natD p.1, p.2) :: mapD r).any fun q => deq q.1 (natD k)) = _
    rw [List.any_cons, any_lk k r, deq_natD, lk_cons]
    by_cases h : p.1 = k <;> simp [h]
theorem lk_none {k : Nat} : ∀ {kvs : List (Nat × D)}, lk kvs k = none ↔ k ∉ kvs.map (·.1)
  | [] => by simp [lk]
  | p :: r => by
    unfold lk
    by_cases h : p.1 = k
    · simp [h]
    · have h2 : ¬ k = p.1 := fun e => h e.symm
      simp only [h, if_false, List.map_cons, List.mem_cons, not_or]
      rw [lk_none (kvs := r)]
      exact ⟨fun z => ⟨h2, z⟩, fun z => z.2⟩
def putk (kvs : List (Nat × D)) (k : Nat) (v : D) : List (Nat × D) := if (lk kvs k).isSome = true then kvs.map (fun p => if p.1 = k then (p.1, v) else p) else kvs ++ [(k, v)]
theorem dput_putk (kvs : List (Nat × D)) (k : Nat) (v : D) : dput (mapD kvs) (natD k) v = mapD (putk kvs k v) := by
  unfold dput putk
  rw [any_lk]
  split
  · unfold mapD
    rw [List.map_map, List.map_map]
    apply List.map_congr_left
    intro p _
    simp only [Function.comp_apply, deq_natD]
    by_cases h : p.1 = k <;> simp [h]
  · unfold mapD
    rw [List.map_append]
    rfl
theorem putk_keys (kvs : List (Nat × D)) (k : Nat) (v : D) : (putk kvs k v).map (·.1) = if (lk kvs k).isSome = true then kvs.map (·.1) else kvs.map (·.1) ++ [k] := by
  unfold putk
  split
  · rw [List.map_map]
    apply List.map_congr_left
    intro p _
    simp only [Function.comp_apply]
    by_cases h : p.1 = k <;> simp [h]
  · simp
theorem lk_map (k : Nat) (v : D) (j : Nat) : ∀ kvs : List (Nat × D), lk (kvs.map (fun p => if p.1 = k then (p.1, v) else p)) j = if j = k then (lk kvs j).map (fun _ => v) else lk kvs j
  | [] => by simp [lk]
  | p :: r => by
    rw [List.map_cons]
    unfold lk
    rw [lk_map k v j r]
    by_cases h : p.1 = k
    · by_cases h2 : p.1 = j
      · have h3 : j = k := by omega
        simp [h, h2, h3]
      · simp [h]
        have h3 : ¬ j = k := by omega
        have h4 : ¬ k = j := by omega
        simp [h3, h4]
    · by_cases h2 : p.1 = j
      · have h3 : ¬ j = k := by omega
        simp [h2, h3]
      · simp [h, h2]
theorem lk_app (k : Nat) (v : D) (j : Nat) : ∀ kvs : List (Nat × D), lk (kvs ++ [(k, v)]) j = (lk kvs j).or (if k = j then some v else none)
  | [] => by simp [lk]
  | p :: r => by
    rw [List.cons_append]
    unfold lk
    rw [lk_app k v j r]
    by_cases h : p.1 = j <;> simp [h]
theorem lk_putk (kvs : List (Nat × D)) (k : Nat) (v : D) (j : Nat) : lk (putk kvs k v) j = if j = k then some v else lk kvs j := by
  unfold putk
  split
  · rename_i h
    rw [lk_map]
    by_cases e : j = k
    · subst e
      obtain ⟨w, hw⟩ := Option.isSome_iff_exists.mp h
      simp [hw]
    · simp [e]
  · rename_i h
    rw [lk_app]
    by_cases e : j = k
    · subst e
      have : lk kvs j = none := by simpa using h
      simp [this]
    · have : ¬ k = j := fun z => e z.symm
      simp [e, this]
/-- a dict as a function of small numbers -/
def Dc (N : Nat) (f : Nat → Option D) (d : D) : Prop := ∃ kvs : List (Nat × D), d = .dic (mapD kvs) ∧ (kvs.map (·.1)).Nodup ∧ (∀ k ∈ kvs.map (·.1), k < N) ∧ ∀ k, lk kvs k = f k
section
variable {N : Nat} {f g : Nat → Option D} {d : D}
theorem nodup_leN : ∀ (N : Nat) (l : List Nat), l.Nodup → (∀ x ∈ l, x < N) → l.length ≤ N
  | 0, l, _, h => by
    cases l with
    | nil => simp
    | cons x r => exact absurd (h x List.mem_cons_self) (Nat.not_lt_zero x)
  | N + 1, l, hn, h => by
    have h1 := nodup_leN N (l.erase N) (hn.erase N) (fun x hx => by
      have h2 := (hn.mem_erase_iff).mp hx
      have h3 := h x h2.2
      omega)
    rw [List.length_erase] at h1
    split at h1 <;> omega
theorem Dc.of {ps : List (Nat × D)} (h : (ps.map (·.1)).Nodup) (h2 : ∀ k ∈ ps.map (·.1), k < N) : Dc N (lk ps) (.dic (mapD ps)) := ⟨ps, rfl, h, h2, fun _ => rfl⟩
theorem Dc.congr (h : Dc N f d) (e : ∀ k, f k = g k) : Dc N g d := by
  obtain ⟨kvs, h1, h2, h3, h4⟩ := h
  exact ⟨kvs, h1, h2, h3, fun k => (h4 k).trans (e k)⟩
theorem Dc.isin (h : Dc N f d) (k : Nat) : cmpD .isin (natD k) d = some (f k).isSome := by
  obtain ⟨kvs, rfl, h2, h3, h4⟩ := h
  show some ((mapD kvs).any fun q => deq q.1 (natD k)) = _
  rw [any_lk, h4]
theorem Dc.notin (h : Dc N f d) (k : Nat) : cmpD .notin (natD k) d = some (!(f k).isSome) := by
  have := h.isin k
  show (cin (natD k) d).map (!·) = _
  rw [show cin (natD k) d = cmpD .isin (natD k) d from rfl, this]
  rfl
theorem Dc.get (h : Dc N f d) {k : Nat} {v : D} (e : f k = some v) : subD d (natD k) = some v := by
  obtain ⟨kvs, rfl, h2, h3, h4⟩ := h
  show dget (mapD kvs) (natD k) = _
  rw [dget_lk, h4, e]
theorem Dc.put (h : Dc N f d) (hN : N ≤ 16777215) {k : Nat} (hk : k < N) (v : D) : ∃ d', setD d (natD k) v = some d' ∧ Dc N (fun j => if j = k then some v else f j) d' := by
  obtain ⟨kvs, rfl, h2, h3, h4⟩ := h
  have hl := nodup_leN N _ h2 h3
  rw [List.length_map] at hl
  refine ⟨.dic (mapD (putk kvs k v)), ?_, putk kvs k v, rfl, ?_, ?_, fun j => ?_⟩
  · show (if (true && decide ((mapD kvs).length < SZ)) = true then some (D.dic (dput (mapD kvs) (natD k) v)) else none) = _
    rw [if_pos (by simp [SZ, mapD]; omega), dput_putk]
  · rw [putk_keys]
    split
    · exact h2
    · rename_i hn
      refine List.nodup_append.mpr ⟨h2, by simp, fun a ha b hb => ?_⟩
      rw [List.mem_singleton.mp hb]
      intro e
      subst e
      have : lk kvs a = none := by simpa using hn
      exact lk_none.mp this ha
  · rw [putk_keys]
    split
    · exact h3
    · intro j hj
      rcases List.mem_append.mp hj with z | z
      · exact h3 j z
      · rw [List.mem_singleton.mp z]; exact hk
  · rw [lk_putk, h4]
theorem Dc.dic (h : Dc N f d) : ∃ kvs, d = .dic kvs ∧ kvs.length ≤ N := by
  obtain ⟨kvs, rfl, h2, h3, h4⟩ := h
  refine ⟨_, rfl, ?_⟩
  have hl := nodup_leN N _ h2 h3
  simpa [mapD] using hl
end
theorem pairs_mapD : ∀ ps : List (Nat × D), pairsD (ps.map fun p => D.tup [natD p.1, p.2]) = some (mapD ps)
  | [] => rfl
  | p :: r => by
    show (if keyD (natD p.1) = true then (pairsD (r.map fun p => D.tup [natD p.1, p.2])).map ((natD p.1, p.2) :: ·) else none) = _
    rw [show keyD (natD p.1) = true from rfl, if_pos rfl, pairs_mapD r]
    rfl
theorem puts_mapD : ∀ (ps acc : List (Nat × D)), ((acc ++ ps).map (·.1)).Nodup → putsD (mapD acc) (mapD ps) = mapD (acc ++ ps)
  | [], acc, _ => by simp [mapD, putsD]
  | p :: r, acc, h => by
    show putsD (dput (mapD acc) (natD p.1) p.2) (mapD r) = _
    have hn : lk acc p.1 = none := by
      rw [lk_none]
      rw [List.map_append, List.map_cons] at h
      intro hm
      exact (List.nodup_append.mp h).2.2 _ hm _ List.mem_cons_self rfl
    rw [dput_putk, show putk acc p.1 p.2 = acc ++ [p] by unfold putk; rw [hn]; rfl, puts_mapD r (acc ++ [p]) (by simpa using h)]
    simp
theorem dict1_of {ps : List (Nat × D)} (h : (ps.map (·.1)).Nodup) : biD .dict1 [.lst (ps.map fun p => D.tup [natD p.1, p.2])] = some (.dic (mapD ps)) := by
  show (pairsD _).map (fun ps => D.dic (putsD [] ps)) = _
  rw [pairs_mapD]
  have := puts_mapD ps [] (by simpa using h)
  show some (D.dic (putsD (mapD []) (mapD ps))) = _
  rw [this]
  rfl
theorem items_mapD (ps : List (Nat × D)) : itemsL (mapD ps) = ps.map fun p => D.tup [natD p.1, p.2] := by
  unfold itemsL mapD
  rw [List.map_map]
  rfl
theorem lk_fun (v : Nat → D) (k : Nat) : ∀ l : List Nat, lk (l.map fun t => (t, v t)) k = if k ∈ l then some (v k) else none
  | [] => by simp [lk]
  | t :: l => by
    rw [List.map_cons]
    unfold lk
    rw [lk_fun v k l]
    by_cases h : t = k
    · subst h; simp
    · have : ¬ k = t := fun e => h e.symm
      simp [h, this]
/-- the keys in a row, what each stands for -/
def Dk (N : Nat) (ks : List Nat) (V : Nat → D) (d : D) : Prop := Dc N (fun t => if t ∈ ks then some (V t) else none) d
section
variable {N : Nat} {ks : List Nat} {V : Nat → D} {d : D} {k : Nat}
theorem Dk.isin (h : Dk N ks V d) (k : Nat) : cmpD .isin (natD k) d = some (decide (k ∈ ks)) := by
  rw [Dc.isin h]
  by_cases hk : k ∈ ks <;> simp [hk]
theorem Dk.notin (h : Dk N ks V d) (k : Nat) : cmpD .notin (natD k) d = some (decide (k ∉ ks)) := by
  rw [Dc.notin h]
  by_cases hk : k ∈ ks <;> simp [hk]
theorem Dk.get (h : Dk N ks V d) (hk : k ∈ ks) : subD d (natD k) = some (V k) := Dc.get h (by simp [hk])
theorem Dk.put (h : Dk N ks V d) (hN : N ≤ 16777215) (hk : k < N) : ∃ d', setD d (natD k) (V k) = some d' ∧ Dk N (ks ++ [k]) V d' := by
  obtain ⟨d', h1, h2⟩ := Dc.put h hN hk (V k)
  refine ⟨d', h1, h2.congr fun j => ?_⟩
  by_cases e : j = k
  · subst e; simp
  · simp [e]
theorem Dk.congr {ks' : List Nat} (h : Dk N ks V d) (e : ∀ k, k ∈ ks ↔ k ∈ ks') : Dk N ks' V d := Dc.congr h fun k => by
  have := e k
  by_cases hk : k ∈ ks
  · simp [hk, this.mp hk]
  · have h2 : k ∉ ks' := fun z => hk (this.mpr z)
    simp [hk, h2]
theorem Dk.of {l : List Nat} (h : l.Nodup) (h2 : ∀ k ∈ l, k < N) (V : Nat → D) : Dk N l V (.dic (mapD (l.map fun t => (t, V t)))) := by
  have e : (l.map fun t => (t, V t)).map (·.1) = l := by simp [Function.comp_def]
  refine (Dc.of (N := N) (ps := l.map fun t => (t, V t)) (by rw [e]; exact h) (by rw [e]; exact h2)).congr fun k => ?_
  rw [lk_fun]
theorem Dk.dict {l : List Nat} (h : l.Nodup) (h2 : ∀ k ∈ l, k < N) (V : Nat → D) : ∃ d, biD .dict1 [.lst (l.map fun t => D.tup [natD t, V t])] = some d ∧ Dk N l V d := by
  have e : (l.map fun t => (t, V t)).map (·.1) = l := by simp [Function.comp_def]
  refine ⟨_, ?_, Dk.of h h2 V⟩
  have := dict1_of (ps := l.map fun t => (t, V t)) (by rw [e]; exact h)
  rw [List.map_map] at this
  exact this
/-- dict(list(d.items())) -/
theorem Dk.items (h : Dk N ks V d) (hN : N ≤ 16777216) : ∃ kvs, d = .dic kvs ∧ (itemsL kvs).length ≤ SZ ∧ biD .dict1 [.lst (itemsL kvs)] = some d := by
  obtain ⟨kvs, rfl, h2, h3, h4⟩ := h
  have hl := nodup_leN N _ h2 h3
  rw [List.length_map] at hl
  refine ⟨_, rfl, by simp [itemsL, mapD, SZ]; omega, ?_⟩
  rw [items_mapD]
  exact dict1_of h2
end
/-! ### things told by a frame -/
def xe (b : Bool) (e : Nat) : Bool := if e % 2 = 0 then b else !b
/-- the value of a thing, where the frame tells it -/
def mv (N : Nat) (nds : List (Nat × Nat)) (fr : List Nat) (ν : Nat → Bool) (t : Nat) : Option Bool :=
  if t = 0 then some false else if t ∈ fr then some (ν t) else if t < N then none else
    match nds[t - N]? with
    | none => none
    | some p => if _h : p.1 / 2 < t ∧ p.2 / 2 < t then
        match mv N nds fr ν (p.1 / 2), mv N nds fr ν (p.2 / 2) with
        | some a, some b => some (xe a p.1 && xe b p.2)
        | _, _ => none
      else none
termination_by t
decreasing_by
  · exact _h.1
  · exact _h.2
/-- nodes stand behind what they join -/
def Bk (N : Nat) (nds : List (Nat × Nat)) : Prop := ∀ (k : Nat) p, nds[k]? = some p → p.1 / 2 < N + k ∧ p.2 / 2 < N + k
section
variable {N : Nat} {nds : List (Nat × Nat)} {fr : List Nat} {ν : Nat → Bool} {t k s : Nat} {p : Nat × Nat}
theorem mv_zero : mv N nds fr ν 0 = some false := by rw [mv]; simp
theorem mv_fr (h0 : t ≠ 0) (h : t ∈ fr) : mv N nds fr ν t = some (ν t) := by rw [mv]; simp [h0, h]
theorem mv_low (h0 : t ≠ 0) (h : t ∉ fr) (hl : t < N) : mv N nds fr ν t = none := by rw [mv]; simp [h0, h, hl]
theorem mv_nd (hN : 0 < N) (hb : Bk N nds) (h : N + k ∉ fr) (hp : nds[k]? = some p) : mv N nds fr ν (N + k) = match mv N nds fr ν (p.1 / 2), mv N nds fr ν (p.2 / 2) with
        | some a, some b => some (xe a p.1 && xe b p.2)
        | _, _ => none := by
  have := hb k p hp
  rw [mv, if_neg (by omega), if_neg h, if_neg (by omega), show N + k - N = k by omega, hp]
  simp only
  rw [dif_pos this]
/-- told or not: whatever the values -/
def tl (N : Nat) (nds : List (Nat × Nat)) (fr : List Nat) (t : Nat) : Bool := (mv N nds fr (fun _ => false) t).isSome
theorem mv_some (ν : Nat → Bool) : ∀ t, (mv N nds fr ν t).isSome = tl N nds fr t := by
  intro t
  induction t using Nat.strongRecOn with
  | _ t ih =>
    unfold tl
    rw [mv, mv]
    by_cases h0 : t = 0
    · simp [h0]
    rw [if_neg h0, if_neg h0]
    by_cases h1 : t ∈ fr
    · simp [h1]
    rw [if_neg h1, if_neg h1]
    by_cases h2 : t < N
    · simp [h2]
    rw [if_neg h2, if_neg h2]
    cases nds[t - N]? with
    | none => rfl
    | some p =>
      simp only
      by_cases h3 : p.1 / 2 < t ∧ p.2 / 2 < t
      · rw [dif_pos h3, dif_pos h3]
        have e1 := ih _ h3.1
        have e2 := ih _ h3.2
        unfold tl at e1 e2
        revert e1 e2
        cases mv N nds fr ν (p.1 / 2) <;> cases mv N nds fr (fun _ => false) (p.1 / 2) <;> cases mv N nds fr ν (p.2 / 2) <;> cases mv N nds fr (fun _ => false) (p.2 / 2) <;> simp
      · rw [dif_neg h3, dif_neg h3]
theorem tl_get (ν : Nat → Bool) (h : tl N nds fr t = true) : ∃ b, mv N nds fr ν t = some b := Option.isSome_iff_exists.mp ((mv_some ν t).trans h)
theorem tl_no (ν : Nat → Bool) (h : tl N nds fr t = false) : mv N nds fr ν t = none := by
  have := mv_some (N := N) (nds := nds) (fr := fr) ν t
  rw [h] at this
  simpa using this
theorem tl_nd (hN : 0 < N) (hb : Bk N nds) (h : N + k ∉ fr) (hp : nds[k]? = some p) : tl N nds fr (N + k) = (tl N nds fr (p.1 / 2) && tl N nds fr (p.2 / 2)) := by
  unfold tl
  rw [mv_nd hN hb h hp]
  cases mv N nds fr (fun _ => false) (p.1 / 2) <;> cases mv N nds fr (fun _ => false) (p.2 / 2) <;> rfl
/-- an inner thing with its node -/
def Inn (N : Nat) (nds : List (Nat × Nat)) (fr : List Nat) (x : Nat) (p : Nat × Nat) : Prop := x ∉ fr ∧ N ≤ x ∧ nds[x - N]? = some p
inductive Rch (N : Nat) (nds : List (Nat × Nat)) (fr : List Nat) (s : Nat) : Nat → Prop
  | base : Rch N nds fr s s
  | left {x : Nat} {p : Nat × Nat} : Rch N nds fr s x → Inn N nds fr x p → Rch N nds fr s (p.1 / 2)
  | right {x : Nat} {p : Nat × Nat} : Rch N nds fr s x → Inn N nds fr x p → Rch N nds fr s (p.2 / 2)
theorem inn_at {x : Nat} (h : Inn N nds fr x p) : ∃ k, x = N + k ∧ N + k ∉ fr ∧ nds[k]? = some p := ⟨x - N, by have := h.2.1; omega, by have := h.2.1; rw [show N + (x - N) = x by omega]; exact h.1, h.2.2⟩
theorem rch_told (hN : 0 < N) (hb : Bk N nds) (h : tl N nds fr s = true) {x : Nat} (r : Rch N nds fr s x) : tl N nds fr x = true := by
  induction r with
  | base => exact h
  | left _ i ih =>
    obtain ⟨k, rfl, h1, h2⟩ := inn_at i
    rw [tl_nd hN hb h1 h2] at ih
    exact (Bool.and_eq_true_iff.mp ih).1
  | right _ i ih =>
    obtain ⟨k, rfl, h1, h2⟩ := inn_at i
    rw [tl_nd hN hb h1 h2] at ih
    exact (Bool.and_eq_true_iff.mp ih).2
theorem rch_lt (hb : Bk N nds) (hs : s < N + nds.length) {x : Nat} (r : Rch N nds fr s x) : x < N + nds.length := by
  induction r with
  | base => exact hs
  | left _ i ih =>
    obtain ⟨k, rfl, h1, h2⟩ := inn_at i
    have := hb k _ h2
    omega
  | right _ i ih =>
    obtain ⟨k, rfl, h1, h2⟩ := inn_at i
    have := hb k _ h2
    omega
theorem closed_told (hN : 0 < N) (hb : Bk N nds) (hs : s < N + nds.length) (hc : ∀ x, Rch N nds fr s x → x = 0 ∨ x ∈ fr ∨ N ≤ x) : ∀ x, Rch N nds fr s x → tl N nds fr x = true := by
  intro x
  induction x using Nat.strongRecOn with
  | _ x ih =>
    intro r
    by_cases h0 : x = 0
    · subst h0; unfold tl; rw [mv_zero]; rfl
    by_cases h1 : x ∈ fr
    · unfold tl; rw [mv_fr h0 h1]; rfl
    have h2 : N ≤ x := by
      rcases hc x r with h | h | h
      · exact absurd h h0
      · exact absurd h h1
      · exact h
    have hx := rch_lt hb hs r
    obtain ⟨p, hp⟩ : ∃ p, nds[x - N]? = some p := ⟨_, List.getElem?_eq_getElem (by omega)⟩
    have hi : Inn N nds fr x p := ⟨h1, h2, hp⟩
    have hl := hb _ _ hp
    have e1 := ih (p.1 / 2) (by omega) (.left r hi)
    have e2 := ih (p.2 / 2) (by omega) (.right r hi)
    have := tl_nd (fr := fr) hN hb (by rw [show N + (x - N) = x by omega]; exact h1) hp
    rw [show N + (x - N) = x by omega] at this
    rw [this, e1, e2]
    rfl
/-- what is within -/
def Wn (N : Nat) (nds : List (Nat × Nat)) (fr : List Nat) (s k : Nat) : Prop := Rch N nds fr s (N + k) ∧ N + k ∉ fr ∧ k < nds.length
theorem rch_up (hb : Bk N nds) {k : Nat} (r : Rch N nds fr s (N + k)) : N + k = s ∨ ∃ k' p, k < k' ∧ Wn N nds fr s k' ∧ nds[k']? = some p ∧ (N + k = p.1 / 2 ∨ N + k = p.2 / 2) := by
  generalize hx : N + k = x at r
  cases r with
  | base => exact .inl rfl
  | left r i =>
    obtain ⟨k', rfl, h1, h2⟩ := inn_at i
    have := hb k' _ h2
    exact .inr ⟨k', _, by omega, ⟨r, h1, (List.getElem?_eq_some_iff.mp h2).1⟩, h2, .inl rfl⟩
  | right r i =>
    obtain ⟨k', rfl, h1, h2⟩ := inn_at i
    have := hb k' _ h2
    exact .inr ⟨k', _, by omega, ⟨r, h1, (List.getElem?_eq_some_iff.mp h2).1⟩, h2, .inr rfl⟩
theorem wn_kid {q : Nat} (h : Wn N nds fr s k) (hp : nds[k]? = some p) (hq : q = p.1 / 2 ∨ q = p.2 / 2) : Rch N nds fr s q := by
  have hi : Inn N nds fr (N + k) p := ⟨h.2.1, by omega, by rw [show N + k - N = k by omega]; exact hp⟩
  rcases hq with rfl | rfl
  · exact .left h.1 hi
  · exact .right h.1 hi
/-- the line of things to look at, what is found -/
def dn (N : Nat) (fr found : List Nat) (x : Nat) : Prop := x = 0 ∨ x ∈ fr ∨ ∃ k ∈ found, x = N + k
structure WI (N : Nat) (nds : List (Nat × Nat)) (fr : List Nat) (s : Nat) (line found : List Nat) : Prop where
  ln : ∀ x ∈ line, Rch N nds fr s x
  nd : found.Nodup
  wn : ∀ k ∈ found, Wn N nds fr s k
  st : s ∈ line ∨ dn N fr found s
  kid : ∀ k ∈ found, ∀ p, nds[k]? = some p → (p.1 / 2 ∈ line ∨ dn N fr found (p.1 / 2)) ∧ (p.2 / 2 ∈ line ∨ dn N fr found (p.2 / 2))
theorem WI.start : WI N nds fr s [s] [] := ⟨fun x h => by rw [List.mem_singleton.mp h]; exact .base, by simp, fun k h => (by cases h), .inl (by simp), fun k h => (by cases h)⟩
theorem WI.drop {line found : List Nat} {x : Nat} (h : WI N nds fr s (line ++ [x]) found) (hx : dn N fr found x) : WI N nds fr s line found := by
  have key : ∀ y, y ∈ line ++ [x] ∨ dn N fr found y → y ∈ line ∨ dn N fr found y := fun y hy => by
    rcases hy with hy | hy
    · rcases List.mem_append.mp hy with z | z
      · exact .inl z
      · rw [List.mem_singleton.mp z]; exact .inr hx
    · exact .inr hy
  exact ⟨fun y hy => h.ln y (List.mem_append_left _ hy), h.nd, h.wn, key _ h.st, fun k hk p hp => ⟨key _ (h.kid k hk p hp).1, key _ (h.kid k hk p hp).2⟩⟩
theorem dn_mono {found more : List Nat} {x : Nat} (h : dn N fr found x) : dn N fr (found ++ more) x := by
  rcases h with h | h | ⟨k, h, e⟩
  · exact .inl h
  · exact .inr (.inl h)
  · exact .inr (.inr ⟨k, List.mem_append_left _ h, e⟩)
theorem WI.take {line found : List Nat} {k : Nat} (h : WI N nds fr s (line ++ [N + k]) found) (hf : N + k ∉ fr) (hk : k ∉ found) (hp : nds[k]? = some p) : WI N nds fr s (line ++ [p.1 / 2, p.2 / 2]) (found ++ [k]) := by
  have hw : Wn N nds fr s k := ⟨h.ln _ (by simp), hf, (List.getElem?_eq_some_iff.mp hp).1⟩
  have key : ∀ y, y ∈ line ++ [N + k] ∨ dn N fr found y → y ∈ line ++ [p.1 / 2, p.2 / 2] ∨ dn N fr (found ++ [k]) y := fun y hy => by
    rcases hy with hy | hy
    · rcases List.mem_append.mp hy with z | z
      · exact .inl (List.mem_append_left _ z)
      · rw [List.mem_singleton.mp z]; exact .inr (.inr (.inr ⟨k, by simp, rfl⟩))
    · exact .inr (dn_mono hy)
  refine ⟨fun y hy => ?_, ?_, fun j hj => ?_, key _ h.st, fun j hj q hq => ?_⟩
  · rcases List.mem_append.mp hy with z | z
    · exact h.ln y (List.mem_append_left _ z)
    · refine wn_kid hw hp ?_
      simpa using z
  · refine List.nodup_append.mpr ⟨h.nd, by simp, fun a ha b hb => ?_⟩
    rw [List.mem_singleton.mp hb]
    exact fun e => hk (e ▸ ha)
  · rcases List.mem_append.mp hj with z | z
    · exact h.wn j z
    · rw [List.mem_singleton.mp z]; exact hw
  · rcases List.mem_append.mp hj with z | z
    · exact ⟨key _ (h.kid j z q hq).1, key _ (h.kid j z q hq).2⟩
    · rw [List.mem_singleton.mp z, hp] at hq
      cases hq
      exact ⟨.inl (by simp), .inl (by simp)⟩
theorem WI.done (hN : 0 < N) {found : List Nat} (h : WI N nds fr s [] found) : ∀ x, Rch N nds fr s x → dn N fr found x := by
  have key : ∀ y, y ∈ ([] : List Nat) ∨ dn N fr found y → dn N fr found y := fun y hy => by
    rcases hy with hy | hy
    · cases hy
    · exact hy
  intro x r
  induction r with
  | base => exact key _ h.st
  | left r i ih =>
    obtain ⟨k, rfl, h1, h2⟩ := inn_at i
    rcases ih with z | z | ⟨j, hj, e⟩
    · omega
    · exact absurd z h1
    · have : j = k := by omega
      subst this
      exact key _ (h.kid j hj _ h2).1
  | right r i ih =>
    obtain ⟨k, rfl, h1, h2⟩ := inn_at i
    rcases ih with z | z | ⟨j, hj, e⟩
    · omega
    · exact absurd z h1
    · have : j = k := by omega
      subst this
      exact key _ (h.kid j hj _ h2).2
theorem WI.all (hN : 0 < N) {found : List Nat} (h : WI N nds fr s [] found) (k : Nat) : k ∈ found ↔ Wn N nds fr s k := by
  refine ⟨h.wn k, fun w => ?_⟩
  rcases h.done hN _ w.1 with z | z | ⟨j, hj, e⟩
  · omega
  · exact absurd z w.2.1
  · have : j = k := by omega
    exact this ▸ hj
theorem WI.told (hN : 0 < N) (hb : Bk N nds) (hs : s < N + nds.length) {found : List Nat} (h : WI N nds fr s [] found) : tl N nds fr s = true :=
  closed_told hN hb hs (fun x r => by
    rcases h.done hN x r with z | z | ⟨j, hj, e⟩
    · exact .inl z
    · exact .inr (.inl z)
    · exact .inr (.inr (by omega))) s .base
theorem untold (hN : 0 < N) (hb : Bk N nds) {x : Nat} (r : Rch N nds fr s x) (h0 : x ≠ 0) (h1 : x ∉ fr) (h2 : x < N) : tl N nds fr s = false := by
  cases h : tl N nds fr s with
  | false => rfl
  | true =>
    have := rch_told hN hb h r
    unfold tl at this
    rw [mv_low h0 h1 h2] at this
    cases this
/-- what is told is true -/
theorem mv_true (hN : 0 < N) (hb : Bk N nds) {A : Nat → Bool} (h0 : A 0 = false) (hf : ∀ t ∈ fr, ν t = A t) (hA : ∀ (k : Nat) p, nds[k]? = some p → A (N + k) = (xe (A (p.1 / 2)) p.1 && xe (A (p.2 / 2)) p.2)) : ∀ t b, mv N nds fr ν t = some b → b = A t := by
  intro t
  induction t using Nat.strongRecOn with
  | _ t ih =>
    intro b hm
    by_cases e0 : t = 0
    · subst e0; rw [mv_zero] at hm; rw [h0]; simpa using hm.symm
    by_cases e1 : t ∈ fr
    · rw [mv_fr e0 e1] at hm; rw [← hf t e1]; simpa using hm.symm
    by_cases e2 : t < N
    · rw [mv_low e0 e1 e2] at hm; cases hm
    cases hp : nds[t - N]? with
    | none =>
      rw [mv, if_neg e0, if_neg e1, if_neg e2, hp] at hm
      cases hm
    | some p =>
      have hl := hb _ _ hp
      have := mv_nd (ν := ν) hN hb (by rw [show N + (t - N) = t by omega]; exact e1) hp
      rw [show N + (t - N) = t by omega] at this
      rw [this] at hm
      have ha := hA _ _ hp
      rw [show N + (t - N) = t by omega] at ha
      rw [ha]
      have i1 := ih (p.1 / 2) (by omega)
      have i2 := ih (p.2 / 2) (by omega)
      revert hm i1 i2
      cases mv N nds fr ν (p.1 / 2) with
      | none => intro hm; cases hm
      | some a =>
        cases mv N nds fr ν (p.2 / 2) with
        | none => intro hm; cases hm
        | some b' =>
          intro hm i1 i2
          rw [← i1 a rfl, ← i2 b' rfl]
          simpa using hm.symm
end
/-- ascending rows with the same items are the same -/
theorem asc_ext : ∀ {a b : List Nat}, a.Pairwise (· < ·) → b.Pairwise (· < ·) → (∀ x, x ∈ a ↔ x ∈ b) → a = b
  | [], [], _, _, _ => rfl
  | [], y :: b, _, _, h => by have := (h y).mpr List.mem_cons_self; cases this
  | x :: a, [], _, _, h => by have := (h x).mp List.mem_cons_self; cases this
  | x :: a, y :: b, ha, hb, h => by
    obtain ⟨a1, a2⟩ := List.pairwise_cons.mp ha
    obtain ⟨b1, b2⟩ := List.pairwise_cons.mp hb
    have e : x = y := by
      have h1 := (h x).mp List.mem_cons_self
      have h2 := (h y).mpr List.mem_cons_self
      rcases List.mem_cons.mp h1 with z | z
      · exact z
      · rcases List.mem_cons.mp h2 with w | w
        · exact w.symm
        · have := b1 x z
          have := a1 y w
          omega
    subst e
    congr 1
    refine asc_ext a2 b2 fun z => ?_
    have := h z
    simp only [List.mem_cons] at this
    constructor
    · intro hz
      rcases this.mp (.inr hz) with w | w
      · have := a1 z hz; omega
      · exact w
    · intro hz
      rcases this.mpr (.inr hz) with w | w
      · have := b1 z hz; omega
      · exact w
/-! ### many bits in one number -/
def wd : List Bool → Nat
  | [] => 0
  | b :: r => (if b then 1 else 0) + 2 * wd r
theorem wd_lt : ∀ l : List Bool, wd l < 2 ^ l.length
  | [] => by simp [wd]
  | b :: r => by
    have := wd_lt r
    rw [List.length_cons, Nat.pow_succ]
    unfold wd
    cases b <;> simp <;> omega
theorem wd_bit : ∀ (l : List Bool) (i : Nat), (wd l).testBit i = l.getD i false
  | [], i => by simp [wd]
  | b :: r, 0 => by
    unfold wd
    rw [Nat.testBit_zero]
    cases b <;> simp <;> omega
  | b :: r, i + 1 => by
    unfold wd
    rw [Nat.testBit_succ, List.getD_cons_succ, ← wd_bit r i]
    congr 1
    cases b <;> simp <;> omega
theorem wd_get (l : List Bool) (i : Nat) : wd l / 2 ^ i % 2 = if l.getD i false = true then 1 else 0 := by
  have h := wd_bit l i
  rw [Nat.testBit_eq_decide_div_mod_eq] at h
  rw [← h]
  by_cases e : wd l / 2 ^ i % 2 = 1
  · simp [e]
  · simp [e]; omega
theorem wd_and {α : Type} (f g : α → Bool) (l : List α) : wd (l.map f) &&& wd (l.map g) = wd (l.map fun x => f x && g x) := by
  apply Nat.eq_of_testBit_eq
  intro i
  rw [Nat.testBit_and, wd_bit, wd_bit, wd_bit]
  simp only [List.getD_eq_getElem?_getD, List.getElem?_map]
  cases l[i]? <;> rfl
theorem wd_not : ∀ l : List Bool, 2 ^ l.length - 1 - wd l = wd (l.map (!·))
  | [] => by simp [wd]
  | b :: r => by
    have h := wd_lt r
    have h2 := wd_not r
    rw [List.length_cons, Nat.pow_succ, List.map_cons]
    unfold wd
    rw [← h2]
    cases b <;> simp <;> omega
/-! ### k21: gates, edges, frames -/
abbrev nn (g : Gt) : Nat := 1 + g.ins + g.sts
abbrev tt (g : Gt) : Nat := nn g + g.nds.length
/-- a frame: ascending things -/
structure Frm (g : Gt) (fr : List Nat) : Prop where
  len : fr.length ≤ 6
  asc : fr.Pairwise (· < ·)
  lo : ∀ t ∈ fr, 1 ≤ t
  hi : ∀ t ∈ fr, t < tt g
def frD (fr : List Nat) : D := .tup (fr.map natD)
theorem GtOk.bk {g : Gt} (h : GtOk g) : Bk (nn g) g.nds := fun k p hp => by
  have := h.nd k p hp
  unfold nn
  omega
theorem sub_gt {g : Gt} : subD (gtD g) (.int 3) = some (.tup (g.nds.map ndD)) := rfl
theorem sub_ins {g : Gt} : subD (gtD g) (.int 0) = some (natD g.ins) := rfl
theorem sub_sts {g : Gt} : subD (gtD g) (.int 1) = some (natD g.sts) := rfl
section
variable {n : Nat} {g : Gt}
theorem run_first : Fs tb sub (n + 1) i_first_node [gtD g] = .ok (natD (nn g), []) := by
  rw [call_first_node]
  simp [b_first_node, sub_ins, sub_sts]
theorem run_lfirst : Fs tb sub (n + 1) i__law_first [gtD g] = .ok (natD (nn g), []) := by
  rw [call__law_first]
  simp [b__law_first, sub_ins, sub_sts]
theorem tt_eq (g : Gt) : tt g = 1 + g.ins + g.sts + g.nds.length := rfl
theorem nn_eq (g : Gt) : nn g = 1 + g.ins + g.sts := rfl
theorem run_things : Fs tb sub (n + 2) i_things_in [gtD g] = .ok (natD (tt g), []) := by
  rw [call_things_in]
  simp [b_things_in, callS, run_first, sub_gt]
theorem run_need_edge {e : Nat} (h : GtOk g) (he : e < 2 * tt g) : Fs tb sub (n + 3) i_need_edge [gtD g, natD e] = .ok (.non, []) := by
  have h1 := h.ins
  have h2 := h.sts
  have h3 := h.ndl
  have h4 := tt_eq g
  have hm : bop .mul (.int 2) (natD (tt g)) = some (.int (2 * (tt g : Nat))) := bop_mul (.inl (by omega))
  rw [call_need_edge]
  simp [b_need_edge, callS, run_things, hm]
  omega
theorem zip_tail : ∀ (l : List Nat), l.Pairwise (· < ·) → ∀ q ∈ l.zip l.tail, q.1 < q.2
  | [], _, q, h => by cases h
  | [_], _, q, h => by cases h
  | x :: y :: r, h, q, hq => by
    obtain ⟨h1, h2⟩ := List.pairwise_cons.mp h
    rcases List.mem_cons.mp (show q ∈ (x, y) :: (y :: r).zip r from hq) with rfl | z
    · exact h1 y List.mem_cons_self
    · exact zip_tail (y :: r) h2 q z
theorem run_asc {l : List Nat} (h : l.Pairwise (· < ·)) (hl : l.length ≤ 6) : Fs tb sub (n + 1) i_is_ascending [.tup (l.map natD)] = .ok (.bl true, []) := by
  have hz := zip_tail l h
  rw [call_is_ascending]
  simp [b_is_ascending, cut_tail]
  rw [← List.map_tail, zipL_maps]
  rw [lcS_map (fun q : Nat × Nat => D.tup [natD q.1, natD q.2]) (fun _ => D.bl true) (Fit.of (k := 6) (by simp; omega) _ (by decide)) (by
    intro q hq
    have := hz q hq
    simp [lcT, e_is_ascending_1]
    omega)]
  simp
theorem run_fits {fr : List Nat} (hg : GtOk g) (h : Frm g fr) : Fs tb sub (n + 3) i_fits_frame [gtD g, frD fr] = .ok (.bl true, []) := by
  obtain ⟨h1, h2, h3, h4⟩ := h
  have ha := run_asc (n := n + 1) h2 h1
  rw [call_fits_frame]
  unfold frD
  simp [b_fits_frame, callS, ha, h1, show (fr.length : Int) ≤ 6 by omega]
  rw [lcS_map natD (fun _ => D.bl true) (Fit.of (k := 6) h1 _ (by decide)) (by
    intro t ht
    have := h3 t ht
    have := h4 t ht
    have := tt_eq g
    simp [lcT, e_fits_frame_1, callS, run_things]
    omega)]
  simp [callS, ha]
theorem run_need_frame {fr : List Nat} (hg : GtOk g) (h : Frm g fr) : Fs tb sub (n + 4) i_need_frame [gtD g, frD fr] = .ok (.non, []) := by
  rw [call_need_frame]
  simp [b_need_frame, callS, run_fits hg h]
theorem run_need_all {fr : List Nat} {e : Nat} (hg : GtOk g) (he : e < 2 * tt g) (h : Frm g fr) : Fs tb sub (n + 6) i_need_all [gtD g, natD e, frD fr] = .ok (.non, []) := by
  rw [call_need_all]
  simp [b_need_all, callS, run_need_gates (n := n) hg, run_need_edge (n := n + 2) hg he, run_need_frame (n := n + 1) hg h]
end
/-! ### what is within -/
theorem fdiv2 (e : Nat) : bop .fdiv (natD e) (.int 2) = some (natD (e / 2)) := by
  rw [bop_fdiv (by omega) (by omega)]; rfl
theorem mod2 (e : Nat) : bop .mod (natD e) (.int 2) = some (natD (e % 2)) := by
  rw [bop_mod (by omega)]; rfl
theorem ne_nilN (l : List Nat) : cmpD .ne (.lst (l.map natD)) (.lst []) = some (decide (l ≠ [])) := by
  have hd : ∀ (n : Nat) (l : List Nat), dps n (l.map natD) = true := by
    intro n l
    induction l with
    | nil => simp [dps]
    | cons x l ih =>
      simp only [List.map_cons]
      unfold dps
      rw [ih]
      unfold dp
      rfl
  have : ceq (.lst (l.map natD)) (.lst []) = some (deq (.lst (l.map natD)) (.lst [])) := by
    have := cmpD_eq_dp (a := .lst (l.map natD)) (b := .lst []) (by unfold dp; exact hd 59 l) (by unfold dp dps; rfl)
    exact this
  show (ceq _ _).map (!·) = _
  rw [this]
  cases l <;> simp [deq, deqs]
theorem pop_app (xs : List D) (d : D) : mmD .pop0 (.lst (xs ++ [d])) [] = some (d, .lst xs) := by
  show ((xs ++ [d])[(xs ++ [d]).length - 1]?).map (fun y => (y, D.lst (xs ++ [d]).dropLast)) = _
  simp
section
variable {n : Nat} {g : Gt} {fr : List Nat} {e : Nat}
abbrev LI (n : Nat) : Lv := LV tb sub n f_inner_in
abbrev stI (g : Gt) (e : Nat) (fr line found : List Nat) (x6 : Option D) : Sd := [some (gtD g), some (natD e), some (frD fr), some (natD (nn g)), some (.lst (found.map natD)), some (.lst (line.map natD)), x6, none]
theorem tst_inner {line found : List Nat} {x6 : Option D} : ((lent t_inner_in_2 (ev t_inner_in_2 (LI n) (stI g e fr line found x6)) (stI g e fr line found x6)).bind fun p => (R.ofO (tru p.1)).bind fun k => R.ok (k, p.2)) = .ok (decide (line ≠ []), stI g e fr line found x6) := by
  have := ne_nilN line
  simp [t_inner_in_2, this]
theorem step_cont {line found : List Nat} {x : Nat} {x6 : Option D} (h : dn (nn g) fr found x) : exs l_inner_in_2 (LI n) (stI g e fr (line ++ [x]) found x6) = .ok (.ct, stI g e fr line found (some (natD x))) := by
  have h1 := pop_app (line.map natD) (natD x)
  have e3 : (line ++ [x]).map natD = line.map natD ++ [natD x] := by simp
  unfold stI
  rw [e3]
  clear e3
  by_cases h0 : x = 0
  · subst h0
    simp -implicitDefEqProofs [l_inner_in_2, h1]
  have hc : cmpD .eq (natD x) (.int 0) = some false := by simp [h0]
  by_cases h2 : x ∈ fr
  · have h3 : inO (natD x) (fr.map natD) = some true := by rw [inO_natL]; simp [h2]
    generalize natD x = X at *
    simp -implicitDefEqProofs [l_inner_in_2, h1, h3, hc, frD]
  · have h3 : inO (natD x) (fr.map natD) = some false := by rw [inO_natL]; simp [h2]
    obtain ⟨k, hk, rfl⟩ : ∃ k ∈ found, x = nn g + k := by
      rcases h with h | h | h
      · exact absurd h h0
      · exact absurd h h2
      · exact h
    have h4 : bop .sub (natD (nn g + k)) (natD (nn g)) = some (natD k) := by
      show some (D.int _) = some (D.int _)
      congr 2
      omega
    have h5 : inO (natD k) (found.map natD) = some true := by rw [inO_natL]; simp [hk]
    have h6 : cmpD .isin (natD k) (.lst (found.map natD)) = some true := by rw [cmpD_in_lst_int]; exact h5
    generalize natD k = K at *
    generalize natD (nn g + k) = X at *
    generalize natD (nn g) = NN at *
    simp -implicitDefEqProofs [l_inner_in_2, h1, h3, h4, h6, hc, frD]
theorem step_none {line found : List Nat} {x : Nat} {x6 : Option D} (h0 : x ≠ 0) (h2 : x ∉ fr) (h : x < nn g) : ∃ σ, exs l_inner_in_2 (LI n) (stI g e fr (line ++ [x]) found x6) = .ok (.rt .non, σ) := by
  have h1 := pop_app (line.map natD) (natD x)
  have e3 : (line ++ [x]).map natD = line.map natD ++ [natD x] := by simp
  unfold stI
  rw [e3]
  clear e3
  have hc : cmpD .eq (natD x) (.int 0) = some false := by simp [h0]
  have h3 : inO (natD x) (fr.map natD) = some false := by rw [inO_natL]; simp [h2]
  have h5 : cmpD .isin (.int ((x : Int) - nn g)) (.lst (found.map natD)) = some false := by
    rw [cmpD_in_lst_int, natL_int, inO_intL]
    congr 1
    rw [decide_eq_false_iff_not, List.mem_map]
    rintro ⟨a, _, e⟩
    omega
  have h4 : bop .sub (natD x) (natD (nn g)) = some (.int ((x : Int) - nn g)) := rfl
  have h6 : cmpD .lt (natD x) (natD (nn g)) = some true := by
    show some (decide _) = _
    congr 1
    exact decide_eq_true (by omega)
  generalize (D.int ((x : Int) - nn g)) = Y at *
  generalize natD x = X at *
  generalize natD (nn g) = NN at *
  exact ⟨_, by simp -implicitDefEqProofs [l_inner_in_2, h1, h3, h4, h5, h6, hc, frD]; rfl⟩
theorem step_take {line found : List Nat} {k : Nat} {p : Nat × Nat} {x6 : Option D} (hN : 0 < nn g) (h2 : nn g + k ∉ fr) (hk : k ∉ found) (hp : g.nds[k]? = some p) (hf : found.length < 1000) (hl : line.length < 10000) : exs l_inner_in_2 (LI n) (stI g e fr (line ++ [nn g + k]) found x6) = .ok (.nx, stI g e fr (line ++ [p.1 / 2, p.2 / 2]) (found ++ [k]) (some (natD (nn g + k)))) := by
  have h1 := pop_app (line.map natD) (natD (nn g + k))
  have hc : cmpD .eq (natD (nn g + k)) (.int 0) = some false := by simp; omega
  have h3 : inO (natD (nn g + k)) (fr.map natD) = some false := by rw [inO_natL]; simp [h2]
  have h5 : cmpD .isin (natD k) (.lst (found.map natD)) = some false := by
    rw [cmpD_in_lst_int, inO_natL]; simp [hk]
  have h4 : bop .sub (natD (nn g + k)) (natD (nn g)) = some (natD k) := by
    show some (D.int _) = some (D.int _)
    congr 2
    omega
  have h6 : cmpD .lt (natD (nn g + k)) (natD (nn g)) = some false := by
    show some (decide _) = _
    congr 1
    exact decide_eq_false (by omega)
  have h7 : subD (.tup (g.nds.map ndD)) (natD k) = some (ndD p) := subD_tupM hp
  have h8 := sub_gt (g := g)
  have f1 : Fit 16777215 (found.map natD) := Fit.of (k := 1000) (by simp; omega) _ (by decide)
  have f2 : Fit 8388608 (line.map natD) := Fit.of (k := 10000) (by simp; omega) _ (by decide)
  have f3 : Fit 8388608 [natD (p.1 / 2), natD (p.2 / 2)] := Fit.of (k := 2) (by simp) _ (by decide)
  have ha := bop_addL f2 f3
  have d1 := fdiv2 p.1
  have d2 := fdiv2 p.2
  have e1 : (line ++ [p.1 / 2, p.2 / 2]).map natD = line.map natD ++ [natD (p.1 / 2), natD (p.2 / 2)] := by simp
  have e2 : (found ++ [k]).map natD = found.map natD ++ [natD k] := by simp
  have e3 : (line ++ [nn g + k]).map natD = line.map natD ++ [natD (nn g + k)] := by simp
  unfold stI
  rw [e1, e2, e3]
  have hnd : ndD p = .tup [natD p.1, natD p.2] := rfl
  rw [hnd] at h7
  clear e1 e2 e3 hnd
  have hcomp : ∀ (σ : Sd), σ.length = 8 → σ[7]? = some none → lcS [7] e_inner_in_1 (T.var 7) Eo.none (LI n) σ [natD p.1, natD p.2] σ = .ok (.lst [natD (p.1 / 2), natD (p.2 / 2)], back [7] σ σ) := by
    intro σ hs _
    have := lcS_map (own := [7]) (elt := e_inner_in_1) (t := T.var 7) (c := Eo.none) (l := LI n) (σ0 := σ) (σ := σ) natD (fun q => natD (q / 2)) (ys := [p.1, p.2]) (Fit.of (k := 2) (by simp) _ (by decide)) (by
      intro q hq
      have := fdiv2 q
      match σ, hs with
      | [y0, y1, y2, y3, y4, y5, y6, y7], _ => 
        generalize natD q = Q at *
        simp -implicitDefEqProofs [lcT, e_inner_in_1, this])
    simpa using this
  generalize found.map natD = F at *
  generalize line.map natD = L at *
  generalize gtD g = G at *
  generalize g.nds.map ndD = ND at *
  generalize natD k = K at *
  generalize natD (nn g + k) = X at *
  generalize natD (nn g) = NN at *
  generalize natD p.1 = P1 at *
  generalize natD p.2 = P2 at *
  simp -implicitDefEqProofs [l_inner_in_2, h1, h3, h4, h5, h6, h7, h8, hc, frD, f1, f2, ha, hcomp]
theorem run_inner (hg : GtOk g) (hfr : ∀ t ∈ fr, t ≠ 0) (he : e < 2 * tt g) :
    (tl (nn g) g.nds fr (e / 2) = false ∧ Fs tb sub (n + 3) i_inner_in [gtD g, natD e, frD fr] = .ok (.non, [])) ∨
    (tl (nn g) g.nds fr (e / 2) = true ∧ ∃ F : List Nat, Fs tb sub (n + 3) i_inner_in [gtD g, natD e, frD fr] = .ok (.lst (F.map natD), []) ∧ F.Pairwise (· < ·) ∧ ∀ k, k ∈ F ↔ Wn (nn g) g.nds fr (e / 2) k) := by
  have hb := hg.bk
  have hN : 0 < nn g := by have := nn_eq g; omega
  have hs : e / 2 < nn g + g.nds.length := by
    have := tt_eq g
    have := nn_eq g
    omega
  have h3 := hg.ndl
  have key := whS_inv (c := t_inner_in_2) (b := l_inner_in_2) (l := LI (n + 2))
    (fun m σ => ∃ line found x6, WI (nn g) g.nds fr (e / 2) line found ∧ m = 2 * (g.nds.length - found.length) + line.length ∧ m ≤ 1000 ∧ σ = stI g e fr line found x6)
    (fun r => (tl (nn g) g.nds fr (e / 2) = false ∧ ∃ σ, r = .ok (.rt .non, σ)) ∨ (∃ found x6, WI (nn g) g.nds fr (e / 2) [] found ∧ r = .ok (.nx, stI g e fr [] found x6))) (by
    rintro m σ ⟨line, found, x6, hw, hm, hm9, rfl⟩
    rcases List.eq_nil_or_concat line with rfl | ⟨ini, x, rfl⟩
    · left
      exact ⟨_, by rw [tst_inner]; rfl, .inr ⟨found, x6, hw, rfl⟩⟩
    · right
      rw [List.concat_eq_append] at *
      refine ⟨_, by rw [tst_inner]; simp; rfl, ?_⟩
      have hfl : found.length ≤ g.nds.length := nodup_leN _ found hw.nd fun k hk => (hw.wn k hk).2.2
      by_cases hd : dn (nn g) fr found x
      · left
        refine ⟨_, m - 1, ?_, .inr (step_cont hd), ini, found, _, hw.drop hd, ?_, ?_, rfl⟩
        · rw [hm]; simp
        · rw [hm]; simp
        · omega
      · have h0 : x ≠ 0 := fun z => hd (.inl z)
        have h1 : x ∉ fr := fun z => hd (.inr (.inl z))
        have hr : Rch (nn g) g.nds fr (e / 2) x := hw.ln x (by simp)
        by_cases hlt : x < nn g
        · right
          obtain ⟨σ, es⟩ := step_none (n := n + 2) (g := g) (fr := fr) (e := e) (line := ini) (found := found) (x6 := x6) h0 h1 hlt
          exact ⟨_, σ, es, .inl ⟨untold hN hb hr h0 h1 hlt, σ, rfl⟩⟩
        · left
          obtain ⟨k, rfl⟩ : ∃ k, x = nn g + k := ⟨x - nn g, by omega⟩
          have hk : k ∉ found := fun z => hd (.inr (.inr ⟨k, z, rfl⟩))
          have hx := rch_lt hb hs hr
          obtain ⟨p, hp⟩ : ∃ p, g.nds[k]? = some p := ⟨_, List.getElem?_eq_getElem (by omega)⟩
          have hw2 := hw.take h1 hk hp
          have hfl2 : (found ++ [k]).length ≤ g.nds.length := nodup_leN _ _ hw2.nd fun k hk => (hw2.wn k hk).2.2
          rw [List.length_append] at hfl2
          simp only [List.length_append, List.length_cons, List.length_nil] at hm hfl2
          refine ⟨_, m - 1, by omega, .inl (step_take hN h1 hk hp (by omega) (by omega)), ini ++ [p.1 / 2, p.2 / 2], found ++ [k], _, hw2, ?_, by omega, rfl⟩
          simp
          omega)
  have hf := run_first (n := n + 1) (g := g)
  have hd := fdiv2 e
  have hn : whS t_inner_in_2 l_inner_in_2 (LI (n + 2)) WF [some (gtD g), some (natD e), some (frD fr), some (natD (nn g)), some (.lst []), some (.lst [natD (e / 2)]), none, none] = whS t_inner_in_2 l_inner_in_2 (LI (n + 2)) WF (stI g e fr [e / 2] [] none) := rfl
  have := key (2 * g.nds.length + 1) (stI g e fr [e / 2] [] none) WF ⟨[e / 2], [], none, .start, by simp, by omega, rfl⟩ (by unfold WF; omega)
  rw [← hn] at this
  rcases this with ⟨h1, σ, h2⟩ | ⟨found, x6, hw, h2⟩
  · left
    refine ⟨h1, ?_⟩
    rw [call_inner_in]
    generalize frD fr = FR at *
    generalize natD (nn g) = NN at *
    simp -implicitDefEqProofs [b_inner_in, callS, hf, hd, h2]
  · right
    refine ⟨hw.told hN hb hs, sortN found, ?_, sortN_asc hw.nd, fun k => mem_sortN.trans (hw.all hN k)⟩
    have hso := biD_sortN (l := found)
    rw [call_inner_in]
    unfold stI at h2
    generalize frD fr = FR at *
    generalize natD (nn g) = NN at *
    simp -implicitDefEqProofs [b_inner_in, callS, hf, hd, h2, hso]
end
/-! ### truth, all rows at once -/
section
variable {n : Nat} {g : Gt} {fr : List Nat} {e : Nat}
theorem run_rows {k : Nat} (hk : k ≤ 64) : Fs tb sub (n + 1) i_rows_of [natD k] = .ok (natD (2 ^ k), []) := by
  have h1 : bop .shl (.int 1) (natD k) = some (natD (2 ^ k)) := by
    rw [bop_shl (by omega) (by omega) (by decide)]
    exact congrArg (fun z => some (D.int z)) (pow_toNat k)
  rw [call_rows_of]
  generalize natD k = K at *
  simp -implicitDefEqProofs [b_rows_of, h1]
/-- the bit of row r for place at -/
def rb (r at_ : Nat) : Bool := decide (r / 2 ^ at_ % 2 = 1)
theorem run_sign : ∀ m, m ≤ 6 → ∀ at_, at_ < m → Fs tb sub (n + 2) i_sign_bits [natD at_, natD m] = .ok (natD (wd ((List.range (2 ^ m)).map fun r => rb r at_)), [])
  | 1, _, 0, _ => by kernel_rfl
  | 2, _, 0, _ => by kernel_rfl
  | 2, _, 1, _ => by kernel_rfl
  | 3, _, 0, _ => by kernel_rfl
  | 3, _, 1, _ => by kernel_rfl
  | 3, _, 2, _ => by kernel_rfl
  | 4, _, 0, _ => by kernel_rfl
  | 4, _, 1, _ => by kernel_rfl
  | 4, _, 2, _ => by kernel_rfl
  | 4, _, 3, _ => by kernel_rfl
  | 5, _, 0, _ => by kernel_rfl
  | 5, _, 1, _ => by kernel_rfl
  | 5, _, 2, _ => by kernel_rfl
  | 5, _, 3, _ => by kernel_rfl
  | 5, _, 4, _ => by kernel_rfl
  | 6, _, 0, _ => by kernel_rfl
  | 6, _, 1, _ => by kernel_rfl
  | 6, _, 2, _ => by kernel_rfl
  | 6, _, 3, _ => by kernel_rfl
  | 6, _, 4, _ => by kernel_rfl
  | 6, _, 5, _ => by kernel_rfl
  | 0, _, a, h => absurd h (by omega)
  | 1, _, a + 1, h => absurd h (by omega)
  | 2, _, a + 2, h => absurd h (by omega)
  | 3, _, a + 3, h => absurd h (by omega)
  | 4, _, a + 4, h => absurd h (by omega)
  | 5, _, a + 5, h => absurd h (by omega)
  | 6, _, a + 6, h => absurd h (by omega)
  | m + 7, h, _, _ => absurd h (by omega)
theorem run_allbits : ∀ m, m ≤ 6 → Fs tb sub (n + 1) i__law_all_bits [natD m] = .ok (.lst ((List.range (2 ^ m)).map fun r => .tup ((List.range m).map fun a => bitD (rb r a))), [])
  | 0, _ => by kernel_rfl
  | 1, _ => by kernel_rfl
  | 2, _ => by kernel_rfl
  | 3, _ => by kernel_rfl
  | 4, _ => by kernel_rfl
  | 5, _ => by kernel_rfl
  | 6, _ => by kernel_rfl
  | m + 7, h => absurd h (by omega)
theorem run_wide {d : D} {kvs : List (D × D)} {l : List Bool} (hd : d = .dic kvs) (hl : l.length ≤ 64) (h : subD d (natD (e / 2)) = some (natD (wd l))) : Fs tb sub (n + 1) i_wide_bit [d, natD e, natD (2 ^ l.length - 1)] = .ok (natD (wd (l.map fun b => xe b e)), []) := by
  have h1 := mod2 e
  have h2 := fdiv2 e
  have hlt := wd_lt l
  have h3 : bop .sub (natD (2 ^ l.length - 1)) (natD (wd l)) = some (natD (wd (l.map (!·)))) := by
    rw [← wd_not]
    show some (D.int _) = some (D.int _)
    congr 2
    omega
  rw [call_wide_bit]
  rcases Nat.mod_two_eq_zero_or_one e with z | z
  · have e1 : (l.map fun b => xe b e) = l := by
      rw [show (fun b => xe b e) = fun b => b from funext fun b => by unfold xe; rw [if_pos z]]
      simp
    rw [z] at h1
    rw [e1]
    generalize natD (wd l) = A at *
    generalize natD (2 ^ l.length - 1) = B at *
    generalize natD (e / 2) = C at *
    generalize natD e = F at *
    simp -implicitDefEqProofs [b_wide_bit, h1, h2, h]
  · have e1 : (l.map fun b => xe b e) = l.map (!·) := by
      rw [show (fun b => xe b e) = fun b => !b from funext fun b => by unfold xe; rw [if_neg (by omega)]]
    rw [z] at h1
    rw [e1]
    generalize natD (wd l) = A at *
    generalize natD (2 ^ l.length - 1) = B at *
    generalize natD (e / 2) = C at *
    generalize natD e = F at *
    generalize natD (wd (l.map (!·))) = G at *
    simp -implicitDefEqProofs [b_wide_bit, h1, h2, h, h3]
end
def nu (fr : List Nat) (r t : Nat) : Bool := rb r (fr.idxOf t)
def vl (g : Gt) (fr : List Nat) (t : Nat) : List Bool := (List.range (2 ^ fr.length)).map fun r => (mv (nn g) g.nds fr (nu fr r) t).getD false
def tvl (g : Gt) (fr : List Nat) (e : Nat) : List Bool := (List.range (2 ^ fr.length)).map fun r => xe ((mv (nn g) g.nds fr (nu fr r) (e / 2)).getD false) e
def vD (g : Gt) (fr : List Nat) (t : Nat) : D := natD (wd (vl g fr t))
theorem idx_at : ∀ {l : List Nat} {i t : Nat}, l.Nodup → l[i]? = some t → l.idxOf t = i
  | [], i, t, _, h => by simp at h
  | x :: l, 0, t, _, h => by
    have : x = t := by simpa using h
    subst this
    simp
  | x :: l, i + 1, t, hn, h => by
    obtain ⟨h1, h2⟩ := List.nodup_cons.mp hn
    have h : l[i]? = some t := by simpa using h
    have ne : x ≠ t := fun e => h1 (e ▸ List.mem_of_getElem? h)
    rw [List.idxOf_cons, idx_at h2 h]
    have : (x == t) = false := by simpa using ne
    rw [this]
    rfl
theorem wd_false {α : Type} (l : List α) : wd (l.map fun _ => false) = 0 := by
  induction l with
  | nil => rfl
  | cons x l ih => rw [List.map_cons]; unfold wd; rw [ih]; rfl
theorem asc_nodup {l : List Nat} (h : l.Pairwise (· < ·)) : l.Nodup := h.imp fun h => Nat.ne_of_lt h
section
variable {n : Nat} {g : Gt} {fr : List Nat} {e : Nat}
theorem vD_zero : vD g fr 0 = .int 0 := by
  unfold vD vl
  simp only [mv_zero, Option.getD_some]
  rw [wd_false]
  rfl
theorem vD_fr {i t : Nat} (h : Frm g fr) (ht : fr[i]? = some t) : vD g fr t = natD (wd ((List.range (2 ^ fr.length)).map fun r => rb r i)) := by
  have hm := List.mem_of_getElem? ht
  have h0 := h.lo t hm
  unfold vD vl
  simp only [mv_fr (show t ≠ 0 by omega) hm, Option.getD_some]
  unfold nu
  rw [idx_at (asc_nodup h.asc) ht]
theorem vl_len (t : Nat) : (vl g fr t).length = 2 ^ fr.length := by unfold vl; simp
theorem tell_at (hg : GtOk g) {t : Nat} (h : tl (nn g) g.nds fr t = true) : t = 0 ∨ t ∈ fr ∨ nn g ≤ t := by
  by_cases h0 : t = 0
  · exact .inl h0
  by_cases h1 : t ∈ fr
  · exact .inr (.inl h1)
  by_cases h2 : nn g ≤ t
  · exact .inr (.inr h2)
  · unfold tl at h
    rw [mv_low h0 h1 (by omega)] at h
    cases h
theorem vD_nd (hg : GtOk g) {k : Nat} {p : Nat × Nat} (hp : g.nds[k]? = some p) (hf : nn g + k ∉ fr) (h1 : tl (nn g) g.nds fr (p.1 / 2) = true) (h2 : tl (nn g) g.nds fr (p.2 / 2) = true) :
    vD g fr (nn g + k) = natD (wd ((vl g fr (p.1 / 2)).map fun b => xe b p.1) &&& wd ((vl g fr (p.2 / 2)).map fun b => xe b p.2)) := by
  have hN : 0 < nn g := by have := nn_eq g; omega
  unfold vD vl
  rw [List.map_map, List.map_map, wd_and]
  congr 2
  congr 1
  funext r
  rw [mv_nd hN hg.bk hf hp]
  obtain ⟨a, ha⟩ := tl_get (nu fr r) h1
  obtain ⟨b, hb⟩ := tl_get (nu fr r) h2
  simp only [Function.comp_apply, ha, hb, Option.getD_some]
abbrev LT (n : Nat) : Lv := LV tb sub n f_truth_in
abbrev stT (g : Gt) (e : Nat) (fr F : List Nat) (d : D) (x8 x9 x10 x11 x12 x13 : Option D) : Sd := [some (gtD g), some (natD e), some (frD fr), some (.lst (F.map natD)), some (natD (2 ^ fr.length)), some (natD (nn g)), some (natD (2 ^ (2 ^ fr.length) - 1)), some d, x8, x9, x10, x11, x12, x13, none]
theorem loop_fr {F : List Nat} {d : D} (hg : GtOk g) (h : Frm g fr) (hd : Dk (tt g) [0] (vD g fr) d) :
    ∃ d' x8 x9, forS (T.tup [(T.var 8), (T.var 9)]) l_truth_in_3 (LT (n + 2)) (enumL (fr.map natD)) (stT g e fr F d none none none none none none) = .ok (.nx, stT g e fr F d' x8 x9 none none none none) ∧ Dk (tt g) (0 :: fr) (vD g fr) d' := by
  have ht := tt_eq g
  have q1 := hg.ins
  have q2 := hg.sts
  have q3 := hg.ndl
  rw [enumL_map]
  obtain ⟨σ', e1, d', x8, x9, rfl, e2⟩ := forS_inv (t := (T.tup [(T.var 8), (T.var 9)])) (l := LT (n + 2)) (b := l_truth_in_3) (ys := (List.range fr.length).zip fr) (σ := stT g e fr F d none none none none none none) (fun q : Nat × Nat => D.tup [natD q.1, natD q.2])
    (fun pre σ => ∃ d' x8 x9, σ = stT g e fr F d' x8 x9 none none none none ∧ Dk (tt g) (0 :: pre.map (·.2)) (vD g fr) d') ⟨d, none, none, rfl, hd⟩ (by
      rintro pre ⟨i, t⟩ post σ ey ⟨d', x8, x9, rfl, hd'⟩
      have hq : (i, t) ∈ (List.range fr.length).zip fr := by rw [ey]; simp
      have hit := mem_zipR hq
      have hi : i < fr.length := (List.getElem?_eq_some_iff.mp hit).1
      obtain ⟨d2, s1, s2⟩ := hd'.put (k := t) (by omega) (h.hi t (List.mem_of_getElem? hit))
      rw [vD_fr h hit] at s1
      have hs := run_sign (n := n) fr.length h.len i hi
      have hlen : biD .len [frD fr] = some (natD fr.length) := by
        show some (D.int _) = some (D.int _)
        simp
      refine ⟨stT g e fr F d2 (some (natD i)) (some (natD t)) none none none none, ?_, d2, _, _, rfl, by simpa using s2⟩
      unfold stT
      generalize natD (wd ((List.range (2 ^ fr.length)).map fun r => rb r i)) = W at *
      generalize frD fr = FR at *
      generalize natD fr.length = K at *
      generalize natD i = I at *
      generalize natD t = T at *
      generalize F.map natD = FF at *
      simp -implicitDefEqProofs [l_truth_in_3, callS, hlen, hs, s1])
  refine ⟨d', x8, x9, e1, ?_⟩
  have : ((List.range fr.length).zip fr).map (·.2) = fr := by
    rw [List.map_snd_zip]
    simp
  rwa [this] at e2
/-- a part told is among the keys -/
theorem key_of (hg : GtOk g) {F pre post : List Nat} {k c : Nat} (hF : F.Pairwise (· < ·)) (hm : ∀ j, j ∈ F ↔ Wn (nn g) g.nds fr (e / 2) j) (he : e / 2 < tt g) (eF : F = pre ++ k :: post) (hr : Rch (nn g) g.nds fr (e / 2) c) (ht : tl (nn g) g.nds fr c = true) (hc : c < nn g + k) : c ∈ (0 :: fr) ++ pre.map (nn g + ·) := by
  by_cases h1 : c ∈ fr
  · simp [h1]
  rcases tell_at hg ht with z | z | z
  · simp [z]
  · exact absurd z h1
  · have hx := rch_lt hg.bk (show e / 2 < nn g + g.nds.length by have := tt_eq g; have := nn_eq g; omega) hr
    have hw : Wn (nn g) g.nds fr (e / 2) (c - nn g) := ⟨by rw [show nn g + (c - nn g) = c by omega]; exact hr, by rw [show nn g + (c - nn g) = c by omega]; exact h1, by omega⟩
    have hi := (hm _).mpr hw
    rw [eF] at hi hF
    refine List.mem_append_right _ (List.mem_map.mpr ⟨c - nn g, ?_, by omega⟩)
    rcases List.mem_append.mp hi with w | w
    · exact w
    · exfalso
      rcases List.mem_cons.mp w with w | w
      · omega
      · have := (List.pairwise_cons.mp (List.pairwise_append.mp hF).2.1).1 _ w
        omega
theorem loop_in {F : List Nat} {d : D} {x8 x9 : Option D} (hg : GtOk g) (h : Frm g fr) (he : e / 2 < tt g) (hte : tl (nn g) g.nds fr (e / 2) = true) (hF : F.Pairwise (· < ·)) (hm : ∀ j, j ∈ F ↔ Wn (nn g) g.nds fr (e / 2) j) (hd : Dk (tt g) (0 :: fr) (vD g fr) d) :
    ∃ d' x10 x11 x12, forS (T.var 10) l_truth_in_2 (LT (n + 2)) (F.map natD) (stT g e fr F d x8 x9 none none none none) = .ok (.nx, stT g e fr F d' x8 x9 x10 x11 x12 none) ∧ Dk (tt g) ((0 :: fr) ++ F.map (nn g + ·)) (vD g fr) d' := by
  have ht := tt_eq g
  have hnn := nn_eq g
  have q1 := hg.ins
  have q2 := hg.sts
  have q3 := hg.ndl
  have hN : 0 < nn g := by omega
  have hR : 2 ^ fr.length ≤ 64 := Nat.pow_le_pow_right (by omega) h.len
  obtain ⟨σ', e1, d', x10, x11, x12, rfl, e2⟩ := forS_inv (t := T.var 10) (l := LT (n + 2)) (b := l_truth_in_2) (ys := F) (σ := stT g e fr F d x8 x9 none none none none) natD
    (fun pre σ => ∃ d' x10 x11 x12, σ = stT g e fr F d' x8 x9 x10 x11 x12 none ∧ Dk (tt g) ((0 :: fr) ++ pre.map (nn g + ·)) (vD g fr) d') ⟨d, none, none, none, rfl, by simpa using hd⟩ (by
      rintro pre k post σ ey ⟨d', x10, x11, x12, rfl, hd'⟩
      have hk : Wn (nn g) g.nds fr (e / 2) k := (hm k).mp (by rw [ey]; simp)
      obtain ⟨p, hp⟩ : ∃ p, g.nds[k]? = some p := ⟨_, List.getElem?_eq_getElem hk.2.2⟩
      have hb := hg.bk k p hp
      have r1 := wn_kid hk hp (.inl rfl)
      have r2 := wn_kid hk hp (.inr rfl)
      have t1 := rch_told hN hg.bk hte r1
      have t2 := rch_told hN hg.bk hte r2
      have g1 := hd'.get (key_of hg hF hm he ey r1 t1 hb.1)
      have g2 := hd'.get (key_of hg hF hm he ey r2 t2 hb.2)
      obtain ⟨d2, s1, s2⟩ := hd'.put (k := nn g + k) (by omega) (by have := hk.2.2; omega)
      rw [vD_nd hg hp hk.2.1 t1 t2] at s1
      obtain ⟨kvs, hkv, _⟩ := Dc.dic hd'
      have w1 := run_wide (n := n + 1) (e := p.1) hkv (by rw [vl_len]; exact hR) g1
      have w2 := run_wide (n := n + 1) (e := p.2) hkv (by rw [vl_len]; exact hR) g2
      rw [vl_len] at w1 w2
      have ha : bop .band (natD (wd ((vl g fr (p.1 / 2)).map fun b => xe b p.1))) (natD (wd ((vl g fr (p.2 / 2)).map fun b => xe b p.2))) = some (natD (wd ((vl g fr (p.1 / 2)).map fun b => xe b p.1) &&& wd ((vl g fr (p.2 / 2)).map fun b => xe b p.2))) := by
        rw [bop_band (by omega) (by omega)]
        rfl
      have h7 : subD (.tup (g.nds.map ndD)) (natD k) = some (.tup [natD p.1, natD p.2]) := subD_tupM (f := ndD) hp
      have h8 := sub_gt (g := g)
      have hadd : bop .add (natD (nn g)) (natD k) = some (natD (nn g + k)) := by
        show some (D.int _) = some (D.int _)
        simp
      refine ⟨stT g e fr F d2 x8 x9 (some (natD k)) (some (natD p.1)) (some (natD p.2)) none, ?_, d2, _, _, _, rfl, by simpa using s2⟩
      unfold stT
      generalize natD (wd ((vl g fr (p.1 / 2)).map fun b => xe b p.1) &&& wd ((vl g fr (p.2 / 2)).map fun b => xe b p.2)) = W at *
      generalize natD (wd ((vl g fr (p.1 / 2)).map fun b => xe b p.1)) = W1 at *
      generalize natD (wd ((vl g fr (p.2 / 2)).map fun b => xe b p.2)) = W2 at *
      generalize natD (2 ^ 2 ^ fr.length - 1) = WH at *
      generalize natD (2 ^ fr.length) = MA at *
      generalize frD fr = FR at *
      generalize gtD g = G at *
      generalize g.nds.map ndD = ND at *
      generalize natD p.1 = P1 at *
      generalize natD p.2 = P2 at *
      generalize natD (nn g + k) = NK at *
      generalize natD k = K at *
      generalize natD (nn g) = NN at *
      generalize F.map natD = FF at *
      simp -implicitDefEqProofs [l_truth_in_2, callS, h7, h8, w1, w2, ha, hadd, s1])
  exact ⟨d', x10, x11, x12, e1, e2⟩
end
section
variable {n : Nat} {g : Gt} {fr : List Nat} {e : Nat}
theorem tvl_at {r : Nat} (h : r < 2 ^ fr.length) : (tvl g fr e).getD r false = xe ((mv (nn g) g.nds fr (nu fr r) (e / 2)).getD false) e := by
  unfold tvl
  rw [List.getD_eq_getElem?_getD, List.getElem?_map, List.getElem?_range h]
  rfl
theorem tvl_vl : (vl g fr (e / 2)).map (fun b => xe b e) = tvl g fr e := by
  unfold vl tvl
  rw [List.map_map]
  rfl
theorem rng64 (z : Nat) (h : z ≤ 64) : rngOk (z : Int) = true := rngOk_of (by omega) (by omega)
theorem cont_dic (kvs : List (D × D)) : isContainer (.dic kvs) = true := rfl
theorem dput_nil (k v : D) : dput [] k v = [(k, v)] := rfl
theorem run_truth (hg : GtOk g) (h : Frm g fr) (he : e < 2 * tt g) :
    Fs tb sub (n + 4) i_truth_in [gtD g, natD e, frD fr] = .ok (if tl (nn g) g.nds fr (e / 2) = true then .tup ((tvl g fr e).map bitD) else .non, []) := by
  have ht := tt_eq g
  have hnn := nn_eq g
  have q1 := hg.ins
  have q2 := hg.sts
  have q3 := hg.ndl
  have q4 := h.len
  have he2 : e / 2 < tt g := by omega
  have hR : 2 ^ fr.length ≤ 64 := Nat.pow_le_pow_right (by omega) h.len
  have hlen : biD .len [frD fr] = some (natD fr.length) := by
    show some (D.int _) = some (D.int _)
    simp
  have hro := run_rows (n := n + 2) (k := fr.length) (by omega)
  rcases run_inner (n := n) hg (fr := fr) (fun t ht => by have := h.lo t ht; omega) he with ⟨z, hi⟩ | ⟨z, F, hi, hF, hm⟩
  · rw [z, call_truth_in]
    generalize frD fr = FR at *
    generalize natD fr.length = K at *
    generalize natD (2 ^ fr.length) = R at *
    generalize natD e = E at *
    simp -implicitDefEqProofs [b_truth_in, callS, hi, hlen, hro]
  · rw [z]
    have d0 : Dk (tt g) [0] (vD g fr) (.dic [(.int 0, .int 0)]) := by
      have := Dk.of (N := tt g) (l := [0]) (by simp) (by intro k hk; rw [List.mem_singleton.mp hk]; omega) (vD g fr)
      have e0 : D.dic (mapD ([0].map fun t => (t, vD g fr t))) = .dic [(.int 0, .int 0)] := by
        show D.dic [(natD 0, vD g fr 0)] = _
        rw [vD_zero]
        rfl
      rwa [e0] at this
    obtain ⟨d1, x8, x9, l1, D1⟩ := loop_fr (n := n + 1) (e := e) (F := F) hg h d0
    obtain ⟨d2, x10, x11, x12, l2, D2⟩ := loop_in (n := n + 1) (x8 := x8) (x9 := x9) hg h he2 z hF hm D1
    have hfi := run_first (n := n + 2) (g := g)
    have hro2 := run_rows (n := n + 2) (k := 2 ^ fr.length) hR
    have hsub : bop .sub (natD (2 ^ 2 ^ fr.length)) (.int 1) = some (natD (2 ^ 2 ^ fr.length - 1)) := by
      have : 0 < 2 ^ 2 ^ fr.length := Nat.pow_pos (by omega)
      generalize 2 ^ 2 ^ fr.length = z at *
      show some (D.int _) = some (D.int _)
      congr 2
      omega
    have hgt : subD d2 (natD (e / 2)) = some (natD (wd (vl g fr (e / 2)))) := D2.get (by
      rcases tell_at hg z with w | w | w
      · simp [w]
      · simp [w]
      · by_cases w2 : e / 2 ∈ fr
        · simp [w2]
        · refine List.mem_append_right _ (List.mem_map.mpr ⟨e / 2 - nn g, (hm _).mpr ⟨?_, ?_, by omega⟩, by omega⟩)
          · rw [show nn g + (e / 2 - nn g) = e / 2 by omega]; exact .base
          · rw [show nn g + (e / 2 - nn g) = e / 2 by omega]; exact w2)
    obtain ⟨kvs, hkv, _⟩ := Dc.dic D2
    have hw := run_wide (n := n + 2) (e := e) hkv (by rw [vl_len]; exact hR) hgt
    rw [vl_len, tvl_vl] at hw
    have hrange : rangeL 0 ((2 ^ fr.length : Nat) : Int) = (List.range (2 ^ fr.length)).map natD := rangeL_of rfl
    have hrok : rngOk ((2 ^ fr.length : Nat) : Int) = true := rng64 _ hR
    have hmap : (List.range (2 ^ fr.length)).map (fun r => bitD ((tvl g fr e).getD r false)) = (tvl g fr e).map bitD := by
      conv => rhs; unfold tvl
      rw [List.map_map]
      apply List.map_congr_left
      intro r hr
      have hr : r < 2 ^ fr.length := by simpa using hr
      rw [Function.comp_apply]
      exact congrArg bitD (tvl_at hr)
    have hcomp : ∀ σ : Sd, (∃ y0 y1 y2 y3 y4 y5 y6 y7 y8 y9 y10 y11 y12, σ = [y0, y1, y2, y3, y4, y5, y6, y7, y8, y9, y10, y11, y12, some (natD (wd (tvl g fr e))), none]) → lcS [14] e_truth_in_1 (T.var 14) Eo.none (LT (n + 3)) σ ((List.range (2 ^ fr.length)).map natD) σ = .ok (.lst ((tvl g fr e).map bitD), back [14] σ σ) := by
      rintro σ ⟨y0, y1, y2, y3, y4, y5, y6, y7, y8, y9, y10, y11, y12, rfl⟩
      rw [lcS_map natD (fun r => bitD ((tvl g fr e).getD r false)) (Fit.of (k := 64) (by simpa using hR) _ (by decide)) (by
        intro r hr
        have hr : r < 2 ^ fr.length := by simpa using hr
        have hro3 := run_rows (n := n + 2) (k := r) (by omega)
        have hdv : bop .fdiv (natD (wd (tvl g fr e))) (natD (2 ^ r)) = some (natD (wd (tvl g fr e) / 2 ^ r)) := by
          rw [bop_fdivW (by have : 0 < 2 ^ r := Nat.pow_pos (by omega); omega) (by
            rw [Int.natAbs_natCast, Nat.log2_two_pow]; omega)]
          rfl
        have hmo : bop .mod (natD (wd (tvl g fr e) / 2 ^ r)) (.int 2) = some (bitD ((tvl g fr e).getD r false)) := by
          rw [mod2, wd_get]
          cases (tvl g fr e).getD r false <;> rfl
        generalize bitD ((tvl g fr e).getD r false) = B at *
        generalize natD (wd (tvl g fr e) / 2 ^ r) = C at *
        generalize natD (wd (tvl g fr e)) = W at *
        generalize natD (2 ^ r) = P at *
        generalize natD r = Q at *
        simp -implicitDefEqProofs [lcT, e_truth_in_1, callS, hro3, hdv, hmo])]
      rw [hmap]
    rw [call_truth_in]
    unfold stT at l1 l2
    rw [show n + 1 + 2 = n + 3 from rfl] at l1 l2
    have hfrd : itemsOf (frD fr) = some (fr.map natD) := rfl
    generalize natD (wd (tvl g fr e)) = W at *
    generalize natD (2 ^ 2 ^ fr.length - 1) = WH at *
    generalize natD (2 ^ 2 ^ fr.length) = WH1 at *
    clear hmap
    generalize 2 ^ fr.length = RR at *
    generalize frD fr = FR at *
    generalize gtD g = G at *
    generalize natD fr.length = K at *
    generalize natD e = E at *
    generalize natD (nn g) = NN at *
    simp -implicitDefEqProofs [b_truth_in, callS, hi, hlen, hro, hro2, hfi, hsub, hfrd, l1, l2, hw, hrange, hrok, hcomp, cont_dic, dput_nil]
end
section
variable {n : Nat} {g : Gt} {fr : List Nat} {e e' : Nat}
def trD (g : Gt) (fr : List Nat) (e : Nat) : D := if tl (nn g) g.nds fr (e / 2) = true then .tup ((tvl g fr e).map bitD) else .non
theorem run_truthT (hg : GtOk g) (h : Frm g fr) (he : e < 2 * tt g) : Fs tb sub (n + 4) i_truth_in [gtD g, natD e, frD fr] = .ok (trD g fr e, []) := run_truth hg h he
theorem frm_ne (h : Frm g fr) : ∀ t ∈ fr, t ≠ 0 := fun t ht => by have := h.lo t ht; omega
theorem run_told (hg : GtOk g) (h : Frm g fr) (he : e < 2 * tt g) : Fs tb sub (n + 7) i_is_told_by [gtD g, natD e, frD fr] = .ok (.bl (tl (nn g) g.nds fr (e / 2)), []) := by
  have ha := run_need_all (n := n) hg he h
  rw [call_is_told_by]
  rcases run_inner (n := n + 3) hg (frm_ne h) he with ⟨z, hi⟩ | ⟨z, F, hi, hF, hm⟩ <;> rw [z] <;>
  · generalize frD fr = FR at *
    generalize gtD g = G at *
    generalize natD e = E at *
    simp -implicitDefEqProofs [b_is_told_by, callS, ha, hi]
theorem run_truthby (hg : GtOk g) (h : Frm g fr) (he : e < 2 * tt g) : Fs tb sub (n + 7) i_truth_by [gtD g, natD e, frD fr] = if tl (nn g) g.nds fr (e / 2) = true then .ok (.tup ((tvl g fr e).map bitD), []) else .exc x_NotFound := by
  have ha := run_need_all (n := n) hg he h
  have hi := run_truthT (n := n + 2) hg h he
  rw [call_truth_by]
  unfold trD at hi
  cases hz : tl (nn g) g.nds fr (e / 2) <;> rw [hz] at hi <;>
  · generalize frD fr = FR at *
    generalize gtD g = G at *
    generalize natD e = E at *
    simp -implicitDefEqProofs at hi
    simp -implicitDefEqProofs [b_truth_by, callS, ha, hi]
theorem run_within (hg : GtOk g) (h : Frm g fr) (he : e < 2 * tt g) :
    (tl (nn g) g.nds fr (e / 2) = false ∧ Fs tb sub (n + 7) i_nodes_within [gtD g, natD e, frD fr] = .exc x_NotFound) ∨
    (tl (nn g) g.nds fr (e / 2) = true ∧ ∃ F : List Nat, Fs tb sub (n + 7) i_nodes_within [gtD g, natD e, frD fr] = .ok (.tup (F.map natD), []) ∧ F.Pairwise (· < ·) ∧ ∀ k, k ∈ F ↔ Wn (nn g) g.nds fr (e / 2) k) := by
  have ha := run_need_all (n := n) hg he h
  rw [call_nodes_within]
  rcases run_inner (n := n + 3) hg (frm_ne h) he with ⟨z, hi⟩ | ⟨z, F, hi, hF, hm⟩
  · refine .inl ⟨z, ?_⟩
    generalize frD fr = FR at *
    generalize gtD g = G at *
    generalize natD e = E at *
    simp -implicitDefEqProofs [b_nodes_within, callS, ha, hi]
  · refine .inr ⟨z, F, ?_, hF, hm⟩
    generalize frD fr = FR at *
    generalize gtD g = G at *
    generalize natD e = E at *
    simp -implicitDefEqProofs [b_nodes_within, callS, ha, hi]
/-- alike by the frame -/
def alk (g : Gt) (fr : List Nat) (e e' : Nat) : Bool := tl (nn g) g.nds fr (e / 2) && (tl (nn g) g.nds fr (e' / 2) && decide (tvl g fr e = tvl g fr e'))
theorem dp_bits (k : Nat) (l : List Bool) : dp (k + 1) (.tup (l.map bitD)) = true := by unfold dp; exact dps_bits k l
theorem cmp_bitsT (a b : List Bool) : cmpD .eq (.tup (a.map bitD)) (.tup (b.map bitD)) = some (decide (a = b)) := by
  rw [cmpD_eq_dp (dp_bits 59 a) (dp_bits 59 b)]
  unfold deq
  rw [deqs_bits]
theorem cmp_bitsN (a : List Bool) : cmpD .eq (.tup (a.map bitD)) .non = some false := by
  rw [cmpD_eq_dp (dp_bits 59 a) (by unfold dp; rfl)]
  rfl
theorem run_alikein (hg : GtOk g) (h : Frm g fr) (he : e < 2 * tt g) (he' : e' < 2 * tt g) : Fs tb sub (n + 5) i_alike_in [gtD g, natD e, natD e', frD fr] = .ok (.bl (alk g fr e e'), []) := by
  have h1 := run_truthT (n := n) hg h he
  have h2 := run_truthT (n := n) hg h he'
  rw [call_alike_in]
  have c1 := cmp_bitsT (tvl g fr e) (tvl g fr e')
  have c2 := cmp_bitsN (tvl g fr e)
  unfold trD at h1 h2
  unfold alk
  generalize decide (tvl g fr e = tvl g fr e') = q at *
  cases hz : tl (nn g) g.nds fr (e / 2) <;> rw [hz] at h1 <;> cases hz' : tl (nn g) g.nds fr (e' / 2) <;> rw [hz'] at h2 <;>
  · generalize frD fr = FR at *
    generalize gtD g = G at *
    generalize natD e = E at *
    generalize natD e' = E' at *
    generalize (tvl g fr e).map bitD = A at *
    generalize (tvl g fr e').map bitD = B at *
    simp -implicitDefEqProofs at h1 h2
    simp -implicitDefEqProofs [b_alike_in, callS, h1, h2, c1, c2]
theorem run_alike (hg : GtOk g) (h : Frm g fr) (he : e < 2 * tt g) (he' : e' < 2 * tt g) : Fs tb sub (n + 6) i_are_alike_by [gtD g, natD e, natD e', frD fr] = .ok (.bl (alk g fr e e'), []) := by
  have h1 := run_need_gates (n := n) hg
  have h2 := run_need_edge (n := n + 2) hg he
  have h3 := run_need_edge (n := n + 2) hg he'
  have h4 := run_need_frame (n := n + 1) hg h
  have h5 := run_alikein (n := n) hg h he he'
  rw [call_are_alike_by]
  generalize frD fr = FR at *
  generalize gtD g = G at *
  generalize natD e = E at *
  generalize natD e' = E' at *
  simp -implicitDefEqProofs [b_are_alike_by, callS, h1, h2, h3, h4, h5]
end
section
variable {n : Nat} {g : Gt} {fr : List Nat} {e : Nat}
theorem ev_nodes (g : Gt) : enumL (g.nds.map ndD) = ((List.range g.nds.length).zip g.nds).map fun q : Nat × (Nat × Nat) => D.tup [natD q.1, ndD q.2] := enumL_map ..
abbrev LTo (n : Nat) : Lv := LV tb sub n f__law_told
abbrev stO (g : Gt) (e : Nat) (fr : List Nat) (d : D) (x6 x7 x8 : Option D) : Sd := [some (gtD g), some (natD e), some (frD fr), some d, some (natD (nn g)), none, x6, x7, x8]
/-- the keys after so many nodes -/
def Ks (g : Gt) (fr : List Nat) (k : Nat) (ks : List Nat) : Prop := ∀ t, t ∈ ks ↔ (t < nn g + k ∨ t ∈ fr) ∧ tl (nn g) g.nds fr t = true
theorem ks_start (hg : GtOk g) (h : Frm g fr) : Ks g fr 0 (0 :: fr) := fun t => by
  have hnn := nn_eq g
  constructor
  · intro ht
    rcases List.mem_cons.mp ht with rfl | ht
    · exact ⟨.inl (by omega), by unfold tl; rw [mv_zero]; rfl⟩
    · exact ⟨.inr ht, by unfold tl; rw [mv_fr (frm_ne h t ht) ht]; rfl⟩
  · rintro ⟨h1, h2⟩
    rcases tell_at hg h2 with z | z | z
    · simp [z]
    · simp [z]
    · rcases h1 with w | w
      · omega
      · simp [w]
theorem ks_kid {k c : Nat} {ks : List Nat} (hk : Ks g fr k ks) (hc : c < nn g + k) : c ∈ ks ↔ tl (nn g) g.nds fr c = true := by
  rw [hk c]
  exact ⟨fun h => h.2, fun h => ⟨.inl hc, h⟩⟩
theorem ks_put (h : Frm g fr) {k : Nat} {ks : List Nat} (hk : Ks g fr k ks) (ht : tl (nn g) g.nds fr (nn g + k) = true) : Ks g fr (k + 1) (ks ++ [nn g + k]) := fun t => by
  rw [List.mem_append, List.mem_singleton, hk t]
  constructor
  · rintro (⟨h1, h2⟩ | rfl)
    · exact ⟨h1.imp (fun z => by omega) id, h2⟩
    · exact ⟨.inl (by omega), ht⟩
  · rintro ⟨h1, h2⟩
    by_cases z : t = nn g + k
    · exact .inr z
    · exact .inl ⟨h1.imp (fun w => by omega) id, h2⟩
theorem ks_skip (h : Frm g fr) {k : Nat} {ks : List Nat} (hk : Ks g fr k ks) (ht : nn g + k ∈ fr ∨ tl (nn g) g.nds fr (nn g + k) = false) : Ks g fr (k + 1) ks := fun t => by
  rw [hk t]
  constructor
  · rintro ⟨h1, h2⟩
    exact ⟨h1.imp (fun z => by omega) id, h2⟩
  · rintro ⟨h1, h2⟩
    refine ⟨?_, h2⟩
    by_cases z : t = nn g + k
    · subst z
      rcases ht with w | w
      · exact .inr w
      · rw [w] at h2; cases h2
    · exact h1.imp (fun w => by omega) id
theorem run_ltold (hg : GtOk g) (h : Frm g fr) (he : e < 2 * tt g) : Fs tb sub (n + 2) i__law_told [gtD g, natD e, frD fr] = .ok (.bl (tl (nn g) g.nds fr (e / 2)), []) := by
  have ht := tt_eq g
  have hnn := nn_eq g
  have q1 := hg.ins
  have q2 := hg.sts
  have q3 := hg.ndl
  have hN : 0 < nn g := by omega
  have hfl := h.len
  have hnd : (0 :: fr).Nodup := List.nodup_cons.mpr ⟨fun z => frm_ne h 0 z rfl, asc_nodup h.asc⟩
  obtain ⟨d0, dk0, D0⟩ := Dk.dict (N := tt g) (l := 0 :: fr) hnd (fun k hk => by
    rcases List.mem_cons.mp hk with rfl | hk
    · omega
    · exact h.hi k hk) (fun _ => .bl true)
  obtain ⟨σ', e1, d, x6, x7, x8, ks, rfl, e2, e3⟩ := forS_inv (t := (T.tup [(T.var 6), (T.tup [(T.var 7), (T.var 8)])])) (l := LTo (n + 1)) (b := l__law_told_1) (ys := (List.range g.nds.length).zip g.nds) (σ := stO g e fr d0 none none none) (fun q : Nat × (Nat × Nat) => D.tup [natD q.1, ndD q.2])
    (fun pre σ => ∃ d x6 x7 x8 ks, σ = stO g e fr d x6 x7 x8 ∧ Dk (tt g) ks (fun _ => .bl true) d ∧ Ks g fr pre.length ks) ⟨d0, none, none, none, 0 :: fr, rfl, D0, ks_start hg h⟩ (by
      rintro pre ⟨k, p⟩ post σ ey ⟨d, x6, x7, x8, ks, rfl, hd, hks⟩
      have hq : (k, p) ∈ (List.range g.nds.length).zip g.nds := by rw [ey]; simp
      have hp : g.nds[k]? = some p := mem_zipR hq
      have hk : k = pre.length := by
        have h1 : ((List.range g.nds.length).zip g.nds)[pre.length]? = some (k, p) := by rw [ey]; simp
        have h2 := (List.getElem?_zip_eq_some.mp h1).1
        obtain ⟨h3, h4⟩ := List.getElem?_eq_some_iff.mp h2
        simpa using h4.symm
      rw [← hk] at hks
      have hl : (pre ++ [(k, p)]).length = k + 1 := by simp [hk]
      rw [hl]
      have hb := hg.bk k p hp
      have kk : k < g.nds.length := (List.getElem?_eq_some_iff.mp hp).1
      have i1 := hd.isin (p.1 / 2)
      have i2 := hd.isin (p.2 / 2)
      have m1 := ks_kid hks hb.1
      have m2 := ks_kid hks hb.2
      have d1 := fdiv2 p.1
      have d2 := fdiv2 p.2
      have hadd : bop .add (natD (nn g)) (natD k) = some (natD (nn g + k)) := by
        show some (D.int _) = some (D.int _)
        simp
      by_cases hc : p.1 / 2 ∈ ks ∧ p.2 / 2 ∈ ks
      · obtain ⟨d', s1, s2⟩ := hd.put (k := nn g + k) (by omega) (by omega)
        have htl : tl (nn g) g.nds fr (nn g + k) = true := by
          by_cases hf : nn g + k ∈ fr
          · unfold tl; rw [mv_fr (by omega) hf]; rfl
          · rw [tl_nd hN hg.bk hf hp, m1.mp hc.1, m2.mp hc.2]; rfl
        refine ⟨stO g e fr d' (some (natD k)) (some (natD p.1)) (some (natD p.2)), ?_, d', _, _, _, _, rfl, s2, ks_put h hks htl⟩
        rw [decide_eq_true hc.1] at i1
        rw [decide_eq_true hc.2] at i2
        unfold stO ndD
        generalize natD (nn g + k) = NK at *
        generalize natD k = K at *
        generalize natD (nn g) = NN at *
        generalize natD p.1 = P1 at *
        generalize natD p.2 = P2 at *
        simp -implicitDefEqProofs [l__law_told_1, d1, d2, i1, i2, hadd, s1]
      · have hsk : nn g + k ∈ fr ∨ tl (nn g) g.nds fr (nn g + k) = false := by
          by_cases hf : nn g + k ∈ fr
          · exact .inl hf
          · refine .inr ?_
            rw [tl_nd hN hg.bk hf hp, Bool.eq_false_iff]
            intro z
            obtain ⟨z1, z2⟩ := Bool.and_eq_true_iff.mp z
            exact hc ⟨m1.mpr z1, m2.mpr z2⟩
        refine ⟨stO g e fr d (some (natD k)) (some (natD p.1)) (some (natD p.2)), ?_, d, _, _, _, _, rfl, hd, ks_skip h hks hsk⟩
        unfold stO ndD
        by_cases c1 : p.1 / 2 ∈ ks
        · have c2 : p.2 / 2 ∉ ks := fun z => hc ⟨c1, z⟩
          rw [decide_eq_true c1] at i1
          rw [decide_eq_false c2] at i2
          generalize natD k = K at *
          generalize natD (nn g) = NN at *
          generalize natD p.1 = P1 at *
          generalize natD p.2 = P2 at *
          simp -implicitDefEqProofs [l__law_told_1, d1, d2, i1, i2]
        · rw [decide_eq_false c1] at i1
          generalize natD k = K at *
          generalize natD (nn g) = NN at *
          generalize natD p.1 = P1 at *
          generalize natD p.2 = P2 at *
          simp -implicitDefEqProofs [l__law_told_1, d1, d2, i1])
  have hlz : ((List.range g.nds.length).zip g.nds).length = g.nds.length := by simp
  rw [hlz] at e3
  have hin := e2.isin (e / 2)
  have hiff := ks_kid e3 (show e / 2 < nn g + g.nds.length by omega)
  have hdec : decide (e / 2 ∈ ks) = tl (nn g) g.nds fr (e / 2) := by
    rw [Bool.eq_iff_iff, decide_eq_true_iff]
    exact hiff
  rw [hdec] at hin
  have hfi := run_lfirst (n := n) (g := g)
  have hde := fdiv2 e
  have hlist : ∀ σ : Sd, (∃ y0 y1 y2 y6 y7 y8, σ = [y0, y1, y2, none, none, none, y6, y7, y8]) → lcS [5] e__law_told_2 (T.var 5) Eo.none (LTo (n + 1)) σ (D.int 0 :: fr.map natD) σ = .ok (.lst ((0 :: fr).map fun t => D.tup [natD t, .bl true]), back [5] σ σ) := by
    rintro σ ⟨y0, y1, y2, y6, y7, y8, rfl⟩
    have := lcS_map (own := [5]) (elt := e__law_told_2) (t := T.var 5) (c := Eo.none) (l := LTo (n + 1)) (σ0 := [y0, y1, y2, none, none, none, y6, y7, y8]) (σ := [y0, y1, y2, none, none, none, y6, y7, y8]) natD (fun t => D.tup [natD t, .bl true]) (ys := 0 :: fr) (Fit.of (k := 7) (by simp; omega) _ (by decide)) (by
      intro t _
      generalize natD t = T at *
      simp -implicitDefEqProofs [lcT, e__law_told_2])
    exact this
  rw [call__law_told]
  have hfl2 : Fit 8388608 (fr.map natD) := Fit.of (k := 6) (by simpa using hfl) _ (by decide)
  have hli : biD .list [frD fr] = some (.lst (fr.map natD)) := rfl
  have had : bop .add (.lst [.int 0]) (.lst (fr.map natD)) = some (.lst (D.int 0 :: fr.map natD)) := bop_addL (by simp) hfl2
  have hsg := sub_gt (g := g)
  rw [← ev_nodes] at e1
  unfold stO at e1
  obtain ⟨kvs, hkv, _⟩ := Dc.dic D0
  have hct : isContainer d0 = true := by rw [hkv]; rfl
  generalize ((0 :: fr).map fun t => D.tup [natD t, .bl true]) = LL at *
  generalize frD fr = FR at *
  generalize gtD g = G at *
  generalize natD (e / 2) = E2 at *
  generalize natD e = E at *
  generalize natD (nn g) = NN at *
  simp -implicitDefEqProofs [b__law_told, callS, hli, had, hlist, dk0, hct, hfi, hsg, e1, hde, hin]
end
section
variable {n : Nat} {g : Gt} {fr : List Nat} {e : Nat} {ν : Nat → Bool}
def vb (g : Gt) (fr : List Nat) (ν : Nat → Bool) (t : Nat) : Bool := (mv (nn g) g.nds fr ν t).getD false
abbrev LBy (n : Nat) : Lv := LV tb sub n f__law_by
abbrev stB (g : Gt) (e : Nat) (d0 d : D) (x5 x6 x7 x8 : Option D) : Sd := [some (gtD g), some (natD e), some d0, some d, some (natD (nn g)), x5, x6, x7, x8, none]
theorem mul_bits (a b : Bool) : bop .mul (bitD a) (bitD b) = some (bitD (a && b)) := by cases a <;> cases b <;> rfl
theorem sub_bit (a : Bool) : bop .sub (.int 1) (bitD a) = some (bitD (!a)) := by cases a <;> rfl
theorem xe_even {b : Bool} (h : e % 2 = 0) : xe b e = b := by unfold xe; rw [if_pos h]
theorem xe_odd {b : Bool} (h : e % 2 = 1) : xe b e = !b := by unfold xe; rw [if_neg (by omega)]
theorem vb_nd (hg : GtOk g) {k : Nat} {p : Nat × Nat} (hp : g.nds[k]? = some p) (hf : nn g + k ∉ fr) (h1 : tl (nn g) g.nds fr (p.1 / 2) = true) (h2 : tl (nn g) g.nds fr (p.2 / 2) = true) : vb g fr ν (nn g + k) = (xe (vb g fr ν (p.1 / 2)) p.1 && xe (vb g fr ν (p.2 / 2)) p.2) := by
  have hN : 0 < nn g := by have := nn_eq g; omega
  unfold vb
  rw [mv_nd hN hg.bk hf hp]
  obtain ⟨a, ha⟩ := tl_get ν h1
  obtain ⟨b, hb⟩ := tl_get ν h2
  simp only [ha, hb, Option.getD_some]
theorem bits_by {d0 d : D} {ks : List Nat} {p : Nat × Nat} {y0 y1 y4 y5 y8 : Option D} (hd : Dk (tt g) ks (fun t => bitD (vb g fr ν t)) d) (c1 : p.1 / 2 ∈ ks) (c2 : p.2 / 2 ∈ ks) :
    lcS [9] e__law_by_1 (T.var 9) Eo.none (LBy n) [y0, y1, some d0, some d, y4, y5, some (natD p.1), some (natD p.2), y8, none] [natD p.1, natD p.2] [y0, y1, some d0, some d, y4, y5, some (natD p.1), some (natD p.2), y8, none] = .ok (.lst [bitD (xe (vb g fr ν (p.1 / 2)) p.1), bitD (xe (vb g fr ν (p.2 / 2)) p.2)], [y0, y1, some d0, some d, y4, y5, some (natD p.1), some (natD p.2), y8, none]) := by
  have := lcS_map (own := [9]) (elt := e__law_by_1) (t := T.var 9) (c := Eo.none) (l := LBy n) (σ0 := [y0, y1, some d0, some d, y4, y5, some (natD p.1), some (natD p.2), y8, none]) (σ := [y0, y1, some d0, some d, y4, y5, some (natD p.1), some (natD p.2), y8, none]) natD (fun q => bitD (xe (vb g fr ν (q / 2)) q)) (ys := [p.1, p.2]) (Fit.of (k := 2) (by simp) _ (by decide)) (by
    intro q hq
    have hc : q / 2 ∈ ks := by
      rcases List.mem_cons.mp hq with rfl | hq
      · exact c1
      · rw [List.mem_singleton.mp hq]; exact c2
    have hg1 := hd.get hc
    have h1 := mod2 q
    have h2 := fdiv2 q
    have h3 := sub_bit (vb g fr ν (q / 2))
    have h4 : biD .int [natD q] = some (natD q) := rfl
    rcases Nat.mod_two_eq_zero_or_one q with z | z
    · rw [xe_even z]
      rw [z] at h1
      generalize bitD (vb g fr ν (q / 2)) = B at *
      generalize natD (q / 2) = Q2 at *
      generalize natD q = Q at *
      simp -implicitDefEqProofs [lcT, e__law_by_1, h1, h2, h4, hg1]
    · rw [xe_odd z]
      rw [z] at h1
      generalize bitD (!vb g fr ν (q / 2)) = B' at *
      generalize bitD (vb g fr ν (q / 2)) = B at *
      generalize natD (q / 2) = Q2 at *
      generalize natD q = Q at *
      simp -implicitDefEqProofs [lcT, e__law_by_1, h1, h2, h3, h4, hg1])
  exact this
theorem run_by {d0 : D} (hg : GtOk g) (h : Frm g fr) (he : e < 2 * tt g) (hte : tl (nn g) g.nds fr (e / 2) = true) (D0 : Dk (tt g) (0 :: fr) (fun t => bitD (vb g fr ν t)) d0) : Fs tb sub (n + 2) i__law_by [gtD g, natD e, d0] = .ok (bitD (xe (vb g fr ν (e / 2)) e), []) := by
  have ht := tt_eq g
  have hnn := nn_eq g
  have q1 := hg.ins
  have q2 := hg.sts
  have q3 := hg.ndl
  have hN : 0 < nn g := by omega
  obtain ⟨σ', e1, d, x5, x6, x7, x8, ks, rfl, e2, e3⟩ := forS_inv (t := (T.tup [(T.var 5), (T.tup [(T.var 6), (T.var 7)])])) (l := LBy (n + 1)) (b := l__law_by_2) (ys := (List.range g.nds.length).zip g.nds) (σ := stB g e d0 d0 none none none none) (fun q : Nat × (Nat × Nat) => D.tup [natD q.1, ndD q.2])
    (fun pre σ => ∃ d x5 x6 x7 x8 ks, σ = stB g e d0 d x5 x6 x7 x8 ∧ Dk (tt g) ks (fun t => bitD (vb g fr ν t)) d ∧ Ks g fr pre.length ks) ⟨d0, none, none, none, none, 0 :: fr, rfl, D0, ks_start hg h⟩ (by
      rintro pre ⟨k, p⟩ post σ ey ⟨d, x5, x6, x7, x8, ks, rfl, hd, hks⟩
      have hq : (k, p) ∈ (List.range g.nds.length).zip g.nds := by rw [ey]; simp
      have hp : g.nds[k]? = some p := mem_zipR hq
      have hk : k = pre.length := by
        have h1 : ((List.range g.nds.length).zip g.nds)[pre.length]? = some (k, p) := by rw [ey]; simp
        have h2 := (List.getElem?_zip_eq_some.mp h1).1
        obtain ⟨h3, h4⟩ := List.getElem?_eq_some_iff.mp h2
        simpa using h4.symm
      rw [← hk] at hks
      have hl : (pre ++ [(k, p)]).length = k + 1 := by simp [hk]
      rw [hl]
      have hb := hg.bk k p hp
      have kk : k < g.nds.length := (List.getElem?_eq_some_iff.mp hp).1
      have i0 := hd.notin (nn g + k)
      have i1 := hd.isin (p.1 / 2)
      have i2 := hd.isin (p.2 / 2)
      have m1 := ks_kid hks hb.1
      have m2 := ks_kid hks hb.2
      have d1 := fdiv2 p.1
      have d2 := fdiv2 p.2
      have hadd : bop .add (natD (nn g)) (natD k) = some (natD (nn g + k)) := by
        show some (D.int _) = some (D.int _)
        simp
      by_cases c0 : nn g + k ∈ ks
      · have hsk : nn g + k ∈ fr ∨ tl (nn g) g.nds fr (nn g + k) = false := by
          rcases ((hks _).mp c0).1 with z | z
          · omega
          · exact .inl z
        refine ⟨stB g e d0 d (some (natD k)) (some (natD p.1)) (some (natD p.2)) x8, ?_, d, _, _, _, _, _, rfl, hd, ks_skip h hks hsk⟩
        rw [decide_eq_false (fun z => z c0)] at i0
        unfold stB ndD
        generalize natD (nn g + k) = NK at *
        generalize natD k = K at *
        generalize natD (nn g) = NN at *
        generalize natD p.1 = P1 at *
        generalize natD p.2 = P2 at *
        simp -implicitDefEqProofs [l__law_by_2, hadd, i0]
      have hf : nn g + k ∉ fr := fun z => c0 ((hks _).mpr ⟨.inr z, by unfold tl; rw [mv_fr (by omega) z]; rfl⟩)
      rw [decide_eq_true c0] at i0
      by_cases hc : p.1 / 2 ∈ ks ∧ p.2 / 2 ∈ ks
      · obtain ⟨d', s1, s2⟩ := hd.put (k := nn g + k) (by omega) (by omega)
        have htl : tl (nn g) g.nds fr (nn g + k) = true := by
          rw [tl_nd hN hg.bk hf hp, m1.mp hc.1, m2.mp hc.2]; rfl
        simp only [vb_nd (ν := ν) hg hp hf (m1.mp hc.1) (m2.mp hc.2)] at s1
        have hcmp := bits_by (n := n + 1) (d0 := d0) (p := p) (y0 := some (gtD g)) (y1 := some (natD e)) (y4 := some (natD (nn g))) (y5 := some (natD k)) (y8 := x8) hd hc.1 hc.2
        have hmu := mul_bits (xe (vb g fr ν (p.1 / 2)) p.1) (xe (vb g fr ν (p.2 / 2)) p.2)
        refine ⟨stB g e d0 d' (some (natD k)) (some (natD p.1)) (some (natD p.2)) (some (.lst [bitD (xe (vb g fr ν (p.1 / 2)) p.1), bitD (xe (vb g fr ν (p.2 / 2)) p.2)])), ?_, d', _, _, _, _, _, rfl, s2, ks_put h hks htl⟩
        rw [decide_eq_true hc.1] at i1
        rw [decide_eq_true hc.2] at i2
        unfold stB ndD
        generalize bitD (xe (vb g fr ν (p.1 / 2)) p.1 && xe (vb g fr ν (p.2 / 2)) p.2) = B3 at *
        generalize bitD (xe (vb g fr ν (p.1 / 2)) p.1) = B1 at *
        generalize bitD (xe (vb g fr ν (p.2 / 2)) p.2) = B2 at *
        generalize natD (nn g + k) = NK at *
        generalize natD k = K at *
        generalize natD (nn g) = NN at *
        generalize natD p.1 = P1 at *
        generalize natD p.2 = P2 at *
        simp -implicitDefEqProofs [l__law_by_2, d1, d2, hadd, i0, i1, i2, hcmp, hmu, s1]
      · have hsk : nn g + k ∈ fr ∨ tl (nn g) g.nds fr (nn g + k) = false := by
          refine .inr ?_
          rw [tl_nd hN hg.bk hf hp, Bool.eq_false_iff]
          intro z
          obtain ⟨z1, z2⟩ := Bool.and_eq_true_iff.mp z
          exact hc ⟨m1.mpr z1, m2.mpr z2⟩
        refine ⟨stB g e d0 d (some (natD k)) (some (natD p.1)) (some (natD p.2)) x8, ?_, d, _, _, _, _, _, rfl, hd, ks_skip h hks hsk⟩
        unfold stB ndD
        by_cases c1 : p.1 / 2 ∈ ks
        · have c2 : p.2 / 2 ∉ ks := fun z => hc ⟨c1, z⟩
          rw [decide_eq_true c1] at i1
          rw [decide_eq_false c2] at i2
          generalize natD (nn g + k) = NK at *
          generalize natD k = K at *
          generalize natD (nn g) = NN at *
          generalize natD p.1 = P1 at *
          generalize natD p.2 = P2 at *
          simp -implicitDefEqProofs [l__law_by_2, d1, d2, hadd, i0, i1, i2]
        · rw [decide_eq_false c1] at i1
          generalize natD (nn g + k) = NK at *
          generalize natD k = K at *
          generalize natD (nn g) = NN at *
          generalize natD p.1 = P1 at *
          generalize natD p.2 = P2 at *
          simp -implicitDefEqProofs [l__law_by_2, d1, d2, hadd, i0, i1])
  have hlz : ((List.range g.nds.length).zip g.nds).length = g.nds.length := by simp
  rw [hlz] at e3
  have hget := e2.get ((ks_kid e3 (show e / 2 < nn g + g.nds.length by omega)).mpr hte)
  obtain ⟨kvs, hkv, hlen, hdi⟩ := Dk.items D0 (by omega)
  have hlen : (itemsL kvs).length ≤ 16777216 := hlen
  have hfi := run_lfirst (n := n) (g := g)
  have hde := fdiv2 e
  have hmo := mod2 e
  have hin : biD .int [natD e] = some (natD e) := rfl
  have hsb := sub_bit (vb g fr ν (e / 2))
  have hsg := sub_gt (g := g)
  have hct : isContainer d0 = true := by rw [hkv]; rfl
  rw [← ev_nodes] at e1
  unfold stB at e1
  rw [call__law_by]
  have hit : ∀ σ : Sd, σ[2]? = some (some d0) → evi (I.items (E.rv 2)) (LBy (n + 1)) σ = .ok (itemsL kvs, σ) := by
    intro σ hs
    rw [hkv] at hs
    have : getS σ 2 = .ok (.dic kvs) := by unfold getS; rw [hs]
    simp -implicitDefEqProofs [this]
  rcases Nat.mod_two_eq_zero_or_one e with z | z
  · rw [xe_even z]
    rw [z] at hmo
    clear hsb D0 hkv
    generalize bitD (vb g fr ν (e / 2)) = B at *
    generalize itemsL kvs = IL at *
    generalize gtD g = G at *
    generalize natD (e / 2) = E2 at *
    generalize natD e = EE at *
    generalize natD (nn g) = NN at *
    simp -implicitDefEqProofs [b__law_by, callS, hit, hlen, hdi, hct, hfi, hsg, e1, hde, hmo, hin, hget, -evi_items]
  · rw [xe_odd z]
    rw [z] at hmo
    clear D0 hkv
    generalize bitD (!vb g fr ν (e / 2)) = B' at *
    generalize bitD (vb g fr ν (e / 2)) = B at *
    generalize itemsL kvs = IL at *
    generalize gtD g = G at *
    generalize natD (e / 2) = E2 at *
    generalize natD e = EE at *
    generalize natD (nn g) = NN at *
    simp -implicitDefEqProofs [b__law_by, callS, hit, hlen, hdi, hct, hfi, hsg, e1, hde, hmo, hin, hget, hsb, -evi_items]
theorem zip_nu : ∀ (r : Nat) {l : List Nat}, l.Nodup → l.zip ((List.range l.length).map fun a => rb r a) = l.map fun t => (t, nu l r t) := by
  intro r l hn
  apply List.ext_getElem?
  intro i
  rw [List.getElem?_map]
  by_cases hi : i < l.length
  · have h1 : l[i]? = some l[i] := List.getElem?_eq_getElem hi
    rw [h1]
    refine List.getElem?_zip_eq_some.mpr ⟨h1, ?_⟩
    rw [List.getElem?_map, List.getElem?_range hi]
    show some (rb r i) = some (rb r (l.idxOf l[i]))
    rw [idx_at hn h1]
  · rw [List.getElem?_eq_none_iff.mpr (by simp; omega), List.getElem?_eq_none_iff.mpr (by omega)]
    rfl
theorem run_ltruth (hg : GtOk g) (h : Frm g fr) (he : e < 2 * tt g) : Fs tb sub (n + 3) i__law_truth [gtD g, natD e, frD fr] = .ok (trD g fr e, []) := by
  have ht := tt_eq g
  have q4 := h.len
  have hR : 2 ^ fr.length ≤ 64 := Nat.pow_le_pow_right (by omega) h.len
  have h1 := run_ltold (n := n) hg h he
  have h2 := run_allbits (n := n + 1) fr.length h.len
  have hnd : (0 :: fr).Nodup := List.nodup_cons.mpr ⟨fun z => frm_ne h 0 z rfl, asc_nodup h.asc⟩
  have hlen : biD .len [frD fr] = some (natD fr.length) := by
    show some (D.int _) = some (D.int _)
    simp
  rw [call__law_truth]
  unfold trD
  cases hz : tl (nn g) g.nds fr (e / 2) with
  | false =>
    rw [hz] at h1
    generalize frD fr = FR at *
    generalize gtD g = G at *
    generalize natD e = EE at *
    simp -implicitDefEqProofs [b__law_truth, callS, h1]
  | true =>
    rw [hz] at h1
    have hmap : (List.range (2 ^ fr.length)).map (fun r => bitD (xe (vb g fr (nu fr r) (e / 2)) e)) = (tvl g fr e).map bitD := by
      conv => rhs; unfold tvl
      rw [List.map_map]
      apply List.map_congr_left
      intro r hr
      rfl
    have hcomp : ∀ σ : Sd, σ = [some (gtD g), some (natD e), some (frD fr), none] → lcS [3] e__law_truth_1 (T.var 3) Eo.none (LV tb sub (n + 2) f__law_truth) σ ((List.range (2 ^ fr.length)).map fun r => .tup ((List.range fr.length).map fun a => bitD (rb r a))) σ = .ok (.lst ((tvl g fr e).map bitD), back [3] σ σ) := by
      rintro σ rfl
      rw [lcS_map (fun r => D.tup ((List.range fr.length).map fun a => bitD (rb r a))) (fun r => bitD (xe (vb g fr (nu fr r) (e / 2)) e)) (Fit.of (k := 64) (by simpa using hR) _ (by decide)) (by
        intro r hr
        have hV : ∀ k, k ∈ 0 :: fr → bitD (vb g fr (nu fr r) k) = if k = 0 then .int 0 else bitD (nu fr r k) := fun k hk => by
          by_cases k0 : k = 0
          · subst k0; unfold vb; rw [mv_zero]; rfl
          · have : k ∈ fr := by
              rcases List.mem_cons.mp hk with z | z
              · exact absurd z k0
              · exact z
            unfold vb
            rw [mv_fr k0 this, if_neg k0]
            rfl
        obtain ⟨d0, dk0, D0⟩ := Dk.dict (N := tt g) (l := 0 :: fr) hnd (fun k hk => by
          rcases List.mem_cons.mp hk with rfl | hk
          · omega
          · exact h.hi k hk) (fun t => bitD (vb g fr (nu fr r) t))
        have hb := run_by (n := n) hg h he hz D0
        have hzp : zipL (fr.map natD) ((List.range fr.length).map fun a => bitD (rb r a)) = fr.map fun t => D.tup [natD t, bitD (nu fr r t)] := by
          rw [show ((List.range fr.length).map fun a => bitD (rb r a)) = ((List.range fr.length).map fun a => rb r a).map bitD by rw [List.map_map]; rfl, zipL_maps, zip_nu r (asc_nodup h.asc), List.map_map]
          rfl
        have hls : ((0 :: fr).map fun t => D.tup [natD t, bitD (vb g fr (nu fr r) t)]) = D.tup [.int 0, .int 0] :: fr.map fun t => D.tup [natD t, bitD (nu fr r t)] := by
          have hm : (fr.map fun t => D.tup [natD t, bitD (vb g fr (nu fr r) t)]) = fr.map fun t => D.tup [natD t, bitD (nu fr r t)] := List.map_congr_left fun t ht => by
            rw [hV t (List.mem_cons_of_mem _ ht), if_neg (frm_ne h t ht)]
          rw [List.map_cons, hV 0 List.mem_cons_self, hm, if_pos rfl]
          rfl
        rw [hls] at dk0
        have hf1 : Fit 8388608 (fr.map fun t => D.tup [natD t, bitD (nu fr r t)]) := Fit.of (k := 6) (by simpa using q4) _ (by decide)
        have had : bop .add (.lst [D.tup [.int 0, .int 0]]) (.lst (fr.map fun t => D.tup [natD t, bitD (nu fr r t)])) = some (.lst (D.tup [.int 0, .int 0] :: fr.map fun t => D.tup [natD t, bitD (nu fr r t)])) := bop_addL (Fit.of (k := 1) (by simp) _ (by decide)) hf1
        have hl5 : (fr.map fun t => D.tup [natD t, bitD (nu fr r t)]).length ≤ 16777216 := by simp; omega
        have hzo : zipsOf (frD fr) (.tup ((List.range fr.length).map fun a => bitD (rb r a))) = some (fr.map natD, (List.range fr.length).map fun a => bitD (rb r a)) := rfl
        generalize (fr.map fun t => D.tup [natD t, bitD (nu fr r t)]) = L at *
        generalize ((List.range fr.length).map fun a => bitD (rb r a)) = B at *
        generalize frD fr = FR at *
        generalize gtD g = G at *
        generalize natD e = EE at *
        generalize bitD (xe (vb g fr (nu fr r) (e / 2)) e) = BB at *
        simp -implicitDefEqProofs [lcT, e__law_truth_1, callS, hzo, hzp, hl5, had, dk0, hb])]
      rw [hmap]
    have hcomp := hcomp _ rfl
    generalize ((List.range (2 ^ fr.length)).map fun r => D.tup ((List.range fr.length).map fun a => bitD (rb r a))) = AL at *
    generalize (tvl g fr e).map bitD = TV at *
    generalize frD fr = FR at *
    generalize gtD g = G at *
    generalize natD e = EE at *
    generalize natD fr.length = K at *
    simp -implicitDefEqProofs [b__law_truth, callS, h1, h2, hlen, hcomp]
end
section
variable {n : Nat} {g : Gt} {fr : List Nat} {e : Nat}
theorem rng3_down (k : Nat) : rng3L ((k : Int) - 1) (-1) (-1) = (List.range k).map fun j => natD (k - 1 - j) := by
  unfold rng3L rng3N
  rw [if_neg (by decide), show (-(-1) : Int) = 1 from rfl, show ((((k : Int) - 1) - (-1) + (1 - 1)) / 1).toNat = k by omega]
  apply List.map_congr_left
  intro j hj
  have : j < k := by simpa using hj
  show D.int _ = D.int _
  congr 1
  omega
abbrev LWi (n : Nat) : Lv := LV tb sub n f__law_within
abbrev stW (g : Gt) (e : Nat) (fr found : List Nat) (d : D) (x6 x7 : Option D) : Sd := [some (gtD g), some (natD e), some (frD fr), some (.lst (found.map natD)), some (natD (nn g)), some d, x6, x7]
/-- what is found among the last j nodes, what is seen -/
structure WL (g : Gt) (fr : List Nat) (s j : Nat) (found ks : List Nat) : Prop where
  nd : found.Nodup
  mem : ∀ k, k ∈ found ↔ Wn (nn g) g.nds fr s k ∧ g.nds.length - j ≤ k
  key : ∀ x, x ∈ ks ↔ x = s ∨ ∃ k ∈ found, ∃ p, g.nds[k]? = some p ∧ (x = p.1 / 2 ∨ x = p.2 / 2)
theorem wl_in (hg : GtOk g) {s j : Nat} {found ks : List Nat} (w : WL g fr s j found ks) (hj : j < g.nds.length) : Wn (nn g) g.nds fr s (g.nds.length - 1 - j) ↔ nn g + (g.nds.length - 1 - j) ∈ ks ∧ nn g + (g.nds.length - 1 - j) ∉ fr := by
  constructor
  · intro h
    refine ⟨(w.key _).mpr ?_, h.2.1⟩
    rcases rch_up hg.bk h.1 with z | ⟨k', p, h1, h2, h3, h4⟩
    · exact .inl z
    · exact .inr ⟨k', (w.mem k').mpr ⟨h2, by omega⟩, p, h3, h4⟩
  · rintro ⟨h1, h2⟩
    refine ⟨?_, h2, by omega⟩
    rcases (w.key _).mp h1 with z | ⟨k, hk, p, hp, hq⟩
    · rw [z]; exact .base
    · exact wn_kid ((w.mem k).mp hk).1 hp hq
theorem wl_skip {s j : Nat} {found ks : List Nat} (w : WL g fr s j found ks) (h : ¬ Wn (nn g) g.nds fr s (g.nds.length - 1 - j)) : WL g fr s (j + 1) found ks := ⟨w.nd, fun k => by
  rw [w.mem k]
  constructor
  · rintro ⟨h1, h2⟩; exact ⟨h1, by omega⟩
  · rintro ⟨h1, h2⟩
    refine ⟨h1, ?_⟩
    by_cases e : k = g.nds.length - 1 - j
    · exact absurd (e ▸ h1) h
    · have := h1.2.2
      omega, w.key⟩
theorem wl_take {s j : Nat} {found ks : List Nat} {p : Nat × Nat} (w : WL g fr s j found ks) (hj : j < g.nds.length) (h : Wn (nn g) g.nds fr s (g.nds.length - 1 - j)) (hp : g.nds[g.nds.length - 1 - j]? = some p) : WL g fr s (j + 1) (found ++ [g.nds.length - 1 - j]) (ks ++ [p.1 / 2] ++ [p.2 / 2]) := by
  have hn : g.nds.length - 1 - j ∉ found := fun z => by
    have := ((w.mem _).mp z).2
    omega
  refine ⟨List.nodup_append.mpr ⟨w.nd, by simp, fun a ha b hb => ?_⟩, fun k => ?_, fun x => ?_⟩
  · rw [List.mem_singleton.mp hb]
    exact fun e => hn (e ▸ ha)
  · rw [List.mem_append, List.mem_singleton, w.mem k]
    constructor
    · rintro (⟨h1, h2⟩ | rfl)
      · exact ⟨h1, by omega⟩
      · exact ⟨h, by omega⟩
    · rintro ⟨h1, h2⟩
      by_cases e : k = g.nds.length - 1 - j
      · exact .inr e
      · exact .inl ⟨h1, by omega⟩
  · rw [List.mem_append, List.mem_append, List.mem_singleton, List.mem_singleton, w.key x]
    constructor
    · rintro (((z | ⟨k, hk, q, hq, h2⟩) | z) | z)
      · exact .inl z
      · exact .inr ⟨k, List.mem_append_left _ hk, q, hq, h2⟩
      · exact .inr ⟨_, List.mem_append_right _ (List.mem_singleton.mpr rfl), p, hp, .inl z⟩
      · exact .inr ⟨_, List.mem_append_right _ (List.mem_singleton.mpr rfl), p, hp, .inr z⟩
    · rintro (z | ⟨k, hk, q, hq, h2⟩)
      · exact .inl (.inl (.inl z))
      · rcases List.mem_append.mp hk with w2 | w2
        · exact .inl (.inl (.inr ⟨k, w2, q, hq, h2⟩))
        · rw [List.mem_singleton.mp w2, hp] at hq
          cases hq
          rcases h2 with z | z
          · exact .inl (.inr z)
          · exact .inr z
theorem run_lwithin (hg : GtOk g) (he : e < 2 * tt g) : ∃ found : List Nat, Fs tb sub (n + 2) i__law_within [gtD g, natD e, frD fr] = .ok (.lst (found.map natD), []) ∧ found.Nodup ∧ ∀ k, k ∈ found ↔ Wn (nn g) g.nds fr (e / 2) k := by
  have ht := tt_eq g
  have hnn := nn_eq g
  have q1 := hg.ins
  have q2 := hg.sts
  have q3 := hg.ndl
  have d0 : Dk (tt g) [e / 2] (fun _ => .bl true) (.dic [(natD (e / 2), .bl true)]) := Dk.of (N := tt g) (l := [e / 2]) (by simp) (by intro k hk; rw [List.mem_singleton.mp hk]; omega) (fun _ => .bl true)
  obtain ⟨σ', e1, found, ks, d, x6, x7, rfl, e2, e3⟩ := forS_inv (t := T.var 6) (l := LWi (n + 1)) (b := l__law_within_2) (ys := List.range g.nds.length) (σ := stW g e fr [] (.dic [(natD (e / 2), .bl true)]) none none) (fun j => natD (g.nds.length - 1 - j))
    (fun pre σ => ∃ found ks d x6 x7, σ = stW g e fr found d x6 x7 ∧ Dk (tt g) ks (fun _ => .bl true) d ∧ WL g fr (e / 2) pre.length found ks) ⟨[], [e / 2], _, none, none, rfl, d0, by simp, fun k => ⟨fun z => (by cases z), fun z => absurd z.1.2.2 (by have := z.2; simp at this; omega)⟩, fun x => by simp⟩ (by
      rintro pre j post σ ey ⟨found, ks, d, x6, x7, rfl, hd, hw⟩
      have hj : j = pre.length ∧ pre.length < g.nds.length := by
        have h1 : (List.range g.nds.length)[pre.length]? = some j := by rw [ey]; simp
        obtain ⟨h3, h4⟩ := List.getElem?_eq_some_iff.mp h1
        simp at h3 h4
        omega
      obtain ⟨rfl, hlt⟩ := hj
      have hl : (pre ++ [pre.length]).length = pre.length + 1 := by simp
      rw [hl]
      clear hl ey
      generalize pre.length = j at *
      have hin := wl_in hg hw hlt
      have i1 := hd.isin (nn g + (g.nds.length - 1 - j))
      have i2 : cmpD .notin (natD (nn g + (g.nds.length - 1 - j))) (frD fr) = some (decide (nn g + (g.nds.length - 1 - j) ∉ fr)) := by
        unfold frD
        rw [cmpD_notin_tup, inO_natL]
        simp
      have hadd : bop .add (natD (nn g)) (natD (g.nds.length - 1 - j)) = some (natD (nn g + (g.nds.length - 1 - j))) := by
        show some (D.int _) = some (D.int _)
        simp
      by_cases hc : Wn (nn g) g.nds fr (e / 2) (g.nds.length - 1 - j)
      · obtain ⟨p, hp⟩ : ∃ p, g.nds[g.nds.length - 1 - j]? = some p := ⟨_, List.getElem?_eq_getElem (by omega)⟩
        have hb := hg.bk _ p hp
        have hw2 := wl_take hw hlt hc hp
        obtain ⟨dd1, s1, D1⟩ := hd.put (k := p.1 / 2) (by omega) (by omega)
        obtain ⟨dd2, s2, D2⟩ := D1.put (k := p.2 / 2) (by omega) (by omega)
        have d1 := fdiv2 p.1
        have d2 := fdiv2 p.2
        obtain ⟨c1, c2⟩ := hin.mp hc
        rw [decide_eq_true c1] at i1
        rw [decide_eq_true c2] at i2
        have h7 : subD (.tup (g.nds.map ndD)) (natD (g.nds.length - 1 - j)) = some (.tup [natD p.1, natD p.2]) := subD_tupM (f := ndD) hp
        have h8 := sub_gt (g := g)
        have hfl : found.length ≤ g.nds.length := nodup_leN _ _ hw.nd fun k hk => ((hw.mem k).mp hk).1.2.2
        have f1 : Fit 16777215 (found.map natD) := Fit.of (k := 400) (by simp; omega) _ (by decide)
        have eapp : (found ++ [g.nds.length - 1 - j]).map natD = found.map natD ++ [natD (g.nds.length - 1 - j)] := by simp
        refine ⟨stW g e fr (found ++ [g.nds.length - 1 - j]) dd2 (some (natD (g.nds.length - 1 - j))) (some (natD p.2)), ?_, _, _, dd2, _, _, rfl, D2, hw2⟩
        unfold stW
        rw [eapp]
        generalize found.map natD = F at *
        generalize frD fr = FR at *
        generalize gtD g = G at *
        generalize g.nds.map ndD = ND at *
        generalize natD (nn g + (g.nds.length - 1 - j)) = NJ at *
        generalize natD (g.nds.length - 1 - j) = J at *
        generalize natD p.1 = P1 at *
        generalize natD p.2 = P2 at *
        generalize natD (p.1 / 2) = P3 at *
        generalize natD (p.2 / 2) = P4 at *
        generalize natD (nn g) = NN at *
        simp -implicitDefEqProofs [l__law_within_2, l__law_within_1, forS, forGo, h7, h8, hadd, i1, i2, f1, d1, d2, s1, s2]
      · refine ⟨stW g e fr found d (some (natD (g.nds.length - 1 - j))) x7, ?_, found, ks, d, _, _, rfl, hd, wl_skip hw hc⟩
        unfold stW
        by_cases c1 : nn g + (g.nds.length - 1 - j) ∈ ks
        · have c2 : ¬ nn g + (g.nds.length - 1 - j) ∉ fr := fun z => hc (hin.mpr ⟨c1, z⟩)
          rw [decide_eq_true c1] at i1
          rw [decide_eq_false c2] at i2
          generalize found.map natD = F at *
          generalize frD fr = FR at *
          generalize natD (nn g + (g.nds.length - 1 - j)) = NJ at *
          generalize natD (g.nds.length - 1 - j) = J at *
          generalize natD (nn g) = NN at *
          simp -implicitDefEqProofs [l__law_within_2, hadd, i1, i2]
        · rw [decide_eq_false c1] at i1
          generalize found.map natD = F at *
          generalize frD fr = FR at *
          generalize natD (nn g + (g.nds.length - 1 - j)) = NJ at *
          generalize natD (g.nds.length - 1 - j) = J at *
          generalize natD (nn g) = NN at *
          simp -implicitDefEqProofs [l__law_within_2, hadd, i1])
  rw [List.length_range] at e3
  refine ⟨found, ?_, e3.nd, fun k => (e3.mem k).trans ⟨fun z => z.1, fun z => ⟨z, by omega⟩⟩⟩
  have hfi := run_lfirst (n := n) (g := g)
  have hde := fdiv2 e
  have hsg := sub_gt (g := g)
  have hr := rng3_down g.nds.length
  rw [← hr] at e1
  unfold stW at e1
  rw [call__law_within]
  have hl : ((g.nds.map ndD).length : Int) = g.nds.length := by simp
  have hro : rngOk ((g.nds.length : Int) - 1) = true := rngOk_of (by omega) (by omega)
  have hkd : keyD (natD (e / 2)) = true := rfl
  have hr1 : rngOk (-1) = true := rfl
  generalize frD fr = FR at *
  generalize gtD g = G at *
  generalize natD (e / 2) = E2 at *
  generalize natD e = EE at *
  generalize natD (nn g) = NN at *
  simp -implicitDefEqProofs [b__law_within, callS, hfi, hsg, hde, hro, hr1, hkd, cont_dic, dput_nil]
  simp -implicitDefEqProofs at e1
  simp -implicitDefEqProofs [e1]
end
theorem bg_app_lt {bits l : List Bool} {k : Nat} (h : k < bits.length) : bg (bits ++ l) k = bg bits k := by
  unfold bg
  rw [List.getD_eq_getElem?_getD, List.getD_eq_getElem?_getD, List.getElem?_append_left h]
theorem bg_app_eq {bits : List Bool} {v : Bool} : bg (bits ++ [v]) bits.length = v := by
  unfold bg
  rw [List.getD_eq_getElem?_getD, List.getElem?_append_right (Nat.le_refl _)]
  simp
theorem allB_pre : ∀ (nds : List (Nat × Nat)) (bits : List Bool) {k : Nat}, k < bits.length → bg (allB nds bits) k = bg bits k
  | [], _, _, _ => rfl
  | p :: r, bits, k, h => by
    show bg (allB r (bits ++ [_])) k = _
    rw [allB_pre r _ (by simp; omega), bg_app_lt h]
theorem eb_pre (nds : List (Nat × Nat)) (bits : List Bool) {e : Nat} (h : e / 2 < bits.length) : eb (allB nds bits) e = eb bits e := by
  unfold eb
  rw [allB_pre nds bits h]
theorem allB_at : ∀ (nds : List (Nat × Nat)) (bits : List Bool) {i : Nat} {p : Nat × Nat}, nds[i]? = some p → p.1 / 2 < bits.length + i → p.2 / 2 < bits.length + i → bg (allB nds bits) (bits.length + i) = (eb (allB nds bits) p.1 && eb (allB nds bits) p.2)
  | [], _, _, _, h, _, _ => by simp at h
  | q :: r, bits, 0, p, h, h1, h2 => by
    have : q = p := by simpa using h
    subst this
    rw [eb_pre _ _ h1, eb_pre _ _ h2]
    show bg (allB r (bits ++ [eb bits q.1 && eb bits q.2])) bits.length = _
    rw [allB_pre r _ (by simp), bg_app_eq]
  | q :: r, bits, i + 1, p, h, h1, h2 => by
    have := allB_at r (bits ++ [eb bits q.1 && eb bits q.2]) (i := i) (p := p) (by simpa using h) (by simp; omega) (by simp; omega)
    rw [show (bits ++ [eb bits q.1 && eb bits q.2]).length + i = bits.length + (i + 1) by simp; omega] at this
    exact this
theorem eb_xe (bits : List Bool) (e : Nat) : eb bits e = xe (bg bits (e / 2)) e := rfl
section
variable {n : Nat} {g : Gt} {fr : List Nat} {e e' : Nat}
theorem run_bit {bits : List Bool} (h : e / 2 < bits.length) : Fs tb sub (n + 1) i__law_bit [.lst (bits.map bitD), natD e] = .ok (bitD (eb bits e), []) := by
  have h1 := mod2 e
  have h2 := fdiv2 e
  have h3 : subD (.lst (bits.map bitD)) (natD (e / 2)) = some (bitD (bg bits (e / 2))) := subD_bgL h
  have h4 : biD .int [natD e] = some (natD e) := rfl
  have h5 := sub_bit (bg bits (e / 2))
  rw [call__law_bit, eb_xe]
  rcases Nat.mod_two_eq_zero_or_one e with z | z
  · rw [xe_even z]
    rw [z] at h1
    generalize bitD (bg bits (e / 2)) = B at *
    generalize natD (e / 2) = E2 at *
    generalize natD e = EE at *
    simp -implicitDefEqProofs [b__law_bit, h1, h2, h3, h4]
  · rw [xe_odd z]
    rw [z] at h1
    generalize bitD (!bg bits (e / 2)) = B' at *
    generalize bitD (bg bits (e / 2)) = B at *
    generalize natD (e / 2) = E2 at *
    generalize natD e = EE at *
    simp -implicitDefEqProofs [b__law_bit, h1, h2, h3, h4, h5]
theorem run_bits {given held : List Bool} (hg : GtOk g) (h1 : given.length = g.ins) (h2 : held.length = g.sts) : Fs tb sub (n + 2) i__law_bits [gtD g, .lst (given.map bitD), .lst (held.map bitD)] = .ok (.lst ((allB g.nds (bits0 given held)).map bitD), []) := by
  have q1 := hg.ins
  have q2 := hg.sts
  have q3 := hg.ndl
  have hnn := nn_eq g
  have hb0 : (bits0 given held).length = nn g := by simp [bits0]; omega
  obtain ⟨σ', e1, x4, x5, rfl⟩ := forS_inv (t := (T.tup [(T.var 4), (T.var 5)])) (l := LV tb sub (n + 1) f__law_bits) (b := l__law_bits_1) (ys := g.nds) (σ := [some (gtD g), some (.lst (given.map bitD)), some (.lst (held.map bitD)), some (.lst ((bits0 given held).map bitD)), none, none]) ndD
    (fun pre σ => ∃ x4 x5, σ = [some (gtD g), some (.lst (given.map bitD)), some (.lst (held.map bitD)), some (.lst ((allB pre (bits0 given held)).map bitD)), x4, x5]) ⟨none, none, rfl⟩ (by
      rintro pre p post σ ey ⟨x4, x5, rfl⟩
      have hp : g.nds[pre.length]? = some p := by rw [ey]; simp
      have hb := hg.bk _ p hp
      have hpl : pre.length < g.nds.length := (List.getElem?_eq_some_iff.mp hp).1
      have hl : (allB pre (bits0 given held)).length = nn g + pre.length := by rw [allB_len, hb0]
      have r1 := run_bit (n := n) (e := p.1) (bits := allB pre (bits0 given held)) (by rw [hl]; exact hb.1)
      have r2 := run_bit (n := n) (e := p.2) (bits := allB pre (bits0 given held)) (by rw [hl]; exact hb.2)
      have hm := mul_bits (eb (allB pre (bits0 given held)) p.1) (eb (allB pre (bits0 given held)) p.2)
      have hf : Fit 16777215 ((allB pre (bits0 given held)).map bitD) := Fit.of (k := 1000) (by simp [hl]; omega) _ (by decide)
      have e2 : (allB (pre ++ [p]) (bits0 given held)).map bitD = (allB pre (bits0 given held)).map bitD ++ [bitD (eb (allB pre (bits0 given held)) p.1 && eb (allB pre (bits0 given held)) p.2)] := by
        rw [allB_app]
        show ((allB pre (bits0 given held)) ++ [_]).map bitD = _
        rw [List.map_append]
        rfl
      refine ⟨_, ?_, some (natD p.1), some (natD p.2), rfl⟩
      rw [e2]
      unfold ndD
      generalize bitD (eb (allB pre (bits0 given held)) p.1 && eb (allB pre (bits0 given held)) p.2) = B3 at *
      generalize bitD (eb (allB pre (bits0 given held)) p.1) = B1 at *
      generalize bitD (eb (allB pre (bits0 given held)) p.2) = B2 at *
      generalize (allB pre (bits0 given held)).map bitD = A at *
      generalize natD p.1 = P1 at *
      generalize natD p.2 = P2 at *
      simp -implicitDefEqProofs [l__law_bits_1, callS, r1, r2, hm, hf])
  have hsg := sub_gt (g := g)
  have hl1 : Fit 4194304 (given.map bitD) := Fit.of (k := 8) (by simp; omega) _ (by decide)
  have hl2 : Fit 8388608 (held.map bitD) := Fit.of (k := 6) (by simp; omega) _ (by decide)
  have a1 : bop .add (.lst [.int 0]) (.lst (given.map bitD)) = some (.lst (D.int 0 :: given.map bitD)) := bop_addL (Fit.of (k := 1) (by simp) _ (by decide)) (Fit.of (k := 8) (by simp; omega) _ (by decide))
  have a2 : bop .add (.lst (D.int 0 :: given.map bitD)) (.lst (held.map bitD)) = some (.lst ((bits0 given held).map bitD)) := by
    rw [bop_addL (Fit.of (k := 9) (by simp; omega) _ (by decide)) hl2]
    unfold bits0
    rw [List.map_cons, List.map_append]
    rfl
  rw [call__law_bits]
  generalize (bits0 given held).map bitD = B0 at *
  generalize (allB g.nds (bits0 given held)).map bitD = B at *
  generalize given.map bitD = GV at *
  generalize held.map bitD = HV at *
  generalize gtD g = G at *
  simp -implicitDefEqProofs [b__law_bits, hsg, a1, a2, e1]
/-- the row that the bits mean -/
def rix (fr : List Nat) (bits : List Bool) : Nat := wd (fr.map fun t => bg bits t)
theorem rix_lt (bits : List Bool) : rix fr bits < 2 ^ fr.length := by
  have := wd_lt (fr.map fun t => bg bits t)
  rwa [List.length_map] at this
theorem row_true (hg : GtOk g) (h : Frm g fr) {given held : List Bool} (h1 : given.length = g.ins) (h2 : held.length = g.sts) (ht : tl (nn g) g.nds fr (e / 2) = true) : (tvl g fr e).getD (rix fr (allB g.nds (bits0 given held))) false = eb (allB g.nds (bits0 given held)) e := by
  have hnn := nn_eq g
  have hN : 0 < nn g := by omega
  have hb0 : (bits0 given held).length = nn g := by simp [bits0]; omega
  rw [tvl_at (rix_lt _), eb_xe]
  obtain ⟨b, hb⟩ := tl_get (nu fr (rix fr (allB g.nds (bits0 given held)))) ht
  rw [hb, Option.getD_some]
  congr 1
  refine mv_true hN hg.bk (A := fun t => bg (allB g.nds (bits0 given held)) t) ?_ (fun t ht => ?_) (fun k p hp => ?_) _ _ hb
  · show bg (allB g.nds (bits0 given held)) 0 = false
    rw [allB_pre _ _ (by omega)]
    rfl
  · obtain ⟨i, hi⟩ := List.mem_iff_getElem?.mp ht
    show rb (rix fr (allB g.nds (bits0 given held))) (fr.idxOf t) = _
    rw [idx_at (asc_nodup h.asc) hi]
    unfold rb rix
    rw [wd_get, List.getD_eq_getElem?_getD, List.getElem?_map, hi]
    simp
  · have hk := hg.bk k p hp
    have := allB_at g.nds (bits0 given held) hp (by omega) (by omega)
    rw [hb0] at this
    exact this
end
theorem sum_shift (f : Nat → Bool) : ∀ (fr : List Nat) (s : Nat), (((List.range' s fr.length).zip fr).map fun q : Nat × Nat => if f q.2 = true then 2 ^ q.1 else 0).sum = 2 ^ s * wd (fr.map f)
  | [], s => by simp [wd]
  | t :: r, s => by
    have := sum_shift f r (s + 1)
    rw [List.length_cons, List.range'_succ, List.zip_cons_cons, List.map_cons, List.sum_cons, this, List.map_cons]
    conv => rhs; unfold wd
    rw [Nat.pow_succ, Nat.mul_add, Nat.mul_assoc]
    congr 1
    cases f t <;> simp
theorem sum_rix (fr : List Nat) (bits : List Bool) : (((List.range fr.length).zip fr).map fun q : Nat × Nat => if bg bits q.2 = true then 2 ^ q.1 else 0).sum = rix fr bits := by
  rw [List.range_eq_range', sum_shift (fun t => bg bits t) fr 0]
  unfold rix
  omega
theorem dints_nat : ∀ l : List Nat, dints (l.map natD) = some (l.map fun x : Nat => (x : Int))
  | [] => rfl
  | x :: l => by
    show (dints (l.map natD)).map _ = _
    rw [dints_nat l]
    rfl
theorem sum_nat : ∀ l : List Nat, (l.map fun x : Nat => (x : Int)).sum = ((l.sum : Nat) : Int)
  | [] => rfl
  | x :: l => by rw [List.map_cons, List.sum_cons, List.sum_cons, sum_nat l]; omega
theorem biD_sumN (l : List Nat) : biD .sum [.lst (l.map natD)] = some (natD l.sum) := by
  show (dints (l.map natD)).map _ = _
  rw [dints_nat]
  show some (D.int _) = some (D.int _)
  rw [sum_nat]
theorem mul_pow (b : Bool) (i : Nat) (h : i < 6) : bop .mul (bitD b) (natD (2 ^ i)) = some (natD (if b = true then 2 ^ i else 0)) := by
  have h2 : 2 ^ i ≤ 64 := Nat.pow_le_pow_right (by omega) (show i ≤ 6 by omega)
  generalize 2 ^ i = z at *
  cases b
  · show bop .mul (.int 0) (.int (z : Int)) = _
    rw [bop_mul (.inl (by omega))]
    simp
  · show bop .mul (.int 1) (.int (z : Int)) = _
    rw [bop_mul (.inl (by omega))]
    simp
theorem pow_at : ∀ i, i < 6 → subD (.lst [.int 1, .int 2, .int 4, .int 8, .int 16, .int 32]) (natD i) = some (natD (2 ^ i))
  | 0, _ => rfl
  | 1, _ => rfl
  | 2, _ => rfl
  | 3, _ => rfl
  | 4, _ => rfl
  | 5, _ => rfl
  | i + 6, h => absurd h (by omega)
section
variable {n : Nat} {g : Gt} {fr : List Nat} {e e' : Nat}
abbrev LR (n : Nat) : Lv := LV tb sub (n + 9) f__law_right
abbrev stR (c : D) (g : Gt) (e e' : Nat) (fr : List Nat) (due far : D) (al : Bool) (x7 x9 x10 x12 : Option D) : Sd := [some c, some (gtD g), some (natD e), some (natD e'), some (frD fr), some due, some far, x7, some (.bl al), x9, x10, none, x12, none]
theorem draw_bits {c c0 : D} {m : Nat} {y1 y2 y3 y4 y5 y6 y7 y8 y9 y10 y12 : Option D} {elt : E} (hel : elt = e__law_right_2) (hm : m ≤ 8) (hc : Cup c) : ∃ (bs : List Bool) (c' : D), lcS [11] elt (T.var 11) Eo.none (LR n) [some c, y1, y2, y3, y4, y5, y6, y7, y8, y9, y10, none, y12, none] ((List.range m).map natD) [some c, y1, y2, y3, y4, y5, y6, y7, y8, y9, y10, none, y12, none] = .ok (.lst (bs.map bitD), [some c', y1, y2, y3, y4, y5, y6, y7, y8, y9, y10, none, y12, none]) ∧ Cup c' ∧ bs.length = m := by
  subst hel
  obtain ⟨bs, σn, t1, t2, t3, t4⟩ := lcS_draw (own := [11]) (elt := e__law_right_2) (t := T.var 11) (c := Eo.none) (l := LR n) (σ0 := [some c, y1, y2, y3, y4, y5, y6, y7, y8, y9, y10, none, y12, none]) (σ := [some c, y1, y2, y3, y4, y5, y6, y7, y8, y9, y10, none, y12, none]) natD bitD (fun _ => True)
    (fun σw => ∃ c : D, Cup c ∧ σw = [some c, y1, y2, y3, y4, y5, y6, y7, y8, y9, y10, none, y12, none]) (ys := List.range m) (Fit.of (k := 8) (by simpa using hm) _ (by decide)) ⟨c, hc, by simp⟩ (by
      rintro j hj σw ⟨c, hc, rfl⟩
      obtain ⟨b, c', q1, q2⟩ := run_rollB (n := n + 8) hc
      exact ⟨b, _, by simp [lcT, e__law_right_2, callS, q1], trivial, c', q2, rfl⟩)
  obtain ⟨c', hc', rfl⟩ := t2
  exact ⟨bs, c', by simpa using t1, hc', by simpa using t3⟩
theorem turn_right {c : D} {k : Nat} {x7 x9 x10 x12 : Option D} {far : D} (hg : GtOk g) (h : Frm g fr) (he : e < 2 * tt g) (he' : e' < 2 * tt g) (ht : tl (nn g) g.nds fr (e / 2) = true) (hc : Cup c) :
    ∃ c' z10 z12, ((asg (T.var 9) (.int k) (stR c g e e' fr (.tup ((tvl g fr e).map bitD)) far (alk g fr e e') x7 x9 x10 x12)).bind fun σ1 => exs l__law_right_4 (LR n) σ1) = .ok (.nx, stR c' g e e' fr (.tup ((tvl g fr e).map bitD)) far (alk g fr e e') x7 (some (.int k)) z10 z12) ∧ Cup c' := by
  have htt := tt_eq g
  have hnn := nn_eq g
  have q1 := hg.ins
  have q2 := hg.sts
  have q3 := hg.ndl
  have q4 := h.len
  obtain ⟨given, c1, r1, hc1, l1⟩ := draw_bits (n := n) (elt := e__law_right_2) (c := c) (c0 := c) (m := g.ins) (y1 := some (gtD g)) (y2 := some (natD e)) (y3 := some (natD e')) (y4 := some (frD fr)) (y5 := some (.tup ((tvl g fr e).map bitD))) (y6 := some far) (y7 := x7) (y8 := some (.bl (alk g fr e e'))) (y9 := some (.int k)) (y10 := x10) (y12 := x12) rfl q1 hc
  obtain ⟨held, c2, r2, hc2, l2⟩ := draw_bits (n := n) (elt := e__law_right_3) (c := c1) (c0 := c1) (m := g.sts) (y1 := some (gtD g)) (y2 := some (natD e)) (y3 := some (natD e')) (y4 := some (frD fr)) (y5 := some (.tup ((tvl g fr e).map bitD))) (y6 := some far) (y7 := x7) (y8 := some (.bl (alk g fr e e'))) (y9 := some (.int k)) (y10 := x10) (y12 := x12) rfl (by omega) hc1
  have hb := run_bits (n := n + 7) hg l1 l2
  have hrow := row_true hg h l1 l2 ht
  have hlen : (allB g.nds (bits0 given held)).length = tt g := by
    rw [allB_len]
    simp [bits0]
    omega
  have hrow' : tl (nn g) g.nds fr (e' / 2) = true → _ := fun z => row_true (e := e') hg h l1 l2 z
  generalize hA : allB g.nds (bits0 given held) = A at *
  have hb1 := run_bit (n := n + 8) (e := e) (bits := A) (by omega)
  have hb2 := run_bit (n := n + 8) (e := e') (bits := A) (by omega)
  have hsum : ∀ σ : Sd, (∃ y0 y1 y2 y3 y4 y5 y6 y7 y8 y9 y12, σ = [y0, y1, y2, y3, y4, y5, y6, y7, y8, y9, some (.lst (A.map bitD)), none, y12, none]) → lcS [11, 13] e__law_right_1 (T.tup [(T.var 11), (T.var 13)]) Eo.none (LR n) σ (enumL (fr.map natD)) σ = .ok (.lst ((((List.range fr.length).zip fr).map fun q : Nat × Nat => if bg A q.2 = true then 2 ^ q.1 else 0).map natD), back [11, 13] σ σ) := by
    rintro σ ⟨y0, y1, y2, y3, y4, y5, y6, y7, y8, y9, y12, rfl⟩
    rw [enumL_map, lcS_map (fun q : Nat × Nat => D.tup [natD q.1, natD q.2]) (fun q => natD (if bg A q.2 = true then 2 ^ q.1 else 0)) (Fit.of (k := 6) (by simp; omega) _ (by decide)) (by
      rintro ⟨i, t⟩ hq
      have hi := mem_zipR hq
      have hi6 : i < fr.length := (List.getElem?_eq_some_iff.mp hi).1
      have htm : t ∈ fr := List.mem_of_getElem? hi
      have hsA : subD (.lst (A.map bitD)) (natD t) = some (bitD (bg A t)) := subD_bgL (by have := h.hi t htm; omega)
      have hp := pow_at i (by omega)
      have hm := mul_pow (bg A t) i (by omega)
      generalize natD (2 ^ i) = P at *
      generalize natD (if bg A t = true then 2 ^ i else 0) = Z at *
      generalize bitD (bg A t) = B at *
      generalize A.map bitD = AA at *
      generalize natD t = T at *
      generalize natD i = I at *
      simp -implicitDefEqProofs [lcT, e__law_right_1, hsA, hp, hm])]
    rw [List.map_map]
    rfl
  have hsm := biD_sumN (((List.range fr.length).zip fr).map fun q : Nat × Nat => if bg A q.2 = true then 2 ^ q.1 else 0)
  rw [sum_rix] at hsm
  have hdue : subD (.tup ((tvl g fr e).map bitD)) (natD (rix fr A)) = some (bitD (eb A e)) := by
    rw [← hrow]
    have hl : rix fr A < (tvl g fr e).length := by
      have := rix_lt (fr := fr) A
      unfold tvl
      simpa using this
    exact subD_bgT hl
  have hne : ∀ b : Bool, cmpD .ne (bitD b) (bitD b) = some false := fun b => by cases b <;> rfl
  have hne1 := hne (eb A e)
  have hal : alk g fr e e' = true → eb A e = eb A e' := by
    intro z
    unfold alk at z
    simp only [Bool.and_eq_true, decide_eq_true_eq] at z
    rw [← hrow, ← hrow' z.2.1, z.2.2]
  have hi1 := sub_ins (g := g)
  have hi2 := sub_sts (g := g)
  have hrI : rangeL 0 (g.ins : Int) = (List.range g.ins).map natD := rangeL_of rfl
  have hrS : rangeL 0 (g.sts : Int) = (List.range g.sts).map natD := rangeL_of rfl
  have oI : rngOk (g.ins : Int) = true := rng64 _ (by omega)
  have oS : rngOk (g.sts : Int) = true := rng64 _ (by omega)
  have hfr : itemsOf (frD fr) = some (fr.map natD) := rfl
  refine ⟨c2, some (.lst (A.map bitD)), some (natD (rix fr A)), ?_, hc2⟩
  unfold stR
  clear hrow hrow'
  generalize ((((List.range fr.length).zip fr).map fun q : Nat × Nat => if bg A q.2 = true then 2 ^ q.1 else 0).map natD) = SL at *
  generalize (tvl g fr e).map bitD = TV at *
  generalize natD (rix fr A) = RX at *
  generalize given.map bitD = GV at *
  generalize held.map bitD = HV at *
  generalize A.map bitD = AA at *
  generalize frD fr = FR at *
  generalize gtD g = G at *
  generalize natD e' = E' at *
  generalize natD e = EE at *
  cases hz : alk g fr e e' with
  | false =>
    rw [hz] at r1 r2
    generalize bitD (eb A e) = B1 at *
    simp -implicitDefEqProofs [l__law_right_4, callS, hi1, hi2, hrI, hrS, oI, oS, r1, r2, hb, hfr, hsum, hsm, hdue, hb1, hne1]
  | true =>
    rw [hz] at r1 r2
    rw [← hal hz] at hb2
    generalize bitD (eb A e) = B1 at *
    simp -implicitDefEqProofs [l__law_right_4, callS, hi1, hi2, hrI, hrS, oI, oS, r1, r2, hb, hfr, hsum, hsm, hdue, hb1, hb2, hne1]
end
section
variable {n : Nat} {g : Gt} {fr : List Nat} {e e' : Nat}
theorem lkd_nats (k : Nat) (l : List Nat) : lkds k (l.map natD) = true := lks_map fun x _ => lk_int k x
theorem hd_found : runHd tb sub i__law_error (.exc x_NotFound) = .ok (.str ⟨#[102, 111, 117, 110, 100]⟩) := by kernel_rfl
theorem isn_trD (e : Nat) : cmpD .isn (trD g fr e) .non = some (tl (nn g) g.nds fr (e / 2)) := by
  unfold trD
  cases tl (nn g) g.nds fr (e / 2) <;> rfl
theorem is_trD (e : Nat) : cmpD .is (trD g fr e) .non = some (!tl (nn g) g.nds fr (e / 2)) := by
  unfold trD
  cases tl (nn g) g.nds fr (e / 2) <;> rfl
theorem alk_comm (e e' : Nat) : alk g fr e' e = alk g fr e e' := by
  unfold alk
  rw [show decide (tvl g fr e' = tvl g fr e) = decide (tvl g fr e = tvl g fr e') by rw [decide_eq_decide]; exact eq_comm]
  cases tl (nn g) g.nds fr (e / 2) <;> cases tl (nn g) g.nds fr (e' / 2) <;> simp
theorem run_right {c : D} (hg : GtOk g) (h : Frm g fr) (he : e < 2 * tt g) (he' : e' < 2 * tt g) (hc : Cup c) : ∃ c', Fs tb sub (n + 10) i__law_right [c, gtD g, natD e, natD e', frD fr] = .ok (.bl true, [c']) ∧ Cup c' := by
  have q4 := h.len
  have hR : 2 ^ fr.length ≤ 64 := Nat.pow_le_pow_right (by omega) h.len
  have t1 := run_ltruth (n := n + 6) hg h he
  have t2 := run_ltruth (n := n + 6) hg h he'
  have w1 := run_told (n := n + 2) hg h he
  have w2 := run_told (n := n + 2) hg h he'
  have b1 := run_truthby (n := n + 2) hg h he
  have b0 := run_truthby (n := n) hg h he
  have a1 := run_alike (n := n + 3) hg h he he'
  have a2 := run_alike (n := n + 3) hg h he' he
  have n1 := isn_trD (g := g) (fr := fr) e
  have n2 := isn_trD (g := g) (fr := fr) e'
  have n3 := is_trD (g := g) (fr := fr) e
  have k1 : ∀ a b : Bool, Fs tb sub (n + 9) i__law_like [.lst [.bl a, .bl b], .lst [.bl a, .bl b]] = .ok (.bl true, []) := fun a b => run_like (n := n + 6) 1 _ (by simp)
  have k1 := k1 (tl (nn g) g.nds fr (e / 2)) (tl (nn g) g.nds fr (e' / 2))
  rw [call__law_right]
  cases hz : tl (nn g) g.nds fr (e / 2) with
  | false =>
    have hal : alk g fr e e' = false := by unfold alk; rw [hz]; rfl
    have p0 : Fs tb sub (n + 7) i_nodes_within [gtD g, natD e, frD fr] = .exc x_NotFound := by
      rcases run_within (n := n) hg h he with ⟨z, i⟩ | ⟨z, _⟩
      · exact i
      · rw [hz] at z; cases z
    rw [hz] at w1 b0 n1 n3 k1
    rw [hal] at a1
    have hb0 : Fs tb sub (n + 7) i_truth_by [gtD g, natD e, frD fr] = .exc x_NotFound := b0
    have hh := hd_found
    have hcomp : ∀ σ : Sd, (∃ y0 y3 y5 y6, σ = [y0, some (gtD g), some (natD e), y3, some (frD fr), y5, y6, none, none, none, none, none, none, none]) → lcS [7] e__law_right_5 (T.var 7) Eo.none (LR n) σ [.fn i_truth_by, .fn i_nodes_within] σ = .ok (.lst [.str ⟨#[102, 111, 117, 110, 100]⟩, .str ⟨#[102, 111, 117, 110, 100]⟩], back [7] σ σ) := by
      rintro σ ⟨y0, y3, y5, y6, rfl⟩
      have := lcS_map (own := [7]) (elt := e__law_right_5) (t := T.var 7) (c := Eo.none) (l := LR n) (σ0 := [y0, some (gtD g), some (natD e), y3, some (frD fr), y5, y6, none, none, none, none, none, none, none]) (σ := [y0, some (gtD g), some (natD e), y3, some (frD fr), y5, y6, none, none, none, none, none, none, none]) D.fn (fun _ => .str ⟨#[102, 111, 117, 110, 100]⟩) (ys := [i_truth_by, i_nodes_within]) (Fit.of (k := 2) (by simp) _ (by decide)) (by
        intro f hf
        generalize frD fr = FR at *
        generalize gtD g = G at *
        generalize natD e = EE at *
        rcases List.mem_cons.mp hf with rfl | hf
        · simp -implicitDefEqProofs [lcT, e__law_right_5, lamS, lvL, callS, hb0, hh]
        · rw [List.mem_singleton.mp hf]
          simp -implicitDefEqProofs [lcT, e__law_right_5, lamS, lvL, callS, p0, hh])
      exact this
    have hss : cmpD .eq (.lst [.str ⟨#[102, 111, 117, 110, 100]⟩, .str ⟨#[102, 111, 117, 110, 100]⟩]) (.lst [.str ⟨#[102, 111, 117, 110, 100]⟩, .str ⟨#[102, 111, 117, 110, 100]⟩]) = some true := by kernel_rfl
    refine ⟨c, ?_, hc⟩
    generalize trD g fr e = DU at *
    generalize trD g fr e' = FA at *
    generalize frD fr = FR at *
    generalize gtD g = G at *
    generalize natD e' = E' at *
    generalize natD e = EE at *
    simp -implicitDefEqProofs [b__law_right, callS, t1, t2, w1, w2, n1, n2, n3, k1, hcomp, hss, a1]
  | true =>
    obtain ⟨F, p1, hF, hm⟩ : ∃ F : List Nat, Fs tb sub (n + 9) i_nodes_within [gtD g, natD e, frD fr] = .ok (.tup (F.map natD), []) ∧ F.Pairwise (· < ·) ∧ ∀ k, k ∈ F ↔ Wn (nn g) g.nds fr (e / 2) k := by
      rcases run_within (n := n + 2) hg h he with ⟨z, _⟩ | ⟨_, i⟩
      · rw [hz] at z; cases z
      · exact i
    obtain ⟨found, p2, hnd, hm2⟩ := run_lwithin (n := n + 7) (fr := fr) hg he
    have hso := biD_sortN (l := found)
    have hFs : sortN found = F := asc_ext (sortN_asc hnd) hF fun x => by rw [mem_sortN, hm2, hm]
    rw [hFs] at hso
    have hFl : F.length ≤ 400 := by
      have := nodup_leN g.nds.length F (asc_nodup hF) fun k hk => ((hm k).mp hk).2.2
      have := hg.ndl
      omega
    have hdu : trD g fr e = .tup ((tvl g fr e).map bitD) := by unfold trD; rw [hz]; rfl
    have k2 : Fs tb sub (n + 9) i__law_like [.lst [.tup ((tvl g fr e).map bitD), .tup (F.map natD)], .lst [.tup ((tvl g fr e).map bitD), .tup (F.map natD)]] = .ok (.bl true, []) := run_like (n := n + 5) 2 _ (by
      have : (tvl g fr e).length ≤ 16777216 := by unfold tvl; simp; omega
      simp [lkds_bits, lkd_nats, this]
      omega)
    have k3 : ∀ a : Bool, Fs tb sub (n + 9) i__law_like [.lst [.bl a, .bl a], .lst [.bl a, .bl a]] = .ok (.bl true, []) := fun a => run_like (n := n + 6) 1 _ (by simp)
    have k4 := k3 (alk g fr e e')
    clear k3
    rw [alk_comm] at a2
    rw [hz] at w1 b1 n1 n3 k1
    have hb1 : Fs tb sub (n + 9) i_truth_by [gtD g, natD e, frD fr] = .ok (.tup ((tvl g fr e).map bitD), []) := b1
    rw [hdu] at t1 n1 n3
    have hr3 : rangeL 0 3 = (List.range 3).map fun i : Nat => D.int i := rangeL_nat 3
    have o3 : rngOk 3 = true := rfl
    obtain ⟨σ', e1, c', x9, x10, x12, hc', rfl⟩ := forS_inv (t := T.var 9) (l := LR n) (b := l__law_right_4) (ys := List.range 3) (σ := stR c g e e' fr (.tup ((tvl g fr e).map bitD)) (trD g fr e') (alk g fr e e') none none none none) (fun i : Nat => D.int i)
      (fun pre σ => ∃ c' x9 x10 x12, Cup c' ∧ σ = stR c' g e e' fr (.tup ((tvl g fr e).map bitD)) (trD g fr e') (alk g fr e e') none x9 x10 x12) ⟨c, none, none, none, hc, rfl⟩ (by
        rintro pre k post σ ey ⟨c', x9, x10, x12, hc', rfl⟩
        obtain ⟨c2, z10, z12, r, hc2⟩ := turn_right (n := n) (k := k) (x7 := none) (x9 := x9) (x10 := x10) (x12 := x12) (far := trD g fr e') hg h he he' hz hc'
        exact ⟨_, r, c2, _, _, _, hc2, rfl⟩)
    refine ⟨c', ?_, hc'⟩
    have heq : ∀ A : D, A = .tup ((tvl g fr e).map bitD) → tl (nn g) g.nds fr (e' / 2) = true → cmpD .eq A (trD g fr e') = some (alk g fr e e') := by
      rintro A rfl z
      unfold trD alk
      rw [hz, z]
      exact cmp_bitsT _ _
    have heq := heq _ rfl
    have hno : tl (nn g) g.nds fr (e' / 2) = false → alk g fr e e' = false := by
      intro z
      unfold alk
      rw [z]
      simp
    unfold stR at e1
    clear hdu b1 hso
    have hso := biD_sortN (l := found)
    rw [hFs] at hso
    generalize alk g fr e e' = al at *
    generalize (tvl g fr e).map bitD = TV at *
    generalize trD g fr e' = FA at *
    generalize F.map natD = FF at *
    generalize found.map natD = FO at *
    generalize frD fr = FR at *
    generalize gtD g = G at *
    generalize natD e' = E' at *
    generalize natD e = EE at *
    cases hz' : tl (nn g) g.nds fr (e' / 2) with
    | false =>
      rw [hz'] at w2 n2 k1
      have hal := hno hz'
      subst hal
      simp -implicitDefEqProofs [b__law_right, callS, t1, t2, w1, w2, n1, n2, n3, k1, hb1, p1, p2, hso, k2, a1, a2, k4, hr3, o3, e1]
    | true =>
      rw [hz'] at w2 n2 k1
      have heq := heq hz'
      simp -implicitDefEqProofs [b__law_right, callS, t1, t2, w1, w2, n1, n2, n3, k1, hb1, p1, p2, hso, k2, heq, a1, a2, k4, hr3, o3, e1]
end
/-! ### draws -/
section
variable {n : Nat}
theorem run_thing {c : D} {th : Nat} (hc : Cup c) (h1 : 1 ≤ th) (h2 : th < 1000) : ∃ (r : Nat) (c' : D), Fs tb sub (n + 2) i__law_thing [c, natD th] = .ok (natD r, [c']) ∧ Cup c' ∧ r < th := by
  obtain ⟨r, c1, e1, hc1, b1⟩ := run_rollN (n := n) (k := th) hc (by omega) (by omega)
  obtain ⟨s, c2, e2, hc2, b2⟩ := run_rollN (n := n) (k := 4) hc1 (by omega) (by omega)
  have hr : r < th := by omega
  have e1 : Fs tb sub (n + 1) i__law_roll [c, natD th] = .ok (natD r, [c1]) := e1
  rw [call__law_thing]
  by_cases h0 : r = 0
  · subst h0
    have hsub : bop .sub (natD th) (.int 1) = some (natD (th - 1)) := by
      show some (D.int _) = some (D.int _)
      congr 2
      omega
    have hg : cmpD .gt (natD 0) (.int 0) = some false := by simp
    by_cases h4 : s = 0
    · subst h4
      refine ⟨0, c2, ?_, hc2, h1⟩
      have he : cmpD .eq (natD 0) (.int 0) = some true := by simp
      generalize natD 0 = Z at *
      generalize natD th = T at *
      simp -implicitDefEqProofs [b__law_thing, callS, e1, e2, hg, he]
    · refine ⟨th - 1, c2, ?_, hc2, by omega⟩
      have he : cmpD .eq (natD s) (.int 0) = some false := by simp [h4]
      generalize natD s = S at *
      generalize natD 0 = Z at *
      generalize natD (th - 1) = T1 at *
      generalize natD th = T at *
      simp -implicitDefEqProofs [b__law_thing, callS, e1, e2, hg, he, hsub]
  · refine ⟨r, c1, ?_, hc1, hr⟩
    have hg : cmpD .gt (natD r) (.int 0) = some true := by simp; omega
    generalize natD r = Z at *
    generalize natD th = T at *
    simp -implicitDefEqProofs [b__law_thing, callS, e1, hg]
abbrev LG (n : Nat) : Lv := LV tb sub (n + 2) f__law_gates
theorem add_nat (a b : Nat) : bop .add (natD a) (natD b) = some (natD (a + b)) := by
  show some (D.int _) = some (D.int _)
  simp
theorem mul_nat {a b : Nat} (h : a < 1000000) : bop .mul (natD a) (natD b) = some (natD (a * b)) := by
  show bop .mul (.int (a : Int)) (.int (b : Int)) = _
  rw [bop_mul (.inl (by omega))]
  simp
theorem draw_edges {c c0 : D} {th m : Nat} {y1 y2 y3 y4 y5 y7 y9 y10 y11 : Option D} {elt : E} (hel : elt = e__law_gates_4) (hm : m ≤ 8) (hc : Cup c) (h1 : 1 ≤ th) (h2 : th < 1000) : ∃ (ws : List Nat) (c' : D), lcS [8] elt (T.var 8) Eo.none (LG n) [some c0, y1, y2, y3, y4, y5, some (natD th), y7, none, y9, y10, y11] ((List.range m).map natD) [some c, y1, y2, y3, y4, y5, some (natD th), y7, none, y9, y10, y11] = .ok (.lst (ws.map natD), [some c', y1, y2, y3, y4, y5, some (natD th), y7, none, y9, y10, y11]) ∧ Cup c' ∧ ws.length = m ∧ ∀ w ∈ ws, w < 2 * th := by
  subst hel
  obtain ⟨ws, σn, t1, t2, t3, t4⟩ := lcS_draw (own := [8]) (elt := e__law_gates_4) (t := T.var 8) (c := Eo.none) (l := LG n) (σ0 := [some c0, y1, y2, y3, y4, y5, some (natD th), y7, none, y9, y10, y11]) (σ := [some c, y1, y2, y3, y4, y5, some (natD th), y7, none, y9, y10, y11]) natD natD (fun w => w < 2 * th)
    (fun σw => ∃ c : D, Cup c ∧ σw = [some c, y1, y2, y3, y4, y5, some (natD th), y7, none, y9, y10, y11]) (ys := List.range m) (Fit.of (k := 8) (by simpa using hm) _ (by decide)) ⟨c, hc, by simp⟩ (by
      rintro j hj σw ⟨c, hc, rfl⟩
      obtain ⟨r, c1, q1, hc1, b1⟩ := run_thing (n := n) hc h1 h2
      obtain ⟨s, c2, q2, hc2, b2⟩ := run_rollN (n := n + 1) (k := 2) hc1 (by omega) (by omega)
      have m1 : bop .mul (.int 2) (natD r) = some (natD (2 * r)) := mul_nat (a := 2) (by omega)
      have m2 := add_nat (2 * r) s
      refine ⟨2 * r + s, [some c2, y1, y2, y3, y4, y5, some (natD th), y7, none, y9, y10, y11], ?_, by omega, c2, hc2, rfl⟩
      generalize natD (2 * r + s) = X at *
      generalize natD (2 * r) = Y at *
      generalize natD r = R1 at *
      generalize natD s = S1 at *
      generalize natD th = T1 at *
      generalize natD j = J at *
      simp -implicitDefEqProofs [lcT, e__law_gates_4, callS, q1, q2, m1, m2])
  obtain ⟨c', hc', rfl⟩ := t2
  exact ⟨ws, c', by simpa using t1, hc', by simpa using t3, t4⟩
theorem draw_firsts {c : D} {m : Nat} {y1 y2 y3 y4 y5 y6 y7 y9 y10 y11 : Option D} (hm : m ≤ 8) (hc : Cup c) : ∃ (bs : List Bool) (c' : D), lcS [8] e__law_gates_3 (T.var 8) Eo.none (LG n) [some c, y1, y2, y3, y4, y5, y6, y7, none, y9, y10, y11] ((List.range m).map natD) [some c, y1, y2, y3, y4, y5, y6, y7, none, y9, y10, y11] = .ok (.lst (bs.map bitD), [some c', y1, y2, y3, y4, y5, y6, y7, none, y9, y10, y11]) ∧ Cup c' ∧ bs.length = m := by
  obtain ⟨bs, σn, t1, t2, t3, t4⟩ := lcS_draw (own := [8]) (elt := e__law_gates_3) (t := T.var 8) (c := Eo.none) (l := LG n) (σ0 := [some c, y1, y2, y3, y4, y5, y6, y7, none, y9, y10, y11]) (σ := [some c, y1, y2, y3, y4, y5, y6, y7, none, y9, y10, y11]) natD bitD (fun _ => True)
    (fun σw => ∃ c : D, Cup c ∧ σw = [some c, y1, y2, y3, y4, y5, y6, y7, none, y9, y10, y11]) (ys := List.range m) (Fit.of (k := 8) (by simpa using hm) _ (by decide)) ⟨c, hc, by simp⟩ (by
      rintro j hj σw ⟨c, hc, rfl⟩
      obtain ⟨b, c', q1, q2⟩ := run_rollB (n := n + 1) hc
      exact ⟨b, _, by simp [lcT, e__law_gates_3, callS, q1], trivial, c', q2, rfl⟩)
  obtain ⟨c', hc', rfl⟩ := t2
  exact ⟨bs, c', by simpa using t1, hc', by simpa using t3⟩
theorem run_turned (e : Nat) : ∃ e', Fs tb sub (n + 1) i__law_turned [natD e] = .ok (natD e', []) ∧ e' / 2 = e / 2 ∧ e' ≠ e := by
  have h1 := mod2 e
  have h4 : biD .int [natD e] = some (natD e) := rfl
  rw [call__law_turned]
  rcases Nat.mod_two_eq_zero_or_one e with z | z
  · refine ⟨e + 1, ?_, by omega, by omega⟩
    rw [z] at h1
    have h2 : bop .add (natD e) (.int 1) = some (natD (e + 1)) := add_nat e 1
    generalize natD (e + 1) = X at *
    generalize natD e = Y at *
    simp -implicitDefEqProofs [b__law_turned, h1, h2, h4]
  · refine ⟨e - 1, ?_, by omega, by omega⟩
    rw [z] at h1
    have h2 : bop .sub (natD e) (.int 1) = some (natD (e - 1)) := by
      show some (D.int _) = some (D.int _)
      congr 2
      omega
    generalize natD (e - 1) = X at *
    generalize natD e = Y at *
    simp -implicitDefEqProofs [b__law_turned, h1, h2, h4]
theorem min1_nat (a b : Nat) : biD .min1 [.lst [natD a, natD b]] = some (natD (min a b)) := by
  show some (D.int (min (a : Int) b)) = some (D.int _)
  congr 2
  omega
theorem max1_nat (a b : Nat) : biD .max1 [.lst [natD a, natD b]] = some (natD (max a b)) := by
  show some (D.int (max (a : Int) b)) = some (D.int _)
  congr 2
  omega
end
section
variable {n : Nat}
def NdOk (N : Nat) (nds : List (Nat × Nat)) : Prop := ∀ (i : Nat) p, nds[i]? = some p → p.1 < p.2 ∧ p.2 < 2 * (N + i)
theorem NdOk.add {N : Nat} {nds : List (Nat × Nat)} {p : Nat × Nat} (h : NdOk N nds) (h1 : p.1 < p.2) (h2 : p.2 < 2 * (N + nds.length)) : NdOk N (nds ++ [p]) := fun i q hq => by
  by_cases hi : i < nds.length
  · rw [List.getElem?_append_left hi] at hq
    exact h i q hq
  · rw [List.getElem?_append_right (by omega)] at hq
    by_cases e : i = nds.length
    · subst e
      have : p = q := by simpa using hq
      subst this
      exact ⟨h1, h2⟩
    · rw [List.getElem?_eq_none_iff.mpr (by simp; omega)] at hq
      cases hq
theorem run_nodes {c : D} {a b m : Nat} (hc : Cup c) (ha : a ≤ 8) (hb : b ≤ 6) (hm : m ≤ 10) : ∃ (c' : D) (nds : List (Nat × Nat)) (x5 x6 x7 : Option D), forS (T.var 5) l__law_gates_5 (LG n) ((List.range m).map natD) [some c, some (natD a), some (natD b), some (.int 10), some (.lst []), none, none, none, none, none, none, none] = .ok (.nx, [some c', some (natD a), some (natD b), some (.int 10), some (.lst (nds.map ndD)), x5, x6, x7, none, none, none, none]) ∧ Cup c' ∧ nds.length = m ∧ NdOk (1 + a + b) nds := by
  obtain ⟨σ', e1, c', nds, x5, x6, x7, rfl, hc', hl, hn⟩ := forS_inv (t := T.var 5) (l := LG n) (b := l__law_gates_5) (ys := List.range m) (σ := [some c, some (natD a), some (natD b), some (.int 10), some (.lst []), none, none, none, none, none, none, none]) natD
    (fun pre σ => ∃ (c' : D) (nds : List (Nat × Nat)) (x5 x6 x7 : Option D), σ = [some c', some (natD a), some (natD b), some (.int 10), some (.lst (nds.map ndD)), x5, x6, x7, none, none, none, none] ∧ Cup c' ∧ nds.length = pre.length ∧ NdOk (1 + a + b) nds) ⟨c, [], none, none, none, rfl, hc, rfl, fun i p h => by simp at h⟩ (by
      rintro pre j post σ ey ⟨c', nds, x5, x6, x7, rfl, hc', hl, hn⟩
      have hpl : pre.length < m := by
        have : (List.range m).length = pre.length + (post.length + 1) := by rw [ey]; simp
        rw [List.length_range] at this
        omega
      have hl2 : (pre ++ [j]).length = nds.length + 1 := by simp [hl]
      rw [hl2]
      obtain ⟨ws, c2, w1, hc2, w2, w3⟩ := draw_edges (n := n) (c := c') (c0 := c') (th := 1 + a + b + nds.length) (m := 2) (y1 := some (natD a)) (y2 := some (natD b)) (y3 := some (.int 10)) (y4 := some (.lst (nds.map ndD))) (y5 := some (natD j)) (y7 := x7) (y9 := none) (y10 := none) (y11 := none) rfl (by omega) hc' (by omega) (by omega)
      obtain ⟨u, v, rfl⟩ : ∃ u v, ws = [u, v] := by
        match ws, w2 with
        | [u, v], _ => exact ⟨u, v, rfl⟩
      have hu := w3 u (by simp)
      have hv := w3 v (by simp)
      have s1 := add_nat 1 a
      have s2 := add_nat (1 + a) b
      have s3 := add_nat (1 + a + b) nds.length
      have hlen : biD .len [.lst (nds.map ndD)] = some (natD nds.length) := by
        show some (D.int _) = some (D.int _)
        simp
      have hr2 : rangeL 0 2 = (List.range 2).map natD := rangeL_nat 2
      have o2 : rngOk 2 = true := rfl
      have hf : Fit 16777215 (nds.map ndD) := Fit.of (k := 10) (by simp; omega) _ (by decide)
      have happ : ∀ q : Nat × Nat, (nds ++ [q]).map ndD = nds.map ndD ++ [.tup [natD q.1, natD q.2]] := fun q => by
        rw [List.map_append]; rfl
      by_cases huv : u = v
      · subst huv
        obtain ⟨u', t1, t2, t3⟩ := run_turned (n := n + 1) u
        have hmi := min1_nat u u'
        have hma := max1_nat u u'
        have he : cmpD .eq (natD u) (natD u) = some true := by
          show some _ = _
          simp [deq]
        refine ⟨[some c2, some (natD a), some (natD b), some (.int 10), some (.lst ((nds ++ [(min u u', max u u')]).map ndD)), some (natD j), some (natD (1 + a + b + nds.length)), some (.lst [natD u, natD u']), none, none, none, none], ?_, c2, _, _, _, _, rfl, hc2, by simp, hn.add (by simp only; omega) (by simp only; omega)⟩
        rw [happ]
        simp only [List.map_cons, List.map_nil] at w1
        generalize nds.map ndD = ND at *
        generalize natD (min u u') = MI at *
        generalize natD (max u u') = MA at *
        generalize natD (1 + a + b + nds.length) = TH at *
        generalize natD (1 + a + b) = T2 at *
        have s1 : bop .add (.int 1) (natD a) = some (natD (1 + a)) := s1
        generalize natD (1 + a) = T1 at *
        generalize natD nds.length = NL at *
        generalize natD u = U at *
        generalize natD u' = U' at *
        generalize natD a = A at *
        generalize natD b = B at *
        generalize natD j = J at *
        simp -implicitDefEqProofs [l__law_gates_5, callS, s1, s2, s3, hlen, hr2, o2, w1, he, t1, hmi, hma, hf]
      · have hmi := min1_nat u v
        have hma := max1_nat u v
        have he : cmpD .eq (natD u) (natD v) = some false := by
          show some _ = _
          simp [deq]
          omega
        refine ⟨[some c2, some (natD a), some (natD b), some (.int 10), some (.lst ((nds ++ [(min u v, max u v)]).map ndD)), some (natD j), some (natD (1 + a + b + nds.length)), some (.lst [natD u, natD v]), none, none, none, none], ?_, c2, _, _, _, _, rfl, hc2, by simp, hn.add (by simp only; omega) (by simp only; omega)⟩
        rw [happ]
        simp only [List.map_cons, List.map_nil] at w1
        generalize nds.map ndD = ND at *
        generalize natD (min u v) = MI at *
        generalize natD (max u v) = MA at *
        generalize natD (1 + a + b + nds.length) = TH at *
        generalize natD (1 + a + b) = T2 at *
        have s1 : bop .add (.int 1) (natD a) = some (natD (1 + a)) := s1
        generalize natD (1 + a) = T1 at *
        generalize natD nds.length = NL at *
        generalize natD u = U at *
        generalize natD v = V at *
        generalize natD a = A at *
        generalize natD b = B at *
        generalize natD j = J at *
        simp -implicitDefEqProofs [l__law_gates_5, callS, s1, s2, s3, hlen, hr2, o2, w1, he, hmi, hma, hf])
  rw [List.length_range] at hl
  exact ⟨c', nds, x5, x6, x7, e1, hc', hl, hn⟩
theorem run_gates {c : D} (hc : Cup c) : ∃ (g : Gt) (c' : D), Fs tb sub (n + 3) i__law_gates [c, .int 4, .int 2, .int 10] = .ok (gtD g, [c']) ∧ Cup c' ∧ GtOk g ∧ g.ins ≤ 4 ∧ g.sts ≤ 2 ∧ g.nds.length ≤ 10 := by
  obtain ⟨r1, c1, e1, hc1, b1⟩ := run_rollN (n := n + 1) (k := 4) hc (by omega) (by omega)
  obtain ⟨r2, c2, e2, hc2, b2⟩ := run_rollN (n := n + 1) (k := 3) hc1 (by omega) (by omega)
  obtain ⟨r3, c3, e3, hc3, b3⟩ := run_rollN (n := n + 1) (k := 11) hc2 (by omega) (by omega)
  obtain ⟨c4, nds, x5, x6, x7, l1, hc4, hl, hn⟩ := run_nodes (n := n) (a := 1 + r1) (b := r2) (m := r3) hc3 (by omega) (by omega) (by omega)
  obtain ⟨bs, c5, d1, hc5, d2⟩ := draw_firsts (n := n) (c := c4) (m := r2) (y1 := some (natD (1 + r1))) (y2 := some (natD r2)) (y3 := some (.int 10)) (y4 := some (.lst (nds.map ndD))) (y5 := x5) (y6 := some (natD (1 + (1 + r1) + r2 + nds.length))) (y7 := x7) (y9 := none) (y10 := none) (y11 := none) (by omega) hc4
  obtain ⟨nx, c6, f1, hc6, f2, f3⟩ := draw_edges (n := n) (c := c5) (c0 := c5) (elt := e__law_gates_2) (th := 1 + (1 + r1) + r2 + nds.length) (m := r2) (y1 := some (natD (1 + r1))) (y2 := some (natD r2)) (y3 := some (.int 10)) (y4 := some (.lst (nds.map ndD))) (y5 := x5) (y7 := x7) (y9 := some (.tup (bs.map bitD))) (y10 := none) (y11 := none) rfl (by omega) hc5 (by omega) (by omega)
  obtain ⟨r4, c7, e4, hc7, b4⟩ := run_rollN (n := n + 1) (k := 3) hc6 (by omega) (by omega)
  obtain ⟨os, c8, g1, hc8, g2, g3⟩ := draw_edges (n := n) (c := c7) (c0 := c6) (elt := e__law_gates_1) (th := 1 + (1 + r1) + r2 + nds.length) (m := r4) (y1 := some (natD (1 + r1))) (y2 := some (natD r2)) (y3 := some (.int 10)) (y4 := some (.lst (nds.map ndD))) (y5 := x5) (y7 := x7) (y9 := some (.tup (bs.map bitD))) (y10 := some (.tup (nx.map natD))) (y11 := none) rfl (by omega) hc7 (by omega) (by omega)
  refine ⟨⟨1 + r1, r2, bs, nds, nx, 2 * (1 + (1 + r1) + r2 + nds.length - 1) :: os⟩, c8, ?_, hc8, ⟨by simp only; omega, by simp only; omega, d2, by simp only; omega, hn, f2, f3, by simp only [List.length_cons]; omega, fun w hw => ?_⟩, by simp only; omega, by simp only; omega, by simp only; omega⟩
  · have s0 : bop .add (.int 1) (natD r1) = some (natD (1 + r1)) := add_nat 1 r1
    have s1 : bop .add (.int 1) (natD (1 + r1)) = some (natD (1 + (1 + r1))) := add_nat 1 _
    have s2 := add_nat (1 + (1 + r1)) r2
    have s3 := add_nat (1 + (1 + r1) + r2) nds.length
    have s4 : bop .sub (natD (1 + (1 + r1) + r2 + nds.length)) (.int 1) = some (natD (1 + (1 + r1) + r2 + nds.length - 1)) := by
      show some (D.int _) = some (D.int _)
      congr 2
      omega
    have s5 : bop .mul (.int 2) (natD (1 + (1 + r1) + r2 + nds.length - 1)) = some (natD (2 * (1 + (1 + r1) + r2 + nds.length - 1))) := mul_nat (a := 2) (by omega)
    have hlen : biD .len [.lst (nds.map ndD)] = some (natD nds.length) := by
      show some (D.int _) = some (D.int _)
      simp
    have hR2 : rangeL 0 (r2 : Int) = (List.range r2).map natD := rangeL_of rfl
    have o2 : rngOk (r2 : Int) = true := rng64 _ (by omega)
    have hR3 : rangeL 0 (r3 : Int) = (List.range r3).map natD := rangeL_of rfl
    have o3 : rngOk (r3 : Int) = true := rng64 _ (by omega)
    have hR4 : rangeL 0 (r4 : Int) = (List.range r4).map natD := rangeL_of rfl
    have o4 : rngOk (r4 : Int) = true := rng64 _ (by omega)
    have hos : bop .add (.tup [natD (2 * (1 + (1 + r1) + r2 + nds.length - 1))]) (.tup (os.map natD)) = some (.tup (natD (2 * (1 + (1 + r1) + r2 + nds.length - 1)) :: os.map natD)) := bop_addT (Fit.of (k := 1) (by simp) _ (by decide)) (Fit.of (k := 3) (by simp; omega) _ (by decide))
    rw [call__law_gates]
    show _ = R.ok (D.tup [natD (1 + r1), natD r2, .tup (bs.map bitD), .tup (nds.map ndD), .tup (nx.map natD), .tup (natD (2 * (1 + (1 + r1) + r2 + nds.length - 1)) :: os.map natD)], [c8])
    generalize nds.map ndD = ND at *
    generalize bs.map bitD = BS at *
    generalize nx.map natD = NX at *
    generalize os.map natD = OS at *
    generalize natD (2 * (1 + (1 + r1) + r2 + nds.length - 1)) = M2 at *
    generalize natD (1 + (1 + r1) + r2 + nds.length - 1) = M1 at *
    generalize natD (1 + (1 + r1) + r2 + nds.length) = TH at *
    generalize natD (1 + (1 + r1) + r2) = T3 at *
    generalize natD (1 + (1 + r1)) = T2 at *
    generalize natD (1 + r1) = T1 at *
    generalize natD r1 = R1 at *
    generalize natD nds.length = NL at *
    simp -implicitDefEqProofs [b__law_gates, callS, e1, e2, e3, e4, s0, s1, s2, s3, s4, s5, hlen, hR2, o2, hR3, o3, hR4, o4, l1, d1, f1, g1, hos]
  · simp only
    rcases List.mem_cons.mp hw with rfl | hw
    · omega
    · have := g3 w hw
      omega
end
section
variable {α : Type} {own : List Nat} {elt : E} {t : T} {c : Eo} {l : Lv} {σ0 σ : Sd}
theorem lcGo_none (enc : α → D) (Inv : Sd → Prop) : ∀ (ys : List α) (σ : Sd) (acc : List D), Inv (wipeD σ own) →
    (∀ y ∈ ys, ∀ σw, Inv σw → ∃ σw', lcR own (lcT elt t c l (enc y) σw) = .ok (none, σw') ∧ Inv σw') →
    ∃ σ', lcGo (fun x σ => lcT elt t c l x (wipeD σ own)) (ys.map enc) σ acc = .ok (acc, σ') ∧ Inv (wipeD σ' own)
  | [], σ, acc, h0, _ => ⟨σ, by simp [lcGo], h0⟩
  | y :: ys, σ, acc, h0, h => by
    obtain ⟨σw, h1, h3⟩ := h y List.mem_cons_self _ h0
    obtain ⟨σ1, h4, h5⟩ := lcR_inv h1
    subst h5
    obtain ⟨σ', e1, e2⟩ := lcGo_none enc Inv ys σ1 acc h3 (fun z hz => h z (List.mem_cons_of_mem _ hz))
    refine ⟨σ', ?_, e2⟩
    rw [List.map_cons]
    unfold lcGo
    rw [h4]
    simp only [bind_ok]
    exact e1
/-- a comprehension that keeps nothing -/
theorem lcS_none (enc : α → D) (Inv : Sd → Prop) {ys : List α} (h0 : Inv (wipeD σ own)) (h : ∀ y ∈ ys, ∀ σw, Inv σw → ∃ σw', lcR own (lcT elt t c l (enc y) σw) = .ok (none, σw') ∧ Inv σw') :
    ∃ σw : Sd, lcS own elt t c l σ0 (ys.map enc) σ = .ok (.lst [], back own σ0 σw) ∧ Inv σw := by
  obtain ⟨σ', e1, e2⟩ := lcGo_none enc Inv ys σ [] h0 h
  refine ⟨wipeD σ' own, ?_, e2⟩
  unfold lcS
  rw [e1]
  simp [back_wipe (wipe_wipe σ' own)]
end
section
variable {n : Nat} {g : Gt}
theorem erase_map (f : Nat → D) : ∀ (l : List Nat) (i : Nat), (l.map f).eraseIdx i = (l.eraseIdx i).map f
  | [], _ => rfl
  | x :: l, 0 => rfl
  | x :: l, i + 1 => by
    show f x :: (l.map f).eraseIdx i = f x :: (l.eraseIdx i).map f
    rw [erase_map f l i]
theorem pop1_at {l : List Nat} {r : Nat} (h : r < l.length) (hl : l.length < 100000) : mmD .pop1 (.lst (l.map natD)) [natD r] = some (natD l[r], .lst ((l.eraseIdx r).map natD)) := by
  have hi : ixn (l.map natD).length (r : Int) = some r := by
    unfold ixn
    rw [if_pos (by omega), if_pos (by simp; omega)]
    simp
  unfold mmD
  simp only [hi, Option.bind_some, List.getElem?_map, List.getElem?_eq_getElem h, Option.map_some]
  rw [if_pos (by omega), erase_map]
theorem perm_pick : ∀ (l : List Nat) (i : Nat) (h : i < l.length), (l[i] :: l.eraseIdx i).Perm l
  | [], i, h => absurd h (by simp)
  | x :: l, 0, h => List.Perm.refl _
  | x :: l, i + 1, h => by
    have := perm_pick l i (by simpa using h)
    show (l[i]'(by simpa using h) :: x :: l.eraseIdx i).Perm (x :: l)
    exact (List.Perm.swap x _ _).trans (List.Perm.cons x this)
theorem run_frame {c : D} {m : Nat} (hg : GtOk g) (hc : Cup c) (hm : m ≤ 6) : ∃ (fr : List Nat) (c' : D), Fs tb sub (n + 2) i__law_drawn_frame [c, gtD g, natD m] = .ok (frD fr, [c']) ∧ Cup c' ∧ Frm g fr := by
  have ht := tt_eq g
  have hnn := nn_eq g
  have q1 := hg.ins
  have q2 := hg.sts
  have q3 := hg.ndl
  obtain ⟨r, c1, e1, hc1, b1⟩ := run_rollN (n := n) (k := (m + 1 : Nat)) hc (by omega) (by omega)
  let L0 : List Nat := (List.range (tt g - 1)).map fun i => 1 + i
  have hL0 : L0.Nodup := asc_nodup (List.Pairwise.map _ (fun a b (h : a < b) => Nat.add_lt_add_left h 1) List.pairwise_lt_range)
  have hL1 : ∀ x ∈ L0, 1 ≤ x ∧ x < tt g := fun x hx => by
    obtain ⟨i, hi, rfl⟩ := List.mem_map.mp hx
    have := List.mem_range.mp hi
    omega
  have hLl : L0.length = tt g - 1 := by simp [L0]
  obtain ⟨σ', f1, c', th, fo, x5, rfl, hc', hp, hfl⟩ := forS_inv (t := T.var 5) (l := LV tb sub (n + 1) f__law_drawn_frame) (b := l__law_drawn_frame_1) (ys := List.range r) (σ := [some c1, some (gtD g), some (natD m), some (.lst (L0.map natD)), some (.lst []), none]) natD
    (fun pre σ => ∃ (c' : D) (th fo : List Nat) (x5 : Option D), σ = [some c', some (gtD g), some (natD m), some (.lst (th.map natD)), some (.lst (fo.map natD)), x5] ∧ Cup c' ∧ (fo ++ th).Perm L0 ∧ fo.length ≤ pre.length) ⟨c1, L0, [], none, rfl, hc1, by simp, by simp⟩ (by
      rintro pre j post σ ey ⟨c', th, fo, x5, rfl, hc', hp, hfl⟩
      have hpl : pre.length < r := by
        have : (List.range r).length = pre.length + (post.length + 1) := by rw [ey]; simp
        rw [List.length_range] at this
        omega
      have hl2 : (pre ++ [j]).length = pre.length + 1 := by simp
      rw [hl2]
      have hne := ne_nilN th
      have hlen : fo.length + th.length = tt g - 1 := by
        have := hp.length_eq
        rw [List.length_append] at this
        omega
      by_cases h0 : th = []
      · subst h0
        refine ⟨_, ?_, c', [], fo, some (natD j), rfl, hc', hp, by omega⟩
        generalize natD j = J at *
        simp only [List.map_nil, ne_eq, not_true_eq_false, decide_false] at hne
        simp -implicitDefEqProofs [l__law_drawn_frame_1, hne]
      · have hpos : 0 < th.length := List.length_pos_iff.mpr h0
        obtain ⟨i, c2, e2, hc2, b2⟩ := run_rollN (n := n) (k := th.length) hc' (by omega) (by omega)
        have e2 : Fs tb sub (n + 1) i__law_roll [c', natD th.length] = .ok (natD i, [c2]) := e2
        have hi : i < th.length := by omega
        have hpop := pop1_at hi (by omega)
        have hbl : biD .len [.lst (th.map natD)] = some (natD th.length) := by
          show some (D.int _) = some (D.int _)
          simp
        have hf : Fit 16777215 (fo.map natD) := Fit.of (k := 1000) (by simp; omega) _ (by decide)
        have happ : (fo ++ [th[i]]).map natD = fo.map natD ++ [natD th[i]] := by simp
        have hpe : ((fo ++ [th[i]]) ++ th.eraseIdx i).Perm L0 := by
          refine List.Perm.trans ?_ hp
          rw [List.append_assoc]
          exact List.Perm.append_left fo (perm_pick th i hi)
        refine ⟨[some c2, some (gtD g), some (natD m), some (.lst ((th.eraseIdx i).map natD)), some (.lst ((fo ++ [th[i]]).map natD)), some (natD j)], ?_, c2, th.eraseIdx i, fo ++ [th[i]], _, rfl, hc2, hpe, by simp; omega⟩
        rw [happ]
        have hne : cmpD .ne (.lst (th.map natD)) (.lst []) = some true := by rw [hne]; simp [h0]
        generalize (th.eraseIdx i).map natD = TE at *
        generalize th.map natD = TH at *
        generalize fo.map natD = FO at *
        generalize natD th[i] = X at *
        generalize natD th.length = TL at *
        generalize natD i = I at *
        generalize natD j = J at *
        simp -implicitDefEqProofs [l__law_drawn_frame_1, callS, hne, hbl, e2, hpop, hf])
  rw [List.length_range] at hfl
  have hnd : fo.Nodup := (List.nodup_append.mp ((hp.nodup_iff).mpr hL0)).1
  have hmem : ∀ x ∈ fo, 1 ≤ x ∧ x < tt g := fun x hx => hL1 x (hp.mem_iff.mp (List.mem_append_left _ hx))
  refine ⟨sortN fo, c', ?_, hc', ⟨by rw [sortN_len]; omega, sortN_asc hnd, fun t ht => (hmem t (mem_sortN.mp ht)).1, fun t ht => (hmem t (mem_sortN.mp ht)).2⟩⟩
  have hso := biD_sortN (l := fo)
  have hfi := run_lfirst (n := n) (g := g)
  have hsg := sub_gt (g := g)
  have hbl : biD .len [.tup (g.nds.map ndD)] = some (natD g.nds.length) := by
    show some (D.int _) = some (D.int _)
    simp
  have s1 := add_nat (nn g) g.nds.length
  have hrg : rangeL 1 (tt g : Nat) = L0.map natD := by
    rw [rangeL_from 1 (tt g - 1) _ (by omega)]
    simp only [L0, List.map_map]
    apply List.map_congr_left
    intro i _
    show D.int _ = D.int _
    simp
  have o1 : rngOk 1 = true := rfl
  have o2 : rngOk (tt g : Nat) = true := rngOk_of (by omega) (by omega)
  have hlr : (L0.map natD).length ≤ 16777216 := by simp [hLl]; omega
  have hR : rangeL 0 (r : Int) = (List.range r).map natD := rangeL_of rfl
  have o3 : rngOk (r : Int) = true := rng64 _ (by omega)
  have s2 : bop .add (natD m) (.int 1) = some (natD (m + 1)) := add_nat m 1
  have e1 : Fs tb sub (n + 1) i__law_roll [c, natD (m + 1)] = .ok (natD r, [c1]) := e1
  rw [call__law_drawn_frame]
  show _ = R.ok (D.tup ((sortN fo).map natD), [c'])
  have htn : natD (tt g) = .int (tt g : Nat) := rfl
  clear_value L0
  generalize (sortN fo).map natD = SF at *
  generalize fo.map natD = FO at *
  generalize th.map natD = TH at *
  generalize L0.map natD = LL at *
  generalize gtD g = G at *
  generalize g.nds.map ndD = ND at *
  generalize natD g.nds.length = NL at *
  generalize natD (nn g) = NN at *
  generalize natD (m + 1) = M1 at *
  generalize natD m = M at *
  have s1 : bop .add NN NL = some (.int (tt g : Nat)) := s1
  generalize tt g = TT at *
  simp -implicitDefEqProofs [b__law_drawn_frame, callS, hfi, hsg, hbl, s1, hrg, o1, o2, hlr, s2, e1, hR, o3, f1, hso]
end
/-! ### the known nets, the law -/
def gtOk (g : Gt) : Bool := decide (g.ins ≤ 8) && decide (g.sts ≤ 6) && decide (g.firsts.length = g.sts) && decide (g.nds.length ≤ 400) && ((List.range g.nds.length).zip g.nds).all (fun q => decide (q.2.1 < q.2.2) && decide (q.2.2 < 2 * (1 + g.ins + g.sts + q.1))) && decide (g.nexts.length = g.sts) && g.nexts.all (fun w => decide (w < 2 * (1 + g.ins + g.sts + g.nds.length))) && decide (1 ≤ g.outs.length) && decide (g.outs.length ≤ 16) && g.outs.all (fun w => decide (w < 2 * (1 + g.ins + g.sts + g.nds.length)))
theorem gtOk_ok {g : Gt} (h : gtOk g = true) : GtOk g := by
  unfold gtOk at h
  simp only [Bool.and_eq_true, decide_eq_true_eq, List.all_eq_true] at h
  obtain ⟨⟨⟨⟨⟨⟨⟨⟨⟨h1, h2⟩, h3⟩, h4⟩, h5⟩, h6⟩, h7⟩, h8⟩, h9⟩, h10⟩ := h
  refine ⟨h1, h2, h3, h4, fun i p hp => ?_, h6, h7, ⟨h8, h9⟩, h10⟩
  have hi : i < g.nds.length := (List.getElem?_eq_some_iff.mp hp).1
  have hm : (i, p) ∈ (List.range g.nds.length).zip g.nds := by
    refine List.mem_of_getElem? (i := i) ?_
    exact List.getElem?_zip_eq_some.mpr ⟨by rw [List.getElem?_range hi], hp⟩
  exact h5 _ hm
def knw : List Gt := [⟨2, 1, [false], [(2, 4), (3, 5), (9, 11), (6, 12), (7, 13), (15, 17)], [18], [6, 13]⟩,
  ⟨2, 0, [], [(2, 4), (2, 6), (3, 6), (7, 9)], [], [8, 10, 12]⟩,
  ⟨4, 0, [], [(2, 4), (6, 10), (8, 12)], [], [14]⟩,
  ⟨1, 3, [false, false, true], [(4, 7), (9, 10)], [2, 2, 8], [8, 11, 6]⟩,
  ⟨2, 0, [], [(0, 1), (0, 2), (1, 4), (2, 3), (2, 4), (2, 4), (14, 16), (3, 15)], [], [6, 8, 10, 12, 18, 21]⟩,
  ⟨3, 0, [], [(2, 4), (2, 5), (9, 11), (3, 13), (6, 9), (7, 12), (2, 9), (3, 9)], [], [14, 16, 18, 20, 22]⟩,
  ⟨1, 0, [], [], [], [2]⟩, ⟨0, 1, [true], [], [3], [2, 1]⟩]
theorem run_known {n : Nat} : Fs tb sub (n + 1) i__law_known [] = .ok (.tup (knw.map gtD), []) := by kernel_rfl
theorem knw_ok : knw.all gtOk = true := by decide +kernel
theorem run_errors : Fs tb sub 31 i__law_errors_right [] = .ok (.bl true, []) := by kernel_rfl
theorem run_written : Fs tb sub 31 i__law_written_right [] = .ok (.bl true, []) := by kernel_rfl
abbrev LL : Lv := LV tb sub 31 f_law
section
variable {S : D}
theorem all_frame {g : Gt} (h : g.ins + g.sts ≤ 6) : Frm g ((List.range (g.ins + g.sts)).map fun i => 1 + i) := by
  have ht := tt_eq g
  refine ⟨by simpa using h, List.Pairwise.map _ (fun a b (h : a < b) => Nat.add_lt_add_left h 1) List.pairwise_lt_range, fun t ht => ?_, fun t ht => ?_⟩
  · obtain ⟨i, hi, rfl⟩ := List.mem_map.mp ht
    omega
  · obtain ⟨i, hi, rfl⟩ := List.mem_map.mp ht
    have := List.mem_range.mp hi
    omega
theorem things_of (g : Gt) {G : D} (hG : G = gtD g) : subD G (.int 3) = some (.tup (g.nds.map ndD)) ∧ biD .len [.tup (g.nds.map ndD)] = some (natD g.nds.length) := by
  subst hG
  refine ⟨rfl, ?_⟩
  show some (D.int _) = some (D.int _)
  simp
theorem law_more {c : D} {g : Gt} {x2 x5 x6 x7 : Option D} {k : Nat} (hg : GtOk g) (h6 : g.ins + g.sts ≤ 6) (hc : Cup c) :
    ∃ c' z6 z7, ((asg (T.var 5) (.int k) [some S, some c, x2, some (gtD g), some (natD (tt g)), x5, x6, x7]).bind fun σ1 => exs l_law_3 LL σ1) = .ok (.nx, [some S, some c', x2, some (gtD g), some (natD (tt g)), some (.int k), z6, z7]) ∧ Cup c' := by
  have ht := tt_eq g
  have hnn := nn_eq g
  have q3 := hg.ndl
  obtain ⟨e, c1, e1, hc1, b1⟩ := run_rollN (n := 30) (k := (2 * tt g : Nat)) hc (by omega) (by omega)
  obtain ⟨e', c2, e2, hc2, b2⟩ := run_rollN (n := 30) (k := (2 * tt g : Nat)) hc1 (by omega) (by omega)
  obtain ⟨fr, c3, e3, hc3, hfr⟩ := run_frame (n := 29) (m := 4) hg hc2 (by omega)
  obtain ⟨c4, e4, hc4⟩ := run_right (n := 21) hg hfr (show e < 2 * tt g by omega) (show e' < 2 * tt g by omega) hc3
  have haf := all_frame h6
  obtain ⟨c5, e5, hc5⟩ := run_right (n := 21) hg haf (show e < 2 * tt g by omega) (show e' < 2 * tt g by omega) hc4
  have e3 : Fs tb sub 31 i__law_drawn_frame [c2, gtD g, .int 4] = .ok (frD fr, [c3]) := e3
  have e1 : Fs tb sub 31 i__law_roll [c, natD (2 * tt g)] = .ok (natD e, [c1]) := e1
  have e2 : Fs tb sub 31 i__law_roll [c1, natD (2 * tt g)] = .ok (natD e', [c2]) := e2
  have hm : bop .mul (.int 2) (natD (tt g)) = some (natD (2 * tt g)) := mul_nat (a := 2) (by omega)
  have hfi := run_lfirst (n := 30) (g := g)
  have o1 : rngOk 1 = true := rfl
  have o2 : rngOk (nn g : Nat) = true := rngOk_of (by omega) (by omega)
  have hrg : rangeL 1 (nn g : Nat) = ((List.range (g.ins + g.sts)).map fun i => 1 + i).map natD := by
    rw [rangeL_from 1 (g.ins + g.sts) _ (by omega), List.map_map]
    apply List.map_congr_left
    intro i _
    show D.int _ = D.int _
    simp
  have hlr : (((List.range (g.ins + g.sts)).map fun i => 1 + i).map natD).length ≤ 16777216 := by simp; omega
  unfold frD at e5
  refine ⟨c5, some (natD e), some (natD e'), ?_, hc5⟩
  generalize (((List.range (g.ins + g.sts)).map fun i => 1 + i).map natD) = AF at *
  generalize frD fr = FR at *
  generalize gtD g = G at *
  generalize natD (2 * tt g) = T2 at *
  generalize natD (tt g) = TT at *
  generalize natD e = EE at *
  generalize natD e' = E' at *
  have hfi : Fs tb sub 31 i__law_first [G] = .ok (.int (nn g : Nat), []) := hfi
  generalize nn g = NN at *
  simp -implicitDefEqProofs [l_law_3, callS, hm, e1, e2, e3, e4, hfi, o1, o2, hrg, hlr, e5]
theorem law_turn {c : D} {x2 x3 x4 x5 x6 x7 : Option D} {k : Nat} (hc : Cup c) :
    ∃ c' z3 z4 z5 z6 z7, ((asg (T.var 2) (.int k) [some S, some c, x2, x3, x4, x5, x6, x7]).bind fun σ1 => exs l_law_4 LL σ1) = .ok (.nx, [some S, some c', some (.int k), z3, z4, z5, z6, z7]) ∧ Cup c' := by
  obtain ⟨g, c1, e1, hc1, hg, g1, g2, g3⟩ := run_gates (n := 28) hc
  have ht := tt_eq g
  have hnn := nn_eq g
  obtain ⟨σ', f1, c', z5, z6, z7, hc', rfl⟩ := forS_inv (t := T.var 5) (l := LL) (b := l_law_3) (ys := List.range 3) (σ := [some S, some c1, some (.int k), some (gtD g), some (natD (tt g)), x5, x6, x7]) (fun i : Nat => D.int i)
    (fun pre σ => ∃ c' z5 z6 z7, Cup c' ∧ σ = [some S, some c', some (.int k), some (gtD g), some (natD (tt g)), z5, z6, z7]) ⟨c1, x5, x6, x7, hc1, rfl⟩ (by
      rintro pre j post σ ey ⟨c', z5, z6, z7, hc', rfl⟩
      obtain ⟨c2, w6, w7, r, hc2⟩ := law_more (S := S) (x2 := some (.int k)) (x5 := z5) (x6 := z6) (x7 := z7) (k := j) hg (by omega) hc'
      exact ⟨_, r, c2, _, _, _, hc2, rfl⟩)
  have hr3 : rangeL 0 3 = (List.range 3).map fun i : Nat => D.int i := rangeL_nat 3
  have o3 : rngOk 3 = true := rfl
  have hfi := run_lfirst (n := 30) (g := g)
  obtain ⟨hs, hl⟩ := things_of g rfl
  have hadd := add_nat (nn g) g.nds.length
  refine ⟨c', some (gtD g), some (natD (tt g)), z5, z6, z7, ?_, hc'⟩
  have hadd : bop .add (natD (nn g)) (natD g.nds.length) = some (natD (tt g)) := hadd
  generalize gtD g = G at *
  generalize g.nds.map ndD = ND at *
  generalize natD g.nds.length = NL at *
  generalize natD (nn g) = NN at *
  generalize natD (tt g) = TT at *
  simp -implicitDefEqProofs [l_law_4, callS, e1, hfi, hs, hl, hadd, hr3, o3, f1]
theorem law_known1 {c : D} {g : Gt} {x2 x3 x4 x5 x6 x7 : Option D} (hg : GtOk g) (hc : Cup c) :
    ∃ c' z4, ((asg (T.var 3) (gtD g) [some S, some c, x2, x3, x4, x5, x6, x7]).bind fun σ1 => exs l_law_2 LL σ1) = .ok (.nx, [some S, some c', x2, some (gtD g), z4, x5, x6, x7]) ∧ Cup c' := by
  have ht := tt_eq g
  have hnn := nn_eq g
  have q1 := hg.ins
  have q2 := hg.sts
  have q3 := hg.ndl
  have hm : bop .mul (.int 2) (natD (tt g)) = some (natD (2 * tt g)) := mul_nat (a := 2) (by omega)
  obtain ⟨σw, f1, c', hc', rfl⟩ := lcS_none (own := [6]) (elt := e_law_1) (t := T.var 6) (c := c_law_1) (l := LL) (σ0 := [some S, some c, x2, some (gtD g), some (natD (tt g)), x5, x6, x7]) (σ := [some S, some c, x2, some (gtD g), some (natD (tt g)), x5, x6, x7]) (ys := List.range (2 * tt g)) natD
    (fun σ => ∃ c' : D, Cup c' ∧ σ = [some S, some c', x2, some (gtD g), some (natD (tt g)), x5, none, x7]) ⟨c, hc, by simp⟩ (by
      rintro e he σw ⟨c', hc', rfl⟩
      have he : e < 2 * tt g := List.mem_range.mp he
      obtain ⟨e', c2, e2, hc2, b2⟩ := run_rollN (n := 30) (k := (2 * tt g : Nat)) hc' (by omega) (by omega)
      have e2 : Fs tb sub 31 i__law_roll [c', natD (2 * tt g)] = .ok (natD e', [c2]) := e2
      obtain ⟨fr, c3, e3, hc3, hfr⟩ := run_frame (n := 29) (m := 3) hg hc2 (by omega)
      have e3 : Fs tb sub 31 i__law_drawn_frame [c2, gtD g, .int 3] = .ok (frD fr, [c3]) := e3
      obtain ⟨c4, e4, hc4⟩ := run_right (n := 21) hg hfr he (show e' < 2 * tt g by omega) hc3
      refine ⟨[some S, some c4, x2, some (gtD g), some (natD (tt g)), x5, none, x7], ?_, c4, hc4, rfl⟩
      generalize frD fr = FR at *
      generalize gtD g = G at *
      generalize natD (2 * tt g) = T2 at *
      generalize natD (tt g) = TT at *
      generalize natD e = EE at *
      generalize natD e' = E' at *
      simp -implicitDefEqProofs [lcT, c_law_1, callS, hm, e2, e3, e4])
  have hfi := run_lfirst (n := 30) (g := g)
  obtain ⟨hs, hl⟩ := things_of g rfl
  have hadd : bop .add (natD (nn g)) (natD g.nds.length) = some (natD (tt g)) := add_nat (nn g) g.nds.length
  have hrg : rangeL 0 (2 * tt g : Nat) = (List.range (2 * tt g)).map natD := rangeL_of rfl
  have o1 : rngOk (2 * tt g : Nat) = true := rngOk_of (by omega) (by omega)
  have hne : cmpD .ne (.lst []) (.lst []) = some false := rfl
  have hm : bop .mul (.int 2) (natD (tt g)) = some (.int (2 * tt g : Nat)) := hm
  simp only [back_cons, back_nil] at f1
  refine ⟨c', some (natD (tt g)), ?_, hc'⟩
  generalize ((List.range (2 * tt g)).map natD) = RL at *
  generalize gtD g = G at *
  generalize g.nds.map ndD = ND at *
  generalize natD g.nds.length = NL at *
  generalize natD (nn g) = NN at *
  generalize natD (tt g) = TT at *
  generalize (2 * tt g) = T2 at *
  simp -implicitDefEqProofs at f1
  simp -implicitDefEqProofs [l_law_2, callS, hfi, hs, hl, hadd, hrg, o1, hm, f1, hne]
end
theorem law_true (ns : List Int) (hn : ns.length ≤ 63) : ∃ ms, Fs tb sub 32 i_law [.frz (intL ns)] = .ok (.bl true, ms) := by
  obtain ⟨c0, h0, hc0⟩ := run_cup (n := 30) hn
  obtain ⟨σ', e1, c1, x2, x3, x4, x5, x6, x7, hc1, rfl⟩ := forS_inv (t := T.var 2) (l := LL) (b := l_law_4) (ys := List.range 10) (σ := [some (.frz (intL ns)), some c0, none, none, none, none, none, none]) (fun i : Nat => D.int i)
    (fun pre σ => ∃ (c : D) (x2 x3 x4 x5 x6 x7 : Option D), Cup c ∧ σ = [some (.frz (intL ns)), some c, x2, x3, x4, x5, x6, x7]) ⟨c0, none, none, none, none, none, none, hc0, rfl⟩ (by
      rintro pre k post σ e ⟨c, x2, x3, x4, x5, x6, x7, hc, rfl⟩
      obtain ⟨c', z3, z4, z5, z6, z7, r, hc'⟩ := law_turn (S := .frz (intL ns)) (x2 := x2) (x3 := x3) (x4 := x4) (x5 := x5) (x6 := x6) (x7 := x7) (k := k) hc
      exact ⟨_, r, c', _, _, _, _, _, _, hc', rfl⟩)
  obtain ⟨σ', e2, c2, y3, y4, hc2, rfl⟩ := forS_inv (t := T.var 3) (l := LL) (b := l_law_2) (ys := knw) (σ := [some (.frz (intL ns)), some c1, x2, x3, x4, x5, x6, x7]) gtD
    (fun pre σ => ∃ (c : D) (x3 x4 : Option D), Cup c ∧ σ = [some (.frz (intL ns)), some c, x2, x3, x4, x5, x6, x7]) ⟨c1, x3, x4, hc1, rfl⟩ (by
      rintro pre g post σ e ⟨c, x3, x4, hc, rfl⟩
      have hg : GtOk g := gtOk_ok (List.all_eq_true.mp knw_ok g (by rw [e]; simp))
      obtain ⟨c', z4, r, hc'⟩ := law_known1 (S := .frz (intL ns)) (x2 := x2) (x3 := x3) (x4 := x4) (x5 := x5) (x6 := x6) (x7 := x7) hg hc
      exact ⟨_, r, c', _, _, hc', rfl⟩)
  have hr : rangeL 0 10 = (List.range 10).map fun i : Nat => D.int i := rangeL_nat 10
  have o10 : rngOk 10 = true := rfl
  have hk := run_known (n := 30)
  have he := run_errors
  have hw := run_written
  obtain ⟨a, b, _, _, rfl⟩ := id hc0
  refine ⟨[], ?_⟩
  rw [call_law]
  generalize knw.map gtD = KN at *
  simp -implicitDefEqProofs [b_law, callS, h0, hr, o10, e1, hk, e2, he, hw]

set_option maxHeartbeats 0
def L : Lw where
  p := PySem.Challenge.pw_boardforged_k21_whole_gate_frames
  rows := [⟨f_is_whole, 14, ["value", "low", "high"], false⟩,
    ⟨f_is_tuple_of, 15, ["value", "low", "high"], false⟩,
    ⟨f_is_ascending, 16, ["values", "one", "other"], false⟩,
    ⟨f_are_bits, 22, ["value", "many", "bit"], false⟩,
    ⟨f_is_node, 23, ["value", "known"], false⟩,
    ⟨f_is_gates, 24, ["value", "inputs", "stores", "firsts", "nodes", "nexts", "outs", "at", "node", "most", "edge"], false⟩,
    ⟨f_need_gates, 25, ["value"], false⟩,
    ⟨f_first_node, 28, ["gates"], false⟩,
    ⟨f_things_in, 29, ["gates"], false⟩,
    ⟨f_need_edge, 30, ["gates", "value"], false⟩,
    ⟨f_fits_frame, 31, ["gates", "value", "own"], false⟩,
    ⟨f_need_frame, 32, ["gates", "value"], false⟩,
    ⟨f_inner_in, 33, ["gates", "edge", "frame", "first", "found", "line", "own", "part"], false⟩,
    ⟨f_wide_bit, 34, ["values", "edge", "whole"], false⟩,
    ⟨f_rows_of, 35, ["many"], false⟩,
    ⟨f_sign_bits, 36, ["at", "many", "index"], false⟩,
    ⟨f_truth_in, 37, ["gates", "edge", "frame", "nodes", "many", "first", "whole", "values", "at", "thing", "node", "one", "other", "told", "index"], false⟩,
    ⟨f_alike_in, 38, ["gates", "edge", "other", "frame", "one"], false⟩,
    ⟨f_need_all, 39, ["gates", "edge", "frame"], false⟩,
    ⟨f_is_told_by, 40, ["gates", "edge", "frame"], false⟩,
    ⟨f_truth_by, 41, ["gates", "edge", "frame", "found"], false⟩,
    ⟨f_nodes_within, 42, ["gates", "edge", "frame", "found"], false⟩,
    ⟨f_are_alike_by, 43, ["gates", "edge", "other", "frame"], false⟩,
    ⟨f__law_cup, 45, ["script", "cell"], false⟩,
    ⟨f__law_roll, 46, ["cup", "many", "found"], false⟩,
    ⟨f__law_sort, 47, ["value"], false⟩,
    ⟨f__law_like, 48, ["one", "other", "sort", "first", "second"], false⟩,
    ⟨f__law_turned, 49, ["edge"], false⟩,
    ⟨f__law_first, 50, ["gates"], false⟩,
    ⟨f__law_bit, 51, ["bits", "edge"], false⟩,
    ⟨f__law_bits, 52, ["gates", "given", "held", "found", "one", "other"], false⟩,
    ⟨f__law_all_bits, 53, ["many", "found", "turn", "own"], false⟩,
    ⟨f__law_gates, 54, ["cup", "inputs", "stores", "most", "nodes", "turn", "things", "edges", "own", "firsts", "nexts", "outs"], false⟩,
    ⟨f__law_thing, 55, ["cup", "things", "at"], false⟩,
    ⟨f__law_known, 56, ["xor", "idle", "chain", "stores", "odd", "two"], false⟩,
    ⟨f__law_odd_gates, 57, ["some"], false⟩,
    ⟨f__law_error, 58, ["call", "e", "rows", "word", "fits"], false⟩,
    ⟨f__law_told, 59, ["gates", "edge", "frame", "told", "first", "thing", "at", "one", "other"], false⟩,
    ⟨f__law_by, 60, ["gates", "edge", "table", "found", "first", "at", "one", "other", "bits", "own"], false⟩,
    ⟨f__law_truth, 61, ["gates", "edge", "frame", "bits"], false⟩,
    ⟨f__law_within, 62, ["gates", "edge", "frame", "found", "first", "seen", "at", "own"], false⟩,
    ⟨f__law_right, 63, ["cup", "gates", "edge", "other", "frame", "due", "far", "call", "alike", "turn", "bits", "at", "index", "thing"], true⟩,
    ⟨f__law_drawn_frame, 64, ["cup", "gates", "many", "things", "found", "turn"], false⟩,
    ⟨f__law_errors_right, 65, ["xor", "words", "odd", "call"], true⟩,
    ⟨f__law_written_right, 66, ["xor", "idle", "chain", "stores", "odd", "two", "none", "lone", "told", "due", "more"], false⟩,
    ⟨f_law, 67, ["script", "cup", "turn", "gates", "things", "more", "edge", "other"], false⟩]
  excs := ["ForgeError", "InvalidNumber", "InvalidSort", "InvalidSet", "InvalidTree", "InvalidValues", "InvalidGates", "InvalidEdge", "InvalidPaper", "NotFound", "NotNow", "TooMany"]
  con := [("INPUTS", (D.int 8)), ("STORES", (D.int 6)), ("NODES", (D.int 400)), ("OUTS", (D.int 16)), ("FRAME", (D.int 6))]
  anc := [[0], [1, 0], [2, 0], [3, 0], [4, 0], [5, 0], [6, 0], [7, 0], [8, 0], [9, 0], [10, 0], [11, 0]]
def names0 : List PySem.Str := ["ForgeError", "InvalidNumber", "InvalidSort", "InvalidSet", "InvalidTree", "InvalidValues", "InvalidGates", "InvalidEdge", "InvalidPaper", "NotFound", "NotNow", "TooMany", "is_whole", "is_tuple_of", "is_ascending", "INPUTS", "STORES", "NODES", "OUTS", "are_bits", "is_node", "is_gates", "need_gates", "FRAME", "first_node", "things_in", "need_edge", "fits_frame", "need_frame", "inner_in"]
def names1 : List PySem.Str := ["wide_bit", "rows_of", "sign_bits", "truth_in", "alike_in", "need_all", "is_told_by", "truth_by", "nodes_within", "are_alike_by", "_law_cup", "_law_roll", "_law_sort", "_law_like", "_law_turned", "_law_first", "_law_bit", "_law_bits", "_law_all_bits", "_law_gates", "_law_thing", "_law_known", "_law_odd_gates", "_law_error", "_law_told", "_law_by", "_law_truth", "_law_within", "_law_right", "_law_drawn_frame"]
def names2 : List PySem.Str := ["_law_errors_right", "_law_written_right"]
def names : List PySem.Str := names0 ++ names1 ++ names2
def lawAt : Nat := 67
def lawIx : Nat := 45
theorem Lok : L.Ok tb := ⟨by kernel_rfl, by decide +kernel, by decide +kernel, rfl, by decide⟩
theorem Lsub : L.sub = sub := rfl
abbrev R0 : PySem.W.OpenRow := PySem.W.OpenLaw.row PySem.Challenge.rw_boardforged_k21_whole_gate_frames
def ob (s : PySem.W.SharedT) : He.AlX := He.obsX 4 L.fa L.fn [] L.tf L.ex (HandSHeadRun.getT s)
theorem ob_eq (s : PySem.W.SharedT) : ob s = (L.hook 4).obs s.abs := He.obsX_eq (HandSHeadRun.getT_eq s)
theorem run (w : World) : HandSHeadRun.RunEq R0 (PySem.W.view R0.prog [lawAt]) (L.hook 4) ob 20000 names w := by
  intro os
  kernel_rfl
end BF.k21
open PySem PySem.W PySem.Calls PyProof.Rows
theorem PySem.Challenge.cw_boardforged_k21_whole_gate_frames_holds : PySem.Challenge.rw_boardforged_k21_whole_gate_frames.Holds := by
  w_on; o_law
  refine HandSHeadRun.head_any (r := BF.k21.R0) (q := view BF.k21.R0.prog [BF.k21.lawAt]) (H := BF.k21.L.hook 4) (ob := BF.k21.ob) (M := 20000) (loose := BF.k21.names) (d := HandSHeadRun.topDef BF.k21.R0.prog BF.k21.lawAt) (kwd := []) BF.k21.ob_eq
    (by kernel_rfl) (fun s => by kernel_rfl) BF.k21.run (by kernel_rfl) (by kernel_rfl) (by kernel_rfl) (by rfl) (by first | assumption | decide +kernel) (by decide +kernel) ⟨rfl, rfl, rfl, rfl, rfl, by decide +kernel⟩ ?hw ?hc
  case hw => w_witness2
  case hc =>
    exact BF.law_walk (L := BF.k21.L) (tb := BF.k21.tb) BF.k21.Lok (hn := 4) (idx := BF.k21.lawIx) (n := 31) (fdl := BF.k21.f_law) (rl := ⟨BF.k21.f_law, BF.k21.lawAt, ["script", "cup", "turn", "gates", "things", "more", "edge", "other"], false⟩) rfl rfl rfl (by kernel_rfl) (by kernel_rfl) rfl (by rfl) (by kernel_rfl) (by decide) BF.k21.law_true
