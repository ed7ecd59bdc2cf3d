import PyProof.Rows.All
import Wide.All
import OpenK.AllK
import Wide.FinOn
import HandS.ForMost
import HandS.Lambda
import HandS.List
import HandS.ForExc
import HandS.Zip
import HandS.TupAny
import HandS.TupMul
import HandS.Style
import HandS.Flow
import HandS.IsInst
import HandS.Deep
import HandS.Conv
import HandS.Wide
import HandS.Defaults
import HandS.TupLe
import HandS.RaiseMore
import HandS.HeadHook1
import HandS.ExcCtx
import KE.GoesEnum
import KE.GoesMore
import KE.GoesZip
import HandS.TryOnly
import HandS.Hot
import HandS.ExcIs
import HandS.HotCalls
import HandS.Text
import HandS.TupSets
import HandS.SortOrd
import HandS.HeadHook4
import HandS.HeadWalk
import HandS.HeadEnd
import HandS.Head0
import HandS.Head1
import HandS.Head2
import PySem.Challenge.RW_anybias_k21_texts_of_boards
set_option Elab.async false
set_option linter.all false
set_option maxRecDepth 100000
set_option maxHeartbeats 0
section
/-! Ev: values, stores, a compact syntax, its evaluator. Plain Lean. -/
namespace Pf

/-- values: lists here never change; ref n: the n-th cell of the store (a list that changes, an instance) -/
inductive D where
  | non | bl (b : Bool) | int (i : Int) | str (s : List Nat)
  | tup (xs : List D) | lst (xs : List D) | ref (n : Nat)
  | scr (xs : List D)
deriving Inhabited

inductive Cell where
  | lst (xs : List D)
  | ins (c : Nat) (fs : List (List Nat × D))
  | dead
deriving Inhabited

abbrev Store := List Cell
abbrev Env := List (Option D)

inductive Res (α : Type) where
  | ok (a : α) (S : Store)
  | exc (c : Nat) (S : Store)
  | bad
deriving Inhabited

@[inline] def Res.bind {α β : Type} (r : Res α) (f : α → Store → Res β) : Res β := match r with
  | .ok a S => f a S
  | .exc c S => .exc c S
  | .bad => .bad
def Res.ofO {α : Type} (o : Option α) (S : Store) : Res α := match o with
  | some a => .ok a S
  | none => .bad

/-! ### the syntax -/
inductive Op where
  | add | sub | mul | fdiv | mod | pow
deriving DecidableEq, Inhabited
inductive Cm where
  | lt | le | gt | ge | eq | ne | is | isnot | in_ | notin
deriving DecidableEq, Inhabited
/-- built-in functions -/
inductive BI where
  | len | abs | all | any | tuple | int | bool | str | sum | sorted | max1 | min1 | max2 | min2
deriving DecidableEq, Inhabited
/-- methods of built-in types that change nothing -/
inductive MT where
  | count | index | join | split
deriving DecidableEq, Inhabited
/-- what isinstance asks of data -/
inductive Ty where
  | int | bool | str | tuple | list
deriving DecidableEq, Inhabited
inductive Tg where
  | nm (i : Nat)
  | tup (ts : List Tg)
deriving Inhabited
mutual
inductive E where
  | var (i : Nat)
  | non | bl (b : Bool) | int (i : Int) | str (s : List Nat)
  | gint (x : List Nat) (i : Int)
  | neg (e : E) | not (e : E)
  | bin (o : Op) (a b : E)
  | cmp (o : Cm) (a b : E)
  | cmp2 (o p : Cm) (a b c : E)
  | cmp3 (o p q : Cm) (a b c d : E)
  | and (a b : E) | or (a b : E)
  | ife (c a b : E)
  | isin (a : E) (t : Ty)
  | call (f : Nat) (as : List E)
  | bi (b : BI) (as : List E)
  | mt (m : MT) (o : E) (as : List E)
  | ix (a i : E)
  | sl (a : E) (lo hi : Option E)
  | rev (a : E)
  | rev1 (a : E)
  | tup (es : List E)
  | lst (live : Bool) (es : List E)
  | mkl (live : Bool) (e : E)
  | pop (i : Nat)
  | pop0 (i : Nat)
  | comp (live : Bool) (own : List Nat) (t : Tg) (it : It) (c : Option E) (e : E)
  | comp2 (own own2 : List Nat) (t : Tg) (it : It) (t2 : Tg) (it2 : It) (e : E)
  | lam (told : Bool) (f : Nat) (e : E)
inductive It where
  | seq (e : E)
  | rng1 (e : E)
  | rng2 (a b : E)
  | enum (e : E)
  | zip (a b : E)
end
instance : Inhabited E := ⟨.non⟩
instance : Inhabited It := ⟨.seq .non⟩
inductive St where
  | asg (t : Tg) (e : E)
  | par (is : List Nat) (es : List E)
  | app (i : Nat) (e : E)
  | setix (i : Nat) (k : E) (e : E)
  | ifs (c : E) (a b : List St)
  | for_ (t : Tg) (it : It) (body : List St)
  | whl (c : E) (body : List St)
  | ret (e : E)
  | rais (c : Nat) (m : List Nat)
  | expr (e : E)
  | pass
  | frz (i : Nat)
deriving Inhabited
structure Fn where
  np : Nat
  nl : Nat
  body : List St
deriving Inhabited

/-! ### data -/
/-- plain data: no cells, at most so deep -/
def plN : Nat → D → Bool
  | 0, _ => false
  | n + 1, d => match d with
    | .tup xs => xs.all (plN n)
    | .lst xs => xs.all (plN n)
    | .str s => s.all (fun c => decide (c < 1114112)) && decide (s.length ≤ 1000000)
    | .ref _ => false
    | .scr _ => false
    | _ => true
def pl (d : D) : Bool := plN 60 d
def eqAll (f : D → D → Bool) : List D → List D → Bool
  | [], [] => true
  | x :: xs, y :: ys => f x y && eqAll f xs ys
  | _, _ => false
def b2i (b : Bool) : Int := if b then 1 else 0
/-- == of data -/
def eqvN : Nat → D → D → Bool
  | 0, _, _ => false
  | n + 1, a, b => match a, b with
    | .non, .non => true
    | .bl a, .bl b => a == b
    | .bl a, .int j => b2i a == j
    | .int i, .bl b => i == b2i b
    | .int i, .int j => i == j
    | .str x, .str y => x == y
    | .tup xs, .tup ys => eqAll (eqvN n) xs ys
    | .lst xs, .lst ys => eqAll (eqvN n) xs ys
    | _, _ => false
def eqv (a b : D) : Bool := eqvN 60 a b
/-- a cell's list as a list, at the top alone -/
def rd (S : Store) : D → D
  | .ref n => (match S[n]? with
    | some (.lst xs) => .lst xs
    | _ => .ref n)
  | .scr xs => .lst xs
  | d => d
def dataOf (S : Store) (d : D) : Option D := let r := rd S d; if pl r then some r else none
def line : Nat := 10000000
def isFlat : D → Bool
  | .tup _ => false
  | .lst _ => false
  | .ref _ => false
  | .scr _ => false
  | _ => true

/-! ### operators -/
def bitsOk (i : Int) : Bool := decide (i.natAbs < 2 ^ 64)
def wideOk (i j : Int) : Bool := decide (i.natAbs.log2 + j.natAbs.log2 < 900000)
def divOk (j : Int) : Bool := decide (j ≠ 0) && decide (j.natAbs.log2 < 9000)
def rep (xs : List D) (n : Nat) : List D := (List.replicate n xs).flatten
def binD (o : Op) (a b : D) : Option D := match o, a, b with
  | .add, .int i, .int j => some (.int (i + j))
  | .add, .tup xs, .tup ys => if xs.length + ys.length ≤ line then some (.tup (xs ++ ys)) else none
  | .add, .lst xs, .lst ys => if xs.length + ys.length ≤ line then some (.lst (xs ++ ys)) else none
  | .add, .str x, .str y => if x.length + y.length ≤ line then some (.str (x ++ y)) else none
  | .sub, .int i, .int j => some (.int (i - j))
  | .mul, .int i, .int j => if bitsOk i || bitsOk j || wideOk i j then some (.int (i * j)) else none
  | .mul, .tup xs, .int k => if decide (2 ≤ k) && (decide (k ≤ 1000) && (decide (0 < xs.length) && decide (xs.length ≤ 1000))) then some (.tup (rep xs k.toNat)) else none
  | .mul, .lst xs, .int k => if decide (-1000 ≤ k) && (decide (k ≤ 1000) && decide (xs.length ≤ 1000)) then some (.lst (rep xs k.toNat)) else none
  | .fdiv, .int i, .int j => if divOk j then some (.int (i.fdiv j)) else none
  | .mod, .int i, .int j => if j = 0 then none else some (.int (i.fmod j))
  | .pow, .int i, .int j => if decide (0 ≤ j) && decide (j ≤ 1000) && bitsOk i then some (.int (i ^ j.toNat)) else none
  | _, _, _ => none
def inD (x y : D) : Option Bool := match y with
  | .tup ys => if isFlat x && ys.all isFlat then some (ys.any fun z => eqv z x) else none
  | .lst ys => some (ys.any fun z => eqv z x)
  | .str s => (match x with
    | .str [c] => some (s.contains c)
    | _ => none)
  | _ => none
def cmpD (S : Store) (o : Cm) (a b : D) : Option Bool := match o with
  | .lt => (match a, b with | .int i, .int j => some (decide (i < j)) | _, _ => none)
  | .le => (match a, b with | .int i, .int j => some (decide (i ≤ j)) | _, _ => none)
  | .gt => (match a, b with | .int i, .int j => some (decide (j < i)) | _, _ => none)
  | .ge => (match a, b with | .int i, .int j => some (decide (j ≤ i)) | _, _ => none)
  | .eq => (match dataOf S a, dataOf S b with | some x, some y => some (eqv x y) | _, _ => none)
  | .ne => (match dataOf S a, dataOf S b with | some x, some y => some (!eqv x y) | _, _ => none)
  | .is => (match b with
    | .non => some (match a with | .non => true | _ => false)
    | .bl k => (match a with | .bl j => some (decide (j = k)) | _ => none)
    | _ => none)
  | .isnot => (match b with
    | .non => some (match a with | .non => false | _ => true)
    | .bl k => (match a with | .bl j => some (!decide (j = k)) | _ => none)
    | _ => none)
  | .in_ => (match dataOf S a, dataOf S b with | some x, some y => inD x y | _, _ => none)
  | .notin => (match dataOf S a, dataOf S b with | some x, some y => (inD x y).map (!·) | _, _ => none)
def tyD (t : Ty) : D → Bool
  | .int _ => t == .int
  | .bl _ => t == .int || t == .bool
  | .str _ => t == .str
  | .tup _ => t == .tuple
  | .lst _ => t == .list
  | _ => false
/-- the place of an index -/
def place (n : Nat) (i : Int) : Option Nat := if 0 ≤ i then (if i < n then some i.toNat else none) else (if 0 ≤ i + n then some (i + n).toNat else none)
def ixV (a i : D) : Option D := match a, i with
  | .tup xs, .int k => (place xs.length k).bind fun j => xs[j]?
  | .lst xs, .int k => (place xs.length k).bind fun j => xs[j]?
  | .str s, .int k => if s.length ≤ line then ((place s.length k).bind fun j => s[j]?).map fun c => .str [c] else none
  | _, _ => none
def ixD (S : Store) (a i : D) : Option D := ixV (rd S a) i
/-- a slice -/
def cut {α : Type} (xs : List α) (lo hi : Option Int) : List α := (xs.drop (HT.sIx xs.length 0 lo)).take (HT.sIx xs.length xs.length hi - HT.sIx xs.length 0 lo)
def slV (a : D) (lo hi : Option Int) : Option D := match a with
  | .tup xs => some (.tup (cut xs lo hi))
  | .lst xs => some (.lst (cut xs lo hi))
  | .str s => if s.length ≤ line then some (.str (cut s lo hi)) else none
  | _ => none
def slD (S : Store) (a : D) (lo hi : Option Int) : Option D := slV (rd S a) lo hi
def revD : D → Option D
  | .tup xs => some (.tup xs.reverse)
  | .lst xs => some (.lst xs.reverse)
  | _ => none
/-- from the end down to the second item -/
def rev1D : D → Option D
  | .tup xs => some (.tup (xs.drop 1).reverse)
  | .lst xs => some (.lst (xs.drop 1).reverse)
  | _ => none
def boolAll : List D → Option (List Bool)
  | [] => some []
  | .bl b :: r => (boolAll r).map (b :: ·)
  | _ :: _ => none
def intAll : List D → Option (List Int)
  | [] => some []
  | .int i :: r => (intAll r).map (i :: ·)
  | _ :: _ => none
def strAll : List D → Option (List (List Nat))
  | [] => some []
  | .str s :: r => (strAll r).map (s :: ·)
  | _ :: _ => none
/-- order of tuples of ints -/
def ltInts : List Int → List Int → Bool
  | [], [] => false
  | [], _ :: _ => true
  | _ :: _, [] => false
  | x :: xs, y :: ys => if x = y then ltInts xs ys else decide (x < y)
def insInts (x : List Int) : List (List Int) → List (List Int)
  | [] => [x]
  | y :: ys => if ltInts x y then x :: y :: ys else y :: insInts x ys
def sortInts : List (List Int) → List (List Int)
  | [] => []
  | x :: xs => insInts x (sortInts xs)
def tupInts : List D → Option (List (List Int))
  | [] => some []
  | .tup xs :: r => (match intAll xs, tupInts r with | some i, some t => some (i :: t) | _, _ => none)
  | _ :: _ => none
/-- an int as it is written -/
def showInt (i : Int) : List Nat := (toString i : String).toList.map Char.toNat
def readInt (s : List Nat) : Option Int := if s.length ≤ 640 then PySem.intText? ⟨s.toArray⟩ else none
def lenV : D → Option D
  | .tup xs => some (.int xs.length)
  | .lst xs => some (.int xs.length)
  | .str s => if s.length ≤ line then some (.int s.length) else none
  | _ => none
def biD (S : Store) (b : BI) (as : List D) : Option D := match b, as with
  | .len, [a] => lenV (rd S a)
  | .abs, [.int i] => some (.int (if i < 0 then -i else i))
  | .all, [.lst xs] => (boolAll xs).map fun bs => .bl (bs.all id)
  | .any, [.lst xs] => (boolAll xs).map fun bs => .bl (bs.any id)
  | .tuple, [.lst xs] => some (.tup xs)
  | .tuple, [.tup xs] => some (.tup xs)
  | .int, [.int i] => some (.int i)
  | .int, [.bl b] => some (.int (b2i b))
  | .int, [.str s] => (readInt s).map .int
  | .str, [.int i] => if i.natAbs.log2 < 1920 then some (.str (showInt i)) else none
  | .str, [.str s] => some (.str s)
  | .bool, [.bl b] => some (.bl b)
  | .sum, [.lst xs] => (intAll xs).map fun is => .int is.sum
  | .sorted, [.lst xs] => if xs.length ≤ 1 then some (.lst xs) else (match tupInts xs with
    | some ts => if decide (ts.length < 60) && (ts.all fun t => decide (t.length = (ts.headD []).length) && (decide (1 ≤ t.length) && t.all fun z => decide (0 ≤ z) && decide (z < 1000))) then some (.lst ((sortInts ts).map fun t => .tup (t.map .int))) else none
    | none => none)
  | .max2, [.int i, .int j] => some (.int (if j > i then j else i))
  | .min2, [.int i, .int j] => some (.int (if j < i then j else i))
  | _, _ => none
def joinStr (sep : List Nat) : List (List Nat) → List Nat
  | [] => []
  | [x] => x
  | x :: y :: r => x ++ sep ++ joinStr sep (y :: r)
/-- split by one sign -/
def splitStr (c : Nat) : List Nat → List (List Nat)
  | [] => [[]]
  | x :: r => if x = c then [] :: splitStr c r else (match splitStr c r with
    | w :: ws => (x :: w) :: ws
    | [] => [[x]])
def idxOf (x : D) : List D → Option Nat
  | [] => none
  | y :: ys => if eqv y x then some 0 else (idxOf x ys).map (· + 1)
def mtD (S : Store) (m : MT) (o : D) (as : List D) : Option D := match m, o, as with
  | .count, .lst xs, [x] => if isFlat x && xs.all isFlat then some (.int (xs.countP fun z => eqv z x : Nat)) else none
  | .index, .lst xs, [x] => if isFlat x && xs.all isFlat then (idxOf x xs).map fun (n : Nat) => D.int (n : Int) else none
  | .join, .str s, [.lst xs] => (strAll xs).bind fun ss => if decide ((ss.map List.length).sum + ss.length * s.length ≤ 16777216) then some (.str (joinStr s ss)) else none
  | .split, .str s, [.str [c]] => if decide (s.length ≤ 100000) && decide (c < 256) then some (.lst ((splitStr c s).map .str)) else none
  | _, _, _ => none

/-- what a method is of -/
def rcv : MT → D → Bool
  | .count, .lst _ => true
  | .index, .lst _ => true
  | .join, .str _ => true
  | .split, .str _ => true
  | _, _ => false

/-! ### targets -/
def wipeE (σ : Env) : List Nat → Env
  | [] => σ
  | v :: vs => (wipeE σ vs).set v none
def asgT : Nat → Tg → D → Env → Option Env
  | 0, _, _, _ => none
  | n + 1, t, d, σ => match t with
    | .nm i => if i < σ.length then some (σ.set i (some d)) else none
    | .tup ts => match d with
      | .tup xs => asgL (asgT n) ts xs σ
      | .lst xs => asgL (asgT n) ts xs σ
      | _ => none
where asgL (f : Tg → D → Env → Option Env) : List Tg → List D → Env → Option Env
  | [], [], σ => some σ
  | t :: ts, x :: xs, σ => (f t x σ).bind fun σ' => asgL f ts xs σ'
  | _, _, _ => none

/-! ### evaluation -/
inductive Flow where
  | nx (σ : Env)
  | ret (d : D)
deriving Inhabited
abbrev Call := Nat → List D → Store → Res D
/-- what an exception's name is told as -/
structure Cfg where
  errs : List (List Nat)
structure Fs where
  e : Env → E → Store → Res D
  s : Env → St → Store → Res Flow
deriving Inhabited

section
variable (r : Fs) (L : Fs) (C : Call) (G : Cfg)
def evA (σ : Env) : List E → Store → Res (List D)
  | [], S => .ok [] S
  | e :: es, S => (r.e σ e S).bind fun x S1 => (evA σ es S1).bind fun xs S2 => .ok (x :: xs) S2
def evB (σ : Env) : List St → Store → Res Flow
  | [], S => .ok (.nx σ) S
  | st :: sts, S => (r.s σ st S).bind fun f S1 => match f with
    | .nx σ1 => evB σ1 sts S1
    | .ret d => .ok (.ret d) S1
def evO (σ : Env) (o : Option E) (S : Store) : Res (Option Int) := match o with
  | none => .ok none S
  | some e => (r.e σ e S).bind fun d S1 => match d with
    | .int i => .ok (some i) S1
    | _ => .bad
def rngD (a b : Int) : Option (List D) := if decide (-1000000 ≤ a) && decide (a ≤ 1000000) && decide (-1000000 ≤ b) && decide (b ≤ 1000000) then some ((List.range (b - a).toNat).map fun (i : Nat) => .int (a + (i : Int))) else none
def enumD (xs : List D) : List D := (List.range xs.length).zipWith (fun (i : Nat) x => .tup [.int (i : Int), x]) xs
/-- the items that a loop goes over -/
def evI (σ : Env) (it : It) (S : Store) : Res (List D) := match it with
  | .seq e => (r.e σ e S).bind fun d S1 => match d with
    | .tup xs => .ok xs S1
    | .lst xs => .ok xs S1
    | _ => .bad
  | .rng1 e => (r.e σ e S).bind fun d S1 => match d with
    | .int n => .ofO (rngD 0 n) S1
    | _ => .bad
  | .rng2 a b => (r.e σ a S).bind fun d S1 => (r.e σ b S1).bind fun d' S2 => match d, d' with
    | .int i, .int j => .ofO (rngD i j) S2
    | _, _ => .bad
  | .enum e => (r.e σ e S).bind fun d S1 => match d with
    | .tup xs => .ok (enumD xs) S1
    | .lst xs => .ok (enumD xs) S1
    | _ => .bad
  | .zip a b => (r.e σ a S).bind fun d S1 => (r.e σ b S1).bind fun d' S2 => match d, d' with
    | .lst xs, .lst ys => .ok (xs.zipWith (fun x y => .tup [x, y]) ys) S2
    | .lst xs, .tup ys => .ok (xs.zipWith (fun x y => .tup [x, y]) ys) S2
    | .tup xs, .lst ys => .ok (xs.zipWith (fun x y => .tup [x, y]) ys) S2
    | .tup xs, .tup ys => .ok (xs.zipWith (fun x y => .tup [x, y]) ys) S2
    | _, _ => .bad
/-- a test -/
def evT (σ : Env) (e : E) (S : Store) : Res Bool := (r.e σ e S).bind fun d S1 => match d with
  | .bl b => .ok b S1
  | _ => .bad
/-- no exception leaves -/
def calm {α : Type} : Res α → Res α
  | .exc _ _ => .bad
  | x => x
def compL (σ : Env) (t : Tg) (c : Option E) (e : E) : List D → Store → Res (List D)
  | [], S => .ok [] S
  | x :: xs, S => match asgT 9 t x σ with
    | none => .bad
    | some σ1 => (match c with
      | none => Res.ok true S
      | some c => evT r σ1 c S).bind fun b S1 => match b with
        | true => (r.e σ1 e S1).bind fun y S2 => (compL σ t c e xs S2).bind fun ys S3 => .ok (y :: ys) S3
        | false => compL σ t c e xs S1
def compL2 (σ : Env) (own2 : List Nat) (t : Tg) (t2 : Tg) (it2 : It) (e : E) : List D → Store → Res (List D)
  | [], S => .ok [] S
  | x :: xs, S => match asgT 9 t x σ with
    | none => .bad
    | some σ1 => (evI r σ1 it2 S).bind fun zs S1 => (compL r (wipeE σ1 own2) t2 none e zs S1).bind fun ys S2 => (compL2 σ own2 t t2 it2 e xs S2).bind fun ws S3 => .ok (ys ++ ws) S3
/-- a new list -/
def newL (live : Bool) (xs : List D) (S : Store) : Res D := match live with
  | false => .ok (.lst xs) S
  | true => if xs.all pl then .ok (.ref S.length) (S ++ [.lst xs]) else .bad
/-- a list that a comprehension made -/
def endL (live : Bool) (xs : List D) (S : Store) : Res D := if xs.length ≤ line then newL live xs S else .bad
/-- the cell of a name -/
def cellOf (σ : Env) (i : Nat) (S : Store) : Option (Nat × List D) := match σ[i]? with
  | some (some (.ref n)) => (match S[n]? with
    | some (.lst xs) => some (n, xs)
    | _ => none)
  | _ => none
def stepE (σ : Env) (e : E) (S : Store) : Res D := match e with
  | .var i => (match σ[i]? with
    | some (some d) => .ok d S
    | _ => .bad)
  | .non => .ok .non S
  | .bl b => .ok (.bl b) S
  | .int i => .ok (.int i) S
  | .str s => .ok (.str s) S
  | .gint _ i => .ok (.int i) S
  | .neg e => (r.e σ e S).bind fun d S1 => match d with
    | .int i => .ok (.int (-i)) S1
    | _ => .bad
  | .not e => (r.e σ e S).bind fun d S1 => match d with
    | .bl b => .ok (.bl (!b)) S1
    | _ => .bad
  | .bin o a b => (r.e σ a S).bind fun x S1 => (r.e σ b S1).bind fun y S2 => .ofO (binD o x y) S2
  | .cmp o a b => (r.e σ a S).bind fun x S1 => (r.e σ b S1).bind fun y S2 => (Res.ofO (cmpD S2 o x y) S2).bind fun k S3 => .ok (.bl k) S3
  | .cmp2 o p a b c => (r.e σ a S).bind fun x S1 => (r.e σ b S1).bind fun y S2 => (Res.ofO (cmpD S2 o x y) S2).bind fun k S3 => match k with
    | false => .ok (.bl false) S3
    | true => (r.e σ c S3).bind fun z S4 => (Res.ofO (cmpD S4 p y z) S4).bind fun k S5 => .ok (.bl k) S5
  | .cmp3 o p q a b c d => (r.e σ a S).bind fun x S1 => (r.e σ b S1).bind fun y S2 => (Res.ofO (cmpD S2 o x y) S2).bind fun k S3 => match k with
    | false => .ok (.bl false) S3
    | true => (r.e σ c S3).bind fun z S4 => (Res.ofO (cmpD S4 p y z) S4).bind fun k S5 => match k with
      | false => .ok (.bl false) S5
      | true => (r.e σ d S5).bind fun w S6 => (Res.ofO (cmpD S6 q z w) S6).bind fun k S7 => .ok (.bl k) S7
  | .and a b => (r.e σ a S).bind fun d S1 => match d with
    | .bl true => r.e σ b S1
    | .bl false => .ok (.bl false) S1
    | _ => .bad
  | .or a b => (r.e σ a S).bind fun d S1 => match d with
    | .bl true => .ok (.bl true) S1
    | .bl false => r.e σ b S1
    | _ => .bad
  | .ife c a b => (evT r σ c S).bind fun k S1 => match k with
    | true => r.e σ a S1
    | false => r.e σ b S1
  | .isin a t => (r.e σ a S).bind fun d S1 => match d with
    | .ref _ => .bad
    | .scr _ => .bad
    | d => .ok (.bl (tyD t d)) S1
  | .call f as => (evA r σ as S).bind fun xs S1 => C f xs S1
  | .bi b as => (evA r σ as S).bind fun xs S1 => .ofO (biD S1 b xs) S1
  | .mt m o as => (r.e σ o S).bind fun x S1 => match rcv m x with
    | true => (evA r σ as S1).bind fun xs S2 => .ofO (mtD S2 m x xs) S2
    | false => .bad
  | .ix a i => (r.e σ a S).bind fun x S1 => (r.e σ i S1).bind fun y S2 => .ofO (ixD S2 x y) S2
  | .sl a lo hi => (r.e σ a S).bind fun x S1 => (evO r σ lo S1).bind fun l S2 => (evO r σ hi S2).bind fun h S3 => .ofO (slD S3 x l h) S3
  | .rev a => (r.e σ a S).bind fun x S1 => .ofO (revD x) S1
  | .rev1 a => (r.e σ a S).bind fun x S1 => .ofO (rev1D x) S1
  | .tup es => (evA r σ es S).bind fun xs S1 => .ok (.tup xs) S1
  | .lst live es => (evA r σ es S).bind fun xs S1 => newL live xs S1
  | .mkl live e => (r.e σ e S).bind fun d S1 => match d with
    | .tup xs => newL live xs S1
    | .lst xs => newL live xs S1
    | _ => .bad
  | .pop i => (match cellOf σ i S with
    | some (n, xs) => (match xs[xs.length - 1]? with
      | some y => .ok y (S.set n (.lst xs.dropLast))
      | none => .bad)
    | none => .bad)
  | .pop0 i => (match cellOf σ i S with
    | some (n, x :: xs) => .ok x (S.set n (.lst xs))
    | _ => .bad)
  | .comp live own t it c e => (evI r σ it S).bind fun xs S1 => (calm (compL r (wipeE σ own) t c e xs S1)).bind fun ys S2 => endL live ys S2
  | .comp2 own own2 t it t2 it2 e => (evI r σ it S).bind fun xs S1 => (calm (compL2 r (wipeE σ own) own2 t t2 it2 e xs S1)).bind fun ys S2 => endL false ys S2
  | .lam told _ e => (match L.e σ e S with
    | .ok d S1 => (match told with
      | true => .ok (.tup [d, .str []]) S1
      | false => .ok (.str []) S1)
    | .exc c S1 => (match G.errs[c]? with
      | some s => (match told with
        | true => .ok (.tup [.non, .str s]) S1
        | false => .ok (.str s) S1)
      | none => .bad)
    | .bad => .bad)
def forL (t : Tg) (body : List St) : List D → Env → Store → Res Flow
  | [], σ, S => .ok (.nx σ) S
  | x :: xs, σ, S => match asgT 9 t x σ with
    | none => .bad
    | some σ1 => (evB r σ1 body S).bind fun f S1 => match f with
      | .nx σ2 => forL t body xs σ2 S1
      | .ret d => .ok (.ret d) S1
def whileL (c : E) (body : List St) : Nat → Env → Store → Res Flow
  | 0, _, _ => .bad
  | n + 1, σ, S => (evT r σ c S).bind fun b S1 => match b with
    | false => .ok (.nx σ) S1
    | true => (evB r σ body S1).bind fun f S2 => match f with
      | .nx σ2 => whileL c body n σ2 S2
      | .ret d => .ok (.ret d) S2
def whileMost : Nat := 1000000000
def setAll : List Nat → List D → Env → Option Env
  | [], [], σ => some σ
  | i :: is, x :: xs, σ => if i < σ.length then setAll is xs (σ.set i (some x)) else none
  | _, _, _ => none
def stepS (σ : Env) (st : St) (S : Store) : Res Flow := match st with
  | .asg t e => (r.e σ e S).bind fun d S1 => match asgT 9 t d σ with
    | some σ1 => .ok (.nx σ1) S1
    | none => .bad
  | .par is es => (evA r σ es S).bind fun xs S1 => match setAll is xs σ with
    | some σ1 => .ok (.nx σ1) S1
    | none => .bad
  | .app i e => (match (cellOf σ i S).isSome with
    | false => .bad
    | true => (r.e σ e S).bind fun d S1 => match cellOf σ i S1, pl d with
      | some (n, xs), true => if xs.length < line then .ok (.nx σ) (S1.set n (.lst (xs ++ [d]))) else .bad
      | _, _ => .bad)
  | .setix i k e => (match (cellOf σ i S).isSome with
    | false => .bad
    | true => (r.e σ e S).bind fun d S1 => (r.e σ k S1).bind fun kd S2 => match cellOf σ i S2, kd, pl d with
      | some (n, xs), .int j, true => (match place xs.length j with
        | some p => .ok (.nx σ) (S2.set n (.lst (xs.set p d)))
        | none => .bad)
      | _, _, _ => .bad)
  | .ifs c a b => (evT r σ c S).bind fun k S1 => match k with
    | true => evB r σ a S1
    | false => evB r σ b S1
  | .for_ t it body => (evI r σ it S).bind fun xs S1 => forL r t body xs σ S1
  | .whl c body => whileL r c body whileMost σ S
  | .ret e => (r.e σ e S).bind fun d S1 => .ok (.ret d) S1
  | .rais c _ => .exc c S
  | .expr e => (r.e σ e S).bind fun _ S1 => .ok (.nx σ) S1
  | .pass => .ok (.nx σ) S
  | .frz i => (match cellOf σ i S with
    | some (n, xs) => .ok (.nx (σ.set i (some (.lst xs)))) (S.set n .dead)
    | none => .ok (.nx σ) S)
end
/-- so deep a syntax; L: for the bodies of lambdas -/
def fs (C : Call) (L : Fs) (G : Cfg) : Nat → Fs
  | 0 => ⟨fun _ _ _ => .bad, fun _ _ _ => .bad⟩
  | n + 1 => ⟨stepE (fs C L G n) L C G, stepS (fs C L G n)⟩
def deep : Nat := 60
def noL : Fs := ⟨fun _ _ _ => .bad, fun _ _ _ => .bad⟩
/-- behind a call: what was made within is forgotten where the value does not bear it -/
def trim (n : Nat) (d : D) (S : Store) : Res D := if pl d then .ok d (S.take n) else .ok d S
/-- C: for the calls; L: for a lambda's body -/
def runFn (C : Call) (L : Fs) (G : Cfg) (fn : Fn) (as : List D) (S : Store) : Res D :=
  if as.length = fn.np then
    match evB (fs C L G deep) (as.map some ++ List.replicate fn.nl none) fn.body S with
    | .ok (.ret d) S1 => trim S.length d S1
    | .ok (.nx _) S1 => trim S.length .non S1
    | .exc c S1 => .exc c (S1.take S.length)
    | .bad => .bad
  else .bad
def noC : Call := fun _ _ _ => .bad
/-- a level's calls; what evaluates one, two levels lower -/
def calls (P : List Fn) (G : Cfg) : Nat → Call × Fs × Fs
  | 0 => (noC, noL, noL)
  | k + 1 => ((fun f as S => match P[f]? with
    | some fn => runFn (calls P G k).1 (calls P G k).2.2 G fn as S
    | none => .bad), fs (calls P G k).1 noL G deep, (calls P G k).2.1)
def callN (P : List Fn) (G : Cfg) (k : Nat) : Call := (calls P G k).1
def lamN (P : List Fn) (G : Cfg) (k : Nat) : Fs := (calls P G k).2.2
end Pf

end
section
/-! Chk: does a compact text say what a text of the program says? -/
namespace Pf
open PySem L2

def toS (s : List Nat) : Str := ⟨s.toArray⟩
/-- what is known of the names where a text stands -/
structure CC where
  N : List Str
  sc : Scope
  asg : List Str
  fns : List Str
  excs : List Str
  gints : List (List Nat × Int)
  lam : Bool
  told : Bool

def dbg (x : Str) : Bool := !(x == ("__debug__" : Str)) && !(x == ("__classdict__" : Str))
def CC.vis (c : CC) (x : Str) : Bool := match c.sc.names.lookup x with
  | some .local => true
  | some .cell => true
  | some .free => true
  | _ => false
def CC.loc (c : CC) (x : Str) : Bool := match c.sc.names.lookup x with
  | some .local => true
  | some .cell => true
  | _ => false
def CC.isL (c : CC) (x : Str) : Bool := decide (c.sc.names.lookup x = some .local)
def CC.gl (c : CC) (x : Str) : Bool := decide (c.sc.names.lookup x = some .globalImplicit) && !(x == ("__debug__" : Str))
def CC.nm (c : CC) (i : Nat) (x : Str) : Bool := decide (c.N[i]? = some x) && (c.vis x && dbg x)
def CC.st (c : CC) (i : Nat) (x : Str) : Bool := decide (c.N[i]? = some x) && decide (x ∈ c.asg)
def opOk : Op → Operator → Bool
  | .add, .Add => true
  | .sub, .Sub => true
  | .mul, .Mult => true
  | .fdiv, .FloorDiv => true
  | .mod, .Mod => true
  | .pow, .Pow => true
  | _, _ => false
def cmOf : CmpOp → Cm
  | .Lt => .lt
  | .LtE => .le
  | .Gt => .gt
  | .GtE => .ge
  | .Eq => .eq
  | .NotEq => .ne
  | .Is => .is
  | .IsNot => .isnot
  | .In => .in_
  | .NotIn => .notin
def biName : BI → Str
  | .len => "len"
  | .abs => "abs"
  | .all => "all"
  | .any => "any"
  | .tuple => "tuple"
  | .int => "int"
  | .bool => "bool"
  | .str => "str"
  | .sum => "sum"
  | .sorted => "sorted"
  | .max1 => "max"
  | .min1 => "min"
  | .max2 => "max"
  | .min2 => "min"
def mtName : MT → Str
  | .count => "count"
  | .index => "index"
  | .join => "join"
  | .split => "split"
def tyName : Ty → Str
  | .int => "int"
  | .bool => "bool"
  | .str => "str"
  | .tuple => "tuple"
  | .list => "list"
def notSet : Expr → Bool
  | .Set .. => false
  | _ => true
def notStar : Expr → Bool
  | .Starred .. => false
  | _ => true
def notComp : Expr → Bool
  | .ListComp .. => false
  | .SetComp .. => false
  | .DictComp .. => false
  | _ => true
/-- its truth is asked of its value -/
def plainT : Expr → Bool
  | .BoolOp .. => false
  | .UnaryOp .. => false
  | .IfExp .. => false
  | .Compare .. => false
  | _ => true
def chkAll (f : E → Expr → Bool) : List E → List Expr → Bool
  | [], [] => true
  | a :: as, b :: bs => notStar b && (f a b && chkAll f as bs)
  | _, _ => false
/-- the names of a target -/
def chkTg (c : CC) : Nat → Tg → Expr → Bool
  | 0, _, _ => false
  | n + 1, t, e => match t, e with
    | .nm i, .Name x _ => c.st i x
    | .tup ts, .Tuple es _ _ => chkTgs (chkTg c n) ts es
    | _, _ => false
where chkTgs (f : Tg → Expr → Bool) : List Tg → List Expr → Bool
  | [], [] => true
  | t :: ts, e :: es => notStar e && (f t e && chkTgs f ts es)
  | _, _ => false
/-- a target's places are among these -/
def tgIn (own : List Nat) : Nat → Tg → Bool
  | 0, _ => false
  | n + 1, t => match t with
    | .nm i => own.contains i
    | .tup ts => ts.all (tgIn own n)
def notCall : Expr → Bool
  | .Call _ [] _ _ => false
  | _ => true
def isTupE : Expr → Bool
  | .Tuple .. => true
  | _ => false
def isBi (c : CC) (x : Str) (n : Str) : Bool := decide (x = n) && c.gl x
/-- the names where a comprehension's block stands -/
def CC.blk (c : CC) (scope : Scope) (own : List (Str × Nat)) : CC := { c with sc := relS scope c.sc, asg := own.map (·.1), lam := false }
/-- its own names are local to it, or its own cells -/
def ownOk (scope : Scope) (own : List (Str × Nat)) : Bool := own.all fun p => decide (scope.names.lookup p.1 = some .local) || decide (scope.names.lookup p.1 = some .cell)
def ownOf (c : CC) (own : List Nat) : List (Str × Nat) := own.filterMap fun i => (c.N[i]?).map fun x => (x, i)
def chkI (f : E → Expr → Bool) (c : CC) (it : It) (tg iter : Expr) : Bool := match it with
  | .rng1 a => (match iter with
    | .Call (.Name x _) [a'] [] _ => isBi c x "range" && (notStar a' && f a a')
    | _ => false)
  | .rng2 a b => (match iter with
    | .Call (.Name x _) [a', b'] [] _ => isBi c x "range" && (notStar a' && (notStar b' && (f a a' && f b b')))
    | _ => false)
  | .enum a => (match iter with
    | .Call (.Name x _) [a'] [] _ => isBi c x "enumerate" && (notStar a' && (f a a' && isTupE tg))
    | _ => false)
  | .zip a b => (match iter with
    | .Call (.Name x _) [a', b'] [] _ => isBi c x "zip" && (notStar a' && (notStar b' && (f a a' && (f b b' && isTupE tg))))
    | _ => false)
  | .seq a => notSet iter && f a iter
def chkOpt (f : E → Expr → Bool) : Option E → Option Expr → Bool
  | none, none => true
  | some a, some b => f a b
  | _, _ => false
/-- the def that a lambda is handed to -/
def lamName : Bool → Str
  | false => "_law_error"
  | true => "_law_told"
mutual
def chkE : Nat → CC → E → Expr → Bool
  | 0, _, _, _ => false
  | n + 1, c, e, e' => match e' with
    | .Name x _ => (match e with
      | .var i => c.nm i x
      | .gint y i => decide (x = toS y) && (c.gl x && decide ((y, i) ∈ c.gints))
      | _ => false)
    | .Constant k _ _ => (match e, k with
      | .non, .none => true
      | .bl b, .bool b' => b == b'
      | .int i, .int j => decide (i = j)
      | .str s, .str x => decide (x = toS s)
      | _, _ => false)
    | .UnaryOp o a' _ => (match e, o with
      | .neg a, .USub => chkE n c a a'
      | .not a, .Not => chkE n c a a'
      | _, _ => false)
    | .BinOp a' o' b' _ => (match e with
      | .bin o a b => opOk o o' && (chkE n c a a' && chkE n c b b')
      | _ => false)
    | .Compare a' os bs _ => (match e, os, bs with
      | .cmp o a b, [o'], [b'] => decide (o = cmOf o') && (notSet b' && (chkE n c a a' && chkE n c b b'))
      | .cmp2 o p a b d, [o', p'], [b', d'] => decide (o = cmOf o') && (decide (p = cmOf p') && (notSet d' && (chkE n c a a' && (chkE n c b b' && chkE n c d d'))))
      | .cmp3 o p q a b d g, [o', p', q'], [b', d', g'] => decide (o = cmOf o') && (decide (p = cmOf p') && (decide (q = cmOf q') && (notSet g' && (chkE n c a a' && (chkE n c b b' && (chkE n c d d' && chkE n c g g'))))))
      | _, _, _ => false)
    | .BoolOp o xs p => (match xs with
      | [x] => chkE n c e x
      | x :: y :: r => (match e, o with
        | .and a b, .And => chkE n c a x && chkE n c b (.BoolOp .And (y :: r) p)
        | .or a b, .Or => chkE n c a x && chkE n c b (.BoolOp .Or (y :: r) p)
        | _, _ => false)
      | [] => false)
    | .IfExp d' a' b' _ => (match e with
      | .ife d a b => chkT n c d d' && (chkE n c a a' && chkE n c b b')
      | _ => false)
    | .Tuple es' _ _ => (match e with
      | .tup es => decide (es.length ≤ 1000) && chkAll (chkE n c) es es'
      | _ => false)
    | .List es' _ => (match e with
      | .lst _ es => decide (es.length ≤ 1000) && chkAll (chkE n c) es es'
      | _ => false)
    | .Subscript a' i' _ => (match i' with
      | .Slice lo' hi' st' _ => (match e with
        | .sl a lo hi => st'.isNone && (chkE n c a a' && (chkOpt (chkE n c) lo lo' && chkOpt (chkE n c) hi hi'))
        | .rev a => lo'.isNone && (hi'.isNone && (chkE n c a a' && (match st' with
          | some (.UnaryOp .USub (.Constant (.int j) _ _) _) => decide (j = 1)
          | _ => false)))
        | .rev1 a => lo'.isNone && (chkE n c a a' && (match hi', st' with
          | some (.Constant (.int z) _ _), some (.UnaryOp .USub (.Constant (.int j) _ _) _) => decide (z = 0) && decide (j = 1)
          | _, _ => false))
        | _ => false)
      | _ => (match e with
        | .ix a i => chkE n c a a' && chkE n c i i'
        | _ => false))
    | .ListComp elt gs scope pos => (match e, gs with
      | .comp _ own t it cnd el, [⟨tg, iter, ifs, 0⟩] =>
        let ow := ownOf c own
        let c' := c.blk scope ow
        decide (ow.map (·.2) = own) && (blkC c.N c.sc scope ow && (ownOk scope ow && (chkI (chkE n c) c it tg iter && (chkTg c' 9 t tg && (tgIn own 9 t && ((match cnd, ifs with
          | none, [] => true
          | some q, [q'] => chkT n c' q q'
          | _, _ => false) && chkE n c' el elt))))))
      | .comp2 own own2 t it t2 it2 el, [⟨tg, iter, [], 0⟩, ⟨tg2, iter2, [], 0⟩] =>
        let ow := ownOf c own
        let c' := c.blk scope ow
        decide (ow.map (·.2) = own) && (blkC c.N c.sc scope ow && (ownOk scope ow && (chkI (chkE n c) c it tg iter && (chkTg c' 9 t tg && (tgIn own 9 t && (chkI (chkE n c') c' it2 tg2 iter2 && (chkTg c' 9 t2 tg2 && (tgIn own2 9 t2 && ((own2.all fun i => own.contains i) && chkE n c' el elt)))))))))
      | _, _ => false)
    | .Call f' as' ks pos => (match f', ks with
      | .Name x _, [] => (match e with
        | .call k as => decide (c.fns[k]? = some x) && (c.gl x && (!as'.isEmpty && chkAll (chkE n c) as as'))
        | .bi b as => isBi c x (biName b) && (!as'.isEmpty && chkAll (chkE n c) as as')
        | .mkl _ a => (match as' with
          | [a'] => isBi c x "list" && (notStar a' && chkE n c a a')
          | _ => false)
        | .isin a t => (match as' with
          | [a', .Name y _] => isBi c x "isinstance" && (notStar a' && (chkE n c a a' && isBi c y (tyName t)))
          | _ => false)
        | .lam told _ a => (match as' with
          | [.Lambda ⟨[], [], none, [], [], none, []⟩ body scope _] => c.lam && (decide (told = c.told) && (decide (x = lamName c.told) && (c.gl x && (LamX.lamSB c.sc scope && chkE n { c with sc := scope, asg := [], lam := false } a body))))
          | _ => false)
        | _ => false)
      | .Attribute o' m apos, [] => decide (apos.endLine = pos.line) && (match e with
        | .mt mm o as => decide (m = mtName mm) && (chkE n c o o' && (!as'.isEmpty && (decide (as'.length ≤ 20) && (notCall o' && chkAll (chkE n c) as as'))))
        | .pop i => (match o', as' with
          | .Name x _, [] => decide (m = "pop") && c.nm i x
          | _, _ => false)
        | .pop0 i => (match o', as' with
          | .Name x _, [.Constant (.int 0) _ _] => decide (m = "pop") && c.nm i x
          | _, _ => false)
        | _ => false)
      | _, _ => false)
    | _ => false
def chkT : Nat → CC → E → Expr → Bool
  | 0, _, _, _ => false
  | n + 1, c, e, e' => match e' with
    | .BoolOp o xs p => (match xs with
      | [x] => chkT n c e x
      | x :: y :: r => (match e, o with
        | .and a b, .And => chkT n c a x && chkT n c b (.BoolOp .And (y :: r) p)
        | .or a b, .Or => chkT n c a x && chkT n c b (.BoolOp .Or (y :: r) p)
        | _, _ => false)
      | [] => false)
    | .UnaryOp o a' _ => (match e, o with
      | .not a, .Not => chkT n c a a'
      | _, _ => false)
    | .Compare a' os bs p => decide (os.length ≤ 2) && chkE n c e (.Compare a' os bs p)
    | e' => plainT e' && chkE n c e e'
end
/-- two or three local names at once -/
def parNames : List Expr → Option (List Str)
  | [] => some []
  | .Name x _ :: r => (parNames r).map (x :: ·)
  | _ => none
def parOk (c : CC) (is : List Nat) (xs : List Str) : Bool := decide (is.length = xs.length) && ((is.zip xs).all (fun p => c.st p.1 p.2 && c.isL p.2) && decide is.Nodup)
/-- swappedStores is nothing there -/
def noSwap (c : CC) (tgs v : Expr) : Bool := match tgs, v with
  | .Tuple ts _ _, .Tuple vs _ _ => vs.all (foldedForSure 8) || (!(ts.length == 2 || ts.length == 3) || (vs.length != ts.length || ts.any fun
    | .Name x _ => !c.isL x
    | _ => true))
  | _, _ => true
def samePar (ts : List Expr) : Bool := match ts with
  | .Name _ p :: r => r.all fun
    | .Name _ q => q.line == p.line
    | _ => false
  | _ => false
mutual
def chkS : Nat → CC → St → Stmt → Bool
  | 0, _, _, _ => false
  | n + 1, c, s, s' => match s' with
    | .Assign [tg] v pos => (match s with
      | .asg t e => chkTg c 9 t tg && (notStar tg && (chkE n c e v && (match v with
        | .ListComp _ _ scope cpos => (match tg with
          | .Name y py => if c.isL y then (py.line == cpos.line) && !(scope.names.any fun (m, k) => m == y && (k == .local || k == .cell)) else true
          | _ => false)
        | .SetComp .. => false
        | .DictComp .. => false
        | _ => noSwap c tg v)))
      | .par is es => (match tg, v with
        | .Tuple ts _ _, .Tuple vs _ _ => samePar ts && (decide (ts.length = 2 ∨ ts.length = 3) && (decide (vs.length = ts.length) && ((match parNames ts with
          | some xs => parOk c is xs
          | none => false) && (!(vs.all (foldedForSure 8)) && (!(vs.all (constantsAlone 8)) && chkAll (chkE n c) es vs)))))
        | _, _ => false)
      | .setix i k e => (match tg with
        | .Subscript (.Name x _) k' _ => (match k' with
          | .Slice .. => false
          | k' => c.nm i x && (notComp v && (chkE n c e v && chkE n c k k')))
        | _ => false)
      | _ => false)
    | .If d' a' b' _ => (match s with
      | .ifs d a b => chkT n c d d' && (chkB n c a a' && chkB n c b b')
      | _ => false)
    | .For tg iter body [] _ => (match s with
      | .for_ t it b => chkTg c 9 t tg && (chkI (chkE n c) c it tg iter && chkB n c b body)
      | _ => false)
    | .While d' body [] _ => (match s with
      | .whl d b => chkT n c d d' && chkB n c b body
      | _ => false)
    | .Return (some v) _ => (match s with
      | .ret e => chkE n c e v
      | _ => false)
    | .Raise (some (.Call (.Name x _) [.Constant (.str m) _ _] [] _)) none _ => (match s with
      | .rais k m' => decide (c.excs[k]? = some x) && (c.gl x && decide (m = toS m'))
      | _ => false)
    | .Expr v pos => (match s with
      | .expr e => notComp v && chkE n c e v
      | .app i e => (match v with
        | .Call (.Attribute (.Name x _) m apos) [v'] [] cpos => decide (apos.endLine = cpos.line) && (decide (m = "append") && (c.nm i x && (notStar v' && chkE n c e v')))
        | _ => false)
      | _ => false)
    | .Pass _ => (match s with
      | .pass => true
      | _ => false)
    | _ => false
/-- a block; what is frozen has no text -/
def chkB : Nat → CC → List St → List Stmt → Bool
  | 0, _, _, _ => false
  | n + 1, c, b, b' => match b with
    | [] => b'.isEmpty
    | .frz _ :: r => chkB n c r b'
    | s :: r => (match b' with
      | [] => false
      | s' :: r' => chkS n c s s' && chkB n c r r')
end
end Pf

end
section
/-! Snd0: how values and stores of the evaluator lie in the abstract heap. -/
namespace Pf
open PySem PySem.Spec PyProof.Rows L2

/-- how the evaluator's world lies in the heap: the cells' addresses; what never changes; what is left alone -/
structure Gh where
  β : List Addr
  F : Hp
  R : Hp
mutual
inductive RV (K : PySem.W.Frag) (g : Gh) : V → D → Prop
  | non : RV K g .non .non
  | bl (b : Bool) : RV K g (.bl b) (.bl b)
  | int (i : Int) : RV K g (.int i) (.int i)
  | str (s : List Nat) : RV K g (.str (toS s)) (.str s)
  | lst {a : Addr} {vs : List V} {ds : List D} : g.F a = some (.lst vs) → RVs K g vs ds → RV K g (.ref a) (.lst ds)
  | scr {a : Addr} {vs : List V} {ds : List D} : SqL K g.F a vs → RVs K g vs ds → RV K g (.ref a) (.scr ds)
  | tup {a : Addr} {vs : List V} {ds : List D} : SqT K g.F a vs → RVs K g vs ds → RV K g (.ref a) (.tup ds)
  | ref {n : Nat} {a : Addr} : g.β[n]? = some a → RV K g (.ref a) (.ref n)
inductive RVs (K : PySem.W.Frag) (g : Gh) : List V → List D → Prop
  | nil : RVs K g [] []
  | cons {v : V} {vs : List V} {d : D} {ds : List D} : RV K g v d → RVs K g vs ds → RVs K g (v :: vs) (d :: ds)
end
structure Le (g g' : Gh) : Prop where
  b : ∃ l, g'.β = g.β ++ l
  f : ∀ a o, g.F a = some o → g'.F a = some o
  r : g'.R = g.R
theorem Le.refl (g : Gh) : Le g g := ⟨⟨[], by simp⟩, fun _ _ h => h, rfl⟩
theorem Le.trans {g g1 g2 : Gh} (a : Le g g1) (b : Le g1 g2) : Le g g2 := by
  obtain ⟨l, e⟩ := a.b
  obtain ⟨l', e'⟩ := b.b
  exact ⟨⟨l ++ l', by rw [e', e, List.append_assoc]⟩, fun x o h => b.f x o (a.f x o h), b.r.trans a.r⟩
theorem Le.at {g g' : Gh} (h : Le g g') {n : Nat} {a : Addr} (e : g.β[n]? = some a) : g'.β[n]? = some a := by
  obtain ⟨l, q⟩ := h.b
  rw [q]
  have hn : n < g.β.length := (List.getElem?_eq_some_iff.mp e).1
  rw [List.getElem?_append_left hn]
  exact e
theorem sql_mono {K : PySem.W.Frag} {F F' : Hp} {a : Addr} {xs : List V} (e : ∀ a o, F a = some o → F' a = some o) (h : SqL K F a xs) : SqL K F' a xs := Same.seq (fun b o q => e b o q) h
theorem sqt_mono {K : PySem.W.Frag} {F F' : Hp} {a : Addr} {xs : List V} (e : ∀ a o, F a = some o → F' a = some o) (h : SqT K F a xs) : SqT K F' a xs := by
  rcases h with (h | ⟨o, h⟩) | h
  · exact .inl (.inl (e _ _ h))
  · exact .inl (.inr ⟨o, e _ _ h⟩)
  · exact .inr h
mutual
theorem RV.mono {K : PySem.W.Frag} {g g' : Gh} (l : Le g g') : ∀ {v : V} {d : D}, RV K g v d → RV K g' v d
  | _, _, .non => .non
  | _, _, .bl b => .bl b
  | _, _, .int i => .int i
  | _, _, .str s => .str s
  | _, _, .lst h r => .lst (l.f _ _ h) (RVs.mono l r)
  | _, _, .scr h r => .scr (sql_mono l.f h) (RVs.mono l r)
  | _, _, .tup h r => .tup (sqt_mono l.f h) (RVs.mono l r)
  | _, _, .ref h => .ref (l.at h)
theorem RVs.mono {K : PySem.W.Frag} {g g' : Gh} (l : Le g g') : ∀ {vs : List V} {ds : List D}, RVs K g vs ds → RVs K g' vs ds
  | _, _, .nil => .nil
  | _, _, .cons h r => .cons (RV.mono l h) (RVs.mono l r)
end
theorem RVs.length {K : PySem.W.Frag} {g : Gh} : ∀ {vs : List V} {ds : List D}, RVs K g vs ds → vs.length = ds.length
  | _, _, .nil => rfl
  | _, _, .cons _ r => by rw [List.length_cons, List.length_cons, RVs.length r]
theorem RVs.append {K : PySem.W.Frag} {g : Gh} : ∀ {vs : List V} {ds : List D} {vs' : List V} {ds' : List D}, RVs K g vs ds → RVs K g vs' ds' → RVs K g (vs ++ vs') (ds ++ ds')
  | _, _, _, _, .nil, s => s
  | _, _, _, _, .cons h r, s => .cons h (RVs.append r s)
theorem RVs.get {K : PySem.W.Frag} {g : Gh} : ∀ {vs : List V} {ds : List D} {i : Nat} {d : D}, RVs K g vs ds → ds[i]? = some d → ∃ v, vs[i]? = some v ∧ RV K g v d
  | _, _, _, _, .nil, h => by simp at h
  | _, _, 0, _, .cons h _, e => by simp at e; subst e; exact ⟨_, rfl, h⟩
  | _, _, i + 1, _, .cons _ r, e => by
    obtain ⟨v, h1, h2⟩ := RVs.get (i := i) r (by simpa using e)
    exact ⟨v, by simpa using h1, h2⟩
theorem RVs.getV {K : PySem.W.Frag} {g : Gh} {vs : List V} {ds : List D} {i : Nat} {v : V} (r : RVs K g vs ds) (h : vs[i]? = some v) : ∃ d, ds[i]? = some d ∧ RV K g v d := by
  have hi : i < vs.length := (List.getElem?_eq_some_iff.mp h).1
  have hd : i < ds.length := by rw [← r.length]; exact hi
  obtain ⟨v', e, q⟩ := r.get (List.getElem?_eq_getElem hd)
  rw [h] at e
  cases e
  exact ⟨_, List.getElem?_eq_getElem hd, q⟩
theorem RVs.take {K : PySem.W.Frag} {g : Gh} : ∀ {vs : List V} {ds : List D} (n : Nat), RVs K g vs ds → RVs K g (vs.take n) (ds.take n)
  | _, _, 0, _ => .nil
  | _, _, _ + 1, .nil => .nil
  | _, _, n + 1, .cons h r => .cons h (RVs.take n r)
theorem RVs.drop {K : PySem.W.Frag} {g : Gh} : ∀ {vs : List V} {ds : List D} (n : Nat), RVs K g vs ds → RVs K g (vs.drop n) (ds.drop n)
  | _, _, 0, r => r
  | _, _, _ + 1, .nil => .nil
  | _, _, n + 1, .cons _ r => RVs.drop n r
theorem RVs.dropLast {K : PySem.W.Frag} {g : Gh} {vs : List V} {ds : List D} (r : RVs K g vs ds) : RVs K g vs.dropLast ds.dropLast := by
  rw [List.dropLast_eq_take, List.dropLast_eq_take, r.length]
  exact r.take _
theorem RVs.reverse {K : PySem.W.Frag} {g : Gh} : ∀ {vs : List V} {ds : List D}, RVs K g vs ds → RVs K g vs.reverse ds.reverse
  | _, _, .nil => .nil
  | _, _, .cons h r => by
    rw [List.reverse_cons, List.reverse_cons]
    exact (RVs.reverse r).append (.cons h .nil)
theorem RVs.set {K : PySem.W.Frag} {g : Gh} {v : V} {d : D} (h : RV K g v d) : ∀ {vs : List V} {ds : List D} (i : Nat), RVs K g vs ds → RVs K g (vs.set i v) (ds.set i d)
  | _, _, _, .nil => .nil
  | _, _, 0, .cons _ r => .cons h r
  | _, _, i + 1, .cons q r => .cons q (RVs.set h i r)

/-! ### plain data leans on no cell -/
def F0 (F : Hp) : Gh := ⟨[], F, fun _ => none⟩
mutual
theorem RV.plain {K : PySem.W.Frag} {g g' : Gh} (e : ∀ a o, g.F a = some o → g'.F a = some o) : ∀ {n : Nat} {v : V} {d : D}, RV K g v d → plN n d = true → RV K g' v d
  | 0, _, _, _, h => by cases h
  | _ + 1, _, _, .non, _ => .non
  | _ + 1, _, _, .bl b, _ => .bl b
  | _ + 1, _, _, .int i, _ => .int i
  | _ + 1, _, _, .str s, _ => .str s
  | n + 1, _, _, .lst h r, q => .lst (e _ _ h) (RVs.plain e r (List.all_eq_true.mp q))
  | _ + 1, _, _, .scr h r, q => by cases q
  | n + 1, _, _, .tup h r, q => .tup (sqt_mono e h) (RVs.plain e r (List.all_eq_true.mp q))
  | _ + 1, _, _, .ref h, q => by cases q
theorem RVs.plain {K : PySem.W.Frag} {g g' : Gh} (e : ∀ a o, g.F a = some o → g'.F a = some o) : ∀ {n : Nat} {vs : List V} {ds : List D}, RVs K g vs ds → (∀ d ∈ ds, plN n d = true) → RVs K g' vs ds
  | _, _, _, .nil, _ => .nil
  | n, _, _, .cons h r, q => .cons (RV.plain e (n := n) h (q _ List.mem_cons_self)) (RVs.plain e (n := n) r fun d hd => q d (List.mem_cons_of_mem _ hd))
end

/-! ### the whole -/
/-- what is fixed through a law: the model's side, the compact program's -/
structure TT where
  prog : PySem.Program
  w : World
  K : PySem.W.Frag
  mg : Str → Option Value
  base : Heap
  tabs : List (Addr × Str)
  cls : Nat → Addr
  P : List Fn
  G : Cfg
def CellOk (T : TT) (g : Gh) (H : Hp) (a : Addr) : Cell → Prop
  | .lst ds => ∃ vs, H a = some (.lst vs) ∧ RVs T.K g vs ds ∧ ∀ d ∈ ds, pl d = true
  | .ins c fs => False
  | .dead => True
structure Lies (T : TT) (g : Gh) (S : Store) (H : Hp) : Prop where
  f : ∀ (a : Addr) (o : HO), g.F a = some o → H a = some o ∧ ∀ ps, o ≠ .tbl ps
  r : ∀ (a : Addr) (o : HO), g.R a = some o → H a = some o ∧ ∀ ps, o ≠ .tbl ps
  fr : ∀ (a : Addr) (o : HO), g.F a = some o → g.R a = none
  len : g.β.length = S.length
  cell : ∀ (n : Nat) (a : Addr) (c : Cell), g.β[n]? = some a → S[n]? = some c → c ≠ .dead → g.F a = none ∧ g.R a = none ∧ CellOk T g H a c
  nd : ∀ (n m : Nat) (a : Addr) (c c' : Cell), g.β[n]? = some a → g.β[m]? = some a → S[n]? = some c → S[m]? = some c' → c ≠ .dead → c' ≠ .dead → n = m
  tabs : LamX.Tabs T.tabs H
/-- slots -/
def ER (T : TT) (g : Gh) (σ : L2.St) (e : Env) : Prop := σ.length = e.length ∧ ∀ (i : Nat) (d : D), e[i]? = some (some d) → ∃ v : V, σ[i]? = some (some v) ∧ RV T.K g v d
theorem ER.mono {T : TT} {g g' : Gh} {σ : L2.St} {e : Env} (h : ER T g σ e) (l : Le g g') : ER T g' σ e := ⟨h.1, fun i d q => let ⟨v, a, b⟩ := h.2 i d q; ⟨v, a, b.mono l⟩⟩
theorem ER.set {T : TT} {g : Gh} {σ : L2.St} {e : Env} {i : Nat} {v : V} {d : D} (h : ER T g σ e) (r : RV T.K g v d) : ER T g (σ.set i (some v)) (e.set i (some d)) := by
  refine ⟨by rw [List.length_set, List.length_set, h.1], fun j d' q => ?_⟩
  by_cases hj : i = j
  · subst hj
    by_cases hl : i < e.length
    · rw [List.getElem?_set_self hl] at q
      cases q
      exact ⟨v, List.getElem?_set_self (by rw [h.1]; exact hl), r⟩
    · rw [List.getElem?_eq_none (by simpa using Nat.le_of_not_lt hl)] at q
      cases q
  · rw [List.getElem?_set_ne hj] at q
    obtain ⟨v', a, b⟩ := h.2 j d' q
    exact ⟨v', by rw [List.getElem?_set_ne hj]; exact a, b⟩
theorem ER.setNone {T : TT} {g : Gh} {σ : L2.St} {e : Env} {i : Nat} (h : ER T g σ e) : ER T g (σ.set i none) (e.set i none) := by
  refine ⟨by rw [List.length_set, List.length_set, h.1], fun j d' q => ?_⟩
  by_cases hj : i = j
  · subst hj
    by_cases hl : i < e.length
    · rw [List.getElem?_set_self hl] at q
      cases q
    · rw [List.getElem?_eq_none (by simpa using Nat.le_of_not_lt hl)] at q
      cases q
  · rw [List.getElem?_set_ne hj] at q
    obtain ⟨v', a, b⟩ := h.2 j d' q
    exact ⟨v', by rw [List.getElem?_set_ne hj]; exact a, b⟩
theorem ER.wipe {T : TT} {g : Gh} {σ : L2.St} {e : Env} (h : ER T g σ e) : ∀ vs : List Nat, ER T g (wipe σ vs) (wipeE e vs)
  | [] => h
  | v :: vs => (ER.wipe h vs).setNone
/-- the same slots, with one told otherwise -/
theorem ER.tell {T : TT} {g : Gh} {σ : L2.St} {e : Env} {i : Nat} {v : V} {d : D} (h : ER T g σ e) (hv : σ[i]? = some (some v)) (r : RV T.K g v d) : ER T g σ (e.set i (some d)) := by
  refine ⟨by rw [List.length_set, h.1], fun j d' q => ?_⟩
  by_cases hj : i = j
  · subst hj
    by_cases hl : i < e.length
    · rw [List.getElem?_set_self hl] at q
      cases q
      exact ⟨v, hv, r⟩
    · rw [List.getElem?_eq_none (by simpa using Nat.le_of_not_lt hl)] at q
      cases q
  · rw [List.getElem?_set_ne hj] at q
    exact h.2 j d' q

/-! ### how the heap grows -/
theorem Lies.ne {T : TT} {g : Gh} {S : Store} {H : Hp} (G : Lies T g S H) {p : Addr} (hp : H p = none) : g.F p = none ∧ g.R p = none := by
  refine ⟨?_, ?_⟩
  · cases e : g.F p with
    | none => rfl
    | some o =>
      have q := (G.f p o e).1
      rw [hp] at q
      cases q
  · cases e : g.R p with
    | none => rfl
    | some o =>
      have q := (G.r p o e).1
      rw [hp] at q
      cases q
theorem tabs_upd {T : List (Addr × Str)} {H : Hp} {p : Addr} {o : HO} (h : LamX.Tabs T H) (np : (∀ q ∈ T, q.1 ≠ p)) (nc : ∀ c q, H c = some (LamX.CodeO c q) → c ≠ p) : LamX.Tabs T (upd H p o) := fun q hq => by
  obtain ⟨ps, e, t, z⟩ := h q hq
  refine ⟨ps, by rw [upd_ne (np q hq)]; exact e, t, fun pos cv hc => ?_⟩
  obtain ⟨c, e1, e2⟩ := z pos cv hc
  exact ⟨c, e1, by rw [upd_ne (nc c _ e2)]; exact e2⟩
theorem tabs_new {T : List (Addr × Str)} {H : Hp} {p : Addr} {o : HO} (h : LamX.Tabs T H) (hp : H p = none) : LamX.Tabs T (upd H p o) := by
  refine tabs_upd h (fun q hq z => ?_) fun c q e z => ?_
  · obtain ⟨ps, e, _⟩ := h q hq
    rw [z, hp] at e
    cases e
  · rw [z, hp] at e
    cases e
theorem tabs_write {T : List (Addr × Str)} {H : Hp} {p : Addr} {o : HO} {xs : List V} (h : LamX.Tabs T H) (hp : H p = some (.lst xs)) : LamX.Tabs T (upd H p o) := by
  refine tabs_upd h (fun q hq z => ?_) fun c q e z => ?_
  · obtain ⟨ps, e, _⟩ := h q hq
    rw [z, hp] at e
    cases e
  · rw [z, hp] at e
    cases e
def Gh.addF (g : Gh) (p : Addr) (o : HO) : Gh := ⟨g.β, upd g.F p o, g.R⟩
def Gh.addB (g : Gh) (p : Addr) : Gh := ⟨g.β ++ [p], g.F, g.R⟩
theorem Le.addF {g : Gh} {p : Addr} {o : HO} (h : g.F p = none) : Le g (g.addF p o) := ⟨⟨[], by simp [Gh.addF]⟩, fun a u e => by
  show upd g.F p o a = some u
  rw [upd_ne (ne_of_none e h)]
  exact e, rfl⟩
theorem Le.addB {g : Gh} {p : Addr} : Le g (g.addB p) := ⟨⟨[p], rfl⟩, fun _ _ e => e, rfl⟩
section
variable {T : TT} {g : Gh} {S : Store} {H : Hp} {p : Addr}
theorem CellOk.mono {g' : Gh} {H' : Hp} {a : Addr} {c : Cell} (h : CellOk T g H a c) (e : ∀ a o, g.F a = some o → g'.F a = some o) (k : ∀ xs, H a = some (.lst xs) → H' a = some (.lst xs)) : CellOk T g' H' a c := by
  cases c with
  | lst ds =>
    obtain ⟨vs, h1, h2, h3⟩ := h
    exact ⟨vs, k _ h1, RVs.plain e h2 h3, h3⟩
  | ins c fs => exact h
  | dead => trivial
theorem CellOk.at {a : Addr} {c : Cell} (h : CellOk T g H a c) (hd : c ≠ .dead) : ∃ xs, H a = some (.lst xs) := by
  cases c with
  | lst ds =>
    obtain ⟨vs, h1, _⟩ := h
    exact ⟨vs, h1⟩
  | ins c fs => exact h.elim
  | dead => exact (hd rfl).elim
/-- a new list or tuple that never changes -/
theorem Lies.newF (G : Lies T g S H) (hp : H p = none) {o : HO} (ho : ∀ ps, o ≠ .tbl ps) : Lies T (g.addF p o) S (upd H p o) := by
  obtain ⟨nF, nR⟩ := G.ne hp
  refine ⟨fun a u e => ?_, fun a u e => ?_, fun a u e => ?_, G.len, fun n a c e1 e2 hd => ?_, G.nd, tabs_new G.tabs hp⟩
  · have e : upd g.F p o a = some u := e
    by_cases z : a = p
    · subst z
      rw [upd_same] at e
      cases e
      exact ⟨upd_same, ho⟩
    · rw [upd_ne z] at e
      rw [upd_ne z]
      exact G.f a u e
  · have e : g.R a = some u := e
    rw [upd_ne (ne_of_none e nR)]
    exact G.r a u e
  · have e : upd g.F p o a = some u := e
    by_cases z : a = p
    · subst z
      exact nR
    · rw [upd_ne z] at e
      exact G.fr a u e
  · obtain ⟨h1, h2, h3⟩ := G.cell n a c e1 e2 hd
    obtain ⟨xs, hx⟩ := h3.at hd
    have na : a ≠ p := ne_of_none hx hp
    refine ⟨?_, h2, h3.mono (Le.addF nF).f fun xs q => ?_⟩
    · show upd g.F p o a = none
      rw [upd_ne na]
      exact h1
    · rw [upd_ne (ne_of_none q hp)]
      exact q
theorem get_last {α : Type} {l : List α} {n : Nat} {x y : α} (h : (l ++ [x])[n]? = some y) : (n < l.length ∧ l[n]? = some y) ∨ (n = l.length ∧ y = x) := by
  by_cases hn : n < l.length
  · rw [List.getElem?_append_left hn] at h
    exact .inl ⟨hn, h⟩
  · rw [List.getElem?_append_right (Nat.le_of_not_lt hn)] at h
    cases k : n - l.length with
    | zero =>
      rw [k] at h
      simp at h
      exact .inr ⟨by omega, h.symm⟩
    | succ m =>
      rw [k] at h
      simp at h
/-- a new cell -/
theorem Lies.newB (G : Lies T g S H) (hp : H p = none) {vs : List V} {ds : List D} (r : RVs T.K g vs ds) (hpl : ∀ d ∈ ds, pl d = true) : Lies T (g.addB p) (S ++ [.lst ds]) (upd H p (.lst vs)) := by
  obtain ⟨nF, nR⟩ := G.ne hp
  refine ⟨fun a u e => ?_, fun a u e => ?_, G.fr, ?_, fun n a c e1 e2 hd => ?_, fun n m a c c' e1 e2 e3 e4 h1 h2 => ?_, tabs_new G.tabs hp⟩
  · have e : g.F a = some u := e
    rw [upd_ne (ne_of_none e nF)]
    exact G.f a u e
  · have e : g.R a = some u := e
    rw [upd_ne (ne_of_none e nR)]
    exact G.r a u e
  · show (g.β ++ [p]).length = _
    rw [List.length_append, List.length_append, G.len]
    rfl
  · have e1 : (g.β ++ [p])[n]? = some a := e1
    rcases get_last e1 with ⟨hn, e1⟩ | ⟨hn, e1⟩
    · rw [List.getElem?_append_left (by rw [← G.len]; exact hn)] at e2
      obtain ⟨h1, h2, h3⟩ := G.cell n a c e1 e2 hd
      obtain ⟨xs, hx⟩ := h3.at hd
      have na : a ≠ p := ne_of_none hx hp
      refine ⟨h1, h2, h3.mono (fun _ _ e => e) fun xs q => ?_⟩
      rw [upd_ne na]
      exact q
    · subst e1
      rcases get_last e2 with ⟨hn2, _⟩ | ⟨_, e2⟩
      · rw [← G.len] at hn2
        omega
      · subst e2
        exact ⟨nF, nR, vs, upd_same, r.mono Le.addB, hpl⟩
  · have old : ∀ {k : Nat} {b : Addr} {c : Cell}, (g.β ++ [p])[k]? = some b → (S ++ [Cell.lst ds])[k]? = some c → c ≠ .dead → (k < S.length ∧ g.β[k]? = some b ∧ S[k]? = some c ∧ b ≠ p) ∨ (k = S.length ∧ b = p) := fun {k b c} q1 q2 q3 => by
      rcases get_last q1 with ⟨hn, q1⟩ | ⟨hn, q1⟩
      · rw [G.len] at hn
        rw [List.getElem?_append_left hn] at q2
        obtain ⟨_, _, h3⟩ := G.cell k b c q1 q2 q3
        obtain ⟨xs, hx⟩ := h3.at q3
        exact .inl ⟨hn, q1, q2, ne_of_none hx hp⟩
      · rw [G.len] at hn
        exact .inr ⟨hn, q1⟩
    rcases old e1 e3 h1 with ⟨a1, a2, a3, a4⟩ | ⟨a1, a2⟩
    · rcases old e2 e4 h2 with ⟨b1, b2, b3, b4⟩ | ⟨b1, b2⟩
      · exact G.nd n m a c c' a2 b2 a3 b3 h1 h2
      · exact (a4 b2).elim
    · rcases old e2 e4 h2 with ⟨b1, b2, b3, b4⟩ | ⟨b1, b2⟩
      · exact (b4 a2).elim
      · omega
/-- a cell's list is written -/
theorem Lies.write (G : Lies T g S H) {n : Nat} {xs : List V} {ds0 : List D} (hn : g.β[n]? = some p) (hs : S[n]? = some (.lst ds0)) {vs : List V} {ds : List D} (r : RVs T.K g vs ds) (hpl : ∀ d ∈ ds, pl d = true) :
    Lies T g (S.set n (.lst ds)) (upd H p (.lst vs)) := by
  obtain ⟨nF, nR, hc⟩ := G.cell n p _ hn hs (by intro z; cases z)
  obtain ⟨xs, hx⟩ := hc.at (by intro z; cases z)
  have hl : n < S.length := (List.getElem?_eq_some_iff.mp hs).1
  have back : ∀ {k : Nat} {c : Cell}, (S.set n (.lst ds))[k]? = some c → c ≠ .dead → ∃ c', S[k]? = some c' ∧ c' ≠ .dead := fun {k c} q h => by
    by_cases hk : n = k
    · subst hk
      exact ⟨_, hs, by intro z; cases z⟩
    · rw [List.getElem?_set_ne hk] at q
      exact ⟨c, q, h⟩
  refine ⟨fun a u e => ?_, fun a u e => ?_, G.fr, by rw [List.length_set]; exact G.len, fun k a c e1 e2 hd => ?_, fun k m a c c' e1 e2 e3 e4 h1 h2 => ?_, tabs_write G.tabs hx⟩
  · rw [upd_ne (ne_of_none e nF)]
    exact G.f a u e
  · rw [upd_ne (ne_of_none e nR)]
    exact G.r a u e
  · by_cases hk : n = k
    · subst hk
      rw [hn] at e1
      cases e1
      rw [List.getElem?_set_self hl] at e2
      cases e2
      exact ⟨nF, nR, vs, upd_same, r, hpl⟩
    · rw [List.getElem?_set_ne hk] at e2
      obtain ⟨h1, h2, h3⟩ := G.cell k a c e1 e2 hd
      have na : a ≠ p := fun z => by
        subst z
        exact hk (G.nd n k a _ _ hn e1 hs e2 (by intro z; cases z) hd)
      refine ⟨h1, h2, h3.mono (fun _ _ e => e) fun xs q => ?_⟩
      rw [upd_ne na]
      exact q
  · obtain ⟨c1, q1, q2⟩ := back e3 h1
    obtain ⟨c2, q3, q4⟩ := back e4 h2
    exact G.nd k m a c1 c2 e1 e2 q1 q3 q2 q4
/-- a cell's list is not changed any more -/
theorem Lies.freeze (G : Lies T g S H) {n : Nat} {ds : List D} (hn : g.β[n]? = some p) (hs : S[n]? = some (.lst ds)) :
    ∃ vs, H p = some (.lst vs) ∧ RVs T.K g vs ds ∧ g.F p = none ∧ Lies T (g.addF p (.lst vs)) (S.set n .dead) H := by
  obtain ⟨nF, nR, vs, hx, rv, hpl⟩ := G.cell n p _ hn hs (by intro z; cases z)
  have hl : n < S.length := (List.getElem?_eq_some_iff.mp hs).1
  have back : ∀ {k : Nat} {c : Cell}, (S.set n .dead)[k]? = some c → c ≠ .dead → n ≠ k ∧ S[k]? = some c := fun {k c} q h => by
    by_cases hk : n = k
    · subst hk
      rw [List.getElem?_set_self hl] at q
      cases q
      exact (h rfl).elim
    · rw [List.getElem?_set_ne hk] at q
      exact ⟨hk, q⟩
  refine ⟨vs, hx, rv, nF, fun a u e => ?_, G.r, fun a u e => ?_, by rw [List.length_set]; exact G.len, fun k a c e1 e2 hd => ?_, fun k m a c c' e1 e2 e3 e4 h1 h2 => ?_, G.tabs⟩
  · have e : upd g.F p (.lst vs) a = some u := e
    by_cases z : a = p
    · subst z
      rw [upd_same] at e
      cases e
      exact ⟨hx, by intro ps z; cases z⟩
    · rw [upd_ne z] at e
      exact G.f a u e
  · have e : upd g.F p (.lst vs) a = some u := e
    by_cases z : a = p
    · subst z
      exact nR
    · rw [upd_ne z] at e
      exact G.fr a u e
  · obtain ⟨hk, q⟩ := back e2 hd
    obtain ⟨h1, h2, h3⟩ := G.cell k a c e1 q hd
    have na : a ≠ p := fun z => by
      subst z
      exact hk (G.nd n k a _ _ hn e1 hs q (by intro z; cases z) hd)
    refine ⟨?_, h2, h3.mono (Le.addF nF).f fun _ q => q⟩
    show upd g.F p _ a = none
    rw [upd_ne na]
    exact h1
  · obtain ⟨_, q1⟩ := back e3 h1
    obtain ⟨_, q2⟩ := back e4 h2
    exact G.nd k m a c c' e1 e2 q1 q2 h1 h2
/-- the newest cells are forgotten -/
theorem Lies.cut (G : Lies T g S H) (n : Nat) : Lies T ⟨g.β.take n, g.F, g.R⟩ (S.take n) H := by
  have tk : ∀ {α : Type} {l : List α} {k : Nat} {x : α}, (l.take n)[k]? = some x → l[k]? = some x := fun {α l k x} h => by
    rw [List.getElem?_take] at h
    split at h
    · exact h
    · cases h
  refine ⟨G.f, G.r, G.fr, ?_, fun k a c e1 e2 hd => ?_, fun k m a c c' e1 e2 e3 e4 h1 h2 => G.nd k m a c c' (tk e1) (tk e2) (tk e3) (tk e4) h1 h2, G.tabs⟩
  · show (g.β.take n).length = _
    rw [List.length_take, List.length_take, G.len]
  · obtain ⟨h1, h2, h3⟩ := G.cell k a c (tk e1) (tk e2) hd
    refine ⟨h1, h2, ?_⟩
    cases c with
    | lst ds =>
      obtain ⟨vs, q1, q2, q3⟩ := h3
      exact ⟨vs, q1, RVs.plain (g := g) (g' := ⟨g.β.take n, g.F, g.R⟩) (fun _ _ e => e) q2 q3, q3⟩
    | ins c fs => exact h3
    | dead => trivial
/-- another frame -/
theorem Lies.reframe (G : Lies T g S H) {R' : Hp} (hr : ∀ (a : Addr) (o : HO), R' a = some o → H a = some o ∧ (∀ ps, o ≠ .tbl ps) ∧ g.F a = none ∧ ∀ (n : Nat) (c : Cell), g.β[n]? = some a → S[n]? = some c → c = .dead) : Lies T ⟨g.β, g.F, R'⟩ S H := by
  have nR : ∀ a o, g.F a = some o → R' a = none := fun a o e => by
    cases q : R' a with
    | none => rfl
    | some u =>
      have z := (hr a u q).2.2.1
      rw [e] at z
      cases z
  refine ⟨G.f, fun a o e => ⟨(hr a o e).1, (hr a o e).2.1⟩, nR, G.len, fun n a c e1 e2 hd => ?_, G.nd, G.tabs⟩
  obtain ⟨h1, h2, h3⟩ := G.cell n a c e1 e2 hd
  refine ⟨h1, ?_, ?_⟩
  · cases q : R' a with
    | none => exact q
    | some u => exact (hd ((hr a u q).2.2.2 n c e1 e2)).elim
  · cases c with
    | lst ds =>
      obtain ⟨vs, q1, q2, q3⟩ := h3
      exact ⟨vs, q1, RVs.plain (g := g) (g' := ⟨g.β, g.F, R'⟩) (fun _ _ e => e) q2 q3, q3⟩
    | ins c fs => exact h3
    | dead => trivial
end
end Pf

end
section
/-! Snd1: readings of the evaluator's terms. -/
namespace Pf
open PySem PySem.Spec PyProof.Rows L2

/-- what is to hold behind an evaluation that begins at g -/
def Post (T : TT) (W : WX) {α β : Type} (rel : Gh → β → α → Prop) (g : Gh) (σ : L2.St) (r : Res α) (Q : β → Hp → Prop) : Prop := match r with
  | .ok d S => ∀ (g' : Gh) (H' : Hp) (v : β), Le g g' → Lies T g' S H' → rel g' v d → Q v H'
  | .exc c S => ∀ (g' : Gh) (H' : Hp), Le g g' → Lies T g' S H' → W (.ref (T.cls c)) none σ H'
  | .bad => False
theorem Post.mono {T : TT} {W : WX} {α β : Type} {rel : Gh → β → α → Prop} {g g1 : Gh} {σ : L2.St} {r : Res α} {Q : β → Hp → Prop} (h : Post T W rel g σ r Q) (l : Le g g1) : Post T W rel g1 σ r Q := by
  cases r with
  | ok d S => exact fun g' H' v l' => h g' H' v (l.trans l')
  | exc c S => exact fun g' H' l' => h g' H' (l.trans l')
  | bad => exact h
theorem Post.imp {T : TT} {W : WX} {α β : Type} {rel : Gh → β → α → Prop} {g : Gh} {σ : L2.St} {r : Res α} {Q Q' : β → Hp → Prop} (h : Post T W rel g σ r Q) (q : ∀ v H, Q v H → Q' v H) : Post T W rel g σ r Q' := by
  cases r with
  | ok d S => exact fun g' H' v l L m => q _ _ (h g' H' v l L m)
  | exc c S => exact h
  | bad => exact h
/-- one after another -/
theorem Post.bind {T : TT} {W : WX} {α β α' β' : Type} {rel : Gh → β → α → Prop} {rel1 : Gh → β' → α' → Prop} {g : Gh} {σ : L2.St} {r : Res α'} {f : α' → Store → Res α} {Q : β → Hp → Prop} (h : Post T W rel g σ (r.bind f) Q) :
    Post T W rel1 g σ r (fun v H1 => ∃ g1 d S1, Le g g1 ∧ Lies T g1 S1 H1 ∧ rel1 g1 v d ∧ Post T W rel g1 σ (f d S1) Q) := by
  cases r with
  | ok d S => exact fun g' H' v l L m => ⟨g', d, S, l, L, m, Post.mono h l⟩
  | exc c S => exact h
  | bad => exact h
theorem Post.ok {T : TT} {W : WX} {α β : Type} {rel : Gh → β → α → Prop} {g : Gh} {σ : L2.St} {d : α} {S : Store} {Q : β → Hp → Prop} {H : Hp} {v : β} (h : Post T W rel g σ (.ok d S) Q) (G : Lies T g S H) (r : rel g v d) : Q v H := h g H v (Le.refl g) G r
theorem Post.ofO {T : TT} {W : WX} {α β : Type} {rel : Gh → β → α → Prop} {g : Gh} {σ : L2.St} {o : Option α} {S : Store} {Q : β → Hp → Prop} (h : Post T W rel g σ (.ofO o S) Q) : ∃ d, o = some d ∧ Post T W rel g σ (.ok d S) Q := by
  cases o with
  | none => exact h.elim
  | some d => exact ⟨d, rfl, h⟩
/-- a reading by the evaluator -/
def Rd (T : TT) (W : WX) {α β : Type} (rel : Gh → β → α → Prop) (m : Env → Store → Res α) : L2.St → Hp → (β → Hp → Prop) → Prop := fun σ H Q =>
  ∃ g e S, Lies T g S H ∧ ER T g σ e ∧ Post T W rel g σ (m e S) Q
abbrev tE (T : TT) (W : WX) (m : Env → Store → Res D) : TE := Rd T W (RV T.K) m
abbrev tA (T : TT) (W : WX) (m : Env → Store → Res (List D)) : TA := Rd T W (RVs T.K) m
abbrev tT (T : TT) (W : WX) (m : Env → Store → Res Bool) : L2.TT := Rd T W (fun _ (b : Bool) (k : Bool) => b = k) m
end Pf

end
section
/-! Snd2: operators on values. -/
namespace Pf
open PySem PySem.Spec PyProof.Rows L2

theorem line_le {n : Nat} (h : n ≤ line) : n ≤ sizeLine := by
  have : sizeLine = 16777216 := sizeLine_eq
  unfold line at h
  omega
section
variable {T : TT} {X : Cx} {g : Gh} {S : Store} {H : Hp}
theorem Lies.sqL (L : Lies T g S H) {a : Addr} {xs : List V} (h : SqL T.K g.F a xs) : SqL T.K H a xs := sql_mono (fun a o e => (L.f a o e).1) h
theorem Lies.sqT (L : Lies T g S H) {a : Addr} {xs : List V} (h : SqT T.K g.F a xs) : SqT T.K H a xs := sqt_mono (fun a o e => (L.f a o e).1) h
/-- a value made: wanted of it -/
def Mk (T : TT) (g : Gh) (S : Store) (d : D) (H : Hp) (Q : VK) : Prop := ∀ (g' : Gh) (H' : Hp) (v : V), Le g g' → Lies T g' S H' → RV T.K g' v d → Q v H'
theorem Mk.at {d : D} {Q : VK} {v : V} (m : Mk T g S d H Q) (L : Lies T g S H) (r : RV T.K g v d) : Q v H := m g H v (Le.refl g) L r
theorem Lies.at {a : Addr} {o : HO} (L : Lies T g S H) (h : g.F a = some o) : H a = some o := (L.f a o h).1
theorem sqt_upd {K : PySem.W.Frag} {F : Hp} {p : Addr} {xs : List V} : SqT K (upd F p (.tup xs)) p xs := SqT.of upd_same
/-- a new tuple -/
theorem Mk.tup {ds : List D} {vs : List V} {Q : VK} (m : Mk T g S (.tup ds) H Q) (L : Lies T g S H) (r : RVs T.K g vs ds) : ∀ p, H p = none → Q (.ref p) (upd H p (.tup vs)) := fun p hp => by
  have l : Le g (g.addF p (.tup vs)) := Le.addF (L.ne hp).1
  exact m _ _ _ l (L.newF hp (by intro ps z; cases z)) (.tup sqt_upd (r.mono l))
theorem Mk.lst {ds : List D} {vs : List V} {Q : VK} (m : Mk T g S (.lst ds) H Q) (L : Lies T g S H) (r : RVs T.K g vs ds) : ∀ p, H p = none → Q (.ref p) (upd H p (.lst vs)) := fun p hp => by
  have l : Le g (g.addF p (.lst vs)) := Le.addF (L.ne hp).1
  exact m _ _ _ l (L.newF hp (by intro ps z; cases z)) (.lst upd_same (r.mono l))

/-! ### binary operators -/
def rBin (T : TT) (o : Op) : R2 := fun x y H Q => ∃ (g : Gh) (S : Store) (a b d : D), Lies T g S H ∧ RV T.K g x a ∧ RV T.K g y b ∧ binD o a b = some d ∧ Mk T g S d H Q
def opOf : Op → Operator
  | .add => .Add
  | .sub => .Sub
  | .mul => .Mult
  | .fdiv => .FloorDiv
  | .mod => .Mod
  | .pow => .Pow
theorem opOk_eq {o : Op} {o' : Operator} (h : opOk o o' = true) : o' = opOf o := by
  cases o <;> cases o' <;> first | rfl | cases h

theorem mulOk {i j : Int} (h : (bitsOk i || bitsOk j || wideOk i j) = true) : IntMulOk i j := by
  have b : ∀ z : Int, bitsOk z = true → (-(2 ^ 64) < z ∧ z < 2 ^ 64) := fun z h => by
    have h1 : z.natAbs < 2 ^ 64 := of_decide_eq_true h
    omega
  rw [Bool.or_eq_true, Bool.or_eq_true] at h
  rcases h with (h | h) | h
  · exact CMul.ok (.inl (b i h))
  · exact CMul.ok (.inr (b j h))
  · have h1 : i.natAbs.log2 + j.natAbs.log2 < 900000 := of_decide_eq_true h
    exact CMulW.ok (show CMulW i j by unfold CMulW; omega)
theorem RVs.rep {K : PySem.W.Frag} {g : Gh} {vs : List V} {ds : List D} (r : RVs K g vs ds) : ∀ n : Nat, RVs K g (List.replicate n vs).flatten (rep ds n)
  | 0 => .nil
  | n + 1 => by
    show RVs K g _ (List.replicate (n + 1) ds).flatten
    rw [List.replicate_succ, List.replicate_succ, List.flatten_cons, List.flatten_cons]
    exact r.append (RVs.rep r n)
theorem and2 {a b : Bool} (h : (a && b) = true) : a = true ∧ b = true := Bool.and_eq_true_iff.mp h
theorem op_bin (eK : X.K = T.K) (o : Op) : OpR X (binaryOp (opOf o)) (rBin T o) := by
  intro pins s σ H x y v u Q I rx ry h
  obtain ⟨g, S, a, b, d, L, ra, rb, e, m⟩ := h
  cases o with
  | add =>
    cases ra <;> cases rb <;> first | (cases e; done) | skip
    · -- ints
      rename_i i j
      cases e
      exact op_add pins s σ H _ _ v u Q I rx ry ⟨i, j, rfl, rfl, m.at L (.int _)⟩
    · -- texts
      rename_i x y
      have e : (if x.length + y.length ≤ line then some (D.str (x ++ y)) else none) = some d := e
      split at e
      · rename_i hl
        cases e
        have hl2 := line_le hl
        refine op_add_str pins s σ H _ _ v u Q I rx ry ⟨toS x, toS y, rfl, rfl, ?_, ?_⟩
        · show (x.toArray.size + y.toArray.size) ≤ _
          rw [List.size_toArray, List.size_toArray]
          exact hl2
        · have q := m.at L (.str (x ++ y))
          have e2 : toS x ++ toS y = toS (x ++ y) := by
            show (⟨x.toArray ++ y.toArray⟩ : Str) = ⟨(x ++ y).toArray⟩
            rw [List.append_toArray]
          rw [e2]
          exact q
      · cases e
    · -- lists
      rename_i a1 vs ds ha rs a2 vs2 ds2 hb rs2
      have e : (if ds.length + ds2.length ≤ line then some (D.lst (ds ++ ds2)) else none) = some d := e
      split at e
      · rename_i hl
        cases e
        refine op_cat pins s σ H _ _ v u Q I rx ry ⟨a1, a2, vs, vs2, rfl, rfl, L.at ha, L.at hb, ?_, m.lst L (rs.append rs2)⟩
        rw [rs.length, rs2.length]
        exact line_le hl
      · cases e
    · -- tuples
      rename_i a1 vs ds ha rs a2 vs2 ds2 hb rs2
      have e : (if ds.length + ds2.length ≤ line then some (D.tup (ds ++ ds2)) else none) = some d := e
      split at e
      · rename_i hl
        cases e
        refine op_catA pins s σ H _ _ v u Q I rx ry ⟨a1, a2, vs, vs2, rfl, rfl, by rw [eK]; exact L.sqT ha, by rw [eK]; exact L.sqT hb, ?_, fun z => ?_, fun _ z => ?_, fun _ _ => m.tup L (rs.append rs2)⟩
        · rw [rs.length, rs2.length]
          exact line_le hl
        · have z2 : ds = [] := by
            have := rs.length
            rw [z] at this
            exact List.eq_nil_of_length_eq_zero this.symm
          subst z2
          exact m.at L (.tup hb rs2)
        · have z2 : ds2 = [] := by
            have := rs2.length
            rw [z] at this
            exact List.eq_nil_of_length_eq_zero this.symm
          subst z2
          refine m.at L ?_
          rw [List.append_nil]
          exact .tup ha rs
      · cases e
  | sub =>
    cases ra <;> cases rb <;> first | (cases e; done) | skip
    · rename_i i j
      cases e
      exact op_sub pins s σ H _ _ v u Q I rx ry ⟨i, j, rfl, rfl, m.at L (.int _)⟩
  | mul =>
    cases ra <;> cases rb <;> first | (cases e; done) | skip
    · rename_i i j
      have e : (if bitsOk i || bitsOk j || wideOk i j then some (D.int (i * j)) else none) = some d := e
      split at e
      · rename_i hl
        cases e
        obtain ⟨t, rfl⟩ := rx
        obtain ⟨t', rfl⟩ := ry
        exact mul_int ⟨.int _, H, I.tok _, ⟨_, rfl⟩, m.at L (.int _)⟩ (mulOk hl)
      · cases e
    · rename_i a1 vs ds ha rs k
      have e : (if decide (-1000 ≤ k) && (decide (k ≤ 1000) && decide (ds.length ≤ 1000)) then some (D.lst (rep ds k.toNat)) else none) = some d := e
      split at e
      · rename_i hl
        cases e
        obtain ⟨h1, hl⟩ := and2 hl
        obtain ⟨h2, h3⟩ := and2 hl
        have h1 := of_decide_eq_true h1
        have h2 := of_decide_eq_true h2
        have h3 := of_decide_eq_true h3
        refine op_rep pins s σ H _ _ v u Q I rx ry ⟨a1, k, vs, rfl, rfl, L.at ha, by omega, by omega, ?_, m.lst L (rs.rep _)⟩
        rw [rs.length]
        have e1 : sizeLine = 16777216 := sizeLine_eq
        have e2 : ds.length * k.toNat ≤ 1000 * 1000 := Nat.mul_le_mul h3 (by omega)
        omega
      · cases e
    · rename_i a1 vs ds ha rs k
      have e : (if decide (2 ≤ k) && (decide (k ≤ 1000) && (decide (0 < ds.length) && decide (ds.length ≤ 1000))) then some (D.tup (rep ds k.toNat)) else none) = some d := e
      split at e
      · rename_i hl
        cases e
        obtain ⟨h1, hl⟩ := and2 hl
        obtain ⟨h2, hl⟩ := and2 hl
        obtain ⟨h3, h4⟩ := and2 hl
        have h1 := of_decide_eq_true h1
        have h2 := of_decide_eq_true h2
        have h3 := of_decide_eq_true h3
        have h4 := of_decide_eq_true h4
        have el := rs.length
        refine op_repT pins s σ H _ _ v u Q I rx ry ⟨a1, k, vs, rfl, rfl, by rw [eK]; exact L.sqT ha, fun z => ?_, h1, h2, by omega, m.tup L (rs.rep _)⟩
        rw [z] at el
        simp at el
        omega
      · cases e
  | fdiv =>
    cases ra <;> cases rb <;> first | (cases e; done) | skip
    rename_i i j
    have e : (if divOk j then some (D.int (i.fdiv j)) else none) = some d := e
    split at e
    · rename_i hl
      cases e
      obtain ⟨h1, h2⟩ := and2 hl
      obtain ⟨t, rfl⟩ := rx
      obtain ⟨t', rfl⟩ := ry
      exact floordiv_int (of_decide_eq_true h1) ⟨.int _, H, I.tok _, ⟨_, rfl⟩, m.at L (.int _)⟩ (.inl (PyProof.noPylong_of_log2 (of_decide_eq_true h2)))
    · cases e
  | mod =>
    cases ra <;> cases rb <;> first | (cases e; done) | skip
    rename_i i j
    have e : (if j = 0 then none else some (D.int (i.fmod j))) = some d := e
    split at e
    · cases e
    · rename_i hj
      cases e
      exact op_modN pins s σ H _ _ v u Q I rx ry ⟨i, j, rfl, rfl, hj, m.at L (.int _)⟩
  | pow =>
    cases ra <;> cases rb <;> first | (cases e; done) | skip
    rename_i i j
    have e : (if decide (0 ≤ j) && decide (j ≤ 1000) && bitsOk i then some (D.int (i ^ j.toNat)) else none) = some d := e
    split at e
    · rename_i hl
      cases e
      obtain ⟨hl, h3⟩ := and2 hl
      obtain ⟨h1, h2⟩ := and2 hl
      have h2 := of_decide_eq_true h2
      exact op_pow pins s σ H _ _ v u Q I rx ry ⟨i, j, rfl, rfl, ⟨of_decide_eq_true h1, by omega, of_decide_eq_true h3⟩, m.at L (.int _)⟩
    · cases e
end

/-! ### data -/
mutual
def toPy : D → PyData
  | .non => .none
  | .bl b => .bool b
  | .int i => .int i
  | .str s => .str (toS s)
  | .tup xs => .tuple (toPys xs)
  | .lst xs => .list (toPys xs)
  | .ref _ => .none
  | .scr _ => .none
def toPys : List D → List PyData
  | [] => []
  | x :: xs => toPy x :: toPys xs
end
theorem toS_inj {s t : List Nat} : (toS s = toS t) = (s = t) := by
  apply propext
  constructor
  · intro h
    have h1 : s.toArray = t.toArray := congrArg Str.cps h
    simpa using h1
  · intro h
    rw [h]
theorem toS_beq (s t : List Nat) : (toS s == toS t) = (s == t) := by
  rw [Bool.eq_iff_iff, beq_iff_eq, beq_iff_eq, toS_inj]
theorem eqAll_py {n : Nat} (ih : ∀ a b, plN n a = true → plN n b = true → eqvN n a b = PyData.eqv (toPy a) (toPy b)) : ∀ xs ys : List D, (∀ x ∈ xs, plN n x = true) → (∀ y ∈ ys, plN n y = true) → eqAll (eqvN n) xs ys = PyData.eqvAll (toPys xs) (toPys ys)
  | [], [], _, _ => by simp only [eqAll, toPys, PyData.eqvAll]
  | [], _ :: _, _, _ => by simp only [eqAll, toPys, PyData.eqvAll]
  | _ :: _, [], _, _ => by simp only [eqAll, toPys, PyData.eqvAll]
  | x :: xs, y :: ys, h1, h2 => by
    simp only [eqAll, toPys, PyData.eqvAll]
    rw [ih x y (h1 x List.mem_cons_self) (h2 y List.mem_cons_self), eqAll_py ih xs ys (fun z hz => h1 z (List.mem_cons_of_mem _ hz)) (fun z hz => h2 z (List.mem_cons_of_mem _ hz))]
theorem eqv_py : ∀ (n : Nat) (a b : D), plN n a = true → plN n b = true → eqvN n a b = PyData.eqv (toPy a) (toPy b)
  | 0, _, _, h, _ => by cases h
  | n + 1, a, b, h1, h2 => by
    cases a <;> cases b <;> first
      | (cases h1; done)
      | (cases h2; done)
      | (simp only [eqvN, toPy, PyData.eqv, toS_beq, Pf.b2i]; done)
      | (simp only [eqvN, toPy, PyData.eqv]; exact eqAll_py (eqv_py n) _ _ (List.all_eq_true.mp h1) (List.all_eq_true.mp h2))
theorem strOk_toS {s : List Nat} (h : s.all (fun c => decide (c < 1114112)) = true) : PyData.strOk (toS s) = true := by
  show (s.toArray.all fun c => decide (c < 1114112)) = true
  simpa using h
theorem lay_all {n : Nat} (ih : ∀ a, plN n a = true → (toPy a).canLay0 = true ∧ (toPy a).depth ≤ n) : ∀ xs : List D, (∀ x ∈ xs, plN n x = true) → PyData.canLayAll0 (toPys xs) = true ∧ PyData.depthAll (toPys xs) ≤ n
  | [], _ => ⟨by simp only [toPys, PyData.canLayAll0], by simp only [toPys, PyData.depthAll]; exact Nat.zero_le _⟩
  | x :: xs, h => by
    obtain ⟨h1, h2⟩ := ih x (h x List.mem_cons_self)
    obtain ⟨h3, h4⟩ := lay_all ih xs fun z hz => h z (List.mem_cons_of_mem _ hz)
    refine ⟨?_, ?_⟩
    · simp only [toPys, PyData.canLayAll0]
      rw [h1, h3]
      rfl
    · simp only [toPys, PyData.depthAll]
      exact Nat.max_le.mpr ⟨h2, h4⟩
theorem lay_py : ∀ (n : Nat) (a : D), plN n a = true → (toPy a).canLay0 = true ∧ (toPy a).depth ≤ n
  | 0, _, h => by cases h
  | n + 1, a, h => by
    cases a with
    | non => exact ⟨by simp only [toPy, PyData.canLay0], by simp only [toPy, PyData.depth]; omega⟩
    | bl b => exact ⟨by simp only [toPy, PyData.canLay0], by simp only [toPy, PyData.depth]; omega⟩
    | int i => exact ⟨by simp only [toPy, PyData.canLay0], by simp only [toPy, PyData.depth]; omega⟩
    | str s =>
      obtain ⟨h1, _⟩ := and2 h
      exact ⟨by simp only [toPy, PyData.canLay0]; exact strOk_toS h1, by simp only [toPy, PyData.depth]; omega⟩
    | tup xs =>
      obtain ⟨h1, h2⟩ := lay_all (lay_py n) xs (List.all_eq_true.mp h)
      exact ⟨by simp only [toPy, PyData.canLay0]; exact h1, by simp only [toPy, PyData.depth]; omega⟩
    | lst xs =>
      obtain ⟨h1, h2⟩ := lay_all (lay_py n) xs (List.all_eq_true.mp h)
      exact ⟨by simp only [toPy, PyData.canLay0]; exact h1, by simp only [toPy, PyData.depth]; omega⟩
    | ref n => cases h
    | scr xs => cases h
theorem shaped_py {a : D} (h : pl a = true) : SeqAt.shaped (toPy a) = true := by
  obtain ⟨h1, h2⟩ := lay_py 60 a h
  show ((toPy a).canLay0 && decide ((toPy a).depth ≤ 64)) = true
  rw [h1, Bool.true_and]
  exact decide_eq_true (by omega)
section
variable {T : TT} {X : Cx} {g : Gh} {S : Store} {H : Hp}
mutual
theorem dp_of (L : Lies T g S H) : ∀ {n : Nat} {v : V} {d : D}, RV T.K g v d → plN n d = true → Dp T.K H v (toPy d)
  | 0, _, _, _, h => by cases h
  | _ + 1, _, _, .non, _ => by simp only [toPy]; exact .non
  | _ + 1, _, _, .bl b, _ => by simp only [toPy]; exact .bl b
  | _ + 1, _, _, .int i, _ => by simp only [toPy]; exact .int i
  | _ + 1, _, _, .str s, _ => by simp only [toPy]; exact .str _
  | n + 1, _, _, .lst h r, q => by simp only [toPy]; exact .lst (SqL.of (L.at h)) (dps_of L (n := n) r (List.all_eq_true.mp q))
  | n + 1, _, _, .tup h r, q => by simp only [toPy]; exact .tup (L.sqT h) (dps_of L (n := n) r (List.all_eq_true.mp q))
  | _ + 1, _, _, .ref _, q => by cases q
  | _ + 1, _, _, .scr _ _, q => by cases q
theorem dps_of (L : Lies T g S H) : ∀ {n : Nat} {vs : List V} {ds : List D}, RVs T.K g vs ds → (∀ d ∈ ds, plN n d = true) → DpAll T.K H vs (toPys ds)
  | _, _, _, .nil, _ => by simp only [toPys]; exact .nil
  | n, _, _, .cons h r, q => by simp only [toPys]; exact .cons (dp_of L (n := n) h (q _ List.mem_cons_self)) (dps_of L (n := n) r fun d hd => q d (List.mem_cons_of_mem _ hd))
end
/-- what a value's list is to be read at -/
inductive RdL (K : PySem.W.Frag) (H : Hp) (g : Gh) : V → D → Prop
  | lst {a : Addr} {vs : List V} {ds : List D} : SqL K H a vs → RVs K g vs ds → RdL K H g (.ref a) (.lst ds)
  | tup {a : Addr} {vs : List V} {ds : List D} : SqT K H a vs → RVs K g vs ds → RdL K H g (.ref a) (.tup ds)
  | str (s : List Nat) : RdL K H g (.str (toS s)) (.str s)
  | flat {v : V} {d : D} : isFlat d = true → RV K g v d → RdL K H g v d
theorem rd_of (L : Lies T g S H) {v : V} {d : D} (r : RV T.K g v d) : RdL T.K H g v (rd S d) ∨ ∃ n, rd S d = .ref n := by
  cases r with
  | non => exact .inl (.flat rfl .non)
  | bl b => exact .inl (.flat rfl (.bl b))
  | int i => exact .inl (.flat rfl (.int i))
  | str s => exact .inl (.str s)
  | lst h rs => exact .inl (.lst (SqL.of (L.at h)) rs)
  | tup h rs => exact .inl (.tup (L.sqT h) rs)
  | scr h rs => exact .inl (.lst (L.sqL h) rs)
  | ref hn =>
    rename_i n a
    cases e : S[n]? with
    | none => exact .inr ⟨n, by simp only [rd, e]⟩
    | some c =>
      cases c with
      | lst xs =>
        obtain ⟨_, _, vs, h1, h2, h3⟩ := L.cell n a _ hn e (by intro z; cases z)
        have e2 : rd S (.ref n) = .lst xs := by simp only [rd, e]
        rw [e2]
        exact .inl (.lst (SqL.of h1) h2)
      | ins c fs => exact .inr ⟨n, by simp only [rd, e]⟩
      | dead => exact .inr ⟨n, by simp only [rd, e]⟩
theorem data_of (L : Lies T g S H) {v : V} {d z : D} (r : RV T.K g v d) (e : dataOf S d = some z) : Dp T.K H v (toPy z) ∧ pl z = true := by
  unfold dataOf at e
  simp only at e
  split at e
  · rename_i hp
    cases e
    refine ⟨?_, hp⟩
    have q0 := rd_of L r
    revert hp q0
    generalize rd S d = w
    intro hp q0
    rcases q0 with q | ⟨n, q⟩
    · cases q with
      | lst h rs =>
        simp only [toPy]
        exact .lst h (dps_of L (n := 59) rs (List.all_eq_true.mp hp))
      | tup h rs =>
        simp only [toPy]
        exact .tup h (dps_of L (n := 59) rs (List.all_eq_true.mp hp))
      | str s =>
        simp only [toPy]
        exact .str _
      | flat f r => exact dp_of L (n := 60) r hp
    · rw [q] at hp
      cases hp
  · cases e

/-! ### comparisons -/
def rCmp (T : TT) (o : Cm) : R2 := fun x y H Q => ∃ (g : Gh) (S : Store) (a b : D) (k : Bool), Lies T g S H ∧ RV T.K g x a ∧ RV T.K g y b ∧ cmpD S o a b = some k ∧ Q (.bl k) H
theorem two_data {α : Type} {o p : Option D} {f : D → D → Option α} {k : α} (h : (match o, p with | some x, some y => f x y | _, _ => none) = some k) : ∃ x y, o = some x ∧ p = some y ∧ f x y = some k := by
  cases o with
  | none => cases h
  | some x => cases p with
    | none => cases h
    | some y => exact ⟨x, y, rfl, rfl, h⟩
theorem flat_rv {K : PySem.W.Frag} {d : D} {v : V} (f : isFlat d = true) (r : RV K g v d) : flatV v = true := by
  cases r <;> first | rfl | cases f
theorem eqV_flat {K : PySem.W.Frag} {d e : D} {v w : V} (f : isFlat d = true) (f' : isFlat e = true) (r : RV K g v d) (r' : RV K g w e) : eqV v w = eqv d e := by
  cases r <;> first | (cases f; done) | (cases r' <;> first | (cases f'; done) | rfl | exact toS_beq _ _)
theorem inV_flat {K : PySem.W.Frag} {d : D} {v : V} (f : isFlat d = true) (r : RV K g v d) : ∀ {vs : List V} {ds : List D}, RVs K g vs ds → ds.all isFlat = true → inV v vs = (ds.any fun z => eqv z d) ∧ vs.all flatV = true
  | _, _, .nil, _ => ⟨rfl, rfl⟩
  | _, _, .cons (v := w) (vs := ws) (d := e) (ds := es) h rs, fs => by
    rw [List.all_cons, Bool.and_eq_true] at fs
    obtain ⟨h1, h2⟩ := inV_flat f r rs fs.2
    refine ⟨?_, ?_⟩
    · have h1 : (ws.any fun y => eqV y v) = (es.any fun z => eqv z d) := h1
      show ((w :: ws).any fun y => eqV y v) = ((e :: es).any fun z => eqv z d)
      rw [List.any_cons, List.any_cons, eqV_flat fs.1 f h r, h1]
    · rw [List.all_cons, h2, flat_rv fs.1 h]
      rfl
theorem any_py {x : D} (hx : pl x = true) : ∀ ys : List D, (∀ y ∈ ys, pl y = true) → (ys.any fun z => eqv z x) = (toPys ys).any fun z => PyData.eqv z (toPy x)
  | [], _ => by simp only [toPys, List.any_nil]
  | y :: ys, h => by
    simp only [toPys, List.any_cons]
    rw [any_py hx ys fun z hz => h z (List.mem_cons_of_mem _ hz)]
    congr 1
    exact eqv_py 60 y x (h y List.mem_cons_self) hx
theorem pl_up : ∀ {n : Nat} {d : D}, plN n d = true → plN (n + 1) d = true
  | 0, _, h => by cases h
  | n + 1, d, h => by
    cases d with
    | tup xs => exact List.all_eq_true.mpr fun x hx => pl_up (List.all_eq_true.mp h x hx)
    | lst xs => exact List.all_eq_true.mpr fun x hx => pl_up (List.all_eq_true.mp h x hx)
    | _ => exact h
/-- what in asks -/
theorem in_of (L : Lies T g S H) {v w : V} {a b x y : D} {k : Bool} (ra : RV T.K g v a) (rb : RV T.K g w b) (ea : dataOf S a = some x) (eb : dataOf S b = some y) (e : inD x y = some k) :
    (∃ p xs, w = .ref p ∧ SqT T.K H p xs ∧ flatV v = true ∧ xs.all flatV = true ∧ inV v xs = k) ∨ (∃ d ds, Dp T.K H v d ∧ Dp T.K H w (.list ds) ∧ SeqAt.shaped d = true ∧ SeqAt.shaped (.list ds) = true ∧ (ds.any fun z => PyData.eqv z d) = k) ∨
      ∃ (c : Nat) (z : Str), v = .str ⟨#[c]⟩ ∧ w = .str z ∧ decide (c ∈ z.cps.toList) = k := by
  obtain ⟨da, pa⟩ := data_of L ra ea
  obtain ⟨db, pb⟩ := data_of L rb eb
  cases y with
  | tup ys =>
    have e : (if isFlat x && ys.all isFlat then some (ys.any fun z => eqv z x) else none) = some k := e
    split at e
    · rename_i hf
      cases e
      obtain ⟨f1, f2⟩ := and2 hf
      have ea2 : rd S a = x := by
        unfold dataOf at ea
        simp only at ea
        split at ea
        · exact Option.some.inj ea
        · cases ea
      have eb2 : rd S b = .tup ys := by
        unfold dataOf at eb
        simp only at eb
        split at eb
        · exact Option.some.inj eb
        · cases eb
      have hx : RV T.K g v x := by
        cases ra with
        | non => simp only [rd] at ea2; subst ea2; exact .non
        | bl b => simp only [rd] at ea2; subst ea2; exact .bl b
        | int i => simp only [rd] at ea2; subst ea2; exact .int i
        | str s => simp only [rd] at ea2; subst ea2; exact .str s
        | lst h rs => simp only [rd] at ea2; subst ea2; cases f1
        | tup h rs => simp only [rd] at ea2; subst ea2; cases f1
        | scr h rs => simp only [rd] at ea2; subst ea2; cases f1
        | ref hn =>
          simp only [rd] at ea2
          split at ea2 <;> (subst ea2; cases f1)
      cases rb with
      | tup h rs =>
        simp only [rd] at eb2
        cases eb2
        obtain ⟨q1, q2⟩ := inV_flat f1 hx rs f2
        exact .inl ⟨_, _, rfl, L.sqT h, flat_rv f1 hx, q2, q1⟩
      | ref hn =>
        simp only [rd] at eb2
        split at eb2 <;> cases eb2
      | _ => simp only [rd] at eb2; cases eb2
    · cases e
  | lst ys =>
    have e : some (ys.any fun z => eqv z x) = some k := e
    cases e
    refine .inr (.inl ⟨toPy x, toPys ys, da, ?_, shaped_py pa, ?_, ?_⟩)
    · simp only [toPy] at db
      exact db
    · have q := shaped_py pb
      simp only [toPy] at q
      exact q
    · exact (any_py pa ys fun y hy => pl_up (n := 59) (List.all_eq_true.mp pb y hy)).symm
  | str s =>
    cases x with
    | str t =>
      cases t with
      | nil => cases e
      | cons c r =>
        cases r with
        | cons _ _ => cases e
        | nil =>
          have e : some (s.contains c) = some k := e
          cases e
          refine .inr (.inr ⟨c, toS s, ?_, ?_, ?_⟩)
          · simp only [toPy] at da
            cases da
            rfl
          · simp only [toPy] at db
            cases db
            rfl
          · show decide (c ∈ s.toArray.toList) = s.contains c
            simp
    | _ => cases e
  | _ => cases e
theorem op_cmp (eK : X.K = T.K) (hu : X.A.units + 65 < cLine) (o' : CmpOp) : OpR X (compareOp o') (rCmp T (cmOf o')) := by
  intro pins s σ H x y v u Q I rx ry h
  obtain ⟨g, S, a, b, k, L, ra, rb, e, q⟩ := h
  have eqd : ∀ {a' b' : D}, dataOf S a = some a' → dataOf S b = some b' → ∀ {Q' : VK}, Q' (.bl (eqv a' b')) H → rEqD X.K x y H Q' := fun {a' b'} e1 e2 Q' q' => by
    obtain ⟨d1, p1⟩ := data_of L ra e1
    obtain ⟨d2, p2⟩ := data_of L rb e2
    refine ⟨toPy a', toPy b', by rw [eK]; exact d1, by rw [eK]; exact d2, shaped_py p1, shaped_py p2, ?_⟩
    rw [← eqv_py 60 a' b' p1 p2]
    exact q'
  cases o' with
  | Eq =>
    obtain ⟨a', b', e1, e2, e3⟩ := two_data (f := fun x y => some (eqv x y)) e
    cases e3
    exact op_eqD (by omega) pins s σ H x y v u Q I rx ry (eqd e1 e2 q)
  | NotEq =>
    obtain ⟨a', b', e1, e2, e3⟩ := two_data (f := fun x y => some (!eqv x y)) e
    cases e3
    obtain ⟨d, e, h1, h2, h3, h4, h5⟩ := eqd e1 e2 (Q' := fun z H => ∃ k, z = .bl k ∧ Q (.bl (!k)) H) ⟨_, rfl, q⟩
    obtain ⟨k, e5, h5⟩ := h5
    cases e5
    exact op_neD (by omega) pins s σ H x y v u Q I rx ry ⟨d, e, h1, h2, h3, h4, h5⟩
  | Lt =>
    cases ra <;> cases rb <;> first | (cases e; done) | skip
    cases e
    exact op_lt pins s σ H _ _ v u Q I rx ry ⟨_, _, rfl, rfl, q⟩
  | LtE =>
    cases ra <;> cases rb <;> first | (cases e; done) | skip
    cases e
    exact op_le pins s σ H _ _ v u Q I rx ry ⟨_, _, rfl, rfl, q⟩
  | Gt =>
    cases ra <;> cases rb <;> first | (cases e; done) | skip
    cases e
    exact op_gt pins s σ H _ _ v u Q I rx ry ⟨_, _, rfl, rfl, q⟩
  | GtE =>
    cases ra <;> cases rb <;> first | (cases e; done) | skip
    cases e
    exact op_ge pins s σ H _ _ v u Q I rx ry ⟨_, _, rfl, rfl, q⟩
  | Is =>
    cases rb with
    | non =>
      refine op_isN pins s σ H _ _ v u Q I rx ry ⟨rfl, ?_⟩
      cases ra <;> (cases e; exact q)
    | bl k' =>
      cases ra <;> first | (cases e; done) | skip
      cases e
      exact op_isBl pins s σ H _ _ v u Q I rx ry ⟨_, _, rfl, rfl, q⟩
    | _ => cases e
  | IsNot =>
    cases rb with
    | non =>
      refine op_notN pins s σ H _ _ v u Q I rx ry ⟨rfl, ?_⟩
      cases ra <;> (cases e; exact q)
    | bl k' =>
      cases ra <;> first | (cases e; done) | skip
      cases e
      exact op_notBl pins s σ H _ _ v u Q I rx ry ⟨_, _, rfl, rfl, q⟩
    | _ => cases e
  | In =>
    obtain ⟨a', b', e1, e2, e3⟩ := two_data (f := fun x y => inD x y) e
    rcases in_of L ra rb e1 e2 e3 with ⟨p, xs, rfl, h1, h2, h3, h4⟩ | ⟨d, ds, h1, h2, h3, h4, h5⟩ | ⟨c, z, rfl, rfl, h1⟩
    · subst h4
      exact op_in_seq pins s σ H _ _ v u Q I rx ry ⟨p, xs, rfl, .inr (by rw [eK]; exact h1), h2, h3, q⟩
    · subst h5
      exact op_inD hu pins s σ H _ _ v u Q I rx ry ⟨d, ds, by rw [eK]; exact h1, by rw [eK]; exact h2, h3, h4, q⟩
    · subst h1
      exact op_in_sign pins s σ H _ _ v u Q I rx ry ⟨c, z, rfl, rfl, q⟩
  | NotIn =>
    have e0 : ∃ k', (match dataOf S a, dataOf S b with | some x, some y => inD x y | _, _ => none) = some k' ∧ k = !k' := by
      obtain ⟨a', b', e1, e2, e3⟩ := two_data (f := fun x y => (inD x y).map (!·)) e
      obtain ⟨k', e4, e5⟩ := Option.map_eq_some_iff.mp e3
      exact ⟨k', by rw [e1, e2]; exact e4, e5.symm⟩
    obtain ⟨k', e0, rfl⟩ := e0
    obtain ⟨a', b', e1, e2, e3⟩ := two_data (f := fun x y => inD x y) e0
    rcases in_of L ra rb e1 e2 e3 with ⟨p, xs, rfl, h1, h2, h3, h4⟩ | ⟨d, ds, h1, h2, h3, h4, h5⟩ | ⟨c, z, rfl, rfl, h1⟩
    · subst h4
      exact op_notIn_seq pins s σ H _ _ v u Q I rx ry ⟨p, xs, rfl, .inr (by rw [eK]; exact h1), h2, h3, q⟩
    · subst h5
      exact op_notInD hu pins s σ H _ _ v u Q I rx ry ⟨d, ds, by rw [eK]; exact h1, by rw [eK]; exact h2, h3, h4, q⟩
    · subst h1
      exact op_notIn_sign pins s σ H _ _ v u Q I rx ry ⟨c, z, rfl, rfl, q⟩
end
end Pf

end
section
/-! Snd3: built-in functions on values. -/
namespace Pf
open PySem PySem.Spec PyProof.Rows L2
section
variable {T : TT} {X : Cx} {g : Gh} {S : Store} {H : Hp}
/-- a built-in function's value -/
def biVal : BI → Value
  | .len => .builtin "len"
  | .abs => .builtin "abs"
  | .all => .builtin "all"
  | .any => .builtin "any"
  | .tuple => .type "tuple"
  | .int => .type "int"
  | .bool => .type "bool"
  | .str => .type "str"
  | .sum => .builtin "sum"
  | .sorted => .builtin "sorted"
  | .max1 => .builtin "max"
  | .min1 => .builtin "min"
  | .max2 => .builtin "max"
  | .min2 => .builtin "min"
def rBi (T : TT) (b : BI) : List V → Hp → VK → Prop := fun xs H Q => ∃ (g : Gh) (S : Store) (as : List D) (d : D), Lies T g S H ∧ RVs T.K g xs as ∧ biD S b as = some d ∧ Mk T g S d H Q
theorem bools_of {K : PySem.W.Frag} : ∀ {vs : List V} {ds : List D} {bs : List Bool}, RVs K g vs ds → boolAll ds = some bs → vs = bs.map V.bl
  | _, _, _, .nil, e => by
    cases e
    rfl
  | _, _, _, .cons (d := d) h r, e => by
    cases h with
    | bl b =>
      obtain ⟨bs', e1, e2⟩ := Option.map_eq_some_iff.mp (show (boolAll _).map (b :: ·) = some _ from e)
      subst e2
      rw [bools_of r e1]
      rfl
    | _ => cases e
theorem ints_of {K : PySem.W.Frag} : ∀ {vs : List V} {ds : List D} {is : List Int}, RVs K g vs ds → intAll ds = some is → vs = is.map V.int
  | _, _, _, .nil, e => by
    cases e
    rfl
  | _, _, _, .cons (d := d) h r, e => by
    cases h with
    | int b =>
      obtain ⟨bs', e1, e2⟩ := Option.map_eq_some_iff.mp (show (intAll _).map (b :: ·) = some _ from e)
      subst e2
      rw [ints_of r e1]
      rfl
    | _ => cases e
theorem strs_of {K : PySem.W.Frag} : ∀ {vs : List V} {ds : List D} {ss : List (List Nat)}, RVs K g vs ds → strAll ds = some ss → vs = (ss.map toS).map V.str
  | _, _, _, .nil, e => by
    cases e
    rfl
  | _, _, _, .cons (d := d) h r, e => by
    cases h with
    | str b =>
      obtain ⟨bs', e1, e2⟩ := Option.map_eq_some_iff.mp (show (strAll _).map (b :: ·) = some _ from e)
      subst e2
      rw [strs_of r e1]
      rfl
    | _ => cases e
theorem one_of {K : PySem.W.Frag} {vs : List V} {d : D} (r : RVs K g vs [d]) : ∃ v, vs = [v] ∧ RV K g v d := by
  cases r with
  | cons h r => cases r; exact ⟨_, rfl, h⟩
theorem two_of {K : PySem.W.Frag} {vs : List V} {d e : D} (r : RVs K g vs [d, e]) : ∃ v w, vs = [v, w] ∧ RV K g v d ∧ RV K g w e := by
  cases r with
  | cons h r => cases r with
    | cons h' r => cases r; exact ⟨_, _, rfl, h, h'⟩
theorem len_str {s : List Nat} : (toS s).length = s.length := by
  show s.toArray.size = _
  rw [List.size_toArray]
theorem bi_ok (eK : X.K = T.K) (hc : X.calm = true) (b : BI) (hs : b ≠ .sorted) : CallR X (biVal b) (rBi T b) := by
  intro pins s σ H xs us Q I r h
  obtain ⟨g, S, as, d, L, rs, e, m⟩ := h
  cases b with
  | len =>
    cases as with
    | nil => cases e
    | cons a as => cases as with
      | cons _ _ => cases e
      | nil =>
        obtain ⟨v, rfl, rv⟩ := one_of rs
        have e : lenV (rd S a) = some d := e
        have q := rd_of L rv
        revert e q
        generalize rd S a = w
        intro e q
        rcases q with q | ⟨n, q⟩
        · cases q with
          | lst h rl =>
            cases e
            refine call_len pins s σ H _ us Q I r ⟨_, _, rfl, .inl ⟨_, by rw [eK]; exact h, rfl⟩, ?_⟩
            rw [rl.length]
            exact m.at L (.int _)
          | tup h rl =>
            cases e
            refine call_len pins s σ H _ us Q I r ⟨_, _, rfl, .inr ⟨_, by rw [eK]; exact h, rfl⟩, ?_⟩
            rw [rl.length]
            exact m.at L (.int _)
          | str s =>
            have e : (if s.length ≤ line then some (D.int s.length) else none) = some d := e
            split at e
            · rename_i hl
              cases e
              refine call_len pins _ σ H _ us Q I r ⟨_, _, rfl, ⟨by rw [len_str]; exact line_le hl, rfl⟩, ?_⟩
              rw [len_str]
              exact m.at L (.int _)
            · cases e
          | flat f r' =>
            cases r' <;> first | (cases f; done) | (cases e; done) | skip
            rename_i s'
            have e : (if s'.length ≤ line then some (D.int s'.length) else none) = some d := e
            split at e
            · rename_i hl
              cases e
              refine call_len pins _ σ H _ us Q I r ⟨_, _, rfl, ⟨by rw [len_str]; exact line_le hl, rfl⟩, ?_⟩
              rw [len_str]
              exact m.at L (.int _)
            · cases e
        · subst q
          cases e
  | abs =>
    cases as with
    | nil => cases e
    | cons a as => cases as with
      | cons _ _ => cases a <;> cases e
      | nil =>
        obtain ⟨v, rfl, rv⟩ := one_of rs
        cases rv <;> first | (cases e; done) | skip
        cases e
        exact call_abs pins s σ H _ us Q I r ⟨_, rfl, m.at L (.int _)⟩
  | all =>
    cases as with
    | nil => cases e
    | cons a as => cases as with
      | cons _ _ => cases a <;> cases e
      | nil =>
        obtain ⟨v, rfl, rv⟩ := one_of rs
        cases rv with
        | lst h rl =>
          obtain ⟨bs, e1, e2⟩ := Option.map_eq_some_iff.mp (show (boolAll _).map (fun bs => D.bl (bs.all id)) = some _ from e)
          subst e2
          have e3 := bools_of rl e1
          subst e3
          exact cr_all hc pins s σ H _ us Q I r ⟨_, bs, rfl, by rw [eK]; exact SqL.of (L.at h), m.at L (.bl _)⟩
        | _ => cases e
  | any =>
    cases as with
    | nil => cases e
    | cons a as => cases as with
      | cons _ _ => cases a <;> cases e
      | nil =>
        obtain ⟨v, rfl, rv⟩ := one_of rs
        cases rv with
        | lst h rl =>
          obtain ⟨bs, e1, e2⟩ := Option.map_eq_some_iff.mp (show (boolAll _).map (fun bs => D.bl (bs.any id)) = some _ from e)
          subst e2
          have e3 := bools_of rl e1
          subst e3
          exact cr_any hc pins s σ H _ us Q I r ⟨_, bs, rfl, by rw [eK]; exact SqL.of (L.at h), m.at L (.bl _)⟩
        | _ => cases e
  | tuple =>
    cases as with
    | nil => cases e
    | cons a as => cases as with
      | cons _ _ => cases a <;> cases e
      | nil =>
        obtain ⟨v, rfl, rv⟩ := one_of rs
        cases rv with
        | lst h rl =>
          cases e
          exact call_tuple_of pins s σ H _ us Q I r ⟨_, _, rfl, .inl ⟨by rw [eK]; exact SqL.of (L.at h), m.tup L rl⟩⟩
        | tup h rl =>
          cases e
          exact call_tuple_of pins s σ H _ us Q I r ⟨_, _, rfl, .inr ⟨by rw [eK]; exact L.sqT h, m.at L (.tup h rl)⟩⟩
        | _ => cases e
  | int =>
    cases as with
    | nil => cases e
    | cons a as => cases as with
      | cons _ _ => cases a <;> cases e
      | nil =>
        obtain ⟨v, rfl, rv⟩ := one_of rs
        cases rv with
        | int i =>
          cases e
          exact call_int1 pins s σ H _ us Q I r (.inl ⟨_, rfl, m.at L (.int _)⟩)
        | bl b =>
          cases e
          exact call_int1 pins s σ H _ us Q I r (.inr ⟨_, rfl, m.at L (.int _)⟩)
        | str w =>
          obtain ⟨n, e1, e2⟩ := Option.map_eq_some_iff.mp (show (readInt w).map D.int = some _ from e)
          subst e2
          unfold readInt at e1
          split at e1
          · rename_i hl
            exact call_int_str pins s σ H _ us Q I r ⟨_, n, rfl, e1, by rw [len_str]; exact hl, m.at L (.int _)⟩
          · cases e1
        | _ => cases e
  | bool =>
    cases as with
    | nil => cases e
    | cons a as => cases as with
      | cons _ _ => cases a <;> cases e
      | nil =>
        obtain ⟨v, rfl, rv⟩ := one_of rs
        cases rv <;> first | (cases e; done) | skip
        cases e
        exact call_bool1 pins s σ H _ us Q I r (.inr ⟨_, rfl, m.at L (.bl _)⟩)
  | str =>
    cases as with
    | nil => cases e
    | cons a as => cases as with
      | cons _ _ => cases a <;> cases e
      | nil =>
        obtain ⟨v, rfl, rv⟩ := one_of rs
        cases rv with
        | int i =>
          have e : (if i.natAbs.log2 < 1920 then some (D.str (showInt i)) else none) = some d := e
          split at e
          · rename_i hl
            cases e
            have e2 : (Str.ofString (toString i)) = toS (showInt i) := Str.ofString_eq_toList _
            exact call_str_int pins s σ H _ us Q I r ⟨i, rfl, hl, by rw [e2]; exact m.at L (.str _)⟩
          · cases e
        | str w =>
          cases e
          exact SkE.call_str_str pins s σ H _ us Q I r ⟨_, rfl, m.at L (.str _)⟩
        | _ => cases e
  | sum =>
    cases as with
    | nil => cases e
    | cons a as => cases as with
      | cons _ _ => cases a <;> cases e
      | nil =>
        obtain ⟨v, rfl, rv⟩ := one_of rs
        cases rv with
        | lst h rl =>
          obtain ⟨bs, e1, e2⟩ := Option.map_eq_some_iff.mp (show (intAll _).map (fun is => D.int is.sum) = some _ from e)
          subst e2
          have e3 := ints_of rl e1
          subst e3
          exact cr_sum hc pins s σ H _ us Q I r ⟨_, bs, rfl, by rw [eK]; exact SqL.of (L.at h), m.at L (.int _)⟩
        | _ => cases e
  | sorted => exact (hs rfl).elim
  | max1 => cases as <;> cases e
  | min1 => cases as <;> cases e
  | max2 =>
    cases as with
    | nil => cases e
    | cons a as => cases as with
      | nil => cases a <;> cases e
      | cons b as => cases as with
        | cons _ _ => cases a <;> cases b <;> cases e
        | nil =>
          obtain ⟨v, w, rfl, rv, rw'⟩ := two_of rs
          cases rv <;> cases rw' <;> first | (cases e; done) | skip
          cases e
          exact call_max2 hc pins s σ H _ us Q I r ⟨_, _, rfl, m.at L (.int _)⟩
  | min2 =>
    cases as with
    | nil => cases e
    | cons a as => cases as with
      | nil => cases a <;> cases e
      | cons b as => cases as with
        | cons _ _ => cases a <;> cases b <;> cases e
        | nil =>
          obtain ⟨v, w, rfl, rv, rw'⟩ := two_of rs
          cases rv <;> cases rw' <;> first | (cases e; done) | skip
          cases e
          exact call_min2 hc pins s σ H _ us Q I r ⟨_, _, rfl, m.at L (.int _)⟩
/-! ### indexes, slices -/
def rIxD (T : TT) : R2 := fun x y H Q => ∃ (g : Gh) (S : Store) (a b d : D), Lies T g S H ∧ RV T.K g x a ∧ RV T.K g y b ∧ ixD S a b = some d ∧ Mk T g S d H Q
theorem place_ix {n : Nat} {i : Int} : place n i = ixN n i := by
  unfold place ixN
  by_cases h : 0 ≤ i
  · rw [if_pos h, if_pos h]
  · rw [if_neg h, if_neg h]
    by_cases h2 : 0 ≤ i + n
    · rw [if_pos h2, if_pos (by omega)]
    · rw [if_neg h2, if_neg (by omega)]
theorem ix_ok (eK : X.K = T.K) : IxR X (rIxD T) := by
  intro value slice pins s σ H x y v u Q I rx ry h hs
  obtain ⟨g, S, a, b, d, L, ra, rb, e, m⟩ := h
  have go : ∀ {vs : List V} {ds : List D} {k : Int}, RVs T.K g vs ds → ((place ds.length k).bind fun j => ds[j]?) = some d → ∃ w, atI vs k = some w ∧ RV T.K g w d := fun {vs ds k} rs e => by
    obtain ⟨j, e1, e2⟩ := Option.bind_eq_some_iff.mp e
    obtain ⟨w, e3, e4⟩ := rs.get e2
    refine ⟨w, ?_, e4⟩
    unfold atI
    rw [rs.length, ← place_ix, e1]
    exact e3
  have q := rd_of L ra
  have e : ixV (rd S a) b = some d := e
  revert e q
  generalize rd S a = w
  intro q e
  have strX : ∀ {t : List Nat} {k : Int}, x = .str (toS t) → (if t.length ≤ line then ((place t.length k).bind fun j => t[j]?).map fun c => D.str [c] else none) = some d → y = .int k → wpAny (model X.prog X.w) X.A (subscriptTail value slice v u) (EP X pins σ Q) X.xe s := fun {t k} ex e ey => by
    subst ex ey
    split at e
    · rename_i hl
      obtain ⟨c, e1, e2⟩ := Option.map_eq_some_iff.mp e
      subst e2
      obtain ⟨j, e3, e4⟩ := Option.bind_eq_some_iff.mp e1
      refine ix_str value slice pins s σ H _ _ v u Q I rx ry ⟨toS t, k, c, rfl, rfl, by rw [len_str]; exact line_le hl, ?_, m.at L (.str [c])⟩ hs
      unfold atI
      have e5 : (toS t).cps.toList = t := by
        show t.toArray.toList = t
        simp
      rw [e5, ← place_ix, e3]
      exact e4
    · cases e
  rcases q with q | ⟨n, q⟩
  · cases rb <;> first | (cases w <;> cases e; done) | skip
    rename_i k
    cases q with
    | lst h rl =>
      obtain ⟨w, e1, e2⟩ := go rl e
      exact ix_list value slice pins s σ H _ _ v u Q I rx ry ⟨_, _, _, w, rfl, rfl, by rw [eK]; exact h, e1, m.at L e2⟩ hs
    | tup h rl =>
      obtain ⟨w, e1, e2⟩ := go rl e
      exact ix_tup value slice pins s σ H _ _ v u Q I rx ry ⟨_, _, _, w, rfl, rfl, by rw [eK]; exact h, e1, m.at L e2⟩ hs
    | str t => exact strX rfl e rfl
    | flat f r' =>
      cases r' <;> first | (cases f; done) | (cases e; done) | skip
      exact strX rfl e rfl
  · subst q
    cases b <;> cases e
/-- a slice -/
def rSlD (T : TT) : V → Option Int → Option Int → Hp → VK → Prop := fun x lo hi H Q => ∃ (g : Gh) (S : Store) (a d : D), Lies T g S H ∧ RV T.K g x a ∧ slD S a lo hi = some d ∧ Mk T g S d H Q
theorem RVs.cut {K : PySem.W.Frag} {vs : List V} {ds : List D} (r : RVs K g vs ds) (lo hi : Option Int) : RVs K g (cutV vs lo hi) (Pf.cut ds lo hi) := by
  unfold cutV Pf.cut
  rw [r.length]
  exact (r.drop _).take _
theorem sl_ok (eK : X.K = T.K) : SlR X (rSlD T) := by
  intro pins s σ H x v vl vu lo hi sl Q I rx hs pl pu h
  obtain ⟨g, S, a, d, L, ra, e, m⟩ := h
  have q := rd_of L ra
  have e : slV (rd S a) lo hi = some d := e
  have whole : ∀ a', rd S a = .tup a' → a = .tup a' := fun a' h => by
    cases a with
    | ref n =>
      simp only [rd] at h
      split at h <;> cases h
    | scr xs => cases h
    | tup xs => exact h
    | _ => cases h
  revert e q whole
  generalize rd S a = w
  intro q e whole
  have strX : ∀ {t : List Nat}, x = .str (toS t) → (if t.length ≤ line then some (D.str (cut t lo hi)) else none) = some d →
      ∃ T id, typeLookup (.type T) "__getitem__" = pure (some (.builtin id)) ∧ s.TypeIs v T ∧ wpAny (model X.prog X.w) X.A (getItem v (.ref sl)) (EP X pins σ Q) X.xe s := fun {t} ex e => by
    subst ex
    split at e
    · rename_i hl
      cases e
      refine sl_str pins s σ H _ v vl vu lo hi sl Q I rx hs pl pu ⟨toS t, rfl, by rw [len_str]; exact line_le hl, ?_⟩
      have e5 : cutS (toS t) lo hi = toS (cut t lo hi) := by
        unfold cutS cut
        rw [len_str]
        have e6 : (toS t).cps.toList = t := by
          show t.toArray.toList = t
          simp
        rw [e6]
        rfl
      rw [e5]
      exact m.at L (.str _)
    · cases e
  rcases q with q | ⟨n, q⟩
  · cases q with
    | lst h rl =>
      cases e
      exact sl_list pins s σ H _ v vl vu lo hi sl Q I rx hs pl pu ⟨_, _, rfl, by rw [eK]; exact h, m.lst L (rl.cut lo hi)⟩
    | tup h rl =>
      cases e
      have ea := whole _ rfl
      refine sl_tupA pins s σ H _ v vl vu lo hi sl Q I rx hs pl pu ⟨_, _, rfl, by rw [eK]; exact h, fun z => ?_, fun _ => m.tup L (rl.cut lo hi)⟩
      refine m.at L ?_
      rename_i vs ds
      have e7 : cut ds lo hi = ds := by
        unfold cut
        rw [← rl.length, z.1, z.2, List.drop_zero, Nat.sub_zero, rl.length, List.take_length]
      rw [e7, ← ea]
      exact ra
    | str t => exact strX rfl e
    | flat f r' =>
      cases r' <;> first | (cases f; done) | (cases e; done) | skip
      exact strX rfl e
  · subst q
    cases e
end
end Pf

end
section
/-! Snd4: expressions, case by case. -/
namespace Pf
open PySem PySem.Spec PyProof.Rows L2
section
variable {T : TT} {X : Cx} {W : WX} {g : Gh} {S : Store} {H : Hp} {σ : L2.St} {α β : Type} {rel : Gh → β → α → Prop} {Q : β → Hp → Prop}
theorem pe_imp {e : Expr} {t t' : TE} (h : PE X e t) (q : ∀ σ H Q, t' σ H Q → t σ H Q) : PE X e t' := ⟨fun pins s σ H Q I w => h.run pins s σ H Q I (q _ _ _ w)⟩
theorem pt_imp {e : Expr} {t t' : L2.TT} (h : PT X e t) (q : ∀ σ H Q, t' σ H Q → t σ H Q) : PT X e t' := ⟨fun pins s σ H Q I w => h.run pins s σ H Q I (q _ _ _ w)⟩
theorem pa_imp {es : List Expr} {t t' : TA} (h : PA X es t) (q : ∀ σ H Q, t' σ H Q → t σ H Q) : PA X es t' := ⟨fun pos pins s σ H Q I w => h.run pos pins s σ H Q I (q _ _ _ w)⟩
/-- one evaluated, then the rest -/
theorem Rd.one {α' β' : Type} {rel1 : Gh → β' → α' → Prop} {ma : Env → Store → Res α'} {k : Env → α' → Store → Res α} (h : Rd T W rel (fun e S => (ma e S).bind (k e)) σ H Q) :
    Rd T W rel1 ma σ H fun v H1 => ∃ g e S a, Lies T g S H1 ∧ ER T g σ e ∧ rel1 g v a ∧ Post T W rel g σ (k e a S) Q := by
  obtain ⟨g, e, S, L, r, p⟩ := h
  refine ⟨g, e, S, L, r, (p.bind (rel1 := rel1)).imp fun v H1 ⟨g1, d, S1, l, L1, m, p1⟩ => ⟨g1, e, S1, d, L1, r.mono l, m, p1⟩⟩
/-- two evaluated, then the rest -/
theorem Rd.two {α' β' α2 β2 : Type} {rel1 : Gh → β' → α' → Prop} {rel2 : Gh → β2 → α2 → Prop} {ma : Env → Store → Res α'} {mb : Env → Store → Res α2} {k : Env → α' → α2 → Store → Res α}
    (mono : ∀ g g' v a, Le g g' → rel1 g v a → rel1 g' v a) (h : Rd T W rel (fun e S => (ma e S).bind fun x S1 => (mb e S1).bind fun y S2 => k e x y S2) σ H Q) :
    Rd T W rel1 ma σ H fun v H1 => Rd T W rel2 mb σ H1 fun w H2 => ∃ g e S a b, Lies T g S H2 ∧ ER T g σ e ∧ rel1 g v a ∧ rel2 g w b ∧ Post T W rel g σ (k e a b S) Q := by
  obtain ⟨g, e, S, L, r, p⟩ := h
  refine ⟨g, e, S, L, r, (p.bind (rel1 := rel1)).imp fun v H1 ⟨g1, d, S1, l, L1, m, p1⟩ => ?_⟩
  exact ⟨g1, e, S1, L1, r.mono l, (p1.bind (rel1 := rel2)).imp fun w H2 ⟨g2, d2, S2, l2, L2', m2, p2⟩ => ⟨g2, e, S2, d, d2, L2', (r.mono l).mono l2, mono _ _ _ _ l2 m, m2, p2⟩⟩
theorem Rd_imp {m : Env → Store → Res α} {Q' : β → Hp → Prop} (h : Rd T W rel m σ H Q) (q : ∀ v H, Q v H → Q' v H) : Rd T W rel m σ H Q' := by
  obtain ⟨g, e, S, L, r, p⟩ := h
  exact ⟨g, e, S, L, r, p.imp q⟩
theorem rv_mono (g g' : Gh) (v : V) (a : D) (l : Le g g') (r : RV T.K g v a) : RV T.K g' v a := r.mono l
theorem Mk.of {d : D} {QV : VK} (p : Post T W (RV T.K) g σ (.ok d S) QV) : Mk T g S d H QV := p

/-- a new list, of either kind -/
theorem new_list {live : Bool} {ds : List D} {vs : List V} {QV : VK} (p : Post T W (RV T.K) g σ (newL live ds S) QV) (L : Lies T g S H) (r : RVs T.K g vs ds) : ∀ q, H q = none → QV (.ref q) (upd H q (.lst vs)) := by
  cases live with
  | false => exact Mk.lst (T := T) (g := g) (S := S) p L r
  | true =>
    intro q hq
    have p : Post T W (RV T.K) g σ (if ds.all pl then Res.ok (D.ref S.length) (S ++ [.lst ds]) else .bad) QV := p
    split at p
    · rename_i hpl
      refine p (g.addB q) _ _ Le.addB (L.newB hq r (List.all_eq_true.mp hpl)) (.ref ?_)
      show (g.β ++ [q])[S.length]? = some q
      rw [← L.len]
      simp
    · exact p.elim

/-! ### the context -/
structure XOk (T : TT) (k : Nat) (c : CC) (X : Cx) (W : WX) : Prop where
  eP : X.prog = T.prog
  eW : X.w = T.w
  eK : X.K = T.K
  eM : X.mg = T.mg
  eB : X.base = T.base
  N : X.N = c.N
  nd : c.N.Nodup
  sc : X.env.scope = c.sc
  kf : c.sc.kind = .function
  calm : X.calm = true
  room : Room k X.A
  tk : L2N.Takes X W
  po : PassesOwn (model X.prog X.w) X.A X.env X.xe
  as : ∀ x ∈ c.asg, Loc c.sc x ∧ (X.fn x = true ∨ c.sc.names.lookup x = some .local)
  lam : c.lam = true → ∃ cA P, X.env.code = .ref cA ∧ LamX.TabB T.base T.mg cA P ∧ (P, X.env.qual ++ "<lambda>") ∈ T.tabs ∧ ∀ p ∈ T.tabs, p.1 = P → p.2 = X.env.qual ++ "<lambda>"
/-- the built-in names -/
def blts : List Str := ["len", "abs", "all", "any", "tuple", "int", "bool", "str", "sum", "sorted", "max", "min", "list", "isinstance", "range", "enumerate", "zip"]
/-- what a def at a level promises: what callN tells -/
def spN (T : TT) (k i : Nat) : Sp := fun vs H Q E => ∃ (g : Gh) (S : Store) (ds : List D), Lies T g S H ∧ RVs T.K g vs ds ∧ Post T (fun c d _ H => E c d H) (RV T.K) g [] (callN T.P T.G k i ds S) Q
structure SF (T : TT) (c : CC) (k : Nat) : Prop where
  bl : ∀ x ∈ blts, T.mg x = none
  gi : ∀ p ∈ c.gints, ∃ t, T.mg (toS p.1) = some (.int p.2 t)
  fn : ∀ (i : Nat) (x : Str), c.fns[i]? = some x → ∃ (f : Addr) (fd : FuncData) (ps : List Str), T.mg x = some (.ref f) ∧ PySem.W.keepIn T.K (.ref f) = true ∧ L2.Binds T.K fd ps [] ∧ FnOk T.prog T.w T.K T.mg T.base (L2N.CX T.prog T.w) k f fd ps (spN T k i)
  ex : ∀ (i : Nat) (x : Str), c.excs[i]? = some x → T.mg x = some (.ref (T.cls i)) ∧ PySem.W.excIn T.K (T.cls i) He.veBase "ValueError.__new__" = true ∧ PySem.W.keepIn T.K (.ref (T.cls i)) = true ∧
    PySem.W.subIn T.K (.ref (T.cls i)) (.type "BaseException") = some true ∧ PySem.W.typeIn T.K (.ref (T.cls i)) = some (.type "type")

abbrev relB : Gh → Bool → Bool → Prop := fun _ b k => b = k
/-! ### names and constants -/
variable {k : Nat} {c : CC}
theorem XOk.gl (O : XOk T k c X W) {x : Str} (h : c.gl x = true) : Gl X x ∧ (x == ("__debug__" : Str)) = false := by
  obtain ⟨h1, h2⟩ := and2 h
  refine ⟨?_, by simpa using h2⟩
  show X.env.scope.names.lookup x = _
  rw [O.sc]
  exact of_decide_eq_true h1
theorem XOk.hN (O : XOk T k c X W) {x : Str} {i : Nat} (h : c.N[i]? = some x) : X.N[i]? = some x := by rw [O.N]; exact h
theorem dbg_of {x : Str} (h : dbg x = true) : (x == ("__debug__" : Str)) = false ∧ (x == ("__classdict__" : Str)) = false := by
  obtain ⟨h1, h2⟩ := and2 h
  exact ⟨by simpa using h1, by simpa using h2⟩
theorem vis_of (O : XOk T k c X W) {x : Str} (h : c.vis x = true) : Vis X.env.scope x := by
  rw [O.sc]
  unfold CC.vis at h
  split at h
  · exact .inl (by assumption)
  · exact .inr (.inl (by assumption))
  · exact .inr (.inr (by assumption))
  · cases h
theorem c_name (O : XOk T k c X W) {x : Str} {i : Nat} {pos : Pos} (h : c.nm i x = true) : PE X (.Name x pos) (tVar i) := by
  obtain ⟨h1, h⟩ := and2 h
  obtain ⟨h2, h3⟩ := and2 h
  obtain ⟨h4, h5⟩ := dbg_of h3
  exact pe_var (O.hN (of_decide_eq_true h1)) (vis_of O h2) h4 h5
theorem c_var (O : XOk T k c X W) {x : Str} {i : Nat} {pos : Pos} (h : c.nm i x = true) : PE X (.Name x pos) (tE T W fun e S => match e[i]? with
    | some (some d) => .ok d S
    | _ => .bad) := by
  refine pe_imp (c_name O h) fun σ H Q q => ?_
  obtain ⟨g, e, S, L, r, p⟩ := q
  dsimp only at p
  cases he : e[i]? with
  | none =>
    rw [he] at p
    exact p.elim
  | some od => cases od with
    | none =>
      rw [he] at p
      exact p.elim
    | some d =>
      rw [he] at p
      obtain ⟨v, h1, h2⟩ := r.2 i d he
      exact ⟨v, h1, p.ok L h2⟩
theorem c_const {d : D} {v : V} {e : Expr} (h : PE X e (tC v)) (r : ∀ g, RV T.K g v d) : PE X e (tE T W fun _ S => .ok d S) := by
  refine pe_imp h fun σ H Q q => ?_
  obtain ⟨g, e, S, L, _, p⟩ := q
  exact p.ok L (r g)
/-! ### operators -/
theorem c_bin (O : XOk T k c X W) {a b : Expr} {ma mb : Env → Store → Res D} {o : Op} {pos : Pos} (ha : PE X a (tE T W ma)) (hb : PE X b (tE T W mb)) :
    PE X (.BinOp a (opOf o) b pos) (tE T W fun e S => (ma e S).bind fun x S1 => (mb e S1).bind fun y S2 => .ofO (binD o x y) S2) := by
  refine pe_imp (pe_op (op_bin O.eK o) ha hb) fun σ H Q q => ?_
  refine Rd_imp (q.two rv_mono) fun v H1 q1 => Rd_imp q1 fun w H2 ⟨g, e, S, x, y, L, _, r1, r2, p⟩ => ?_
  obtain ⟨d, e1, p1⟩ := p.ofO
  exact ⟨g, S, x, y, d, L, r1, r2, e1, p1⟩
theorem c_neg (O : XOk T k c X W) {a : Expr} {ma : Env → Store → Res D} {pos : Pos} (ha : PE X a (tE T W ma)) :
    PE X (.UnaryOp .USub a pos) (tE T W fun e S => (ma e S).bind fun d S1 => match d with
      | .int i => .ok (.int (-i)) S1
      | _ => .bad) := by
  refine pe_imp (pe_un un_neg ha) fun σ H Q q => ?_
  refine Rd_imp (Rd.one (rel1 := RV T.K) q) fun v H1 h1 => ?_
  obtain ⟨g, e, S, x, L, _, r1, p⟩ := h1
  cases r1 <;> first | (exact p.elim) | skip
  exact ⟨_, rfl, p.ok L (.int _)⟩
theorem c_not (O : XOk T k c X W) {a : Expr} {ma : Env → Store → Res D} {pos : Pos} (ha : PE X a (tE T W ma)) :
    PE X (.UnaryOp .Not a pos) (tE T W fun e S => (ma e S).bind fun d S1 => match d with
      | .bl b => .ok (.bl (!b)) S1
      | _ => .bad) := by
  refine pe_imp (pe_not ha) fun σ H Q q => ?_
  refine Rd_imp (Rd.one (rel1 := RV T.K) q) fun v H1 h1 => ?_
  obtain ⟨g, e, S, x, L, _, r1, p⟩ := h1
  cases r1 <;> first | (exact p.elim) | skip
  exact ⟨_, rfl, p.ok L (.bl _)⟩
theorem mark_of {b : Expr} {op : CmpOp} (h : notSet b = true) : behindInMarks op b = false := by
  cases b <;> first | rfl | cases h
/-- what a comparison's end asks -/
theorem cmp_end {o : Cm} {x y : D} {v w : V} {QV : VK} (L : Lies T g S H) (r1 : RV T.K g v x) (r2 : RV T.K g w y) (p : Post T W (RV T.K) g σ ((Res.ofO (cmpD S o x y) S).bind fun k S3 => .ok (D.bl k) S3) QV) : rCmp T o v w H QV := by
  cases e : cmpD S o x y with
  | none =>
    rw [e] at p
    exact p.elim
  | some k =>
    rw [e] at p
    exact ⟨g, S, x, y, k, L, r1, r2, e, Post.ok (d := D.bl k) p L (.bl k)⟩
theorem XOk.u65 (O : XOk T k c X W) : X.A.units + 65 < cLine := by
  have := O.room.un
  omega
theorem c_cmp (O : XOk T k c X W) {a b : Expr} {ma mb : Env → Store → Res D} {o : CmpOp} {pos : Pos} (ha : PE X a (tE T W ma)) (hb : PE X b (tE T W mb)) (hm : notSet b = true) :
    PE X (.Compare a [o] [b] pos) (tE T W fun e S => (ma e S).bind fun x S1 => (mb e S1).bind fun y S2 => (Res.ofO (cmpD S2 (cmOf o) x y) S2).bind fun k S3 => .ok (.bl k) S3) := by
  refine pe_imp (pe_cmpR (op_cmp O.eK O.u65 o) ha hb (mark_of hm)) fun σ H Q q => ?_
  refine Rd_imp (q.two rv_mono) fun v H1 q1 => Rd_imp q1 fun w H2 ⟨g, e, S, x, y, L, _, r1, r2, p⟩ => cmp_end L r1 r2 p
theorem c_cmpT (O : XOk T k c X W) {a b : Expr} {ma mb : Env → Store → Res D} {o : CmpOp} {pos : Pos} (ha : PE X a (tE T W ma)) (hb : PE X b (tE T W mb)) (hm : notSet b = true) :
    PT X (.Compare a [o] [b] pos) (tT T W fun e S => ((ma e S).bind fun x S1 => (mb e S1).bind fun y S2 => (Res.ofO (cmpD S2 (cmOf o) x y) S2).bind fun k S3 => .ok (D.bl k) S3).bind fun d S1 => match d with
      | .bl b => .ok b S1
      | _ => .bad) := by
  refine pt_imp (pt_cmpR (op_cmp O.eK O.u65 o) ha hb (mark_of hm)) fun σ H Q q => ?_
  have q2 : Rd T W (RV T.K) (fun e S => (ma e S).bind fun x S1 => (mb e S1).bind fun y S2 => (Res.ofO (cmpD S2 (cmOf o) x y) S2).bind fun k S3 => .ok (D.bl k) S3) σ H (fun v H' => ∃ k, v = .bl k ∧ Q k H') := by
    refine Rd_imp (Rd.one (rel1 := RV T.K) q) fun v H1 h1 => ?_
    obtain ⟨g, e, S, x, L, _, r1, p⟩ := h1
    cases r1 <;> first | (exact p.elim) | skip
    exact ⟨_, rfl, p.ok L rfl⟩
  refine Rd_imp (q2.two rv_mono) fun v H1 q1 => Rd_imp q1 fun w H2 ⟨g, e, S, x, y, L, _, r1, r2, p⟩ => cmp_end L r1 r2 p
/-- a value's test -/
theorem c_test (O : XOk T k c X W) {a : Expr} {ma : Env → Store → Res D} (ha : PE X a (tE T W ma)) (hp : plainT a = true) :
    PT X a (tT T W fun e S => (ma e S).bind fun d S1 => match d with
      | .bl b => .ok b S1
      | _ => .bad) := by
  refine pt_imp (pt_val ha (by cases a <;> first | (intro _; rfl) | cases hp)) fun σ H Q q => ?_
  refine Rd_imp (Rd.one (rel1 := RV T.K) q) fun v H1 h1 => ?_
  obtain ⟨g, e, S, x, L, _, r1, p⟩ := h1
  cases r1 <;> first | (exact p.elim) | skip
  exact ⟨_, rfl, p.ok L rfl⟩
/-- and, or as values -/
theorem c_and (O : XOk T k c X W) {a b : Expr} {rest : List Expr} {ma mb : Env → Store → Res D} {pos : Pos} (ha : PE X a (tE T W ma)) (hb : PE X (.BoolOp .And (b :: rest) pos) (tE T W mb)) :
    PE X (.BoolOp .And (a :: b :: rest) pos) (tE T W fun e S => (ma e S).bind fun d S1 => match d with
      | .bl true => mb e S1
      | .bl false => .ok (.bl false) S1
      | _ => .bad) := by
  refine pe_imp (pe_and ha hb) fun σ H Q q => ?_
  refine Rd_imp (Rd.one (rel1 := RV T.K) q) fun v H1 h1 => ?_
  obtain ⟨g, e, S, x, L, r, r1, p⟩ := h1
  cases r1 <;> first | (exact p.elim) | skip
  rename_i z
  cases z with
  | true => exact ⟨true, rfl, g, e, S, L, r, p⟩
  | false => exact ⟨false, rfl, p.ok L (.bl false)⟩
theorem c_or (O : XOk T k c X W) {a b : Expr} {rest : List Expr} {ma mb : Env → Store → Res D} {pos : Pos} (ha : PE X a (tE T W ma)) (hb : PE X (.BoolOp .Or (b :: rest) pos) (tE T W mb)) :
    PE X (.BoolOp .Or (a :: b :: rest) pos) (tE T W fun e S => (ma e S).bind fun d S1 => match d with
      | .bl true => .ok (.bl true) S1
      | .bl false => mb e S1
      | _ => .bad) := by
  refine pe_imp (pe_or ha hb) fun σ H Q q => ?_
  refine Rd_imp (Rd.one (rel1 := RV T.K) q) fun v H1 h1 => ?_
  obtain ⟨g, e, S, x, L, r, r1, p⟩ := h1
  cases r1 <;> first | (exact p.elim) | skip
  rename_i z
  cases z with
  | true => exact ⟨true, rfl, p.ok L (.bl true)⟩
  | false => exact ⟨false, rfl, g, e, S, L, r, p⟩
/-- and, or, not as tests: of the value's reading as a test -/
def asT (m : Env → Store → Res D) : Env → Store → Res Bool := fun e S => (m e S).bind fun d S1 => match d with
  | .bl b => .ok b S1
  | _ => .bad
theorem asT_and {ma mb : Env → Store → Res D} {e : Env} {S : Store} : asT (fun e S => (ma e S).bind fun d S1 => match d with
      | .bl true => mb e S1
      | .bl false => .ok (.bl false) S1
      | _ => .bad) e S = (asT ma e S).bind fun k S1 => match k with
      | true => asT mb e S1
      | false => .ok false S1 := by
  unfold asT
  dsimp only
  generalize ma e S = r
  cases r with
  | ok d S1 => cases d <;> first | rfl | (rename_i b; cases b <;> rfl)
  | exc c S1 => rfl
  | bad => rfl
theorem asT_or {ma mb : Env → Store → Res D} {e : Env} {S : Store} : asT (fun e S => (ma e S).bind fun d S1 => match d with
      | .bl true => .ok (.bl true) S1
      | .bl false => mb e S1
      | _ => .bad) e S = (asT ma e S).bind fun k S1 => match k with
      | true => .ok true S1
      | false => asT mb e S1 := by
  unfold asT
  dsimp only
  generalize ma e S = r
  cases r with
  | ok d S1 => cases d <;> first | rfl | (rename_i b; cases b <;> rfl)
  | exc c S1 => rfl
  | bad => rfl
theorem asT_not {ma : Env → Store → Res D} {e : Env} {S : Store} : asT (fun e S => (ma e S).bind fun d S1 => match d with
      | .bl b => .ok (.bl (!b)) S1
      | _ => .bad) e S = (asT ma e S).bind fun k S1 => .ok (!k) S1 := by
  unfold asT
  dsimp only
  generalize ma e S = r
  cases r with
  | ok d S1 => cases d <;> rfl
  | exc c S1 => rfl
  | bad => rfl
theorem c_andT (O : XOk T k c X W) {a b : Expr} {rest : List Expr} {ma mb : Env → Store → Res D} {pos : Pos} (ha : PT X a (tT T W (asT ma))) (hb : PW X (.BoolOp .And (b :: rest) pos) (tT T W (asT mb))) :
    PW X (.BoolOp .And (a :: b :: rest) pos) (tT T W (asT fun e S => (ma e S).bind fun d S1 => match d with
      | .bl true => mb e S1
      | .bl false => .ok (.bl false) S1
      | _ => .bad)) := by
  refine ⟨fun whole pins s σ H Q I q => (pw_and ha hb).run whole pins s σ H Q I ?_⟩
  obtain ⟨g, e, S, L, r, p⟩ := q
  rw [asT_and] at p
  have q1 : Rd T W relB (fun e S => (asT ma e S).bind fun k S1 => match k with | true => asT mb e S1 | false => .ok false S1) σ H Q := ⟨g, e, S, L, r, p⟩
  refine Rd_imp (Rd.one (rel1 := relB) q1) fun v H1 ⟨g, e, S, x, L, r, r1, p⟩ => ?_
  have r1 : v = x := r1
  subst r1
  cases v with
  | true => exact iteT ⟨g, e, S, L, r, p⟩
  | false => exact iteF (p.ok L rfl)
theorem c_orT (O : XOk T k c X W) {a b : Expr} {rest : List Expr} {ma mb : Env → Store → Res D} {pos : Pos} (ha : PT X a (tT T W (asT ma))) (hb : PW X (.BoolOp .Or (b :: rest) pos) (tT T W (asT mb))) :
    PW X (.BoolOp .Or (a :: b :: rest) pos) (tT T W (asT fun e S => (ma e S).bind fun d S1 => match d with
      | .bl true => .ok (.bl true) S1
      | .bl false => mb e S1
      | _ => .bad)) := by
  refine ⟨fun whole pins s σ H Q I q => (pw_or ha hb).run whole pins s σ H Q I ?_⟩
  obtain ⟨g, e, S, L, r, p⟩ := q
  rw [asT_or] at p
  have q1 : Rd T W relB (fun e S => (asT ma e S).bind fun k S1 => match k with | true => .ok true S1 | false => asT mb e S1) σ H Q := ⟨g, e, S, L, r, p⟩
  refine Rd_imp (Rd.one (rel1 := relB) q1) fun v H1 ⟨g, e, S, x, L, r, r1, p⟩ => ?_
  have r1 : v = x := r1
  subst r1
  cases v with
  | true => exact iteT (p.ok L rfl)
  | false => exact iteF ⟨g, e, S, L, r, p⟩
theorem c_notT (O : XOk T k c X W) {a : Expr} {ma : Env → Store → Res D} {pos : Pos} (ha : PT X a (tT T W (asT ma))) :
    PT X (.UnaryOp .Not a pos) (tT T W (asT fun e S => (ma e S).bind fun d S1 => match d with
      | .bl b => .ok (.bl (!b)) S1
      | _ => .bad)) := by
  refine pt_imp (pt_not ha) fun σ H Q q => ?_
  obtain ⟨g, e, S, L, r, p⟩ := q
  rw [asT_not] at p
  have q1 : Rd T W relB (fun e S => (asT ma e S).bind fun k S1 => .ok (!k) S1) σ H Q := ⟨g, e, S, L, r, p⟩
  refine Rd_imp (Rd.one (rel1 := relB) q1) fun v H1 ⟨g, e, S, x, L, r, r1, p⟩ => ?_
  have r1 : v = x := r1
  subst r1
  exact p.ok L rfl
theorem c_ife (O : XOk T k c X W) {a b d : Expr} {ma mb md : Env → Store → Res D} {pos : Pos} (hd : PT X d (tT T W (asT md))) (ha : PE X a (tE T W ma)) (hb : PE X b (tE T W mb)) :
    PE X (.IfExp d a b pos) (tE T W fun e S => (asT md e S).bind fun k S1 => match k with
      | true => ma e S1
      | false => mb e S1) := by
  refine pe_imp (pe_ifExp hd ha hb) fun σ H Q q => ?_
  refine Rd_imp (Rd.one (rel1 := relB) q) fun v H1 h1 => ?_
  obtain ⟨g, e, S, x, L, r, r1, p⟩ := h1
  have r1 : v = x := r1
  subst r1
  cases v with
  | true => exact iteT ⟨g, e, S, L, r, p⟩
  | false => exact iteF ⟨g, e, S, L, r, p⟩
/-! ### chains -/
theorem c_cmp2 (O : XOk T k c X W) {a b d : Expr} {ma mb md : Env → Store → Res D} {o o' : CmpOp} {pos : Pos} (ha : PE X a (tE T W ma)) (hb : PE X b (tE T W mb)) (hd : PE X d (tE T W md)) (hm : notSet d = true) :
    PE X (.Compare a [o, o'] [b, d] pos) (tE T W fun e S => (ma e S).bind fun x S1 => (mb e S1).bind fun y S2 => (Res.ofO (cmpD S2 (cmOf o) x y) S2).bind fun k S3 => match k with
      | false => .ok (D.bl false) S3
      | true => (md e S3).bind fun z S4 => (Res.ofO (cmpD S4 (cmOf o') y z) S4).bind fun k S5 => .ok (D.bl k) S5) := by
  refine pe_imp (pe_chain (op_cmp O.eK O.u65 o) (op_cmp O.eK O.u65 o') ha hb hd (mark_of hm)) fun σ H Q q => ?_
  refine Rd_imp (q.two rv_mono) fun v H1 q1 => Rd_imp q1 fun w H2 ⟨g, e, S, x, y, L, r, r1, r2, p⟩ => ?_
  cases ek : cmpD S (cmOf o) x y with
  | none =>
    rw [ek] at p
    exact p.elim
  | some k =>
    rw [ek] at p
    refine ⟨g, S, x, y, k, L, r1, r2, ek, k, rfl, ?_⟩
    cases k with
    | false => exact iteF (Post.ok (d := D.bl false) p L (.bl false))
    | true =>
      have p : Post T W (RV T.K) g σ ((md e S).bind fun z S4 => (Res.ofO (cmpD S4 (cmOf o') y z) S4).bind fun k S5 => .ok (D.bl k) S5) Q := p
      exact iteT ⟨g, e, S, L, r, (p.bind (rel1 := RV T.K)).imp fun u H3 ⟨g3, z, S3, l, L3, r3, p3⟩ => cmp_end L3 (r2.mono l) r3 p3⟩
theorem c_cmp2T (O : XOk T k c X W) {a b d : Expr} {ma mb md : Env → Store → Res D} {o o' : CmpOp} {pos : Pos} (ha : PE X a (tE T W ma)) (hb : PE X b (tE T W mb)) (hd : PE X d (tE T W md)) (hm : notSet d = true) :
    PT X (.Compare a [o, o'] [b, d] pos) (tT T W (asT fun e S => (ma e S).bind fun x S1 => (mb e S1).bind fun y S2 => (Res.ofO (cmpD S2 (cmOf o) x y) S2).bind fun k S3 => match k with
      | false => .ok (D.bl false) S3
      | true => (md e S3).bind fun z S4 => (Res.ofO (cmpD S4 (cmOf o') y z) S4).bind fun k S5 => .ok (D.bl k) S5)) := by
  refine pt_imp (pt_chain (op_cmp O.eK O.u65 o) (op_cmp O.eK O.u65 o') ha hb hd (mark_of hm)) fun σ H Q q0 => ?_
  have q : Rd T W (RV T.K) (fun e S => (ma e S).bind fun x S1 => (mb e S1).bind fun y S2 => (Res.ofO (cmpD S2 (cmOf o) x y) S2).bind fun k S3 => match k with
      | false => .ok (D.bl false) S3
      | true => (md e S3).bind fun z S4 => (Res.ofO (cmpD S4 (cmOf o') y z) S4).bind fun k S5 => .ok (D.bl k) S5) σ H (fun v H' => ∃ k, v = .bl k ∧ Q k H') := by
    refine Rd_imp (Rd.one (rel1 := RV T.K) q0) fun v H1 h1 => ?_
    obtain ⟨g, e, S, x, L, _, r1, p⟩ := h1
    cases r1 <;> first | (exact p.elim) | skip
    exact ⟨_, rfl, p.ok L rfl⟩
  refine Rd_imp (q.two rv_mono) fun v H1 q1 => Rd_imp q1 fun w H2 ⟨g, e, S, x, y, L, r, r1, r2, p⟩ => ?_
  cases ek : cmpD S (cmOf o) x y with
  | none =>
    rw [ek] at p
    exact p.elim
  | some k =>
    rw [ek] at p
    refine ⟨g, S, x, y, k, L, r1, r2, ek, k, rfl, ?_⟩
    cases k with
    | false => exact iteF (Post.ok (d := D.bl false) p L (.bl false))
    | true =>
      have p : Post T W (RV T.K) g σ ((md e S).bind fun z S4 => (Res.ofO (cmpD S4 (cmOf o') y z) S4).bind fun k S5 => .ok (D.bl k) S5) _ := p
      exact iteT ⟨g, e, S, L, r, (p.bind (rel1 := RV T.K)).imp fun u H3 ⟨g3, z, S3, l, L3, r3, p3⟩ => cmp_end L3 (r2.mono l) r3 p3⟩
/-- a op1 b op2 d op3 f -/
theorem pe_chain3 {op op' op'' : CmpOp} {r r' r'' : R2} {a b d f : Expr} {ta tb td tf : TE} {pos : Pos} (ho : OpR X (compareOp op) r) (ho' : OpR X (compareOp op') r') (ho'' : OpR X (compareOp op'') r'') (ha : PE X a ta) (hb : PE X b tb) (hd : PE X d td) (hf : PE X f tf)
    (hm : lastMarks [op, op', op''] [b, d, f] = false) : PE X (.Compare a [op, op', op''] [b, d, f] pos) (fun σ H Q => ta σ H fun x H1 => tb σ H1 fun y H2 => r x y H2 fun z H3 => ∃ k, z = .bl k ∧
      (if k = true then td σ H3 fun w H4 => r' y w H4 fun z' H5 => ∃ k, z' = .bl k ∧ (if k = true then tf σ H5 fun u H6 => r'' w u H6 Q else Q (.bl false) H5) else Q (.bl false) H3)) := by
  refine ⟨fun pins s σ H Q I h => ?_⟩
  refine Compare_chain (thn (ha.run pins s σ H _ I h) fun v s1 ⟨x, H1, I1, r1, q1⟩ => chain_link (thn (hb.run pins s1 σ H1 _ I1 q1) fun u s2 ⟨y, H2, I2, r2, q2⟩ =>
    thn (ho pins s2 σ H2 x y v u _ I2 r1 r2 q2) fun c0 s3 ⟨z, H3, I3, r3, k, e, q3⟩ => ?_)) hm
  subst e
  cases r3
  refine wpAny_truthy_bool ?_
  cases k with
  | false => exact ite_ff ⟨.bl false, H3, I3, rfl, q3⟩
  | true =>
    refine ite_tt (chain_link (thn (hd.run pins s3 σ H3 _ I3 q3) fun w' s4 ⟨z', H4, I4, r4, q4⟩ => thn (ho' pins s4 σ H4 y z' u w' _ I4 r2 r4 q4) fun c1 s5 ⟨z2, H5, I5, r5, k2, e2, q5⟩ => ?_))
    subst e2
    cases r5
    refine wpAny_truthy_bool ?_
    cases k2 with
    | false => exact ite_ff ⟨.bl false, H5, I5, rfl, q5⟩
    | true => exact ite_tt (chain_last (thn (hf.run pins s5 σ H5 _ I5 q5) fun w2 s6 ⟨z3, H6, I6, r6, q6⟩ => ho'' pins s6 σ H6 z' z3 w' w2 Q I6 r4 r6 q6))
theorem c_cmp3 (O : XOk T k c X W) {a b d f : Expr} {ma mb md mf : Env → Store → Res D} {o o' o'' : CmpOp} {pos : Pos} (ha : PE X a (tE T W ma)) (hb : PE X b (tE T W mb)) (hd : PE X d (tE T W md)) (hf : PE X f (tE T W mf)) (hm : notSet f = true) :
    PE X (.Compare a [o, o', o''] [b, d, f] pos) (tE T W fun e S => (ma e S).bind fun x S1 => (mb e S1).bind fun y S2 => (Res.ofO (cmpD S2 (cmOf o) x y) S2).bind fun k S3 => match k with
      | false => .ok (D.bl false) S3
      | true => (md e S3).bind fun z S4 => (Res.ofO (cmpD S4 (cmOf o') y z) S4).bind fun k S5 => match k with
        | false => .ok (D.bl false) S5
        | true => (mf e S5).bind fun w S6 => (Res.ofO (cmpD S6 (cmOf o'') z w) S6).bind fun k S7 => .ok (D.bl k) S7) := by
  refine pe_imp (pe_chain3 (op_cmp O.eK O.u65 o) (op_cmp O.eK O.u65 o') (op_cmp O.eK O.u65 o'') ha hb hd hf (mark_of hm)) fun σ H Q q => ?_
  refine Rd_imp (q.two rv_mono) fun v H1 q1 => Rd_imp q1 fun w H2 ⟨g, e, S, x, y, L, r, r1, r2, p⟩ => ?_
  cases ek : cmpD S (cmOf o) x y with
  | none =>
    rw [ek] at p
    exact p.elim
  | some k =>
    rw [ek] at p
    refine ⟨g, S, x, y, k, L, r1, r2, ek, k, rfl, ?_⟩
    cases k with
    | false => exact iteF (Post.ok (d := D.bl false) p L (.bl false))
    | true =>
      have p : Post T W (RV T.K) g σ ((md e S).bind fun z S4 => (Res.ofO (cmpD S4 (cmOf o') y z) S4).bind fun k S5 => match k with
        | false => .ok (D.bl false) S5
        | true => (mf e S5).bind fun w S6 => (Res.ofO (cmpD S6 (cmOf o'') z w) S6).bind fun k S7 => .ok (D.bl k) S7) Q := p
      refine iteT ⟨g, e, S, L, r, (p.bind (rel1 := RV T.K)).imp fun u H3 ⟨g3, z, S3, l, L3, r3, p3⟩ => ?_⟩
      cases ek : cmpD S3 (cmOf o') y z with
      | none =>
        rw [ek] at p3
        exact p3.elim
      | some k =>
        rw [ek] at p3
        refine ⟨g3, S3, y, z, k, L3, r2.mono l, r3, ek, k, rfl, ?_⟩
        cases k with
        | false => exact iteF (Post.ok (d := D.bl false) p3 L3 (.bl false))
        | true =>
          have p3 : Post T W (RV T.K) g3 σ ((mf e S3).bind fun w S6 => (Res.ofO (cmpD S6 (cmOf o'') z w) S6).bind fun k S7 => .ok (D.bl k) S7) Q := p3
          exact iteT ⟨g3, e, S3, L3, r.mono l, (p3.bind (rel1 := RV T.K)).imp fun u H4 ⟨g4, z4, S4, l4, L4, r4, p4⟩ => cmp_end L4 (r3.mono l4) r4 p4⟩
/-! ### argument lists, displays -/
theorem rvs_mono (g g' : Gh) (v : List V) (a : List D) (l : Le g g') (r : RVs T.K g v a) : RVs T.K g' v a := r.mono l
theorem c_nil : PA X [] (tA T W fun _ S => .ok [] S) := pa_imp pa_nil fun σ H Q ⟨g, e, S, L, r, p⟩ => Post.ok (d := []) p L .nil
theorem star_of {e : Expr} {es : List Expr} {env : Env} (h : notStar e = true) : True := trivial
theorem starEach_of {a : Expr} {as : List Expr} {env : PySem.Env} (h : notStar a = true) : starEach (a :: as) env = (false, eval a env) :: starEach as env := by
  cases a <;> first | rfl | cases h
theorem c_cons {a : Expr} {as : List Expr} {ma : Env → Store → Res D} {ms : Env → Store → Res (List D)} (ha : PE X a (tE T W ma)) (hs : PA X as (tA T W ms)) (h : notStar a = true) :
    PA X (a :: as) (tA T W fun e S => (ma e S).bind fun x S1 => (ms e S1).bind fun xs S2 => .ok (x :: xs) S2) := by
  refine pa_imp (pa_cons ha hs (starEach_of h)) fun σ H Q q => ?_
  refine Rd_imp (q.two (rel2 := RVs T.K) rv_mono) fun v H1 q1 => Rd_imp q1 fun w H2 ⟨g, e, S, x, y, L, _, r1, r2, p⟩ => p.ok L (.cons r1 r2)
theorem c_tup (O : XOk T k c X W) {as : List Expr} {ms : Env → Store → Res (List D)} {x1 : Nat} {pos : Pos} (hs : PA X as (tA T W ms)) (hl : ∀ e S ds S', ms e S = .ok ds S' → ds.length ≤ line) :
    PE X (.Tuple as x1 pos) (tE T W fun e S => (ms e S).bind fun xs S1 => .ok (.tup xs) S1) := by
  refine pe_imp (pe_tup hs) fun σ H Q q => ?_
  obtain ⟨g, e, S, L, r, p⟩ := q
  refine ⟨g, e, S, L, r, ?_⟩
  cases em : ms e S with
  | bad =>
    dsimp only at p
    rw [em] at p
    exact p.elim
  | exc c S1 =>
    dsimp only at p
    rw [em] at p
    exact p
  | ok ds S1 =>
    dsimp only at p
    rw [em] at p
    intro g' H' vs l L' rs
    refine ⟨by rw [rs.length]; exact line_le (hl _ _ _ _ em), Mk.tup (T := T) (g := g') (S := S1) (fun g2 H2 v l2 => p g2 H2 v (l.trans l2)) L' rs⟩
theorem c_lst (O : XOk T k c X W) {as : List Expr} {ms : Env → Store → Res (List D)} {live : Bool} {pos : Pos} (hs : PA X as (tA T W ms)) (hl : ∀ e S ds S', ms e S = .ok ds S' → ds.length ≤ line) :
    PE X (.List as pos) (tE T W fun e S => (ms e S).bind fun xs S1 => newL live xs S1) := by
  refine pe_imp (pe_lst hs) fun σ H Q q => ?_
  obtain ⟨g, e, S, L, r, p⟩ := q
  refine ⟨g, e, S, L, r, ?_⟩
  cases em : ms e S with
  | bad =>
    dsimp only at p
    rw [em] at p
    exact p.elim
  | exc c S1 =>
    dsimp only at p
    rw [em] at p
    exact p
  | ok ds S1 =>
    dsimp only at p
    rw [em] at p
    intro g' H' vs l L' rs
    refine ⟨by rw [rs.length]; exact line_le (hl _ _ _ _ em), new_list (p.mono l) L' rs⟩
end
end Pf

end
section
/-! Snd5: subscripts, calls. -/
namespace HT
open PySem PySem.Spec PyProof.Rows
section
variable {prog : Program} {w : World} {A : Around} {E : Value → Shared → Prop} {s : Shared}
theorem sliceApplied_rev {sl : Addr} {vl vu vs : Value} {n : Nat} {Q : Int × Int × Nat → Shared → Prop} (hs : s.heap.IsSliceOf sl vl vu vs) (pl : IsPart vl none) (pu : IsPart vu none) (ps : IsPart vs (some (-1)))
    (h : Q ((n : Int) - 1, -1, n) s) : wpAny (model prog w) A (Builtin.Slice.sliceApplied (.ref sl) (pure (n : Int))) Q E s := by
  obtain ⟨os, hos, hcs, hds⟩ := id hs
  unfold Builtin.Slice.sliceApplied Builtin.Slice.sliceFields
  refine wpAny_bind (wpAny_bind (wpAny_field hos hds (x := vl) rfl (wpAny_bind (wpAny_field hos hds (x := vu) rfl (wpAny_bind (wpAny_field hos hds (x := vs) rfl (wpAny_pure ?_)))))))
  refine wpAny_bind (slicePart_ ps ?_)
  show wpAny _ _ (if ((-1 : Int) == 0) = true then _ else _) _ _ s
  rw [if_neg (by decide)]
  refine wpAny_bind (slicePart_ pl (wpAny_bind (slicePart_ pu (wpAny_bind (wpAny_pure ?_)))))
  show wpAny _ _ (match Builtin.Slice.sliceAdjust none none (-1) (n : Int) with | (lo, hi) => pure (lo, (-1 : Int), Builtin.Slice.slicePlaces lo hi (-1))) _ _ s
  have e1 : Builtin.Slice.sliceAdjust none none (-1) (n : Int) = ((n : Int) - 1, -1) := by
    unfold Builtin.Slice.sliceAdjust
    rfl
  rw [e1]
  show wpAny _ _ (pure ((n : Int) - 1, (-1 : Int), Builtin.Slice.slicePlaces ((n : Int) - 1) (-1) (-1))) _ _ s
  have e2 : Builtin.Slice.slicePlaces ((n : Int) - 1) (-1) (-1) = n := by
    unfold Builtin.Slice.slicePlaces
    have h1 : ¬ ((-1 : Int) > 0) := by omega
    simp only [h1, if_false]
    split <;> first | omega | (simp; done) | (simp; omega)
  rw [e2]
  exact wpAny_pure h
theorem sliceApplied_rev1 {sl : Addr} {vl vu vs : Value} {n : Nat} {Q : Int × Int × Nat → Shared → Prop} (hs : s.heap.IsSliceOf sl vl vu vs) (pl : IsPart vl none) (pu : IsPart vu (some 0)) (ps : IsPart vs (some (-1)))
    (h : Q ((n : Int) - 1, -1, n - 1) s) : wpAny (model prog w) A (Builtin.Slice.sliceApplied (.ref sl) (pure (n : Int))) Q E s := by
  obtain ⟨os, hos, hcs, hds⟩ := id hs
  unfold Builtin.Slice.sliceApplied Builtin.Slice.sliceFields
  refine wpAny_bind (wpAny_bind (wpAny_field hos hds (x := vl) rfl (wpAny_bind (wpAny_field hos hds (x := vu) rfl (wpAny_bind (wpAny_field hos hds (x := vs) rfl (wpAny_pure ?_)))))))
  refine wpAny_bind (slicePart_ ps ?_)
  show wpAny _ _ (if ((-1 : Int) == 0) = true then _ else _) _ _ s
  rw [if_neg (by decide)]
  refine wpAny_bind (slicePart_ pl (wpAny_bind (slicePart_ pu (wpAny_bind (wpAny_pure ?_)))))
  show wpAny _ _ (match Builtin.Slice.sliceAdjust none (some 0) (-1) (n : Int) with | (lo, hi) => pure (lo, (-1 : Int), Builtin.Slice.slicePlaces lo hi (-1))) _ _ s
  have e1 : ∃ hi, Builtin.Slice.sliceAdjust none (some 0) (-1) (n : Int) = ((n : Int) - 1, hi) ∧ Builtin.Slice.slicePlaces ((n : Int) - 1) hi (-1) = n - 1 := by
    unfold Builtin.Slice.sliceAdjust Builtin.Slice.slicePlaces
    refine ⟨_, rfl, ?_⟩
    have h1 : ¬ ((-1 : Int) > 0) := by omega
    simp only [h1, if_false]
    split <;> first | omega | (simp; done) | (simp; omega) | skip
    all_goals (simp at *; omega)
  obtain ⟨hi, e1, e2⟩ := e1
  rw [e1]
  show wpAny _ _ (pure ((n : Int) - 1, (-1 : Int), Builtin.Slice.slicePlaces ((n : Int) - 1) hi (-1))) _ _ s
  rw [e2]
  exact wpAny_pure h
theorem fm_map {α : Type} {f : Nat → Option α} {h : Nat → α} : ∀ l : List Nat, (∀ m ∈ l, f m = some (h m)) → l.filterMap f = l.map h
  | [], _ => rfl
  | x :: r, q => by
    rw [List.filterMap_cons, q x List.mem_cons_self, List.map_cons, fm_map r fun m hm => q m (List.mem_cons_of_mem _ hm)]
theorem pick_rev (xs : Array Value) : ((List.range xs.size).filterMap fun (m : Nat) => xs[(((xs.size : Int) - 1) + (m : Int) * (-1)).toNat]?).toArray = xs.toList.reverse.toArray := by
  congr 1
  apply List.ext_getElem?
  intro i
  have all : ∀ m ∈ List.range xs.size, xs[(((xs.size : Int) - 1) + (m : Int) * (-1)).toNat]? = some (xs.toList.reverse.getD m default) := fun m hm => by
    have hm := List.mem_range.mp hm
    have e : (((xs.size : Int) - 1) + (m : Int) * (-1)).toNat = xs.size - 1 - m := by omega
    rw [e, List.getD_eq_getElem?_getD, List.getElem?_reverse (by simpa using hm)]
    rw [Array.getElem?_eq_getElem (by omega)]
    simp
    rw [Array.getElem?_eq_getElem (by omega)]
    rfl
  have e : (List.range xs.size).filterMap (fun (m : Nat) => xs[(((xs.size : Int) - 1) + (m : Int) * (-1)).toNat]?) = (List.range xs.size).map fun m => xs.toList.reverse.getD m default := by
    exact fm_map _ all
  rw [e]
  by_cases hi : i < xs.size
  · rw [List.getElem?_map, List.getElem?_range hi]
    show some (xs.toList.reverse.getD i default) = _
    rw [List.getD_eq_getElem?_getD, List.getElem?_eq_getElem (by simpa using hi)]
    rfl
  · rw [List.getElem?_eq_none (by simpa using hi), List.getElem?_eq_none (by simpa using hi)]
theorem getItem_tuple_rev {t sl : Addr} {items : Array Value} {vl vu vs : Value} {Q : Value → Shared → Prop} (ht : IsTup s.heap t items) (hs : s.heap.IsSliceOf sl vl vu vs) (pl : IsPart vl none) (pu : IsPart vu none) (ps : IsPart vs (some (-1)))
    (h : Q (.ref s.heap.objs.size) { s with heap := s.heap.push { cls := .type "tuple", data := .seq items.toList.reverse.toArray } })
    (hsz : items.size ≤ sizeLine) : wpAny (model prog w) A (getItem (.ref t) (.ref sl)) Q E s := by
  have htake : sizeOk (.seq items.toList.reverse.toArray) := by
    show items.toList.reverse.toArray.size ≤ sizeLine
    rw [List.size_toArray, List.length_reverse, Array.length_toList]
    omega
  obtain ⟨os, hos, hcs, hds⟩ := id hs
  have hTs : s.TypeIs (.ref sl) "slice" := ⟨os, hos, hcs⟩
  unfold getItem
  try with_reducible refine wpAny_holding ?_
  first | refine wpAny_bind (wpAny_pure ?_) | skip
  refine wpAny_bind (wpAny_sequenceKey ht.typeIs (by decide) ?_)
  refine wpAny_bind (wpAny_callSpecial?_slot (name := Str.ofString "__getitem__") ht.typeIs PyProof.Rows.slot_tuple_getitem
    (wpAny_call_entry PyProof.Rows.slot_tuple_getitem ht.typeIs entry_tuple_getitem ?_ (args_tuple_getitem _ _)))
  show wpAny _ _ (Builtin.Tuple.tupleItemsOf (.ref t) >>= _) _ _ s
  refine wpAny_bind (tupleItemsOf_ ht ?_)
  refine wpAny_bind (wpAny_typeOf hTs ?_)
  rw [if_pos (by decide)]
  refine wpAny_bind (sliceApplied_rev hs pl pu ps ?_)
  have hno : ¬ (((items.size : Int) - 1 == 0 && (-1 : Int) == 1 && items.size == items.size) = true) := by
    intro q
    rw [Bool.and_eq_true, Bool.and_eq_true] at q
    exact absurd q.1.2 (by decide)
  show wpAny _ _ (if ((items.size : Int) - 1 == 0 && (-1 : Int) == 1 && items.size == items.size) = true then _ else _) _ _ s
  rw [if_neg hno, pick_rev]
  first
    | exact wpAny_bind (m := Builtin.Tuple.tupleExact _) (wpAny_newObj_type (wpAny_pure ⟨_, rfl, wpAny_pure h⟩) htake)
    | exact wpAny_bind (m := Builtin.Tuple.tupleExact _) (wpAny_newObj_type (wpAny_bind (wpAny_pure (wpAny_pure ⟨_, rfl, wpAny_pure h⟩))) htake)
    | exact wpAny_bind (wpAny_bind (m := Builtin.Tuple.tupleExact _) (wpAny_newObj_type (wpAny_pure (wpAny_pure ⟨_, rfl, wpAny_pure h⟩)) htake))
    | exact wpAny_bind (wpAny_bind (m := Builtin.Tuple.tupleExact _) (wpAny_newObj_type (wpAny_pure ⟨_, rfl, wpAny_pure h⟩) htake))
theorem pick_rev1 (xs : Array Value) : ((List.range (xs.size - 1)).filterMap fun (m : Nat) => xs[(((xs.size : Int) - 1) + (m : Int) * (-1)).toNat]?).toArray = (xs.toList.drop 1).reverse.toArray := by
  congr 1
  apply List.ext_getElem?
  intro i
  have all : ∀ m ∈ List.range (xs.size - 1), xs[(((xs.size : Int) - 1) + (m : Int) * (-1)).toNat]? = some ((xs.toList.drop 1).reverse.getD m default) := fun m hm => by
    have hm := List.mem_range.mp hm
    have e : (((xs.size : Int) - 1) + (m : Int) * (-1)).toNat = xs.size - 1 - m := by omega
    rw [e, List.getD_eq_getElem?_getD, List.getElem?_reverse (by simpa using hm)]
    rw [Array.getElem?_eq_getElem (by omega)]
    simp
    have e2 : xs.size - 1 - 1 - m + 1 = xs.size - 1 - m := by omega
    rw [e2, Array.getElem?_eq_getElem (by omega)]
    rfl
  rw [fm_map _ all]
  by_cases hi : i < xs.size - 1
  · rw [List.getElem?_map, List.getElem?_range hi]
    show some ((xs.toList.drop 1).reverse.getD i default) = _
    rw [List.getD_eq_getElem?_getD, List.getElem?_eq_getElem (by simpa using hi)]
    rfl
  · rw [List.getElem?_eq_none (by simpa using hi), List.getElem?_eq_none (by simpa using hi)]
theorem pick_lst1 (items : Array Value) : slicePick items none (some 0) (some (-1)) = (items.toList.drop 1).reverse.toArray := by
  have hb : ∃ hi, sliceBounds none (some 0) (some (-1)) items.size = ((items.size : Int) - 1, hi, -1) ∧ sliceRange ((items.size : Int) - 1) hi (-1) = (List.range (items.size - 1)).map fun (k : Nat) => (((items.size : Int) - 1) + (k : Int) * (-1)).toNat := by
    unfold sliceBounds sliceRange
    refine ⟨_, rfl, ?_⟩
    simp
    by_cases h : items.size = 0
    · rw [h]
      rfl
    · have e1 : min 0 ((items.size : Int) - 1) = 0 := by omega
      rw [e1]
      by_cases h1 : items.size = 1
      · rw [h1]
        rfl
      · have h2 : (0 : Int) < (items.size : Int) - 1 := by omega
        have e3 : ((if max (-1) (0 : Int) < (items.size : Int) - 1 then (items.size : Int) - 1 - max (-1) 0 else 0)).toNat = items.size - 1 := by
          rw [show max (-1) (0 : Int) = 0 by decide, if_pos h2]
          omega
        rw [e3]
  obtain ⟨hi, e1, e2⟩ := hb
  unfold slicePick
  rw [e1]
  show ((sliceRange ((items.size : Int) - 1) hi (-1)).filterMap (items[·]?)).toArray = _
  rw [e2, List.filterMap_map]
  exact pick_rev1 items
theorem getItem_tuple_rev1 {t sl : Addr} {items : Array Value} {vl vu vs : Value} {Q : Value → Shared → Prop} (ht : IsTup s.heap t items) (hs : s.heap.IsSliceOf sl vl vu vs) (pl : IsPart vl none) (pu : IsPart vu (some 0)) (ps : IsPart vs (some (-1)))
    (h : Q (.ref s.heap.objs.size) { s with heap := s.heap.push { cls := .type "tuple", data := .seq (items.toList.drop 1).reverse.toArray } })
    (hsz : items.size ≤ sizeLine) : wpAny (model prog w) A (getItem (.ref t) (.ref sl)) Q E s := by
  have htake : sizeOk (.seq (items.toList.drop 1).reverse.toArray) := by
    show (items.toList.drop 1).reverse.toArray.size ≤ sizeLine
    rw [List.size_toArray, List.length_reverse, List.length_drop, Array.length_toList]
    omega
  obtain ⟨os, hos, hcs, hds⟩ := id hs
  have hTs : s.TypeIs (.ref sl) "slice" := ⟨os, hos, hcs⟩
  unfold getItem
  try with_reducible refine wpAny_holding ?_
  first | refine wpAny_bind (wpAny_pure ?_) | skip
  refine wpAny_bind (wpAny_sequenceKey ht.typeIs (by decide) ?_)
  refine wpAny_bind (wpAny_callSpecial?_slot (name := Str.ofString "__getitem__") ht.typeIs PyProof.Rows.slot_tuple_getitem
    (wpAny_call_entry PyProof.Rows.slot_tuple_getitem ht.typeIs entry_tuple_getitem ?_ (args_tuple_getitem _ _)))
  show wpAny _ _ (Builtin.Tuple.tupleItemsOf (.ref t) >>= _) _ _ s
  refine wpAny_bind (tupleItemsOf_ ht ?_)
  refine wpAny_bind (wpAny_typeOf hTs ?_)
  rw [if_pos (by decide)]
  refine wpAny_bind (sliceApplied_rev1 hs pl pu ps ?_)
  have hno : ¬ (((items.size : Int) - 1 == 0 && (-1 : Int) == 1 && items.size - 1 == items.size) = true) := by
    intro q
    rw [Bool.and_eq_true, Bool.and_eq_true] at q
    exact absurd q.1.2 (by decide)
  show wpAny _ _ (if ((items.size : Int) - 1 == 0 && (-1 : Int) == 1 && items.size - 1 == items.size) = true then _ else _) _ _ s
  rw [if_neg hno, pick_rev1]
  first
    | exact wpAny_bind (m := Builtin.Tuple.tupleExact _) (wpAny_newObj_type (wpAny_pure ⟨_, rfl, wpAny_pure h⟩) htake)
    | exact wpAny_bind (m := Builtin.Tuple.tupleExact _) (wpAny_newObj_type (wpAny_bind (wpAny_pure (wpAny_pure ⟨_, rfl, wpAny_pure h⟩))) htake)
    | exact wpAny_bind (wpAny_bind (m := Builtin.Tuple.tupleExact _) (wpAny_newObj_type (wpAny_pure (wpAny_pure ⟨_, rfl, wpAny_pure h⟩)) htake))
    | exact wpAny_bind (wpAny_bind (m := Builtin.Tuple.tupleExact _) (wpAny_newObj_type (wpAny_pure ⟨_, rfl, wpAny_pure h⟩) htake))
end
end HT
namespace Pf
open PySem PySem.Spec PyProof.Rows L2
section
variable {X : Cx}
/-- x[::-1], a list or a tuple -/
def tRevA (K : PySem.W.Frag) (te : TE) : TE := fun σ H Q => te σ H fun x H1 => ∃ a xs, x = .ref a ∧ ((SqL K H1 a xs ∧ ∀ p, H1 p = none → Q (.ref p) (upd H1 p (.lst xs.reverse))) ∨ (SqT K H1 a xs ∧ ∀ p, H1 p = none → Q (.ref p) (upd H1 p (.tup xs.reverse))))
theorem pe_revA {e : Expr} {te : TE} {k : Nat} {p1 p2 p3 pos : Pos} (he : PE X e te) : PE X (.Subscript e (.Slice none none (some (.UnaryOp .USub (.Constant (.int 1) k p1) p2)) p3) pos) (tRevA X.K te) := by
  refine ⟨fun pins s σ H Q I h => ?_⟩
  refine Subscript_ (thn (he.run pins s σ H _ I h) fun v s1 ⟨x, H1, I1, r1, q1⟩ => ?_)
  obtain ⟨a, xs, ex, hx⟩ := q1
  subst ex
  cases r1
  have hst : PO X (some (.UnaryOp .USub (.Constant (.int 1) k p1) p2)) (tPart (tUn (rU fun i => .int (-i)) (tC (.int 1)))) := po_some (pe_un un_neg pe_int)
  refine wpAny_Slice (thn (po_none.run pins s1 σ H1 (fun o H2 => o = none ∧ H2 = H1) I1 ⟨rfl, rfl⟩) fun vl s2 ⟨l, H2, I2, pl, el, e2⟩ => ?_)
  subst el e2
  refine thn (po_none.run pins s2 σ H2 (fun o H3 => o = none ∧ H3 = H2) I2 ⟨rfl, rfl⟩) fun vu s3 ⟨u, H3, I3, pu, eu, e3⟩ => ?_
  subst eu e3
  refine thn (hst.run pins s3 σ H3 (fun o H4 => o = some (-1) ∧ H4 = H3) I3 ⟨1, rfl, -1, rfl, rfl, rfl⟩) fun vs s4 ⟨o, H4, I4, ps, eo, e4⟩ => ?_
  subst eo e4
  have I5 : Inv X pins σ H4 { s4 with heap := s4.heap.push { cls := .type "slice", data := .fields #[vl, vu, vs] } } := I4.kept (t' := s4.toks) fun b ob q => Heap.get?_push_of_some _ q
  rcases hx with ⟨hx, q⟩ | ⟨hx, q⟩
  · obtain ⟨its, r, ht, hz⟩ := I5.list hx
    have hlen := r.length
    show wpAny (model X.prog X.w) X.A (subscriptTail e (.Slice none none (some (.UnaryOp .USub (.Constant (.int 1) k p1) p2)) p3) (.ref a) (.ref s4.heap.objs.size)) (EP X pins σ Q) X.xe { s4 with heap := s4.heap.push { cls := .type "slice", data := .fields #[vl, vu, vs] } }
    refine tail_any (ops := [.ref a, .ref s4.heap.objs.size]) ht.isList.typeIs (PySem.slot_list_getitem.lookup) ?_ (by with_unfolding_all rfl)
    refine wpAny_getItem_list_slice ht.isList (Heap.IsSliceOf.new _ vl vu vs) pl pu ps (by decide) ?_ (by rw [List.size_toArray]; omega)
    rw [PySem.W.krv_pick]
    refine ⟨.ref _, _, I5.laid (t' := s4.toks) (o := .lst xs.reverse) (fun b ob q => Heap.get?_push_of_some _ q) (Nat.le_refl _) ?_, rfl, q _ (I5.hok.fresh (Nat.le_refl _))⟩
    exact ⟨by rw [List.length_reverse]; exact hz, _, 0, r.reverse, Heap.get?_push_size _ rfl⟩
  · obtain ⟨its, r, ht, hz⟩ := I5.tuple hx
    have hlen := r.length
    show wpAny (model X.prog X.w) X.A (subscriptTail e (.Slice none none (some (.UnaryOp .USub (.Constant (.int 1) k p1) p2)) p3) (.ref a) (.ref s4.heap.objs.size)) (EP X pins σ Q) X.xe { s4 with heap := s4.heap.push { cls := .type "slice", data := .fields #[vl, vu, vs] } }
    refine tail_any (ops := [.ref a, .ref s4.heap.objs.size]) ht.typeIs (PyProof.Rows.slot_tuple_getitem.lookup) ?_ (by with_unfolding_all rfl)
    refine HT.getItem_tuple_rev ht (Heap.IsSliceOf.new _ vl vu vs) pl pu ps ?_ (by rw [List.size_toArray]; omega)
    refine ⟨.ref _, _, I5.laid (t' := s4.toks) (o := .tup xs.reverse) (fun b ob q => Heap.get?_push_of_some _ q) (Nat.le_refl _) ?_, rfl, q _ (I5.hok.fresh (Nat.le_refl _))⟩
    refine ⟨by rw [List.length_reverse]; exact hz, its.reverse, r.reverse, ?_⟩
    have e1 : its.toArray.toList.reverse = its.reverse := by simp
    rw [e1]
    exact ⟨_, Heap.get?_push_size _ rfl, rfl, _, rfl⟩
/-- x[:0:-1], a list or a tuple -/
def tRev1 (K : PySem.W.Frag) (te : TE) : TE := fun σ H Q => te σ H fun x H1 => ∃ a xs, x = .ref a ∧ ((SqL K H1 a xs ∧ ∀ p, H1 p = none → Q (.ref p) (upd H1 p (.lst (xs.drop 1).reverse))) ∨ (SqT K H1 a xs ∧ ∀ p, H1 p = none → Q (.ref p) (upd H1 p (.tup (xs.drop 1).reverse))))
theorem pe_rev1 {e : Expr} {te : TE} {k : Nat} {k0 : Nat} {p0 p1 p2 p3 pos : Pos} (he : PE X e te) : PE X (.Subscript e (.Slice none (some (.Constant (.int 0) k0 p0)) (some (.UnaryOp .USub (.Constant (.int 1) k p1) p2)) p3) pos) (tRev1 X.K te) := by
  refine ⟨fun pins s σ H Q I h => ?_⟩
  refine Subscript_ (thn (he.run pins s σ H _ I h) fun v s1 ⟨x, H1, I1, r1, q1⟩ => ?_)
  obtain ⟨a, xs, ex, hx⟩ := q1
  subst ex
  cases r1
  have hs0 : PO X (some (.Constant (.int 0) k0 p0)) (tPart (tC (.int 0))) := po_some pe_int
  have hst : PO X (some (.UnaryOp .USub (.Constant (.int 1) k p1) p2)) (tPart (tUn (rU fun i => .int (-i)) (tC (.int 1)))) := po_some (pe_un un_neg pe_int)
  refine wpAny_Slice (thn (po_none.run pins s1 σ H1 (fun o H2 => o = none ∧ H2 = H1) I1 ⟨rfl, rfl⟩) fun vl s2 ⟨l, H2, I2, pl, el, e2⟩ => ?_)
  subst el e2
  refine thn (hs0.run pins s2 σ H2 (fun o H3 => o = some 0 ∧ H3 = H2) I2 ⟨0, rfl, rfl, rfl⟩) fun vu s3 ⟨u, H3, I3, pu, eu, e3⟩ => ?_
  subst eu e3
  refine thn (hst.run pins s3 σ H3 (fun o H4 => o = some (-1) ∧ H4 = H3) I3 ⟨1, rfl, -1, rfl, rfl, rfl⟩) fun vs s4 ⟨o, H4, I4, ps, eo, e4⟩ => ?_
  subst eo e4
  have I5 : Inv X pins σ H4 { s4 with heap := s4.heap.push { cls := .type "slice", data := .fields #[vl, vu, vs] } } := I4.kept (t' := s4.toks) fun b ob q => Heap.get?_push_of_some _ q
  rcases hx with ⟨hx, q⟩ | ⟨hx, q⟩
  · obtain ⟨its, r, ht, hz⟩ := I5.list hx
    have hlen := r.length
    show wpAny (model X.prog X.w) X.A (subscriptTail e (.Slice none (some (.Constant (.int 0) k0 p0)) (some (.UnaryOp .USub (.Constant (.int 1) k p1) p2)) p3) (.ref a) (.ref s4.heap.objs.size)) (EP X pins σ Q) X.xe { s4 with heap := s4.heap.push { cls := .type "slice", data := .fields #[vl, vu, vs] } }
    refine tail_any (ops := [.ref a, .ref s4.heap.objs.size]) ht.isList.typeIs (PySem.slot_list_getitem.lookup) ?_ (by with_unfolding_all rfl)
    refine wpAny_getItem_list_slice ht.isList (Heap.IsSliceOf.new _ vl vu vs) pl pu ps (by decide) ?_ (by rw [List.size_toArray]; omega)
    rw [HT.pick_lst1]
    refine ⟨.ref _, _, I5.laid (t' := s4.toks) (o := .lst (xs.drop 1).reverse) (fun b ob q => Heap.get?_push_of_some _ q) (Nat.le_refl _) ?_, rfl, q _ (I5.hok.fresh (Nat.le_refl _))⟩
    exact ⟨by rw [List.length_reverse, List.length_drop]; omega, _, 0, (r.drop 1).reverse, Heap.get?_push_size _ rfl⟩
  · obtain ⟨its, r, ht, hz⟩ := I5.tuple hx
    have hlen := r.length
    show wpAny (model X.prog X.w) X.A (subscriptTail e (.Slice none (some (.Constant (.int 0) k0 p0)) (some (.UnaryOp .USub (.Constant (.int 1) k p1) p2)) p3) (.ref a) (.ref s4.heap.objs.size)) (EP X pins σ Q) X.xe { s4 with heap := s4.heap.push { cls := .type "slice", data := .fields #[vl, vu, vs] } }
    refine tail_any (ops := [.ref a, .ref s4.heap.objs.size]) ht.typeIs (PyProof.Rows.slot_tuple_getitem.lookup) ?_ (by with_unfolding_all rfl)
    refine HT.getItem_tuple_rev1 ht (Heap.IsSliceOf.new _ vl vu vs) pl pu ps ?_ (by rw [List.size_toArray]; omega)
    refine ⟨.ref _, _, I5.laid (t' := s4.toks) (o := .tup (xs.drop 1).reverse) (fun b ob q => Heap.get?_push_of_some _ q) (Nat.le_refl _) ?_, rfl, q _ (I5.hok.fresh (Nat.le_refl _))⟩
    refine ⟨by rw [List.length_reverse, List.length_drop]; omega, (its.drop 1).reverse, (r.drop 1).reverse, ?_⟩
    have e1 : (its.toArray.toList.drop 1).reverse = (its.drop 1).reverse := by simp
    rw [e1]
    exact ⟨_, Heap.get?_push_size _ rfl, rfl, _, rfl⟩
end
section
variable {T : TT} {X : Cx} {W : WX} {g : Gh} {S : Store} {H : Hp} {σ : L2.St} {k : Nat} {c : CC}
def notSlice : Expr → Bool
  | .Slice .. => false
  | _ => true
theorem plainIx_of {b : Expr} (h : notSlice b = true) : PlainIx b := by
  intro o i
  cases b <;> first | rfl | cases h
theorem c_ix (O : XOk T k c X W) {a b : Expr} {ma mb : Env → Store → Res D} {pos : Pos} (ha : PE X a (tE T W ma)) (hb : PE X b (tE T W mb)) (h : notSlice b = true) :
    PE X (.Subscript a b pos) (tE T W fun e S => (ma e S).bind fun x S1 => (mb e S1).bind fun y S2 => .ofO (ixD S2 x y) S2) := by
  refine pe_imp (pe_ix (ix_ok O.eK) ha hb (plainIx_of h)) fun σ H Q q => ?_
  refine Rd_imp (q.two rv_mono) fun v H1 q1 => Rd_imp q1 fun w H2 ⟨g, e, S, x, y, L, _, r1, r2, p⟩ => ?_
  obtain ⟨d, e1, p1⟩ := p.ofO
  exact ⟨g, S, x, y, d, L, r1, r2, e1, p1⟩
theorem c_rev (O : XOk T k c X W) {a : Expr} {ma : Env → Store → Res D} {j : Nat} {p1 p2 p3 pos : Pos} (ha : PE X a (tE T W ma)) :
    PE X (.Subscript a (.Slice none none (some (.UnaryOp .USub (.Constant (.int 1) j p1) p2)) p3) pos) (tE T W fun e S => (ma e S).bind fun x S1 => .ofO (revD x) S1) := by
  refine pe_imp (pe_revA ha) fun σ H Q q => ?_
  refine Rd_imp (Rd.one (rel1 := RV T.K) q) fun v H1 h1 => ?_
  obtain ⟨g, e, S, x, L, r, r1, p⟩ := h1
  obtain ⟨d, e1, p1⟩ := p.ofO
  cases r1 <;> first | (cases e1; done) | skip
  · rename_i a' vs ds hF rs
    cases e1
    exact ⟨_, vs, rfl, .inl ⟨by rw [O.eK]; exact SqL.of (L.at hF), Mk.lst (T := T) (g := g) (S := S) p1 L rs.reverse⟩⟩
  · rename_i a' vs ds hF rs
    cases e1
    exact ⟨_, vs, rfl, .inr ⟨by rw [O.eK]; exact L.sqT hF, Mk.tup (T := T) (g := g) (S := S) p1 L rs.reverse⟩⟩
theorem c_rev1 (O : XOk T k c X W) {a : Expr} {ma : Env → Store → Res D} {j j0 : Nat} {p0 p1 p2 p3 pos : Pos} (ha : PE X a (tE T W ma)) :
    PE X (.Subscript a (.Slice none (some (.Constant (.int 0) j0 p0)) (some (.UnaryOp .USub (.Constant (.int 1) j p1) p2)) p3) pos) (tE T W fun e S => (ma e S).bind fun x S1 => .ofO (rev1D x) S1) := by
  refine pe_imp (pe_rev1 ha) fun σ H Q q => ?_
  refine Rd_imp (Rd.one (rel1 := RV T.K) q) fun v H1 h1 => ?_
  obtain ⟨g, e, S, x, L, r, r1, p⟩ := h1
  obtain ⟨d, e1, p1⟩ := p.ofO
  cases r1 <;> first | (cases e1; done) | skip
  · rename_i a' vs ds hF rs
    cases e1
    exact ⟨_, vs, rfl, .inl ⟨by rw [O.eK]; exact SqL.of (L.at hF), Mk.lst (T := T) (g := g) (S := S) p1 L (rs.drop 1).reverse⟩⟩
  · rename_i a' vs ds hF rs
    cases e1
    exact ⟨_, vs, rfl, .inr ⟨by rw [O.eK]; exact L.sqT hF, Mk.tup (T := T) (g := g) (S := S) p1 L (rs.drop 1).reverse⟩⟩
/-- a slice's bound -/
abbrev relO : Gh → Option Int → Option Int → Prop := fun _ a b => a = b
theorem c_po {lo : Option Expr} {ml : Option (Env → Store → Res D)} (h : match lo, ml with
    | none, none => True
    | some e, some m => PE X e (tE T W m)
    | _, _ => False) : PO X lo (Rd T W relO fun e S => match ml with
      | none => .ok none S
      | some m => (m e S).bind fun d S1 => match d with
        | .int i => .ok (some i) S1
        | _ => .bad) := by
  cases lo with
  | none =>
    cases ml with
    | none =>
      refine ⟨fun pins s σ H Q I q => po_none.run pins s σ H Q I ?_⟩
      obtain ⟨g, e, S, L, r, p⟩ := q
      exact Post.ok (d := (none : Option Int)) p L rfl
    | some m => exact h.elim
  | some e =>
    cases ml with
    | none => exact h.elim
    | some m =>
      refine ⟨fun pins s σ H Q I q => (po_some h).run pins s σ H Q I ?_⟩
      have q : Rd T W relO (fun e S => (m e S).bind fun d S1 => match d with
        | .int i => .ok (some i) S1
        | _ => .bad) σ H Q := q
      refine Rd_imp (Rd.one (rel1 := RV T.K) q) fun v H1 h1 => ?_
      obtain ⟨g, e, S, x, L, r, r1, p⟩ := h1
      cases r1 <;> first | (exact p.elim) | skip
      exact ⟨_, rfl, p.ok L rfl⟩
theorem c_sl (O : XOk T k c X W) {a : Expr} {lo hi : Option Expr} {ma : Env → Store → Res D} {ml mh : Env → Store → Res (Option Int)} {p2 pos : Pos} (ha : PE X a (tE T W ma)) (hl : PO X lo (Rd T W relO ml)) (hh : PO X hi (Rd T W relO mh)) :
    PE X (.Subscript a (.Slice lo hi none p2) pos) (tE T W fun e S => (ma e S).bind fun x S1 => (ml e S1).bind fun l S2 => (mh e S2).bind fun h S3 => .ofO (slD S3 x l h) S3) := by
  refine pe_imp (pe_slice (sl_ok O.eK) ha hl hh) fun σ H Q q => ?_
  obtain ⟨g, e, S, L, r, p⟩ := q
  refine ⟨g, e, S, L, r, (p.bind (rel1 := RV T.K)).imp fun v H1 ⟨g1, x, S1, l1, L1, r1, p1⟩ => ?_⟩
  refine ⟨g1, e, S1, L1, r.mono l1, (p1.bind (rel1 := relO)).imp fun lo' H2 ⟨g2, y, S2, l2, L2', r2, p2⟩ => ?_⟩
  refine ⟨g2, e, S2, L2', (r.mono l1).mono l2, (p2.bind (rel1 := relO)).imp fun hi' H3 ⟨g3, z, S3, l3, L3, r3, p3⟩ => ?_⟩
  have r2 : lo' = y := r2
  have r3 : hi' = z := r3
  subst r2 r3
  obtain ⟨d, e1, p4⟩ := p3.ofO
  exact ⟨g3, S3, x, d, L3, (r1.mono l2).mono l3, e1, p4⟩
end
end Pf

end
section
/-! Snd6: calls. -/
namespace Pf
open PySem PySem.Spec PyProof.Rows L2
section
variable {T : TT} {X : Cx} {W : WX} {g : Gh} {S : Store} {H : Hp} {σ : L2.St} {k : Nat} {c : CC}
theorem noStar_of {env : PySem.Env} {pos : Pos} : ∀ {es : List Expr}, (∀ e ∈ es, notStar e = true) → (backTo pos (starEach es env)).any (·.1) = false
  | [], _ => rfl
  | e :: es, h => by
    rw [starEach_of (h e List.mem_cons_self)]
    show (false || (backTo pos (starEach es env)).any (·.1)) = false
    rw [noStar_of fun z hz => h z (List.mem_cons_of_mem _ hz)]
    rfl
/-- how a callee's promise is asked -/
theorem Post.shift {r : Res D} {QV : VK} (p : Post T W (RV T.K) g σ r QV) : Post T (fun c d _ H => WE W σ c d H) (RV T.K) g [] r QV := by
  cases r with
  | ok d S => exact p
  | exc c S => exact p
  | bad => exact p
theorem c_call (O : XOk T k c X W) (F : SF T c k) {x : Str} {i : Nat} {a : Expr} {as : List Expr} {ms : Env → Store → Res (List D)} {p pos : Pos} (h1 : c.fns[i]? = some x) (h2 : c.gl x = true) (hs : PA X (a :: as) (tA T W ms)) (hn : ∀ e ∈ a :: as, notStar e = true) :
    PE X (.Call (.Name x p) (a :: as) [] pos) (tE T W fun e S => (ms e S).bind fun xs S1 => callN T.P T.G k i xs S1) := by
  obtain ⟨f, fd, ps, e1, e2, e3, e4⟩ := F.fn i x h1
  obtain ⟨g1, g2⟩ := O.gl h2
  have tk := O.tk
  have hr := O.room
  have eP := O.eP
  have eW := O.eW
  have eK := O.eK
  have eM := O.eM
  have eB := O.eB
  rw [← eP, ← eW, ← eK, ← eM, ← eB] at e4
  refine pe_imp (pe_callS e4 hr g1 (by rw [eM]; exact e1) (by rw [eK]; exact e2) (by rw [eK]; exact e3) (fun σ => L2N.passAt tk σ) hs g2 (starEach_of (hn a List.mem_cons_self)) (noStar_of fun z hz => hn z (List.mem_cons_of_mem _ hz))) fun σ H Q q => ?_
  refine Rd_imp (Rd.one (rel1 := RVs T.K) q) fun v H1 h1 => ?_
  obtain ⟨g, e, S, x, L, r, r1, p⟩ := h1
  exact ⟨g, S, x, L, r1, Post.shift p⟩
theorem boot_bi (b : BI) : bootBuiltins (biName b) = some (biVal b) := by
  cases b <;> decide +kernel
theorem bi_nn (b : BI) : biName b ≠ "__name__" := by
  cases b <;> decide
theorem mem_blts (b : BI) : biName b ∈ blts := by
  cases b <;> decide
theorem c_bi (O : XOk T k c X W) (F : SF T c k) {x : Str} {b : BI} {a : Expr} {as : List Expr} {ms : Env → Store → Res (List D)} {p pos : Pos} (h : isBi c x (biName b) = true) (hs : PA X (a :: as) (tA T W ms)) (hn : ∀ e ∈ a :: as, notStar e = true) (hok : CallR X (biVal b) (rBi T b)) :
    PE X (.Call (.Name x p) (a :: as) [] pos) (tE T W fun e S => (ms e S).bind fun xs S1 => .ofO (biD S1 b xs) S1) := by
  obtain ⟨h1, h2⟩ := and2 h
  have h1 := of_decide_eq_true h1
  subst h1
  obtain ⟨g1, g2⟩ := O.gl h2
  have hm : X.mg (biName b) = none := by
    rw [O.eM]
    exact F.bl _ (mem_blts b)
  have hv := boot_bi b
  have key : PE X (.Call (.Name (biName b) p) (a :: as) [] pos) (tCB (rBi T b) (tA T W ms)) := by
    cases b with
    | tuple => exact pe_callTy hok g1 hm hv hs (by decide) g2 (starEach_of (hn a List.mem_cons_self)) (noStar_of fun z hz => hn z (List.mem_cons_of_mem _ hz))
    | int => exact pe_callTy hok g1 hm hv hs (by decide) g2 (starEach_of (hn a List.mem_cons_self)) (noStar_of fun z hz => hn z (List.mem_cons_of_mem _ hz))
    | bool => exact pe_callTy hok g1 hm hv hs (by decide) g2 (starEach_of (hn a List.mem_cons_self)) (noStar_of fun z hz => hn z (List.mem_cons_of_mem _ hz))
    | str => exact pe_callTy hok g1 hm hv hs (by decide) g2 (starEach_of (hn a List.mem_cons_self)) (noStar_of fun z hz => hn z (List.mem_cons_of_mem _ hz))
    | _ => exact pe_callB hok g1 hm hv hs (by decide) g2 (starEach_of (hn a List.mem_cons_self)) (noStar_of fun z hz => hn z (List.mem_cons_of_mem _ hz))
  refine pe_imp key fun σ H Q q => ?_
  refine Rd_imp (Rd.one (rel1 := RVs T.K) q) fun v H1 h1 => ?_
  obtain ⟨g, e, S, x, L, r, r1, p⟩ := h1
  obtain ⟨d, e1, p1⟩ := p.ofO
  exact ⟨g, S, x, d, L, r1, e1, p1⟩
theorem c_mkl (O : XOk T k c X W) (F : SF T c k) {x : Str} {live : Bool} {a : Expr} {ma : Env → Store → Res D} {p pos : Pos} (h : isBi c x "list" = true) (ha : PE X a (tE T W ma)) (hn : notStar a = true) :
    PE X (.Call (.Name x p) [a] [] pos) (tE T W fun e S => (ma e S).bind fun d S1 => match d with
      | .tup xs => newL live xs S1
      | .lst xs => newL live xs S1
      | _ => .bad) := by
  obtain ⟨h1, h2⟩ := and2 h
  have h1 := of_decide_eq_true h1
  subst h1
  obtain ⟨g1, g2⟩ := O.gl h2
  have hm : X.mg "list" = none := by
    rw [O.eM]
    exact F.bl _ (by decide)
  refine pe_imp (pe_callTy call_list_of g1 hm (by decide +kernel) (pa_cons ha pa_nil (starEach_of hn)) (by decide) g2 (starEach_of hn) rfl) fun σ H Q q => ?_
  refine Rd_imp (Rd.one (rel1 := RV T.K) q) fun v H1 h1 => ?_
  obtain ⟨g, e, S, x, L, r, r1, p⟩ := h1
  cases r1 <;> first | (exact p.elim) | skip
  · rename_i a' vs ds hF rs
    exact ⟨_, _, rfl, .inl (by rw [O.eK]; exact SqL.of (L.at hF)), new_list p L rs⟩
  · rename_i a' vs ds hF rs
    exact ⟨_, _, rfl, .inr (by rw [O.eK]; exact L.sqT hF), new_list p L rs⟩
def tyStr : Ty → String
  | .int => "int"
  | .bool => "bool"
  | .str => "str"
  | .tuple => "tuple"
  | .list => "list"
theorem boot_ty (t : Ty) : bootBuiltins (tyName t) = some (.type (tyStr t)) := by
  cases t <;> decide +kernel
theorem kit_non (t : Ty) : kitB "NoneType" (tyStr t) = some false := by cases t <;> decide +kernel
theorem kit_bl (t : Ty) : kitB "bool" (tyStr t) = some (t == .int || t == .bool) := by cases t <;> decide +kernel
theorem kit_int (t : Ty) : kitB "int" (tyStr t) = some (t == .int) := by cases t <;> decide +kernel
theorem kit_str (t : Ty) : kitB "str" (tyStr t) = some (t == .str) := by cases t <;> decide +kernel
theorem kit_lst (t : Ty) : kitB "list" (tyStr t) = some (t == .list) := by cases t <;> decide +kernel
theorem kit_tup (t : Ty) : kitB "tuple" (tyStr t) = some (t == .tuple) := by cases t <;> decide +kernel
theorem ty_of (L : Lies T g S H) {v : V} {d : D} (r : RV T.K g v d) : (∃ n, d = .ref n) ∨ (∃ xs, d = .scr xs) ∨ ∃ a, TyX T.K H v (.type a) ∧ ∀ t, kitB a (tyStr t) = some (tyD t d) := by
  cases r with
  | non => exact .inr (.inr ⟨_, .base .non, kit_non⟩)
  | bl b => exact .inr (.inr ⟨_, .base (.bl b), kit_bl⟩)
  | int i => exact .inr (.inr ⟨_, .base (.int i), kit_int⟩)
  | str s => exact .inr (.inr ⟨_, .base (.str _), kit_str⟩)
  | lst h rs => exact .inr (.inr ⟨_, .base (.lst (L.at h)), kit_lst⟩)
  | tup h rs =>
    refine .inr (.inr ⟨"tuple", ?_, kit_tup⟩)
    rcases L.sqT h with (h | ⟨o, h⟩) | ⟨o, its, n, h1, h2, _⟩
    · exact .base (.tup h)
    · exact .fTuple h
    · exact .kTuple h1 h2
  | scr h rs => exact .inr (.inl ⟨_, rfl⟩)
  | ref h => exact .inl ⟨_, rfl⟩
theorem c_isin (O : XOk T k c X W) (F : SF T c k) {x y : Str} {t : Ty} {a : Expr} {ma : Env → Store → Res D} {p p2 pos : Pos} (h : isBi c x "isinstance" = true) (ht : isBi c y (tyName t) = true) (ha : PE X a (tE T W ma)) (hn : notStar a = true) :
    PE X (.Call (.Name x p) [a, .Name y p2] [] pos) (tE T W fun e S => (ma e S).bind fun d S1 => match d with
      | .ref _ => .bad
      | .scr _ => .bad
      | d => .ok (.bl (tyD t d)) S1) := by
  obtain ⟨h1, h2⟩ := and2 h
  have h1 := of_decide_eq_true h1
  subst h1
  obtain ⟨g1, g2⟩ := O.gl h2
  obtain ⟨h3, h4⟩ := and2 ht
  have h3 := of_decide_eq_true h3
  subst h3
  obtain ⟨g3, g4⟩ := O.gl h4
  have hm : X.mg "isinstance" = none := by
    rw [O.eM]
    exact F.bl _ (by decide)
  have hm2 : X.mg (tyName t) = none := by
    rw [O.eM]
    exact F.bl _ (by cases t <;> decide)
  have hty : PE X (.Name (tyName t) p2) (tC (.ty (tyStr t))) := pe_bltn g3 hm2 (boot_ty t) rfl (by cases t <;> decide) g4
  refine pe_imp (pe_callB call_isi g1 hm PyProof.Rows.boot_isinstance (pa_cons ha (pa_cons hty pa_nil) (starEach_of hn)) (by decide) g2 (starEach_of hn) rfl) fun σ H Q q => ?_
  refine Rd_imp (Rd.one (rel1 := RV T.K) q) fun v H1 h1 => ?_
  obtain ⟨g, e, S, x, L, r, r1, p⟩ := h1
  rcases ty_of L r1 with ⟨n, rfl⟩ | ⟨xs, rfl⟩ | ⟨a, h1, h2⟩
  · exact p.elim
  · exact p.elim
  · have p2 : Post T W (RV T.K) g σ (.ok (D.bl (tyD t x)) S) Q := by
      cases r1 <;> first | exact p | (exact p.elim)
    exact ⟨v, .ty (tyStr t), .type a, .type (tyStr t), tyD t x, rfl, .ty _, by rw [O.eK]; exact h1, kit_ty (h2 t), Post.ok (d := D.bl (tyD t x)) p2 L (.bl _)⟩
end
end Pf

end
section
/-! Snd7: methods. -/
namespace Pf
open PySem PySem.Spec PyProof.Rows L2
section
variable {T : TT} {X : Cx} {W : WX} {g : Gh} {S : Store} {H : Hp} {σ : L2.St} {k : Nat} {c : CC} {e : Env}
/-- a name's cell -/
theorem cell_at (L : Lies T g S H) (r : ER T g σ e) {i n : Nat} {xs : List D} (h : cellOf e i S = some (n, xs)) : ∃ a vs, σ[i]? = some (some (.ref a)) ∧ g.β[n]? = some a ∧ S[n]? = some (.lst xs) ∧ H a = some (.lst vs) ∧ RVs T.K g vs xs ∧ ∀ d ∈ xs, pl d = true := by
  unfold cellOf at h
  split at h
  · rename_i m he
    split at h
    · rename_i ys hs
      cases h
      obtain ⟨v, h1, h2⟩ := r.2 i _ he
      cases h2 with
      | ref hb =>
        obtain ⟨_, _, vs, h3, h4, h5⟩ := L.cell _ _ _ hb hs (by intro z; cases z)
        exact ⟨_, vs, h1, hb, hs, h3, h4, h5⟩
    · cases h
  · cases h
theorem base_of {o : Expr} {a : Str} {env : PySem.Env} {w : Sem Value} (h : notCall o = true) : attributeBase o a env w = w := by
  cases o
  case Call f as ks p =>
    cases as with
    | nil => cases h
    | cons _ _ => cases f <;> rfl
  all_goals rfl
theorem line_of {a b : Nat} (h : a = b) : (a == b) = true := by
  rw [h]
  exact beq_self_eq_true b
theorem c_pop (O : XOk T k c X W) {x : Str} {i : Nat} {p apos pos : Pos} (h : c.nm i x = true) (hl : apos.endLine = pos.endLine ∨ apos.endLine = pos.line) (hl2 : apos.endLine = pos.line) :
    PE X (.Call (.Attribute (.Name x p) "pop" apos) [] [] pos) (tE T W fun e S => match cellOf e i S with
      | some (n, xs) => (match xs[xs.length - 1]? with
        | some y => .ok y (S.set n (.lst xs.dropLast))
        | none => .bad)
      | none => .bad) := by
  refine pe_imp (pe_bm0 PySem.F.plainAttrs_list PySem.F.slot_list_pop PySem.F.type_list_pop mt_pop (c_name O h) (base_of rfl) (line_of hl2)) fun σ H Q q => ?_
  obtain ⟨g, e, S, L, r, p⟩ := q
  dsimp only at p
  cases hc : cellOf e i S with
  | none =>
    rw [hc] at p
    exact p.elim
  | some z =>
    obtain ⟨n, xs⟩ := z
    rw [hc] at p
    dsimp only at p
    obtain ⟨a, vs, h1, h2, h3, h4, h5, h6⟩ := cell_at L r hc
    cases hy : xs[xs.length - 1]? with
    | none =>
      rw [hy] at p
      exact p.elim
    | some y =>
      rw [hy] at p
      obtain ⟨v, h7, h8⟩ := h5.get hy
      refine ⟨_, h1, .inl ⟨rfl, vs, SqL.of h4⟩, a, vs, v, rfl, rfl, h4, by rw [h5.length]; exact h7, ?_⟩
      exact p g _ v (Le.refl g) (L.write h2 h3 (xs := vs) h5.dropLast fun d hd => h6 d (List.dropLast_subset _ hd)) h8
theorem c_pop0 (O : XOk T k c X W) {x : Str} {i j : Nat} {p apos p0 pos : Pos} (h : c.nm i x = true) (hl2 : apos.endLine = pos.line) :
    PE X (.Call (.Attribute (.Name x p) "pop" apos) [.Constant (.int 0) j p0] [] pos) (tE T W fun e S => match cellOf e i S with
      | some (n, x :: xs) => .ok x (S.set n (.lst xs))
      | _ => .bad) := by
  refine pe_imp (pe_bm PySem.F.plainAttrs_list PySem.F.slot_list_pop PySem.F.type_list_pop mt_popAt (c_name O h) (pa_cons pe_int pa_nil) (base_of rfl) (by rfl) (line_of hl2)) fun σ H Q q => ?_
  obtain ⟨g, e, S, L, r, p⟩ := q
  dsimp only at p
  cases hc : cellOf e i S with
  | none =>
    rw [hc] at p
    exact p.elim
  | some z =>
    obtain ⟨n, xs⟩ := z
    rw [hc] at p
    obtain ⟨a, vs, h1, h2, h3, h4, h5, h6⟩ := cell_at L r hc
    cases xs with
    | nil => exact p.elim
    | cons y xs =>
      cases h5 with
      | cons h7 h8 =>
        rename_i v vs
        refine ⟨_, h1, .inl ⟨rfl, _, SqL.of h4⟩, a, _, 0, 0, v, rfl, rfl, h4, by decide, by decide, ?_, rfl, ?_⟩
        · rw [seqIndex_of (Int.le_refl 0) (by simp only [List.length_cons]; omega)]
          rfl
        · exact p g _ v (Le.refl g) (L.write h2 h3 (xs := vs) h8 fun d hd => h6 d (List.mem_cons_of_mem _ hd)) h7
/-! ### count, index -/
theorem eqU_flat {K : PySem.W.Frag} {x : V} {d : D} (fx : isFlat d = true) (rx : RV K g x d) : ∀ {vs : List V} {us : List Value} {ds : List D}, Vals vs us → RVs K g vs ds → ds.all isFlat = true → us.countP (eqU x) = ds.countP fun z => eqv z d
  | _, _, _, .nil, .nil, _ => rfl
  | _, _, _, .cons r rs, .cons h hs, fs => by
    rw [List.all_cons, Bool.and_eq_true] at fs
    rw [List.countP_cons, List.countP_cons, eqU_flat fx rx rs hs fs.2, eqU_of r (flat_rv fs.1 h), eqV_flat fs.1 fx h rx]
theorem flats_rv {K : PySem.W.Frag} : ∀ {vs : List V} {ds : List D}, RVs K g vs ds → ds.all isFlat = true → vs.all flatV = true
  | _, _, .nil, _ => rfl
  | _, _, .cons h r, f => by
    rw [List.all_cons, Bool.and_eq_true] at f
    rw [List.all_cons, flat_rv f.1 h, flats_rv r f.2]
    rfl
def rMt (T : TT) (m : MT) : V → List V → Hp → VK → Prop := fun x xs H Q => ∃ (g : Gh) (S : Store) (a : D) (as : List D) (d : D), Lies T g S H ∧ RV T.K g x a ∧ RVs T.K g xs as ∧ mtD S m a as = some d ∧ Mk T g S d H Q
theorem count_ok (eK : X.K = T.K) : MtR X "list.count" (rMt T .count) := by
  intro pins s σ H x xs v us Q I rx rxs h
  obtain ⟨g, S, a, as, d, L, ra, rs, e, m⟩ := h
  cases ra <;> first | (cases e; done) | skip
  rename_i p vs ds hF hs
  cases as with
  | nil => cases e
  | cons b as => cases as with
    | cons _ _ => cases e
    | nil =>
      obtain ⟨y, rfl, ry⟩ := one_of rs
      have e : (if isFlat b && ds.all isFlat then some (D.int (ds.countP fun z => eqv z b : Nat)) else none) = some d := e
      split at e
      · rename_i hf
        obtain ⟨f1, f2⟩ := and2 hf
        cases e
        cases rx
        obtain ⟨u, rfl, ru⟩ := rxs.one
        obtain ⟨its, rv, ⟨⟨cls, dd, data, sl⟩, n, ho, hc, hdn, hd⟩, hlen⟩ := I.list (SqL.of (K := X.K) (L.at hF))
        simp only at hc hd
        subst hc hd
        refine call_meets PySem.F.slot_list_count ⟨_, ho, rfl⟩ PySem.F.entry_list_count (PySem.F.args_list_count_2 _ _)
          (SeqAt.list_countAt p its.toArray n dd sl u (eqU y)) ⟨ho, fun z hz => mem_eqAt ru (flat_rv f1 ry) rv (flats_rv hs f2) z (by simpa using hz), ?_⟩
        have ec : its.toArray.toList.countP (eqU y) = ds.countP fun z => eqv z b := by
          have e0 : its.toArray.toList = its := by simp
          rw [e0]
          exact eqU_flat f1 ry rv hs f2
        refine ⟨.int (ds.countP fun z => eqv z b : Nat), H, I.tok _, ⟨s.toks, ?_⟩, m.at L (.int _)⟩
        show Value.int ((its.toArray.toList.countP (eqU y) : Nat) : Int) s.toks = _
        rw [ec]
      · cases e
theorem idx_of {x : D} : ∀ {xs : List D} {n : Nat}, idxOf x xs = some n → (∃ z, xs[n]? = some z ∧ eqv z x = true) ∧ ∀ m z', m < n → xs[m]? = some z' → eqv z' x = false
  | [], _, h => by cases h
  | y :: ys, n, h => by
    unfold idxOf at h
    split at h
    · rename_i hy
      cases h
      exact ⟨⟨y, rfl, hy⟩, fun m z' hm => absurd hm (Nat.not_lt_zero m)⟩
    · rename_i hy
      obtain ⟨j, h1, h2⟩ := Option.map_eq_some_iff.mp h
      subst h2
      obtain ⟨⟨z, h3, h4⟩, h5⟩ := idx_of h1
      refine ⟨⟨z, by simpa using h3, h4⟩, fun m z' hm hz => ?_⟩
      cases m with
      | zero =>
        simp at hz
        subst hz
        simpa using hy
      | succ m => exact h5 m z' (by omega) (by simpa using hz)
theorem index_ok (eK : X.K = T.K) : MtR X "list.index" (rMt T .index) := by
  intro pins s σ H x xs v us Q I rx rxs h
  obtain ⟨g, S, a, as, d, L, ra, rs, e, m⟩ := h
  cases ra <;> first | (cases e; done) | skip
  rename_i p vs ds hF hs
  cases as with
  | nil => cases e
  | cons b as => cases as with
    | cons _ _ => cases e
    | nil =>
      obtain ⟨y, rfl, ry⟩ := one_of rs
      have e : (if isFlat b && ds.all isFlat then (idxOf b ds).map fun (n : Nat) => D.int (n : Int) else none) = some d := e
      split at e
      · rename_i hf
        obtain ⟨f1, f2⟩ := and2 hf
        obtain ⟨j, e1, e2⟩ := Option.map_eq_some_iff.mp e
        subst e2
        obtain ⟨⟨z, h1, h2⟩, h3⟩ := idx_of e1
        obtain ⟨w, h4, h5⟩ := hs.get h1
        have fl : ∀ {i : Nat} {z : D}, ds[i]? = some z → isFlat z = true := fun {i z} hz => List.all_eq_true.mp f2 z (List.mem_of_getElem? hz)
        refine mt_index pins s σ H _ _ v us Q I rx rxs ⟨p, vs, y, j, w, rfl, rfl, by rw [eK]; exact SqL.of (L.at hF), flat_rv f1 ry, flats_rv hs f2, h4, ?_, fun i z' hi hz' => ?_, m.at L (.int _)⟩
        · rw [eqV_flat (fl h1) f1 h5 ry]
          exact h2
        · obtain ⟨d', h6, h7⟩ := hs.getV hz'
          rw [eqV_flat (fl h6) f1 h7 ry]
          exact h3 i d' hi h6
      · cases e
theorem few_of {env : PySem.Env} {pos : Pos} {a : Expr} {as : List Expr} (hn : ∀ e ∈ a :: as, notStar e = true) (hl : (a :: as).length ≤ 20) :
    ((backTo pos (starEach (a :: as) env)).all (fun x => !x.1) && (backToKw pos (keywordEach [] env)).all (fun x => x.1.isSome) && decide ((a :: as).length + ([] : List Keyword).length + (if ([] : List Keyword).isEmpty then 0 else 1) < 30)) = true := by
  have h1 : (backTo pos (starEach (a :: as) env)).all (fun x => !x.1) = true := by
    have h := noStar_of (env := env) (pos := pos) hn
    rw [List.any_eq_false] at h
    rw [List.all_eq_true]
    intro x hx
    have := h x hx
    simpa using this
  rw [h1]
  show (true && true && decide _) = true
  rw [Bool.true_and, Bool.true_and]
  refine decide_eq_true ?_
  show (a :: as).length + 0 + 0 < 30
  omega
theorem c_mt (O : XOk T k c X W) {m : MT} {ty id : String} {o a : Expr} {as : List Expr} {mo : Env → Store → Res D} {ms : Env → Store → Res (List D)} {apos pos : Pos} (pa : PlainAttrs ty) (slot : Slot ty (mtName m) id) (hty : typeOf (.builtin id) = pure (.type "method_descriptor")) (hm : MtR X id (rMt T m))
    (hrc : ∀ (g : Gh) (S : Store) (H : Hp) (v : V) (a : D), Lies T g S H → RV T.K g v a → rcv m a = true → tyV X.K ty v H) (ho : PE X o (tE T W mo)) (hs : PA X (a :: as) (tA T W ms)) (hn : ∀ e ∈ a :: as, notStar e = true) (hl : (a :: as).length ≤ 20) (hc : notCall o = true) (hln : apos.endLine = pos.line) :
    PE X (.Call (.Attribute o (mtName m) apos) (a :: as) [] pos) (tE T W fun e S => (mo e S).bind fun x S1 => match rcv m x with
      | true => (ms e S1).bind fun xs S2 => .ofO (mtD S2 m x xs) S2
      | false => .bad) := by
  refine pe_imp (pe_bm pa slot hty hm ho hs (base_of hc) (few_of hn hl) (line_of hln) (starEach_of (hn a List.mem_cons_self)) (noStar_of fun z hz => hn z (List.mem_cons_of_mem _ hz))) fun σ H Q q => ?_
  refine Rd_imp (Rd.one (rel1 := RV T.K) q) fun v H1 h1 => ?_
  obtain ⟨g, e, S, x, L, r, r1, p⟩ := h1
  cases er : rcv m x with
  | false =>
    rw [er] at p
    exact p.elim
  | true =>
    rw [er] at p
    refine ⟨hrc _ _ _ _ _ L r1 er, g, e, S, L, r, ?_⟩
    have p : Post T W (RV T.K) g σ ((ms e S).bind fun xs S2 => .ofO (mtD S2 m x xs) S2) Q := p
    refine (p.bind (rel1 := RVs T.K)).imp fun vs H2 ⟨g2, ds, S2, l, L2', r2, p2⟩ => ?_
    obtain ⟨d, e1, p3⟩ := p2.ofO
    exact ⟨g2, S2, x, ds, d, L2', r1.mono l, r2, e1, p3⟩
/-! ### split, join -/
theorem splitStr_cons {c x : Nat} {r : List Nat} : splitStr c (x :: r) = if x = c then [] :: splitStr c r else (match splitStr c r with
    | w :: ws => (x :: w) :: ws
    | [] => [[x]]) := rfl
theorem splitStr_ne {c : Nat} {r : List Nat} : splitStr c r ≠ [] := by
  cases r with
  | nil => intro h; cases h
  | cons x r =>
    rw [splitStr_cons]
    split
    · intro h; cases h
    · split <;> (intro h; cases h)
theorem spl_one {c : Nat} : ∀ (r acc : List Nat), TL.spl [c] 0 acc r = match splitStr c r with
    | w :: ws => (acc ++ w) :: ws
    | [] => [acc]
  | [], acc => by
    show [acc] = [acc ++ []]
    rw [List.append_nil]
  | x :: r, acc => by
    show (if TL.pre [c] (x :: r) = true then acc :: TL.spl [c] 0 [] r else TL.spl [c] 0 (acc ++ [x]) r) = _
    have hp : TL.pre [c] (x :: r) = decide (x = c) := by
      show ([x] == [c]) = _
      by_cases h : x = c
      · subst h; simp
      · simp [h]
    rw [hp, spl_one r [], spl_one r (acc ++ [x]), splitStr_cons]
    cases hs : splitStr c r with
    | nil => exact absurd hs splitStr_ne
    | cons w ws =>
      by_cases h : x = c
      · subst h
        rw [if_pos (by simp), if_pos rfl]
        simp
      · rw [if_neg (by simpa using h), if_neg h]
        simp
theorem toS_cps (s : List Nat) : (toS s).cps.toList = s := rfl
theorem of_cps (x : Str) : toS x.cps.toList = x := by
  cases x
  rfl
theorem split_txt {s : List Nat} {c : Nat} (hc : c < 256) : Txt.split (toS s) (toS [c]) = (splitStr c s).map toS := by
  have h1 := TL.split_spl (toS s) (toS [c]) (by simp [toS]) (TL.kind_ok (by simpa [toS] using hc))
  have h2 : (Txt.split (toS s) (toS [c])).map (fun x => x.cps.toList) = splitStr c s := by
    refine h1.trans ?_
    refine (spl_one s []).trans ?_
    cases hs : splitStr c s with
    | nil => exact absurd hs splitStr_ne
    | cons w ws => rfl
  rw [← h2, List.map_map]
  have : (toS ∘ fun x : Str => x.cps.toList) = id := funext of_cps
  rw [this, List.map_id]
theorem joinL_eq {s : List Nat} : ∀ (ss : List (List Nat)), TL.joinL s ss = joinStr s ss
  | [] => rfl
  | [x] => rfl
  | x :: y :: r => by
    show x ++ (s ++ TL.joinL s (y :: r)) = x ++ s ++ joinStr s (y :: r)
    rw [joinL_eq (y :: r), List.append_assoc]
theorem join_txt {s : List Nat} {ss : List (List Nat)} : Txt.join (toS s) (ss.map toS) = toS (joinStr s ss) := by
  have h1 := TL.tl_join (toS s) (ss.map toS)
  rw [TL.join_eq]
  have h2 : (Str.join (toS s) (ss.map toS)).cps.toList = joinStr s ss := by
    refine h1.trans ?_
    rw [← joinL_eq, List.map_map]
    show TL.joinL s (ss.map fun x => x) = _
    rw [List.map_id']
  rw [← h2, of_cps]
theorem rvs_strs {K : PySem.W.Frag} : ∀ (ss : List (List Nat)), RVs K g ((ss.map toS).map V.str) (ss.map D.str)
  | [] => .nil
  | s :: ss => .cons (.str s) (rvs_strs ss)
theorem split_ok : MtR X "str.split" (rMt T .split) := by
  intro pins s σ H x xs v us Q I rx rxs h
  obtain ⟨g, S, a, as, d, L, ra, rs, e, m⟩ := h
  cases ra <;> first | (cases e; done) | skip
  rename_i w
  cases as with
  | nil => cases e
  | cons b as => cases as with
    | cons _ _ =>
      cases b with
      | str z => cases z with
        | nil => cases e
        | cons _ z => cases z <;> cases e
      | _ => cases e
    | nil =>
      obtain ⟨y, rfl, ry⟩ := one_of rs
      cases ry <;> first | (cases e; done) | skip
      rename_i z
      cases z with
      | nil => cases e
      | cons c z => cases z with
        | cons _ _ => cases e
        | nil =>
          have e : (if decide (w.length ≤ 100000) && decide (c < 256) then some (D.lst ((splitStr c w).map .str)) else none) = some d := e
          split at e
          · rename_i hf
            obtain ⟨f1, f2⟩ := and2 hf
            have f1 := of_decide_eq_true f1
            have f2 := of_decide_eq_true f2
            cases e
            refine mt_split pins s σ H _ _ v us Q I rx rxs ⟨toS w, toS [c], rfl, rfl, by rfl, ?_, ?_⟩
            · rw [len_str]
              exact Nat.le_trans (Nat.add_le_add_right f1 2) (by decide)
            · rw [split_txt f2]
              exact m.lst L (rvs_strs _)
          · cases e
theorem join_ok (eK : X.K = T.K) : MtR X "str.join" (rMt T .join) := by
  intro pins s σ H x xs v us Q I rx rxs h
  obtain ⟨g, S, a, as, d, L, ra, rs, e, m⟩ := h
  cases ra <;> first | (cases e; done) | skip
  rename_i w
  cases as with
  | nil => cases e
  | cons b as => cases as with
    | cons _ _ => cases b <;> cases e
    | nil =>
      obtain ⟨y, rfl, ry⟩ := one_of rs
      cases ry <;> first | (cases e; done) | skip
      rename_i p vs ds hF hs
      obtain ⟨ss, e1, e2⟩ := Option.bind_eq_some_iff.mp (show (strAll ds).bind (fun ss => if decide ((ss.map List.length).sum + ss.length * w.length ≤ 16777216) then some (D.str (joinStr w ss)) else none) = some d from e)
      split at e2
      · rename_i hf
        have hf := of_decide_eq_true hf
        cases e2
        have ev := strs_of hs e1
        refine mt_join pins s σ H _ _ v us Q I rx rxs ⟨toS w, p, ss.map toS, rfl, rfl, .inl (by rw [eK, ← ev]; exact SqL.of (L.at hF)), ?_, ?_⟩
        · rw [List.map_map, List.length_map, len_str]
          have : ((fun x : Str => x.length) ∘ toS) = List.length := funext fun _ => len_str
          rw [this]
          exact hf
        · rw [join_txt]
          exact m.at L (.str _)
      · cases e2
theorem rcv_str {m : MT} (hm : m = .split ∨ m = .join) : ∀ (g : Gh) (S : Store) (H : Hp) (v : V) (a : D), Lies T g S H → RV T.K g v a → rcv m a = true → tyV X.K "str" v H := by
  intro g S H v a L r e
  rcases hm with rfl | rfl <;>
  · cases r <;> first | (cases e; done) | skip
    exact rfl
theorem rcv_lst (eK : X.K = T.K) {m : MT} (hm : m = .count ∨ m = .index) : ∀ (g : Gh) (S : Store) (H : Hp) (v : V) (a : D), Lies T g S H → RV T.K g v a → rcv m a = true → tyV X.K "list" v H := by
  intro g S H v a L r e
  rcases hm with rfl | rfl <;>
  · cases r <;> first | (cases e; done) | skip
    exact .inl ⟨rfl, _, SqL.of (L.at (by assumption))⟩
theorem c_count (O : XOk T k c X W) {o a : Expr} {as : List Expr} {mo : Env → Store → Res D} {ms : Env → Store → Res (List D)} {apos pos : Pos} (ho : PE X o (tE T W mo)) (hs : PA X (a :: as) (tA T W ms)) (hn : ∀ e ∈ a :: as, notStar e = true) (hl : (a :: as).length ≤ 20) (hc : notCall o = true) (hln : apos.endLine = pos.line) :
    PE X (.Call (.Attribute o (mtName .count) apos) (a :: as) [] pos) (tE T W fun e S => (mo e S).bind fun x S1 => match rcv .count x with
      | true => (ms e S1).bind fun xs S2 => .ofO (mtD S2 .count x xs) S2
      | false => .bad) := c_mt O PySem.F.plainAttrs_list PySem.F.slot_list_count PySem.F.type_list_count (count_ok O.eK) (rcv_lst O.eK (.inl rfl)) ho hs hn hl hc hln
theorem c_index (O : XOk T k c X W) {o a : Expr} {as : List Expr} {mo : Env → Store → Res D} {ms : Env → Store → Res (List D)} {apos pos : Pos} (ho : PE X o (tE T W mo)) (hs : PA X (a :: as) (tA T W ms)) (hn : ∀ e ∈ a :: as, notStar e = true) (hl : (a :: as).length ≤ 20) (hc : notCall o = true) (hln : apos.endLine = pos.line) :
    PE X (.Call (.Attribute o (mtName .index) apos) (a :: as) [] pos) (tE T W fun e S => (mo e S).bind fun x S1 => match rcv .index x with
      | true => (ms e S1).bind fun xs S2 => .ofO (mtD S2 .index x xs) S2
      | false => .bad) := c_mt O PySem.F.plainAttrs_list PySem.F.slot_list_index PySem.F.type_list_index (index_ok O.eK) (rcv_lst O.eK (.inr rfl)) ho hs hn hl hc hln
theorem c_split (O : XOk T k c X W) {o a : Expr} {as : List Expr} {mo : Env → Store → Res D} {ms : Env → Store → Res (List D)} {apos pos : Pos} (ho : PE X o (tE T W mo)) (hs : PA X (a :: as) (tA T W ms)) (hn : ∀ e ∈ a :: as, notStar e = true) (hl : (a :: as).length ≤ 20) (hc : notCall o = true) (hln : apos.endLine = pos.line) :
    PE X (.Call (.Attribute o (mtName .split) apos) (a :: as) [] pos) (tE T W fun e S => (mo e S).bind fun x S1 => match rcv .split x with
      | true => (ms e S1).bind fun xs S2 => .ofO (mtD S2 .split x xs) S2
      | false => .bad) := c_mt O PySem.F.plainAttrs_str PySem.F.slot_str_split PySem.F.type_str_split split_ok (rcv_str (.inl rfl)) ho hs hn hl hc hln
theorem c_join (O : XOk T k c X W) {o a : Expr} {as : List Expr} {mo : Env → Store → Res D} {ms : Env → Store → Res (List D)} {apos pos : Pos} (ho : PE X o (tE T W mo)) (hs : PA X (a :: as) (tA T W ms)) (hn : ∀ e ∈ a :: as, notStar e = true) (hl : (a :: as).length ≤ 20) (hc : notCall o = true) (hln : apos.endLine = pos.line) :
    PE X (.Call (.Attribute o (mtName .join) apos) (a :: as) [] pos) (tE T W fun e S => (mo e S).bind fun x S1 => match rcv .join x with
      | true => (ms e S1).bind fun xs S2 => .ofO (mtD S2 .join x xs) S2
      | false => .bad) := c_mt O PySem.F.plainAttrs_str PySem.F.slot_str_join PySem.F.type_str_join (join_ok O.eK) (rcv_str (.inr rfl)) ho hs hn hl hc hln
end
end Pf

end
section
/-! Snd8: what loops and comprehensions go over. -/
namespace Pf
open PySem PySem.Spec PyProof.Rows L2

/-! ### a list (true) or a tuple (false), over one form -/
def SqX (K : PySem.W.Frag) (b : Bool) (H : Hp) (a : Addr) (xs : List V) : Prop := match b with
  | true => SqL K H a xs
  | false => SqT K H a xs
def IsItX (b : Bool) (h : Heap) (it a : Addr) (i : Nat) : Prop := match b with
  | true => h.IsListIter it a i
  | false => h.IsTupleIter it a i
def IsSq (b : Bool) (h : Heap) (a : Addr) (its : Array Value) : Prop := match b with
  | true => h.IsList a its
  | false => h.IsTuple a its
def itName (b : Bool) : String := match b with
  | true => "list_iterator"
  | false => "tuple_iterator"
theorem IsItX.keep {b : Bool} {h h' : Heap} {it a : Addr} {i : Nat} (st : IsItX b h it a i) (k : ∀ o, h.get? it = some o → h'.get? it = some o) : IsItX b h' it a i := by
  cases b with
  | true => exact Heap.IsListIter.at st k
  | false => exact Heap.IsTupleIter.at st k
theorem IsItX.obj {b : Bool} {h : Heap} {it a : Addr} {i : Nat} (st : IsItX b h it a i) : ∃ o, h.get? it = some o ∧ ∀ v, o.data ≠ .cell v := by
  cases b with
  | true =>
    obtain ⟨o, e, c, d⟩ := st
    exact ⟨o, e, fun v z => by rw [d] at z; cases z⟩
  | false =>
    obtain ⟨o, e, c, d⟩ := st
    exact ⟨o, e, fun v z => by rw [d] at z; cases z⟩
theorem IsItX.make {b : Bool} {h : Heap} {it a : Addr} (e : h.get? it = some { cls := .type (itName b), data := .fields #[.ref a, .int 0 0] }) : IsItX b h it a 0 := by
  cases b with
  | true => exact ⟨_, e, rfl, rfl⟩
  | false => exact ⟨_, e, rfl, rfl⟩
theorem sqx_at {X : Cx} {pins : List (Addr × Obj)} {σ : L2.St} {H : Hp} {s : Shared} {b : Bool} {a : Addr} {xs : List V} (I : Inv X pins σ H s) (h : SqX X.K b H a xs) : ∃ its : List Value, Vals xs its ∧ IsSq b s.heap a its.toArray ∧ a < s.heap.objs.size := by
  cases b with
  | true =>
    obtain ⟨its, rv, p, _⟩ := I.list h
    exact ⟨its, rv, p.isList, p.lt⟩
  | false =>
    obtain ⟨its, rv, p, _⟩ := I.tuple h
    obtain ⟨o, ho, _⟩ := id p
    exact ⟨its, rv, p, Heap.lt_size ho⟩
theorem sqx_inj {X : Cx} {pins : List (Addr × Obj)} {σ : L2.St} {H : Hp} {s : Shared} {b : Bool} {a : Addr} {xs ys : List V} (I : Inv X pins σ H s) (h : SqX X.K b H a xs) (h' : SqX X.K b H a ys) : xs = ys := by
  cases b with
  | true => exact I.list_inj h h'
  | false => exact I.tuple_inj h h'
theorem drawsX {prog : Program} {w : World} {A : Around} (b : Bool) (hh : A.handled = none) (it l : Addr) (hne : l ≠ it) (items : Array Value) :
    Draws prog w A it [it, l] items.size (fun i v => items[i]? = some v) (fun i h => IsItX b h it l i ∧ IsSq b h l items) := by
  cases b with
  | true => exact Draws.list hh it l hne items
  | false => exact Draws.tuple hh it l hne items
theorem beginsX (b : Bool) (l : Addr) (items : Array Value) : Begins (.ref l) { cls := .type (itName b), data := .fields #[.ref l, .int 0 0] } (fun h => IsSq b h l items) := by
  cases b with
  | true => exact begins_list l items
  | false => exact begins_tuple l items

/-! ### enumerate -/
set_option maxHeartbeats 1000000 in
theorem meets_enumerate_newB1 {v : Value} {o : Obj} {H : Heap → Prop} (B : Begins v o H) :
    Meets (Builtin.«enumerate.__new__» ⟨[.type "enumerate", v], []⟩) (fun _ R s => H s.heap ∧
      R (.ok (.ret (.ref (s.heap.push o).objs.size))) { s with heap := (s.heap.push o).push { cls := .type "enumerate", data := .fields #[.none, .bool false, .ref s.heap.objs.size, rawInt 0, .none, .none] } }) :=
  .of_wp fun prog w A R s h => by
    obtain ⟨hp, g, d, tk, os⟩ := s; obtain ⟨h1, h⟩ := h
    have hsub := sub_enumerate
    have q1 : ∀ {A' : Around} {E : Value → Shared → Prop} {Q : Value → Shared → Prop}, Q (.ref hp.objs.size) ⟨hp.push o, g, d, tk, os⟩ → wpAny (model prog w) A' (pyIter v) Q E ⟨hp, g, d, tk, os⟩ :=
      fun q => B.iter prog w _ _ ⟨hp, g, d, tk, os⟩ _ h1 q
    wp_walk using q1
    refine wpAny_stack_any fun st => wpAny_pure ?_
    split
    · rename_i c _ _ _ _ _
      cases (c == Value.type "enumerate")
      · wp_walk using q1
        exact ⟨_, rfl, h⟩
      · wp_walk using q1
        exact ⟨_, rfl, h⟩
    · wp_walk using q1
      exact ⟨_, rfl, h⟩
theorem enum_begins1 {prog : Program} {w : World} {A : Around} {E : Value → Shared → Prop} {s : Shared} {v : Value} {o : Obj} {H : Heap → Prop} {Q : Value → Shared → Prop} (B : Begins v o H) (h1 : H s.heap)
    (h : ∀ h', IsEnum h' (s.heap.objs.size + 1) s.heap.objs.size 0 .none → h'.get? s.heap.objs.size = some o → h'.objs.size = s.heap.objs.size + 2 →
      (∀ b o, s.heap.get? b = some o → h'.get? b = some o) → Q (.ref (s.heap.objs.size + 1)) { s with heap := h' }) :
    wpAny (model prog w) A (call (.type "enumerate") [v]) Q E s := by
  refine callType_new F.called_enumerate (by decide) (F.typeCall_enumerate_1 _) (F.newCall_enumerate_1 _) (fun obj => F.args_object_init_2 obj _) F.entry_enumerate_new
    (meets_enumerate_newB1 B) ⟨h1, ?_⟩
  have hz : (s.heap.push o).objs.size = s.heap.objs.size + 1 := Heap.size_push ..
  show _ ∧ _
  rw [hz]
  have he : IsEnum ((s.heap.push o).push { cls := .type "enumerate", data := .fields #[.none, .bool false, .ref s.heap.objs.size, rawInt 0, .none, .none] }) (s.heap.objs.size + 1) s.heap.objs.size 0 .none := by
    have := Heap.get?_push_size (s.heap.push o) (o := { cls := .type "enumerate", data := .fields #[.none, .bool false, .ref s.heap.objs.size, rawInt 0, .none, .none] }) rfl
    rw [hz] at this; exact this
  refine ⟨⟨_, he, rfl⟩, h _ he (Heap.get?_push_of_some _ (Heap.get?_push_size _ B.free)) (by rw [Heap.size_push, hz]) fun b o x => Heap.get?_push_of_some _ (Heap.get?_push_of_some _ x)⟩
def IteX (K : PySem.W.Frag) (b : Bool) (a : Addr) : L2.It :=
  ⟨fun i H => ∃ (xs : List V) (x : V), SqX K b H a xs ∧ xs[i]? = some x, fun i H v H' => ∃ T x, v = .ref T ∧ H T = none ∧ H' = upd H T (.tup [.int (i : Nat), x]) ∧ ∀ xs, SqX K b H a xs → xs[i]? = some x, fun i H => ∃ xs : List V, SqX K b H a xs ∧ xs.length = i⟩
theorem turn_enumX {P : Program} {w : World} {K : PySem.W.Frag} {elts : List Expr} {kk : Nat} {tpos : Pos} {b : Bool} (a e it : Addr) (hea : e ≠ a) (hia : a ≠ it) :
    Turn P w K (.Tuple elts kk tpos) (IteX K b a) [e, it] e (fun i h => (∃ old, IsEnum h e it ((i : Nat) : Int) old) ∧ IsItX b h it a i ∧ e ≠ it) where
  mem := by simp
  obj := fun i h st c hc => by
    obtain ⟨⟨old, he⟩, hit, _⟩ := st
    have e' : c = e ∨ c = it := by simpa using hc
    rcases e' with z | z
    · rw [z]; exact ⟨_, he, fun v q => nomatch q⟩
    · rw [z]; exact hit.obj
  keep := fun i h h' st k => let ⟨⟨old, he⟩, hi, hne⟩ := st; ⟨⟨old, k e (by simp) _ he⟩, hi.keep fun o q => k it (by simp) o q, hne⟩
  item := by
    intro X hP hw hK hc i pins s σ H E I hf st hg
    subst hP hw hK
    obtain ⟨⟨old, he⟩, hit, hne⟩ := st
    obtain ⟨xs, x, hq, hx⟩ := hg
    obtain ⟨its, rv, p, hlt⟩ := sqx_at I hq
    obtain ⟨u, hu, ru⟩ := rv.get hx
    have hel : e < s.heap.objs.size := Heap.lt_size he
    have hil : it < s.heap.objs.size := by obtain ⟨_, q, _⟩ := hit.obj; exact Heap.lt_size q
    have hi : i < its.toArray.size := by
      have : i < its.length := (List.getElem?_eq_some_iff.mp hu).1
      simpa using this
    refine wpAny_pyNext_enum_itemD (drawsX (A := X.A.in1) b (I.ok.hd hc) it a hia its.toArray) he ⟨hit, p⟩ hi hne (by simp [hne, hea]) fun x' h' tk hP ho st' hT hsz hk => ?_
    have hx' : x' = u := by
      have : its.toArray[i]? = some u := by simpa using hu
      rw [this] at hP
      cases hP
      rfl
    subst hx'
    obtain ⟨hit', _⟩ := st'
    refine ⟨_, rfl, wpAny_letOwnedTupleGo_enum (s := { s with heap := h', toks := tk + 1 }) ho fun h'' he' sb => ?_⟩
    have hT2 : h''.get? s.heap.objs.size = some { cls := .type "tuple", data := .seq #[.int i tk, x'] } := (sb.2 _ (Nat.ne_of_gt hel)).trans hT
    have new : ObjOk X.prog X.w (upd H s.heap.objs.size (.tup [.int (i : Nat), x])) h'' s.heap.objs.size (.tup [.int (i : Nat), x]) :=
      ⟨by show 2 ≤ sizeLine; decide, [.int i tk, x'], .cons ⟨_, rfl⟩ (.cons ru .nil), ⟨_, hT2, rfl, _, rfl⟩⟩
    have I1 : Inv X pins σ (upd H s.heap.objs.size (.tup [.int (i : Nat), x])) { s with heap := h'', toks := tk + 1 } :=
      I.turnedNew (ch := [e, it]) (fun b ob hb q => (sb.2 b (fun z => hb (by simp [z]))).trans (hk b ob (fun z => hb (by simp [z])) (fun z => hb (by simp [z])) q)) hf (Nat.le_refl _) new
    refine ⟨.ref s.heap.objs.size, _, I1, rfl, ⟨_, x, rfl, I.hok.fresh (Nat.le_refl _), rfl, fun ys hy => by rw [sqx_inj I hy hq]; exact hx⟩, ⟨⟨x', ?_⟩, hit'.keep fun o q => (sb.2 it (Ne.symm hne)).trans q, hne⟩, fun b hb => ?_⟩
    · have e1 : ((i + 1 : Nat) : Int) = (i : Int) + 1 := by omega
      rw [e1]; exact he'
    · have hb' : b < s.heap.objs.size := by
        have e' : b = e ∨ b = it := by simpa using hb
        rcases e' with z | z
        · rw [z]; exact hel
        · rw [z]; exact hil
      rw [upd_ne (Nat.ne_of_lt hb')]
      exact (hf b hb).1
  done := by
    intro X hP hw hK hc i pins s σ H E I hf st hg
    subst hP hw hK
    obtain ⟨⟨old, he⟩, hit, hne⟩ := st
    obtain ⟨xs, hq, hx⟩ := hg
    obtain ⟨its, rv, p, _⟩ := sqx_at I hq
    obtain ⟨f0, f1, f2, f3, f4, f5⟩ := hf it (by simp)
    have hl := rv.length
    have hi : i = its.toArray.size := by simp; omega
    subst hi
    exact wpAny_pyNext_enum_endD (drawsX (A := X.A.in1) b (I.ok.hd hc) it a hia its.toArray) he ⟨hit, p⟩ fun h' eb => ⟨rfl, I.turned (t' := s.toks) (fun b o hb q => eb b o hb q) f0 f1 f3 f4 f5⟩
  self := fun A i s Q E st h => let ⟨⟨_, he⟩, _⟩ := st; wpAny_pyIter_enum he h
def iEnumX (K : PySem.W.Frag) (ta : TA) : TI := fun σ H R => ta σ H fun vs H1 => ∃ (b : Bool) (a : Addr) (xs : List V), vs = [.ref a] ∧ SqX K b H1 a xs ∧ R (IteX K b a) H1
theorem pi_enumX {X : Cx} {e : Expr} {ta : TA} {p pos tpos : Pos} {elts : List Expr} {kk : Nat} (hg : Gl X "enumerate") (hm : X.mg "enumerate" = none) (ha : PA X [e] ta) (hs : starEach [e] X.env = [(false, eval e X.env)] := by rfl) :
    PI X (.Tuple elts kk tpos) (.Call (.Name "enumerate" p) [e] [] pos) (iEnumX X.K ta) := by
  refine ⟨fun pins s σ H R I h => ?_⟩
  refine Call_ (ld_blt I hg hm boot_enumerate (PyProof.Rows.callWith_type1 (thn (ha.run pos pins s σ H _ I h) fun us s1 ⟨vs, H1, I1, r1, q1⟩ => ?_) hs rfl))
  obtain ⟨b, a, xs, ex, hq, q⟩ := q1
  subst ex
  cases r1 with
  | cons r rr =>
    cases rr
    cases r
    obtain ⟨its, rv, p', hlt⟩ := sqx_at I1 hq
    refine enum_begins1 (beginsX b a its.toArray) p' fun h' he hit hsz hk => wpAny_pyIter_enum he ?_
    have I2 : Inv X pins σ H1 { s1 with heap := h' } := I1.kept (t' := s1.toks) hk
    refine ⟨s1.heap.objs.size + 1, [s1.heap.objs.size + 1, s1.heap.objs.size], _, _, H1, rfl, I2, turn_enumX a (s1.heap.objs.size + 1) s1.heap.objs.size (Nat.ne_of_gt (Nat.lt_succ_of_lt hlt)) (Nat.ne_of_lt hlt), ⟨⟨.none, he⟩, IsItX.make hit, Nat.succ_ne_self _⟩, fun b hb => ?_, q⟩
    have e' : b = s1.heap.objs.size + 1 ∨ b = s1.heap.objs.size := by simpa using hb
    have hle : s1.heap.objs.size ≤ b := by
      rcases e' with z | z
      · rw [z]; exact Nat.le_add_right _ _
      · rw [z]; exact Nat.le_refl _
    exact I1.fpOk hle (I1.hok.fresh hle)

/-! ### zip -/
def ItzX (K : PySem.W.Frag) (c d : Bool) (a b : Addr) : L2.It :=
  ⟨fun i H => ∃ (xs ys : List V) (x y : V), SqX K c H a xs ∧ SqX K d H b ys ∧ xs[i]? = some x ∧ ys[i]? = some y,
    fun i H v H' => ∃ T x y, v = .ref T ∧ H T = none ∧ H' = upd H T (.tup [x, y]) ∧ (∀ xs, SqX K c H a xs → xs[i]? = some x) ∧ ∀ ys, SqX K d H b ys → ys[i]? = some y,
    fun i H => ∃ xs ys : List V, SqX K c H a xs ∧ SqX K d H b ys ∧ i ≤ xs.length ∧ i ≤ ys.length ∧ (i = xs.length ∨ i = ys.length)⟩
theorem turn_zipX {P : Program} {w : World} {K : PySem.W.Frag} {elts : List Expr} {kk : Nat} {tpos : Pos} {c d : Bool} {a b z TI TO i1 i2 : Addr} (D : ZipSep2 z TI TO i1 i2 [i1, a] [i2, b]) (ha : a ≠ i1) (hb : b ≠ i2) :
    Turn P w K (.Tuple elts kk tpos) (ItzX K c d a b) [z, TI, TO, i1, i2] z (fun i h => IsZip h z TI TO .none ∧ IsTupOf2 h TI (.ref i1) (.ref i2) ∧ (∃ x y, IsTupOf2 h TO x y) ∧ IsItX c h i1 a i ∧ IsItX d h i2 b i) where
  mem := by simp
  obj := fun i h st c hc => by
    obtain ⟨hz, hTI, ⟨x, y, hTO⟩, h1, h2⟩ := st
    have e' : c = z ∨ c = TI ∨ c = TO ∨ c = i1 ∨ c = i2 := by simpa using hc
    rcases e' with q | q | q | q | q
    · rw [q]; exact ⟨_, hz, fun v q => nomatch q⟩
    · rw [q]; exact ⟨_, hTI, fun v q => nomatch q⟩
    · rw [q]; exact ⟨_, hTO, fun v q => nomatch q⟩
    · rw [q]; exact h1.obj
    · rw [q]; exact h2.obj
  keep := fun i h h' st k => by
    obtain ⟨hz, hTI, ⟨x, y, hTO⟩, h1, h2⟩ := st
    exact ⟨k z (by simp) _ hz, k TI (by simp) _ hTI, ⟨x, y, k TO (by simp) _ hTO⟩, h1.keep fun o q => k i1 (by simp) o q, h2.keep fun o q => k i2 (by simp) o q⟩
  item := by
    intro X hP hw hK hc i pins s σ H E I hf st hg
    subst hP hw hK
    obtain ⟨hz, hTI, ⟨x0, y0, hTO⟩, h1, h2⟩ := st
    obtain ⟨xs, ys, x, y, hqx, hqy, hx, hy⟩ := hg
    obtain ⟨its, rv, p, _⟩ := sqx_at I hqx
    obtain ⟨its2, rv2, p2, _⟩ := sqx_at I hqy
    obtain ⟨u, hu, ru⟩ := rv.get hx
    obtain ⟨u2, hu2, ru2⟩ := rv2.get hy
    have hzl : z < s.heap.objs.size := Heap.lt_size hz
    have hi1 : i < its.toArray.size := by
      have : i < its.length := (List.getElem?_eq_some_iff.mp hu).1
      simpa using this
    have hi2 : i < its2.toArray.size := by
      have : i < its2.length := (List.getElem?_eq_some_iff.mp hu2).1
      simpa using this
    refine wpAny_pyNext_zipD2_item D (drawsX (A := X.A.in1) c (I.ok.hd hc) i1 a ha its.toArray) (drawsX (A := X.A.in1) d (I.ok.hd hc) i2 b hb its2.toArray) hz hTI hTO ⟨h1, p⟩ ⟨h2, p2⟩ hi1 hi2 fun v1 v2 h' tk e1 e2 z' TO' st1 st2 hT hsz hk => ?_
    have q1 : v1 = u := by
      have : its.toArray[i]? = some u := by simpa using hu
      rw [this] at e1
      cases e1
      rfl
    have q2 : v2 = u2 := by
      have : its2.toArray[i]? = some u2 := by simpa using hu2
      rw [this] at e2
      cases e2
      rfl
    subst q1 q2
    obtain ⟨h1', _⟩ := st1
    obtain ⟨h2', _⟩ := st2
    refine ⟨_, rfl, wpAny_letOwnedTupleGo_zip (s := { s with heap := h', toks := tk }) z' fun h'' z'' sb => ?_⟩
    have hT2 : h''.get? s.heap.objs.size = some { cls := .type "tuple", data := .seq #[v1, v2] } := (sb.2 _ (Nat.ne_of_gt hzl)).trans hT
    have new : ObjOk X.prog X.w (upd H s.heap.objs.size (.tup [x, y])) h'' s.heap.objs.size (.tup [x, y]) :=
      ⟨by show 2 ≤ sizeLine; decide, [v1, v2], .cons ru (.cons ru2 .nil), ⟨_, hT2, rfl, _, rfl⟩⟩
    have I1 : Inv X pins σ (upd H s.heap.objs.size (.tup [x, y])) { s with heap := h'', toks := tk } :=
      I.turnedNew (t' := tk) (ch := [z, TI, TO, i1, i2]) (fun c o hb q => (sb.2 c (fun q' => hb (by simp [q']))).trans (hk c o (fun q' => hb (by simp [q'])) (fun q' => hb (by simp [q'])) (fun q' => hb (by simp [q'])) (fun q' => hb (by simp [q'])) q)) hf (Nat.le_refl _) new
    refine ⟨.ref s.heap.objs.size, _, I1, rfl, ⟨_, x, y, rfl, I.hok.fresh (Nat.le_refl _), rfl, fun l hl => by rw [sqx_inj I hl hqx]; exact hx, fun l hl => by rw [sqx_inj I hl hqy]; exact hy⟩, ⟨z'', ?_, ⟨v1, v2, ?_⟩, ?_, ?_⟩, fun c hcm => ?_⟩
    · exact (sb.2 _ D.TIz).trans (hk _ _ D.TIz D.TITO D.TIi1 D.TIi2 hTI)
    · exact (sb.2 _ D.TOz).trans TO'
    · exact h1'.keep fun o q => (sb.2 _ (Ne.symm D.zi1)).trans q
    · exact h2'.keep fun o q => (sb.2 _ (Ne.symm D.zi2)).trans q
    · have hlt : c < s.heap.objs.size := by
        have e' : c = z ∨ c = TI ∨ c = TO ∨ c = i1 ∨ c = i2 := by simpa using hcm
        rcases e' with q | q | q | q | q
        · rw [q]; exact hzl
        · rw [q]; exact Heap.lt_size hTI
        · rw [q]; exact Heap.lt_size hTO
        · rw [q]; obtain ⟨_, e1, _⟩ := h1.obj; exact Heap.lt_size e1
        · rw [q]; obtain ⟨_, e2, _⟩ := h2.obj; exact Heap.lt_size e2
      rw [upd_ne (Nat.ne_of_lt hlt)]
      exact (hf c hcm).1
  done := by
    intro X hP hw hK hc i pins s σ H E I hf st hg
    subst hP hw hK
    obtain ⟨hz, hTI, ⟨x0, y0, hTO⟩, h1, h2⟩ := st
    obtain ⟨xs, ys, hqx, hqy, e1, e2, hend⟩ := hg
    obtain ⟨its, rv, p, _⟩ := sqx_at I hqx
    obtain ⟨its2, rv2, p2, _⟩ := sqx_at I hqy
    have l1 := rv.length
    have l2 := rv2.length
    refine wpAny_pyNext_zipD2_end D (drawsX (A := X.A.in1) c (I.ok.hd hc) i1 a ha its.toArray) (drawsX (A := X.A.in1) d (I.ok.hd hc) i2 b hb its2.toArray) hz hTI hTO ⟨h1, p⟩ ⟨h2, p2⟩ (by simp; omega) (by simp; omega) (by simp; omega) fun h' tk hk => ⟨rfl, I.turnedL (t' := tk) (ch := [z, TI, TO, i1, i2]) (fun c o hb q =>
      hk c o (fun q' => hb (by simp [q'])) (fun q' => hb (by simp [q'])) (fun q' => hb (by simp [q'])) (fun q' => hb (by simp [q'])) q) hf⟩
  self := fun A i s Q E st h => wpAny_pyIter_zip st.1 h
def iZipX (K : PySem.W.Frag) (ta : TA) : TI := fun σ H R => ta σ H fun vs H1 => ∃ (c d : Bool) (a b : Addr) (xs ys : List V), vs = [.ref a, .ref b] ∧ SqX K c H1 a xs ∧ SqX K d H1 b ys ∧ R (ItzX K c d a b) H1
theorem pi_zipX {X : Cx} {e e2 : Expr} {ta : TA} {p pos tpos : Pos} {elts : List Expr} {kk : Nat} (hg : Gl X "zip") (hm : X.mg "zip" = none) (ha : PA X [e, e2] ta)
    (hs : starEach [e, e2] X.env = (false, eval e X.env) :: starEach [e2] X.env := by rfl) (hpl : (backTo pos (starEach [e2] X.env)).any (·.1) = false := by rfl) :
    PI X (.Tuple elts kk tpos) (.Call (.Name "zip" p) [e, e2] [] pos) (iZipX X.K ta) := by
  refine ⟨fun pins s σ H R I h => ?_⟩
  refine Call_ (ld_blt I hg hm PyProof.Rows.boot_zip (PyProof.Rows.callWith_type1 (thn (ha.run pos pins s σ H _ I h) fun us s1 ⟨vs, H1, I1, r1, q1⟩ => ?_) hs hpl))
  obtain ⟨c, d, a, b, xs, ys, ex, hqx, hqy, q⟩ := q1
  subst ex
  cases r1 with
  | cons r rr =>
    cases rr with
    | cons r' rr =>
      cases rr
      cases r
      cases r'
      obtain ⟨its, rv, p1, la⟩ := sqx_at I1 hqx
      obtain ⟨its2, rv2, p2, lb⟩ := sqx_at I1 hqy
      refine zip_begins2 (beginsX c a its.toArray) (beginsX d b its2.toArray) p1 p2 fun h' hz hTI hTO h1 h2 hsz hk => wpAny_pyIter_zip hz ?_
      have I2 : Inv X pins σ H1 { s1 with heap := h' } := I1.kept (t' := s1.toks) hk
      refine ⟨s1.heap.objs.size + 4, [s1.heap.objs.size + 4, s1.heap.objs.size + 2, s1.heap.objs.size + 3, s1.heap.objs.size, s1.heap.objs.size + 1], _, _, H1, rfl, I2, turn_zipX (zip_sep2 (fp1 := [a]) (fp2 := [b]) (by simpa using la) (by simpa using lb)) (Nat.ne_of_lt la) (Nat.ne_of_lt (Nat.lt_succ_of_lt lb)), ⟨hz, hTI, ⟨_, _, hTO⟩, IsItX.make h1, IsItX.make h2⟩, fun c hcm => ?_, q⟩
      have e' : c = s1.heap.objs.size + 4 ∨ c = s1.heap.objs.size + 2 ∨ c = s1.heap.objs.size + 3 ∨ c = s1.heap.objs.size ∨ c = s1.heap.objs.size + 1 := by simpa using hcm
      have hle : s1.heap.objs.size ≤ c := by
        rcases e' with z | z | z | z | z
        · rw [z]; exact Nat.le_add_right _ _
        · rw [z]; exact Nat.le_add_right _ _
        · rw [z]; exact Nat.le_add_right _ _
        · rw [z]; exact Nat.le_refl _
        · rw [z]; exact Nat.le_add_right _ _
      exact I1.fpOk hle (I1.hok.fresh hle)
/-! ### list or tuple -/
def ItX (K : PySem.W.Frag) (b : Bool) (a : Addr) : L2.It := match b with
  | true => Itl K a
  | false => Itt K a
def iSeqX (K : PySem.W.Frag) (tl : TE) : TI := fun σ H R => tl σ H fun x H1 => ∃ (b : Bool) (a : Addr) (xs : List V), x = .ref a ∧ SqX K b H1 a xs ∧ R (ItX K b a) H1
theorem pi_seqX {X : Cx} {tg l : Expr} {tl : TE} (hl : PE X l tl) : PI X tg l (iSeqX X.K tl) := by
  refine ⟨fun pins s σ H R I h => ?_⟩
  refine thn (hl.run pins s σ H _ I h) fun v s1 ⟨x, H1, I1, r1, q1⟩ => ?_
  obtain ⟨b, a, xs, e, hq, q⟩ := q1
  subst e
  cases r1
  cases b with
  | true =>
    obtain ⟨its, rv, p, hz⟩ := I1.list hq
    refine wpAny_pyIter_list p.isList ?_
    refine ⟨s1.heap.objs.size, [s1.heap.objs.size], _, _, H1, rfl, I1.kept (t' := s1.toks) fun b o e => Heap.get?_push_of_some _ e, turn_list a _, ⟨_, Heap.get?_push_size _ rfl, rfl, rfl⟩, fun b hb => ?_, q⟩
    have e : b = s1.heap.objs.size := by simpa using hb
    subst e
    exact I1.fpOk (Nat.le_refl _) (I1.hok.fresh (Nat.le_refl _))
  | false =>
    obtain ⟨its, rv, p, hz⟩ := I1.tuple hq
    refine wpAny_pyIter_tuple (show s1.heap.IsTuple a its.toArray from p) ?_
    refine ⟨s1.heap.objs.size, [s1.heap.objs.size], _, _, H1, rfl, I1.kept (t' := s1.toks) fun b o e => Heap.get?_push_of_some _ e, turn_tuple a _, ⟨_, Heap.get?_push_size _ rfl, rfl, rfl⟩, fun b hb => ?_, q⟩
    have e : b = s1.heap.objs.size := by simpa using hb
    subst e
    exact I1.fpOk (Nat.le_refl _) (I1.hok.fresh (Nat.le_refl _))
end Pf

end
section
/-! Snd9: iterations, read by the evaluator. -/
namespace Pf
open PySem PySem.Spec PyProof.Rows L2
/-- one world says what the other says (the frame apart) -/
structure Ext (g g' : Gh) : Prop where
  b : ∃ l, g'.β = g.β ++ l
  f : ∀ a o, g.F a = some o → g'.F a = some o
theorem Ext.refl (g : Gh) : Ext g g := ⟨⟨[], by simp⟩, fun _ _ h => h⟩
theorem Le.ext {g g' : Gh} (l : Le g g') : Ext g g' := ⟨l.b, l.f⟩
theorem Ext.trans {g g1 g2 : Gh} (a : Ext g g1) (b : Ext g1 g2) : Ext g g2 := by
  obtain ⟨l, e⟩ := a.b
  obtain ⟨l', e'⟩ := b.b
  exact ⟨⟨l ++ l', by rw [e', e, List.append_assoc]⟩, fun x o h => b.f x o (a.f x o h)⟩
theorem Ext.at {g g' : Gh} (h : Ext g g') {n : Nat} {a : Addr} (e : g.β[n]? = some a) : g'.β[n]? = some a := by
  obtain ⟨l, q⟩ := h.b
  rw [q]
  have hn : n < g.β.length := (List.getElem?_eq_some_iff.mp e).1
  rw [List.getElem?_append_left hn]
  exact e
mutual
theorem RV.ext {K : PySem.W.Frag} {g g' : Gh} (l : Ext g g') : ∀ {v : V} {d : D}, RV K g v d → RV K g' v d
  | _, _, .non => .non
  | _, _, .bl b => .bl b
  | _, _, .int i => .int i
  | _, _, .str s => .str s
  | _, _, .lst h r => .lst (l.f _ _ h) (RVs.ext l r)
  | _, _, .scr h r => .scr (sql_mono l.f h) (RVs.ext l r)
  | _, _, .tup h r => .tup (sqt_mono l.f h) (RVs.ext l r)
  | _, _, .ref h => .ref (l.at h)
theorem RVs.ext {K : PySem.W.Frag} {g g' : Gh} (l : Ext g g') : ∀ {vs : List V} {ds : List D}, RVs K g vs ds → RVs K g' vs ds
  | _, _, .nil => .nil
  | _, _, .cons h r => .cons (RV.ext l h) (RVs.ext l r)
end
/-- a walk over the items ds -/
structure ItIs (T : TT) (g : Gh) (J : L2.It) (ds : List D) : Prop where
  go : ∀ g' S H i, Ext g g' → Lies T g' S H → i < ds.length → J.go i H
  stop : ∀ g' S H, Ext g g' → Lies T g' S H → J.stop ds.length H
  yld : ∀ g' S H i x H' d, Ext g g' → Lies T g' S H → ds[i]? = some d → J.yld i H x H' → ∃ g'', Le g' g'' ∧ Lies T g'' S H' ∧ RV T.K g'' x d
theorem ItIs.ext {T : TT} {g g' : Gh} {J : L2.It} {ds : List D} (I : ItIs T g J ds) (l : Ext g g') : ItIs T g' J ds :=
  ⟨fun g1 S H i e => I.go g1 S H i (l.trans e), fun g1 S H e => I.stop g1 S H (l.trans e), fun g1 S H i x H' d e => I.yld g1 S H i x H' d (l.trans e)⟩
abbrev iI (T : TT) (W : WX) (m : Env → Store → Res (List D)) : TI := Rd T W (ItIs T) m
section
variable {T : TT} {X : Cx} {W : WX} {g : Gh} {S : Store} {H : Hp} {σ : L2.St} {k : Nat} {c : CC} {e : Env}
theorem pi_imp {tg it : Expr} {t t' : TI} (h : PI X tg it t) (q : ∀ σ H Q, t' σ H Q → t σ H Q) : PI X tg it t' := ⟨fun pins s σ H Q I w => h.run pins s σ H Q I (q _ _ _ w)⟩
/-- it is a sequence -/
def SeqAt (T : TT) (g : Gh) (b : Bool) (a : Addr) (vs : List V) : Prop := match b with
  | true => g.F a = some (.lst vs)
  | false => SqT T.K g.F a vs
theorem SeqAt.ext {g' : Gh} {b : Bool} {a : Addr} {vs : List V} (h : SeqAt T g b a vs) (l : Ext g g') : SeqAt T g' b a vs := by
  cases b with
  | true => exact l.f _ _ h
  | false => exact sqt_mono l.f h
theorem SeqAt.sqx {b : Bool} {a : Addr} {vs : List V} (h : SeqAt T g b a vs) (L : Lies T g S H) : SqX T.K b H a vs := by
  cases b with
  | true => exact SqL.of (L.at h)
  | false => exact L.sqT h
/-- what an item of a tuple or list is told by -/
theorem seq_of {v : V} {d : D} (r : RV T.K g v d) {xs : List D} (h : d = .tup xs ∨ d = .lst xs) : ∃ b a vs, v = .ref a ∧ SeqAt T g b a vs ∧ RVs T.K g vs xs := by
  cases r <;> first | (rcases h with h | h <;> cases h; done) | skip
  · rename_i a vs ds hF rs
    rcases h with h | h <;> cases h
    exact ⟨true, a, vs, rfl, hF, rs⟩
  · rename_i a vs ds hF rs
    rcases h with h | h <;> cases h
    exact ⟨false, a, vs, rfl, hF, rs⟩
theorem is_seq {b : Bool} {a : Addr} {vs : List V} {ds : List D} (h : SeqAt T g b a vs) (r : RVs T.K g vs ds) : ItIs T g (ItX T.K b a) ds := by
  have len := r.length
  refine ⟨fun g' S H i l L hi => ?_, fun g' S H l L => ?_, fun g' S H i x H' d l L hd y => ?_⟩
  · have q := (h.ext l).sqx L
    have hx : vs[i]? = some (vs[i]'(by omega)) := List.getElem?_eq_getElem _
    cases b with
    | true => exact ⟨vs, _, q, hx⟩
    | false => exact ⟨vs, _, q, hx⟩
  · have q := (h.ext l).sqx L
    cases b with
    | true => exact ⟨vs, q, by omega⟩
    | false => exact ⟨vs, q, by omega⟩
  · have q := (h.ext l).sqx L
    obtain ⟨v, h1, h2⟩ := r.get hd
    have key : H' = H ∧ vs[i]? = some x := by
      cases b with
      | true => exact ⟨y.1, y.2 vs q⟩
      | false => exact ⟨y.1, y.2 vs q⟩
    obtain ⟨e1, e2⟩ := key
    rw [h1] at e2
    cases e2
    subst e1
    exact ⟨g', Le.refl _, L, h2.ext l⟩
theorem c_seq (O : XOk T k c X W) {tg a : Expr} {ma : Env → Store → Res D} (ha : PE X a (tE T W ma)) : PI X tg a (iI T W fun e S => (ma e S).bind fun d S1 => match d with
    | .tup xs => .ok xs S1
    | .lst xs => .ok xs S1
    | _ => .bad) := by
  refine pi_imp (pi_seqX ha) fun σ H Q q => ?_
  refine Rd_imp (Rd.one (rel1 := RV T.K) q) fun v H1 h1 => ?_
  obtain ⟨g, e, S, x, L, r, r1, p⟩ := h1
  cases x <;> first | (exact p.elim) | skip
  · obtain ⟨b, a, vs, e1, e2, e3⟩ := seq_of r1 (.inl rfl)
    exact ⟨b, a, vs, e1, by rw [O.eK]; exact e2.sqx L, by rw [O.eK]; exact p.ok L (is_seq e2 e3)⟩
  · obtain ⟨b, a, vs, e1, e2, e3⟩ := seq_of r1 (.inr rfl)
    exact ⟨b, a, vs, e1, by rw [O.eK]; exact e2.sqx L, by rw [O.eK]; exact p.ok L (is_seq e2 e3)⟩
/-! ### range -/
theorem is_rng {a b : Int} {n : Nat} (hn : n = (b - a).toNat) : ItIs T g (Itr a n) ((List.range (b - a).toNat).map fun (i : Nat) => D.int (a + (i : Int))) := by
  subst hn
  refine ⟨fun g' S H i l L hi => ?_, fun g' S H l L => ?_, fun g' S H i x H' d l L hd y => ?_⟩
  · show i < _
    simpa using hi
  · show _ ≤ _
    simp
  · obtain ⟨e1, e2⟩ := y
    subst e1 e2
    rw [List.getElem?_map] at hd
    cases q : (List.range (b - a).toNat)[i]? with
    | none =>
      rw [q] at hd
      cases hd
    | some j =>
      rw [q] at hd
      cases hd
      obtain ⟨hj, e⟩ := List.getElem?_eq_some_iff.mp q
      have e : j = i := by rw [← e]; simp
      subst e
      exact ⟨g', Le.refl _, L, .int _⟩
theorem rngD_of {a b : Int} {ds : List D} (h : rngD a b = some ds) : (-1000000 ≤ a ∧ a ≤ 1000000 ∧ -1000000 ≤ b ∧ b ≤ 1000000) ∧ ds = (List.range (b - a).toNat).map fun (i : Nat) => D.int (a + (i : Int)) := by
  unfold rngD at h
  split at h
  · rename_i hc
    simp only [Bool.and_eq_true, decide_eq_true_eq] at hc
    exact ⟨⟨hc.1.1.1, hc.1.1.2, hc.1.2, hc.2⟩, (Option.some.inj h).symm⟩
  · cases h
theorem isbi (O : XOk T k c X W) (F : SF T c k) {x n : Str} (h : isBi c x n = true) (hb : n ∈ blts) : x = n ∧ Gl X n ∧ X.mg n = none ∧ (n == ("__debug__" : Str)) = false := by
  obtain ⟨h1, h2⟩ := and2 h
  have h1 := of_decide_eq_true h1
  subst h1
  obtain ⟨g1, g2⟩ := O.gl h2
  exact ⟨rfl, g1, by rw [O.eM]; exact F.bl _ hb, g2⟩
theorem c_rng1 (O : XOk T k c X W) (F : SF T c k) {x : Str} {tg a : Expr} {ma : Env → Store → Res D} {p pos : Pos} (h : isBi c x "range" = true) (ha : PE X a (tE T W ma)) (hn : notStar a = true) :
    PI X tg (.Call (.Name x p) [a] [] pos) (iI T W fun e S => (ma e S).bind fun d S1 => match d with
    | .int n => .ofO (rngD 0 n) S1
    | _ => .bad) := by
  obtain ⟨e0, g1, hm, g2⟩ := isbi O F h (by decide)
  subst e0
  refine pi_imp (pi_range1 g1 hm (pa_cons ha pa_nil (starEach_of hn)) (starEach_of hn)) fun σ H Q q => ?_
  refine Rd_imp (Rd.one (rel1 := RV T.K) q) fun v H1 h1 => ?_
  obtain ⟨g, e, S, x, L, r, r1, p⟩ := h1
  cases r1 <;> first | (exact p.elim) | skip
  rename_i n
  obtain ⟨ds, e1, p1⟩ := Post.ofO p
  obtain ⟨⟨_, _, h1, h2⟩, e2⟩ := rngD_of e1
  subst e2
  exact ⟨n, rfl, by omega, by omega, p1.ok L (is_rng (by simp))⟩
theorem c_rng2 (O : XOk T k c X W) (F : SF T c k) {x : Str} {tg a b : Expr} {ma mb : Env → Store → Res D} {p pos : Pos} (h : isBi c x "range" = true) (ha : PE X a (tE T W ma)) (hb : PE X b (tE T W mb)) (hn : notStar a = true) (hn2 : notStar b = true) :
    PI X tg (.Call (.Name x p) [a, b] [] pos) (iI T W fun e S => (ma e S).bind fun d S1 => (mb e S1).bind fun d' S2 => match d, d' with
    | .int i, .int j => .ofO (rngD i j) S2
    | _, _ => .bad) := by
  obtain ⟨e0, g1, hm, g2⟩ := isbi O F h (by decide)
  subst e0
  have s2 : starEach [b] X.env = [(false, eval b X.env)] := starEach_of hn2
  refine pi_imp (pi_range2 g1 hm (pa_cons ha (pa_cons hb pa_nil s2) (starEach_of hn)) (by rw [starEach_of hn, s2]) s2) fun σ H Q q => ?_
  refine Rd_imp (q.two rv_mono) fun v H1 q1 => Rd_imp q1 fun w H2 ⟨g, e, S, x, y, L, _, r1, r2, p⟩ => ?_
  generalize hv : v = v' at r1
  generalize hw : w = w' at r2
  cases r1 <;> first | (exact p.elim) | skip
  rename_i n
  cases r2 <;> first | (exact p.elim) | skip
  rename_i m
  subst hv hw
  obtain ⟨ds, e1, p1⟩ := Post.ofO p
  obtain ⟨⟨h1, h2, h3, h4⟩, e2⟩ := rngD_of e1
  subst e2
  exact ⟨n, m, rfl, ⟨by omega, by omega, by omega, by omega⟩, p1.ok L (is_rng rfl)⟩
/-! ### enumerate, zip -/
theorem new_pair {x y : D} {v w : V} {p : Addr} (L : Lies T g S H) (hp : H p = none) (r1 : RV T.K g v x) (r2 : RV T.K g w y) : ∃ g'', Le g g'' ∧ Lies T g'' S (upd H p (.tup [v, w])) ∧ RV T.K g'' (.ref p) (.tup [x, y]) := by
  have l : Le g (g.addF p (.tup [v, w])) := Le.addF (L.ne hp).1
  exact ⟨_, l, L.newF hp (by intro ps z; cases z), .tup sqt_upd (.cons (r1.mono l) (.cons (r2.mono l) .nil))⟩
theorem zw_get {α β γ : Type} {f : α → β → γ} {xs : List α} {ys : List β} {i : Nat} {z : γ} (h : (xs.zipWith f ys)[i]? = some z) : ∃ x y, xs[i]? = some x ∧ ys[i]? = some y ∧ z = f x y := by
  rw [List.getElem?_zipWith] at h
  cases hx : xs[i]? with
  | none =>
    rw [hx] at h
    cases h
  | some x =>
    cases hy : ys[i]? with
    | none =>
      rw [hx, hy] at h
      cases h
    | some y =>
      rw [hx, hy] at h
      cases h
      exact ⟨x, y, rfl, rfl, rfl⟩
theorem is_enum {b : Bool} {a : Addr} {vs : List V} {ds : List D} (h : SeqAt T g b a vs) (r : RVs T.K g vs ds) : ItIs T g (IteX T.K b a) (enumD ds) := by
  have len := r.length
  have el : (enumD ds).length = ds.length := by
    unfold enumD
    simp
  refine ⟨fun g' S H i l L hi => ?_, fun g' S H l L => ?_, fun g' S H i x H' d l L hd y => ?_⟩
  · exact ⟨vs, _, (h.ext l).sqx L, List.getElem?_eq_getElem (by omega)⟩
  · exact ⟨vs, (h.ext l).sqx L, by omega⟩
  · obtain ⟨p, z, e1, hp, e2, hz⟩ := y
    subst e1 e2
    have hz := hz vs ((h.ext l).sqx L)
    obtain ⟨j, w, q1, q2, q3⟩ := zw_get hd
    have ej : j = i := by
      obtain ⟨_, e⟩ := List.getElem?_eq_some_iff.mp q1
      rw [← e]
      simp
    subst ej q3
    obtain ⟨v, h1, h2⟩ := r.get q2
    rw [h1] at hz
    cases hz
    exact new_pair L hp (.int _) (h2.ext l)
theorem c_enum (O : XOk T k c X W) (F : SF T c k) {x : Str} {tg a : Expr} {ma : Env → Store → Res D} {p pos : Pos} (h : isBi c x "enumerate" = true) (ha : PE X a (tE T W ma)) (hn : notStar a = true) (ht : isTupE tg = true) :
    PI X tg (.Call (.Name x p) [a] [] pos) (iI T W fun e S => (ma e S).bind fun d S1 => match d with
    | .tup xs => .ok (enumD xs) S1
    | .lst xs => .ok (enumD xs) S1
    | _ => .bad) := by
  obtain ⟨e0, g1, hm, g2⟩ := isbi O F h (by decide)
  subst e0
  cases tg <;> first | (cases ht; done) | skip
  refine pi_imp (pi_enumX g1 hm (pa_cons ha pa_nil (starEach_of hn)) (starEach_of hn)) fun σ H Q q => ?_
  refine Rd_imp (Rd.one (rel1 := RV T.K) q) fun v H1 h1 => ?_
  obtain ⟨g, e, S, x, L, r, r1, p⟩ := h1
  cases x <;> first | (exact p.elim) | skip
  · obtain ⟨b, a, vs, e1, e2, e3⟩ := seq_of r1 (.inl rfl)
    subst e1
    exact ⟨b, a, vs, rfl, by rw [O.eK]; exact e2.sqx L, by rw [O.eK]; exact p.ok L (is_enum e2 e3)⟩
  · obtain ⟨b, a, vs, e1, e2, e3⟩ := seq_of r1 (.inr rfl)
    subst e1
    exact ⟨b, a, vs, rfl, by rw [O.eK]; exact e2.sqx L, by rw [O.eK]; exact p.ok L (is_enum e2 e3)⟩
theorem is_zip {b b' : Bool} {a a' : Addr} {vs vs' : List V} {ds ds' : List D} (h : SeqAt T g b a vs) (r : RVs T.K g vs ds) (h' : SeqAt T g b' a' vs') (r' : RVs T.K g vs' ds') : ItIs T g (ItzX T.K b b' a a') (ds.zipWith (fun x y => D.tup [x, y]) ds') := by
  have len := r.length
  have len' := r'.length
  have el : (ds.zipWith (fun x y => D.tup [x, y]) ds').length = min ds.length ds'.length := by simp
  refine ⟨fun g' S H i l L hi => ?_, fun g' S H l L => ?_, fun g' S H i x H' d l L hd y => ?_⟩
  · exact ⟨vs, vs', _, _, (h.ext l).sqx L, (h'.ext l).sqx L, List.getElem?_eq_getElem (by omega), List.getElem?_eq_getElem (by omega)⟩
  · exact ⟨vs, vs', (h.ext l).sqx L, (h'.ext l).sqx L, by omega, by omega, by omega⟩
  · obtain ⟨p, z, z', e1, hp, e2, hz, hz'⟩ := y
    subst e1 e2
    have hz := hz vs ((h.ext l).sqx L)
    have hz' := hz' vs' ((h'.ext l).sqx L)
    obtain ⟨w, w', q1, q2, q3⟩ := zw_get hd
    subst q3
    obtain ⟨v, h1, h2⟩ := r.get q1
    rw [h1] at hz
    cases hz
    obtain ⟨v', h1', h2'⟩ := r'.get q2
    rw [h1'] at hz'
    cases hz'
    exact new_pair L hp (h2.ext l) (h2'.ext l)
theorem c_zip (O : XOk T k c X W) (F : SF T c k) {x : Str} {tg a b : Expr} {ma mb : Env → Store → Res D} {p pos : Pos} (h : isBi c x "zip" = true) (ha : PE X a (tE T W ma)) (hb : PE X b (tE T W mb)) (hn : notStar a = true) (hn2 : notStar b = true) (ht : isTupE tg = true) :
    PI X tg (.Call (.Name x p) [a, b] [] pos) (iI T W fun e S => (ma e S).bind fun d S1 => (mb e S1).bind fun d' S2 => match d, d' with
    | .lst xs, .lst ys => .ok (xs.zipWith (fun x y => .tup [x, y]) ys) S2
    | .lst xs, .tup ys => .ok (xs.zipWith (fun x y => .tup [x, y]) ys) S2
    | .tup xs, .lst ys => .ok (xs.zipWith (fun x y => .tup [x, y]) ys) S2
    | .tup xs, .tup ys => .ok (xs.zipWith (fun x y => .tup [x, y]) ys) S2
    | _, _ => .bad) := by
  obtain ⟨e0, g1, hm, g2⟩ := isbi O F h (by decide)
  subst e0
  cases tg <;> first | (cases ht; done) | skip
  refine pi_imp (pi_zipX g1 hm (pa_cons ha (pa_cons hb pa_nil (starEach_of hn2)) (starEach_of hn)) (starEach_of hn) (noStar_of fun z hz => by
    have : z = b := by simpa using hz
    rw [this]
    exact hn2)) fun σ H Q q => ?_
  refine Rd_imp (q.two rv_mono) fun v H1 q1 => Rd_imp q1 fun w H2 ⟨g, e, S, x, y, L, _, r1, r2, p⟩ => ?_
  have key : ∀ {xs ys : List D}, (x = .tup xs ∨ x = .lst xs) → (y = .tup ys ∨ y = .lst ys) → Post T W (ItIs T) g σ (.ok (xs.zipWith (fun x y => D.tup [x, y]) ys) S) Q →
      ∃ (c d : Bool) (a b : Addr) (xs ys : List V), [v, w] = [.ref a, .ref b] ∧ SqX X.K c H2 a xs ∧ SqX X.K d H2 b ys ∧ Q (ItzX X.K c d a b) H2 := fun {xs ys} hx hy p => by
    obtain ⟨b1, a1, vs1, e1, e2, e3⟩ := seq_of r1 hx
    obtain ⟨b2, a2, vs2, f1, f2, f3⟩ := seq_of r2 hy
    subst e1 f1
    exact ⟨b1, b2, a1, a2, vs1, vs2, rfl, by rw [O.eK]; exact e2.sqx L, by rw [O.eK]; exact f2.sqx L, by rw [O.eK]; exact p.ok L (is_zip e2 e3 f2 f3)⟩
  cases x <;> first | (exact p.elim) | skip
  · cases y <;> first | (exact p.elim) | skip
    · exact key (.inl rfl) (.inl rfl) p
    · exact key (.inl rfl) (.inr rfl) p
  · cases y <;> first | (exact p.elim) | skip
    · exact key (.inr rfl) (.inl rfl) p
    · exact key (.inr rfl) (.inr rfl) p
end
end Pf

end
section
/-! Snd10: stores, comprehensions. -/
namespace Pf
open PySem PySem.Spec PyProof.Rows L2
section
variable {T : TT} {X : Cx} {W : WX} {g : Gh} {S : Store} {H : Hp} {σ : L2.St} {k : Nat} {c : CC} {e : Env}
theorem ER.ext {g g' : Gh} {σ : L2.St} {e : Env} (h : ER T g σ e) (l : Ext g g') : ER T g' σ e := ⟨h.1, fun i d q => let ⟨v, a, b⟩ := h.2 i d q; ⟨v, a, b.ext l⟩⟩
theorem ER.sub {g : Gh} {σ σ' : L2.St} {e : Env} (h : ER T g σ e) (hl : σ'.length = σ.length) (hs : ∀ (i : Nat) (v : V) (d : D), e[i]? = some (some d) → σ[i]? = some (some v) → σ'[i]? = some (some v)) : ER T g σ' e :=
  ⟨hl.trans h.1, fun i d q => let ⟨v, a, b⟩ := h.2 i d q; ⟨v, hs i v d q a, b⟩⟩
theorem wipe_get {σ : L2.St} : ∀ {own : List Nat} {i : Nat}, i ∈ own → i < σ.length → (wipe σ own)[i]? = some none
  | v :: vs, i, h, hl => by
    unfold wipe
    by_cases hv : v = i
    · subst hv
      exact List.getElem?_set_self (by rw [wipe_length]; exact hl)
    · rw [List.getElem?_set_ne hv]
      rcases List.mem_cons.mp h with z | z
      · exact (hv z.symm).elim
      · exact wipe_get z hl
theorem wipe_ext {σ σ' : L2.St} {own : List Nat} (hl : σ'.length = σ.length) (h : ∀ i, i ∉ own → σ'[i]? = σ[i]?) : wipe σ' own = wipe σ own := by
  refine List.ext_getElem? fun i => ?_
  by_cases hi : i ∈ own
  · by_cases hlt : i < σ.length
    · rw [wipe_get hi hlt, wipe_get hi (by rw [hl]; exact hlt)]
    · rw [List.getElem?_eq_none (by rw [wipe_length, hl]; omega), List.getElem?_eq_none (by rw [wipe_length]; omega)]
  · rw [wipe_out hi, wipe_out hi, h i hi]
theorem wipe_set {σ : L2.St} {own : List Nat} {i : Nat} {v : Option V} (hi : i ∈ own) : wipe (σ.set i v) own = wipe σ own := by
  refine wipe_ext (List.length_set ..) fun j hj => ?_
  rw [List.getElem?_set_ne (by intro z; exact hj (z ▸ hi))]
/-! ### stores -/
def gR (T : TT) (n : Nat) (t : Tg) : TG := fun v σ H Q => ∃ g e S d e', Lies T g S H ∧ ER T g σ e ∧ RV T.K g v d ∧ asgT n t d e = some e' ∧ ∀ σ', ER T g σ' e' → (∀ own, tgIn own n t = true → wipe σ' own = wipe σ own) → Q σ' H
def gRs (T : TT) (n : Nat) (ts : List Tg) : TGs := fun vs σ H Q => ∃ g e S ds e', Lies T g S H ∧ ER T g σ e ∧ RVs T.K g vs ds ∧ asgT.asgL (asgT n) ts ds e = some e' ∧ ∀ σ', ER T g σ' e' → (∀ own, ts.all (tgIn own n) = true → wipe σ' own = wipe σ own) → Q σ' H
theorem pg_imp {tg : Expr} {t t' : TG} (h : PG X tg t) (q : ∀ v σ H Q, t' v σ H Q → t v σ H Q) : PG X tg t' := ⟨fun pins s σ H v u Q I r w => h.run pins s σ H v u Q I r (q _ _ _ _ w)⟩
theorem pgs_imp {tg : List Expr} {t t' : TGs} (h : PGs X tg t) (q : ∀ v σ H Q, t' v σ H Q → t v σ H Q) : PGs X tg t' := ⟨fun pins s σ H v u Q I r w => h.run pins s σ H v u Q I r (q _ _ _ _ w)⟩
theorem pg_or {tg : Expr} {t t' : TG} (h : PG X tg t) (h' : PG X tg t') : PG X tg fun v σ H Q => t v σ H Q ∨ t' v σ H Q := ⟨fun pins s σ H v u Q I r w => w.elim (h.run pins s σ H v u Q I r) (h'.run pins s σ H v u Q I r)⟩
theorem assignEach_of {e : Expr} {es : List Expr} {env : PySem.Env} (h : notStar e = true) : assignEach (e :: es) env = (false, assign e env) :: assignEach es env := by
  cases e <;> first | rfl | cases h
theorem c_tgs {n : Nat} (ih : ∀ t tg, notStar tg = true → chkTg c n t tg = true → PG X tg (gR T n t)) : ∀ ts es, chkTg.chkTgs (chkTg c n) ts es = true → PGs X es (gRs T n ts) ∧ (assignEach es X.env).length = ts.length ∧ (assignEach es X.env).findIdx? (·.1) = none
  | [], [], _ => by
    refine ⟨pgs_imp pgs_nil fun v σ H Q q => ?_, rfl, rfl⟩
    obtain ⟨g, e, S, ds, e', L, r, rv, h, f⟩ := q
    cases ds with
    | nil =>
      cases rv
      cases h
      exact ⟨rfl, f σ r fun _ _ => rfl⟩
    | cons _ _ => cases h
  | t :: ts, e0 :: es, h => by
    obtain ⟨h1, h⟩ := and2 (show (notStar e0 && (chkTg c n t e0 && chkTg.chkTgs (chkTg c n) ts es)) = true from h)
    obtain ⟨h2, h3⟩ := and2 h
    obtain ⟨p1, p2, p3⟩ := c_tgs ih ts es h3
    refine ⟨pgs_imp (pgs_cons (ih t e0 h1 h2) p1 (by rw [assignEach_of h1]; rfl)) fun v σ H Q q => ?_, ?_, ?_⟩
    · obtain ⟨g, e, S, ds, e', L, r, rv, h, f⟩ := q
      cases ds with
      | nil => cases h
      | cons d ds =>
        cases rv with
        | cons r1 rs =>
          have h : ((asgT n t d e).bind fun σ' => asgT.asgL (asgT n) ts ds σ') = some e' := h
          cases q1 : asgT n t d e with
          | none =>
            rw [q1] at h
            cases h
          | some e1 =>
            rw [q1] at h
            refine ⟨_, _, rfl, g, e, S, d, e1, L, r, r1, q1, fun σ1 r1' w1 => ⟨g, e1, S, ds, e', L, r1', rs, h, fun σ2 r2 w2 => f σ2 r2 fun own ho => ?_⟩⟩
            have ho : (tgIn own n t && ts.all (tgIn own n)) = true := ho
            obtain ⟨o1, o2⟩ := and2 ho
            exact (w2 own o2).trans (w1 own o1)
    · rw [assignEach_of h1]
      show (assignEach es X.env).length + 1 = ts.length + 1
      rw [p2]
    · rw [assignEach_of h1, List.findIdx?_cons]
      show (if false = true then _ else (List.findIdx? (·.1) (assignEach es X.env)).map (· + 1)) = none
      rw [p3]
      rfl
  | [], _ :: _, h => by cases h
  | _ :: _, [], h => by cases h
theorem asgL_len {n : Nat} : ∀ {ts : List Tg} {ds : List D} {e e' : Env}, asgT.asgL (asgT n) ts ds e = some e' → ds.length = ts.length
  | [], [], _, _, _ => rfl
  | t :: ts, d :: ds, e, e', h => by
    have h : ((asgT n t d e).bind fun σ' => asgT.asgL (asgT n) ts ds σ') = some e' := h
    cases q1 : asgT n t d e with
    | none =>
      rw [q1] at h
      cases h
    | some e1 =>
      rw [q1] at h
      have := asgL_len (n := n) (ts := ts) (ds := ds) (e := e1) h
      rw [List.length_cons, List.length_cons, this]
  | [], _ :: _, _, _, h => by cases h
  | _ :: _, [], _, _, h => by cases h
theorem c_tg (O : XOk T k c X W) : ∀ (n : Nat) (t : Tg) (tg : Expr), notStar tg = true → chkTg c n t tg = true → PG X tg (gR T n t)
  | 0, _, _, _, h => by cases h
  | n + 1, t, tg, hs, h => by
    cases t with
    | nm i =>
      cases tg <;> first | (cases h; done) | skip
      rename_i x pos
      have h : c.st i x = true := h
      obtain ⟨h1, h2⟩ := and2 h
      have h1 := of_decide_eq_true h1
      obtain ⟨h3, h4⟩ := O.as x (of_decide_eq_true h2)
      refine pg_imp (pg_name (by rw [O.N]; exact O.nd) (O.hN h1) (by rw [O.sc]; exact h3) (by rw [O.sc]; exact h4)) fun v σ H Q q => ?_
      obtain ⟨g, e, S, d, e', L, r, rv, h, f⟩ := q
      have h : (if i < e.length then some (e.set i (some d)) else none) = some e' := h
      split at h
      · cases h
        refine f _ (r.set rv) fun own ho => wipe_set ?_
        have ho : own.contains i = true := ho
        simpa using ho
      · cases h
    | tup ts =>
      cases tg <;> first | (cases h; done) | skip
      rename_i es x1 pos
      obtain ⟨p1, p2, p3⟩ := c_tgs (c_tg O n) ts es h
      refine pg_imp (pg_or (pg_tup O.calm p1 p2 p3) (pg_lst O.calm p1 p2 p3)) fun v σ H Q q => ?_
      obtain ⟨g, e, S, d, e', L, r, rv, h, f⟩ := q
      have eK := O.eK
      cases rv <;> first | (cases h; done) | skip
      · rename_i a vs ds hF rs
        have h : asgT.asgL (asgT n) ts ds e = some e' := h
        exact .inr ⟨a, vs, rfl, by rw [eK]; exact SqL.of (L.at hF), rs.length.trans (asgL_len h), g, e, S, ds, e', L, r, rs, h, f⟩
      · rename_i a vs ds hF rs
        have h : asgT.asgL (asgT n) ts ds e = some e' := h
        exact .inl ⟨a, vs, rfl, by rw [eK]; exact L.sqT hF, rs.length.trans (asgL_len h), g, e, S, ds, e', L, r, rs, h, f⟩

/-! ### a list under construction -/
/-- the frame that a comprehension works in -/
def Gh.und (g : Gh) (D : Addr) (acc : List V) : Gh := ⟨g.β, g.F, upd g.R D (.lst acc)⟩
def Gh.out (g : Gh) (R : Hp) : Gh := ⟨g.β, g.F, R⟩
theorem Lies.und (L : Lies T g S H) {D : Addr} (hD : H D = none) : Lies T (g.und D []) S (upd H D (.lst [])) := by
  obtain ⟨nF, nR⟩ := L.ne hD
  refine ⟨fun a u e => ?_, fun a u e => ?_, fun a u e => ?_, L.len, fun n a c e1 e2 hd => ?_, L.nd, tabs_new L.tabs hD⟩
  · have e : g.F a = some u := e
    rw [upd_ne (ne_of_none e nF)]
    exact L.f a u e
  · have e : upd g.R D (.lst []) a = some u := e
    by_cases z : a = D
    · subst z
      rw [upd_same] at e
      cases e
      exact ⟨upd_same, by intro ps z; cases z⟩
    · rw [upd_ne z] at e
      rw [upd_ne z]
      exact L.r a u e
  · show upd g.R D _ a = none
    have e : g.F a = some u := e
    rw [upd_ne (ne_of_none e nF)]
    exact L.fr a u e
  · obtain ⟨h1, h2, h3⟩ := L.cell n a c e1 e2 hd
    obtain ⟨xs, hx⟩ := h3.at hd
    have na : a ≠ D := ne_of_none hx hD
    refine ⟨h1, ?_, ?_⟩
    · show upd g.R D _ a = none
      rw [upd_ne na]
      exact h2
    · have h4 := h3.mono (g' := g.und D []) (H' := upd H D (.lst [])) (fun _ _ e => e) fun xs q => by
        rw [upd_ne na]
        exact q
      exact h4
theorem Lies.more (L : Lies T g S H) {D : Addr} {acc acc' : List V} {R0 : Hp} (hR : g.R = upd R0 D (.lst acc)) : Lies T ⟨g.β, g.F, upd R0 D (.lst acc')⟩ S (upd H D (.lst acc')) := by
  have hD : g.R D = some (.lst acc) := by rw [hR, upd_same]
  have hH : H D = some (.lst acc) := (L.r D _ hD).1
  have nD : ∀ {a u}, g.F a = some u → a ≠ D := fun {a u} e z => by
    have := L.fr a u e
    rw [z, hD] at this
    cases this
  refine ⟨fun a u e => ?_, fun a u e => ?_, fun a u e => ?_, L.len, fun n a c e1 e2 hd => ?_, L.nd, tabs_write L.tabs hH⟩
  · have e : g.F a = some u := e
    rw [upd_ne (nD e)]
    exact L.f a u e
  · have e : upd R0 D (.lst acc') a = some u := e
    by_cases z : a = D
    · subst z
      rw [upd_same] at e
      cases e
      exact ⟨upd_same, by intro ps z; cases z⟩
    · rw [upd_ne z] at e
      rw [upd_ne z]
      exact L.r a u (by rw [hR, upd_ne z]; exact e)
  · show upd R0 D _ a = none
    have e : g.F a = some u := e
    have q := L.fr a u e
    rw [hR, upd_ne (nD e)] at q
    rw [upd_ne (nD e)]
    exact q
  · obtain ⟨h1, h2, h3⟩ := L.cell n a c e1 e2 hd
    have na : a ≠ D := fun z => by
      rw [z, hD] at h2
      cases h2
    refine ⟨h1, ?_, ?_⟩
    · show upd R0 D _ a = none
      rw [hR, upd_ne na] at h2
      rw [upd_ne na]
      exact h2
    · exact h3.mono (g' := ⟨g.β, g.F, upd R0 D (.lst acc')⟩) (fun _ _ e => e) fun xs q => by
        rw [upd_ne na]
        exact q
/-- the frame's list becomes one that never changes -/
theorem Lies.doneF (L : Lies T g S H) {D : Addr} {acc : List V} {R0 : Hp} (hR : g.R = upd R0 D (.lst acc)) (h0 : R0 D = none) : Lies T ⟨g.β, upd g.F D (.lst acc), R0⟩ S H ∧ g.F D = none := by
  have hD : g.R D = some (.lst acc) := by rw [hR, upd_same]
  have hH : H D = some (.lst acc) := (L.r D _ hD).1
  have nD : ∀ {a u}, g.F a = some u → a ≠ D := fun {a u} e z => by
    have := L.fr a u e
    rw [z, hD] at this
    cases this
  have nF : g.F D = none := by
    cases q : g.F D with
    | none => rfl
    | some u => exact (nD q rfl).elim
  refine ⟨⟨fun a u e => ?_, fun a u e => ?_, fun a u e => ?_, L.len, fun n a c e1 e2 hd => ?_, L.nd, L.tabs⟩, nF⟩
  · have e : upd g.F D (.lst acc) a = some u := e
    by_cases z : a = D
    · subst z
      rw [upd_same] at e
      cases e
      exact ⟨hH, by intro ps z; cases z⟩
    · rw [upd_ne z] at e
      exact L.f a u e
  · have e : R0 a = some u := e
    exact L.r a u (by rw [hR, upd_ne (ne_of_none e h0)]; exact e)
  · show R0 a = none
    have e : upd g.F D (.lst acc) a = some u := e
    by_cases z : a = D
    · rw [z]
      exact h0
    · rw [upd_ne z] at e
      have q := L.fr a u e
      rw [hR, upd_ne z] at q
      exact q
  · obtain ⟨h1, h2, h3⟩ := L.cell n a c e1 e2 hd
    have na : a ≠ D := fun z => by
      rw [z, hD] at h2
      cases h2
    refine ⟨?_, ?_, ?_⟩
    · show upd g.F D _ a = none
      rw [upd_ne na]
      exact h1
    · show R0 a = none
      rw [hR, upd_ne na] at h2
      exact h2
    · exact h3.mono (g' := ⟨g.β, upd g.F D (.lst acc), R0⟩) (Le.addF nF).f fun xs q => q
/-- or a cell -/
theorem Lies.doneB (L : Lies T g S H) {q0 : Addr} {acc : List V} {R0 : Hp} (hR : g.R = upd R0 q0 (.lst acc)) (h0 : R0 q0 = none) {ds : List Pf.D} (r : RVs T.K g acc ds) (hpl : ∀ d ∈ ds, pl d = true) : Lies T ⟨g.β ++ [q0], g.F, R0⟩ (S ++ [.lst ds]) H := by
  have hD : g.R q0 = some (.lst acc) := by rw [hR, upd_same]
  have hH : H q0 = some (.lst acc) := (L.r q0 _ hD).1
  obtain ⟨_, nF⟩ := L.doneF hR h0
  have nD : ∀ {a u}, g.F a = some u → a ≠ q0 := fun {a u} e => ne_of_none e nF
  have out : ∀ {a}, a ≠ q0 → g.R a = R0 a := fun {a} z => by rw [hR, upd_ne z]
  refine ⟨fun a u e => L.f a u e, fun a u e => ?_, fun a u e => ?_, ?_, fun n a c e1 e2 hd => ?_, fun n m a c c' e1 e2 e3 e4 h1 h2 => ?_, L.tabs⟩
  · have e : R0 a = some u := e
    exact L.r a u (by rw [out (ne_of_none e h0)]; exact e)
  · show R0 a = none
    have e : g.F a = some u := e
    rw [← out (nD e)]
    exact L.fr a u e
  · show (g.β ++ [q0]).length = _
    rw [List.length_append, List.length_append, L.len]
    rfl
  · have e1 : (g.β ++ [q0])[n]? = some a := e1
    rcases get_last e1 with ⟨hn, e1⟩ | ⟨hn, e1⟩
    · rw [List.getElem?_append_left (by rw [← L.len]; exact hn)] at e2
      obtain ⟨h1, h2, h3⟩ := L.cell n a c e1 e2 hd
      have na : a ≠ q0 := fun z => by
        rw [z, hD] at h2
        cases h2
      refine ⟨h1, by show R0 a = none; rw [← out na]; exact h2, ?_⟩
      cases c with
      | lst ds =>
        obtain ⟨vs, q1, q2, q3⟩ := h3
        exact ⟨vs, q1, RVs.plain (g := g) (g' := ⟨g.β ++ [q0], g.F, R0⟩) (fun _ _ e => e) q2 q3, q3⟩
      | ins c fs => exact h3
      | dead => trivial
    · subst e1
      rcases get_last e2 with ⟨hn2, _⟩ | ⟨_, e2⟩
      · rw [← L.len] at hn2
        omega
      · subst e2
        exact ⟨nF, h0, acc, hH, RVs.plain (g := g) (g' := ⟨g.β ++ [a], g.F, R0⟩) (fun _ _ e => e) r hpl, hpl⟩
  · have old : ∀ {k : Nat} {b : Addr} {c : Cell}, (g.β ++ [q0])[k]? = some b → (S ++ [Cell.lst ds])[k]? = some c → c ≠ .dead → (k < S.length ∧ g.β[k]? = some b ∧ S[k]? = some c ∧ b ≠ q0) ∨ (k = S.length ∧ b = q0) := fun {k b c} q1 q2 q3 => by
      rcases get_last q1 with ⟨hn, q1⟩ | ⟨hn, q1⟩
      · rw [L.len] at hn
        rw [List.getElem?_append_left hn] at q2
        obtain ⟨_, h2, _⟩ := L.cell k b c q1 q2 q3
        exact .inl ⟨hn, q1, q2, fun z => by rw [z, hD] at h2; cases h2⟩
      · rw [L.len] at hn
        exact .inr ⟨hn, q1⟩
    rcases old e1 e3 h1 with ⟨a1, a2, a3, a4⟩ | ⟨a1, a2⟩
    · rcases old e2 e4 h2 with ⟨b1, b2, b3, b4⟩ | ⟨b1, b2⟩
      · exact L.nd n m a c c' a2 b2 a3 b3 h1 h2
      · exact (a4 b2).elim
    · rcases old e2 e4 h2 with ⟨b1, b2, b3, b4⟩ | ⟨b1, b2⟩
      · exact (b4 a2).elim
      · omega
/-- the list is whole -/
theorem done_list {live : Bool} {ds : List D} {vs : List V} {QV : VK} {R0 : Hp} {D : Addr} (p : Post T W (RV T.K) (g.out R0) σ (endL live ds S) QV) (L : Lies T g S H) (hR : g.R = upd R0 D (.lst vs)) (h0 : R0 D = none) (r : RVs T.K g vs ds) : QV (.ref D) H := by
  have e0 : endL live ds S = if ds.length ≤ line then newL live ds S else .bad := rfl
  rw [e0] at p
  split at p
  · cases live with
    | false =>
      obtain ⟨L1, nF⟩ := L.doneF hR h0
      refine p ⟨g.β, upd g.F D (.lst vs), R0⟩ H (.ref D) ⟨⟨[], by simp [Gh.out]⟩, (Le.addF nF).f, rfl⟩ L1 (.lst upd_same (RVs.ext (g := g) (g' := ⟨g.β, upd g.F D (.lst vs), R0⟩) ⟨⟨[], by simp⟩, (Le.addF (p := D) (o := .lst vs) nF).f⟩ r))
    | true =>
      have p : Post T W (RV T.K) (g.out R0) σ (if ds.all pl then Res.ok (Pf.D.ref S.length) (S ++ [.lst ds]) else .bad) QV := p
      split at p
      · rename_i hpl
        refine p ⟨g.β ++ [D], g.F, R0⟩ H (.ref D) ⟨⟨[D], rfl⟩, fun _ _ e => e, rfl⟩ (L.doneB hR h0 r (List.all_eq_true.mp hpl)) (.ref ?_)
        show (g.β ++ [D])[S.length]? = some D
        rw [← L.len]
        simp
      · exact p.elim
  · exact p.elim
end
end Pf

end
section
/-! Snd11: comprehensions. -/
namespace Pf
open PySem PySem.Spec PyProof.Rows L2
def WF : WX := fun _ _ _ _ => False
/-- a comprehension's turns, by the readings of its parts -/
def compM (mc : Env → Store → Res Bool) (me : Env → Store → Res D) (t : Tg) (σ : Env) : List D → Store → Res (List D)
  | [], S => .ok [] S
  | x :: xs, S => match asgT 9 t x σ with
    | none => .bad
    | some σ1 => (mc σ1 S).bind fun b S1 => match b with
      | true => (me σ1 S1).bind fun y S2 => (compM mc me t σ xs S2).bind fun ys S3 => .ok (y :: ys) S3
      | false => compM mc me t σ xs S1
def compM2 (mi2 : Env → Store → Res (List D)) (me : Env → Store → Res D) (own2 : List Nat) (t t2 : Tg) (σ : Env) : List D → Store → Res (List D)
  | [], S => .ok [] S
  | x :: xs, S => match asgT 9 t x σ with
    | none => .bad
    | some σ1 => (mi2 σ1 S).bind fun zs S1 => (compM (fun _ S => .ok true S) me t2 (wipeE σ1 own2) zs S1).bind fun ys S2 => (compM2 mi2 me own2 t t2 σ xs S2).bind fun ws S3 => .ok (ys ++ ws) S3
/-- an option's test -/
def optT (r : Fs) (c : Option E) : Env → Store → Res Bool := fun σ S => match c with
  | none => Res.ok true S
  | some c => evT r σ c S
theorem compL_eq (r : Fs) (σ : Env) (t : Tg) (c : Option E) (e : E) : ∀ xs S, compL r σ t c e xs S = compM (optT r c) (fun σ S => r.e σ e S) t σ xs S
  | [], S => rfl
  | x :: xs, S => by
    unfold compL compM
    cases asgT 9 t x σ with
    | none => rfl
    | some σ1 =>
      have ih := compL_eq r σ t c e xs
      cases c with
      | none =>
        simp only [optT]
        congr 1
        funext b S1
        cases b with
        | true =>
          dsimp only
          congr 1
          funext y S2
          rw [ih]
        | false =>
          dsimp only
          rw [ih]
      | some c =>
        simp only [optT]
        congr 1
        funext b S1
        cases b with
        | true =>
          dsimp only
          congr 1
          funext y S2
          rw [ih]
        | false =>
          dsimp only
          rw [ih]
theorem compL2_eq (r : Fs) (σ : Env) (own2 : List Nat) (t t2 : Tg) (it2 : It) (e : E) : ∀ xs S, compL2 r σ own2 t t2 it2 e xs S = compM2 (fun σ S => evI r σ it2 S) (fun σ S => r.e σ e S) own2 t t2 σ xs S
  | [], S => rfl
  | x :: xs, S => by
    unfold compL2 compM2
    cases asgT 9 t x σ with
    | none => rfl
    | some σ1 =>
      have ih := compL2_eq r σ own2 t t2 it2 e xs
      dsimp only
      congr 1
      funext zs S1
      rw [compL_eq]
      congr 1
      funext ys S2
      rw [ih]
section
variable {T : TT} {X : Cx} {W : WX} {g : Gh} {S : Store} {H : Hp} {σ : L2.St} {k : Nat} {c : CC} {e : Env}
theorem wipe_wipe {σ : L2.St} {own : List Nat} : wipe (wipe σ own) own = wipe σ own := wipe_ext (wipe_length ..) fun i hi => wipe_out hi
/-- a step within a comprehension -/
theorem Post.calmBind {α α' α'' β β' : Type} {rel : Gh → β → α → Prop} {rel1 : Gh → β' → α' → Prop} {σ' : L2.St} {g gi : Gh} {r : Res α'} {f : α' → Store → Res α''} {h : α'' → Store → Res α} {Q : β → Hp → Prop} {Q1 : β' → Hp → Prop} (p : Post T W rel g σ ((calm (r.bind f)).bind h) Q)
    (q : ∀ d S1, r = .ok d S1 → Post T W rel g σ ((calm (f d S1)).bind h) Q → ∀ g' H' v, Le gi g' → Lies T g' S1 H' → rel1 g' v d → Q1 v H') : Post T WF rel1 gi σ' r Q1 := by
  cases r with
  | ok d S1 => exact fun g' H' v l L m => q d S1 rfl p g' H' v l L m
  | exc c S1 => exact p.elim
  | bad => exact p.elim
theorem cons_end {R : Res (List D)} {y : D} {done : List D} {Kt : List D → Store → Res D} : (calm (R.bind fun ys S3 => Res.ok (y :: ys) S3)).bind (fun ys S2 => Kt (done ++ ys) S2) = (calm R).bind fun ys S2 => Kt ((done ++ [y]) ++ ys) S2 := by
  cases R with
  | ok ys S1 =>
    show Kt (done ++ (y :: ys)) S1 = Kt ((done ++ [y]) ++ ys) S1
    rw [List.append_assoc]
    rfl
  | exc c S1 => rfl
  | bad => rfl
theorem few_end {R : Res (List D)} {d : List D} {Kt : List D → Store → Res D} {Q : VK} (hK : ∀ d S, Kt d S = .bad ∨ d.length ≤ line) (p : Post T W (RV T.K) g σ ((calm R).bind fun ys S2 => Kt (d ++ ys) S2) Q) : d.length ≤ line := by
  cases R with
  | ok ys S1 =>
    have p : Post T W (RV T.K) g σ (Kt (d ++ ys) S1) Q := p
    rcases hK (d ++ ys) S1 with z | z
    · rw [z] at p
      exact p.elim
    · rw [List.length_append] at z
      omega
  | exc c S1 => exact p.elim
  | bad => exact p.elim
/-- what stands at a comprehension's turn -/
def CI (T : TT) (W : WX) (σ : L2.St) (g1 : Gh) (R0 : Hp) (D : Addr) (Q : VK) (H : Hp) (r : Store → List Pf.D → Res Pf.D) : Prop := ∃ g' S' acc done, Ext g1 g' ∧ g'.R = upd R0 D (.lst acc) ∧ Lies T g' S' H ∧ RVs T.K g' acc done ∧ Post T W (RV T.K) (g'.out R0) σ (r S' done) Q
theorem drop_get {α : Type} {l : List α} {i : Nat} (h : i < l.length) : ∃ x, l[i]? = some x ∧ l.drop i = x :: l.drop (i + 1) := ⟨l[i], List.getElem?_eq_getElem h, List.drop_eq_getElem_cons h⟩
theorem Le.out {g g' : Gh} (l : Le g g') (R : Hp) : Le (g.out R) (g'.out R) := ⟨l.b, l.f, rfl⟩
theorem comp_loop {g1 : Gh} {J : L2.It} {ds : List D} (J1 : ItIs T g1 J ds) {R0 : Hp} {q0 : Addr} {own : List Nat} {σ0 : L2.St} {eb : Env} {t : Tg} {mc : Env → Store → Res Bool} {me : Env → Store → Res D} {Kt : List D → Store → Res D} {Q : VK} {H1 : Hp} {Fin : Hp → Prop}
    (r0 : ER T g1 (wipe σ0 own) eb) (hin : tgIn own 9 t = true) (hK : ∀ d S, Kt d S = .bad ∨ d.length ≤ line)
    (start : CI T W σ g1 R0 q0 Q H1 fun S' done => (calm (compM mc me t eb ds S')).bind fun ys S2 => Kt (done ++ ys) S2)
    (fin : ∀ H, CI T W σ g1 R0 q0 Q H (fun S' done => Kt done S') → Fin H) :
    ∃ W1 : Nat → Nat → Hp → Prop, (∃ m, W1 0 m H1) ∧ ∀ i m H, W1 i m H →
      (J.stop i H ∧ Fin H) ∨ (J.go i H ∧ ∃ Nx : Hp → Prop, (∀ H', Nx H' → ∃ m', m' < m ∧ W1 (i + 1) m' H') ∧ ∀ x H', J.yld i H x H' → gR T 9 t x (wipe σ0 own) H' fun σ2 H2 => wipe σ2 own = wipe σ0 own ∧ tT T WF mc σ2 H2 fun b H3 =>
        if b = true then tE T WF me σ2 H3 fun y H4 => ∃ acc, H4 q0 = some (.lst acc) ∧ acc.length < sizeLine ∧ Nx (upd H4 q0 (.lst (acc ++ [y]))) else Nx H3) := by
  refine ⟨fun i m H => m = ds.length - i ∧ i ≤ ds.length ∧ CI T W σ g1 R0 q0 Q H fun S' done => (calm (compM mc me t eb (ds.drop i) S')).bind fun ys S2 => Kt (done ++ ys) S2, ⟨_, rfl, Nat.zero_le _, start⟩, ?_⟩
  rintro i m H ⟨rfl, hi, g', S', acc, done, x1, eR, L, rs, p⟩
  by_cases hlt : i < ds.length
  · obtain ⟨d, hd, hdr⟩ := drop_get hlt
    rw [hdr] at p
    refine .inr ⟨J1.go g' S' H i x1 L hlt, fun H' => i + 1 ≤ ds.length ∧ CI T W σ g1 R0 q0 Q H' fun S' done => (calm (compM mc me t eb (ds.drop (i + 1)) S')).bind fun ys S2 => Kt (done ++ ys) S2, fun H' n => ⟨ds.length - (i + 1), by omega, rfl, n.1, n.2⟩, fun x H' y => ?_⟩
    obtain ⟨g2, l2, L2', rv⟩ := J1.yld g' S' H i x H' d x1 L hd y
    unfold compM at p
    cases ha : asgT 9 t d eb with
    | none =>
      rw [ha] at p
      exact p.elim
    | some e1 =>
      rw [ha] at p
      refine ⟨g2, eb, S', d, e1, L2', (r0.ext x1).mono l2, rv, ha, fun σ2 r2 w2 => ⟨(w2 own hin).trans wipe_wipe, g2, e1, S', L2', r2, ?_⟩⟩
      refine Post.calmBind (p.mono (l2.out R0)) fun b S1 hb p1 g3 H3 v l3 L3 ev => ?_
      subst ev
      have x3 : Ext g1 g3 := x1.trans (l2.trans l3).ext
      have eR3 : g3.R = upd R0 q0 (.lst acc) := ((l2.trans l3).r).trans eR
      cases v with
      | false =>
        rw [if_neg Bool.false_ne_true]
        exact ⟨hlt, g3, S1, acc, done, x3, eR3, L3, rs.mono (l2.trans l3), p1.mono (l3.out R0)⟩
      | true =>
        rw [if_pos rfl]
        refine ⟨g3, e1, S1, L3, r2.mono l3, ?_⟩
        refine Post.calmBind (p1.mono (l3.out R0)) fun y S2 hy p2 g4 H4 v l4 L4 rv4 => ?_
        rw [cons_end] at p2
        have eR4 : g4.R = upd R0 q0 (.lst acc) := l4.r.trans eR3
        have few := few_end hK p2
        have len := rs.length
        rw [List.length_append] at few
        refine ⟨acc, (L4.r q0 _ (by rw [eR4, upd_same])).1, ?_, hlt, ⟨g4.β, g4.F, upd R0 q0 (.lst (acc ++ [v]))⟩, S2, acc ++ [v], done ++ [y], x3.trans ⟨l4.b, l4.f⟩, rfl, L4.more eR4, ?_, p2.mono (l4.out R0)⟩
        · have h1 : ([y] : List D).length = 1 := rfl
          have h2 : line = 10000000 := rfl
          have h3 : sizeLine = 16777216 := by rw [sizeLine_eq]
          omega
        · exact RVs.ext (g := g4) (g' := ⟨g4.β, g4.F, upd R0 q0 (.lst (acc ++ [v]))⟩) ⟨⟨[], by simp⟩, fun _ _ e => e⟩ ((rs.mono ((l2.trans l3).trans l4)).append (.cons rv4 .nil))
  · have ei : i = ds.length := by omega
    subst ei
    have hd : ds.drop ds.length = [] := List.drop_length
    rw [hd] at p
    refine .inl ⟨J1.stop g' S' H x1 L, fin H ⟨g', S', acc, done, x1, eR, L, rs, ?_⟩⟩
    have p : Post T W (RV T.K) (g'.out R0) σ (Kt (done ++ []) S') Q := p
    rw [List.append_nil] at p
    exact p
theorem notStar_tg {n : Nat} {t : Tg} {tg : Expr} (h : chkTg c n t tg = true) : notStar tg = true := by
  cases n with
  | zero => cases h
  | succ n => cases t <;> cases tg <;> first | rfl | cases h
theorem XOk.blk (O : XOk T k c X W) {scope : Scope} {own : List (Str × Nat)} (hb : blkC c.N c.sc scope own = true) (ho : ownOk scope own = true) (s : Shared) (H : Hp) (C : Addr) (cl : List (Str × Addr)) (fp : List Addr) : XOk T k (c.blk scope own) (X.blk s H scope (compEnvC scope cl C X.env) fp) WF := by
  refine ⟨O.eP, O.eW, O.eK, O.eM, O.eB, O.N, O.nd, ?_, (blkOk_by hb).kind, O.calm, O.room, ?_, PassesOwn.never, fun x hx => ?_, fun h => by cases h⟩
  · show relS scope X.env.scope = relS scope c.sc
    rw [O.sc]
  · rintro u s' ⟨a, B, sI, pins, σ, H, cls, d, e, I, nb, up, sky, na, os, ag, w⟩
    exact w.elim
  · obtain ⟨p, hp, e⟩ := List.mem_map.mp hx
    subst e
    have h := List.all_eq_true.mp ho p hp
    rw [Bool.or_eq_true, decide_eq_true_eq, decide_eq_true_eq] at h
    rcases h with h | h
    · have q : (relS scope c.sc).names.lookup p.1 = some .local := lookup_relS_keep (by intro z; cases z) h
      exact ⟨.inl q, .inr q⟩
    · have q : (relS scope c.sc).names.lookup p.1 = some .cell := lookup_relS_keep (by intro z; cases z) h
      refine ⟨.inr q, .inl ?_⟩
      show (scope.names.lookup p.1 == some NameKind.cell) = true
      rw [h]
      rfl
theorem folded_of {iter : Expr} {env : PySem.Env} {x : Value} (h : notSet iter = true) : foldedSetIterable iter env x = pure x := by
  cases iter <;> first | rfl | cases h
theorem endK {live : Bool} : ∀ (d : List D) (S : Store), endL live d S = .bad ∨ d.length ≤ line := fun d S => by
  have e0 : endL live d S = if d.length ≤ line then newL live d S else .bad := rfl
  rw [e0]
  split
  · rename_i h
    exact .inr h
  · exact .inl rfl
section
variable {live : Bool} {scope : Scope} {own : List Nat} {ow : List (Str × Nat)} {tg iter elt : Expr} {ifs : List Expr} {t : Tg} {mi : Env → Store → Res (List D)} {mc : Env → Store → Res Bool} {me : Env → Store → Res D} {pos : Pos}
theorem lc_read (hin : tgIn own 9 t = true) {Q : VK} (q : tE T W (fun e S => (mi e S).bind fun xs S1 => (calm (compM mc me t (wipeE e own) xs S1)).bind fun ys S2 => endL live ys S2) σ H Q) : tLc (iI T W mi) (gR T 9 t) (tT T WF mc) (tE T WF me) own σ H Q := by
  obtain ⟨g, e, S, L, r, p⟩ := q
  refine ⟨g, e, S, L, r, (p.bind (rel1 := ItIs T)).imp fun J H1 ⟨g1, ds, S1, l1, L1, J1, p1⟩ D hD => ?_⟩
  refine comp_loop (Kt := endL live) (Q := Q) (W := W) (σ := σ) (eb := wipeE e own) J1 (R0 := g1.R) (Fin := Q (.ref D)) ((r.wipe own).mono l1) hin endK ⟨g1.und D [], S1, [], [], ⟨⟨[], by simp [Gh.und]⟩, fun _ _ e => e⟩, rfl, L1.und hD, .nil, p1⟩ fun H ⟨g', S', acc, done, x1, eR, L, rs, p⟩ => ?_
  exact done_list p L eR (L1.ne hD).2 rs
theorem c_comp (O : XOk T k c X W) (hb : blkC c.N c.sc scope ow = true) (hw : ow.map (·.2) = own) (ho : ownOk scope ow = true) (hi : PI X tg iter (iI T W mi)) (hset : notSet iter = true) (htg : chkTg (c.blk scope ow) 9 t tg = true) (hin : tgIn own 9 t = true)
    (ht : ∀ X', XOk T k (c.blk scope ow) X' WF → PTs X' ifs (tT T WF mc)) (he : ∀ X', XOk T k (c.blk scope ow) X' WF → PE X' elt (tE T WF me)) :
    PE X (.ListComp elt [⟨tg, iter, ifs, 0⟩] scope pos) (tE T W fun e S => (mi e S).bind fun xs S1 => (calm (compM mc me t (wipeE e own) xs S1)).bind fun ys S2 => endL live ys S2) := by
  subst hw
  refine pe_imp (pe_lc O.calm (by rw [O.N]; exact O.nd) hi (blkOk_by (by rw [O.N, O.sc]; exact hb)) (fun s H C cl fp => c_tg (O.blk hb ho s H C cl fp) 9 t tg (notStar_tg htg) htg) (fun s H C cl fp => ht _ (O.blk hb ho s H C cl fp)) (fun s H C cl fp => he _ (O.blk hb ho s H C cl fp)) fun x => folded_of hset) fun σ H Q q => lc_read hin q
variable {own2 : List Nat} {tg2 iter2 : Expr} {t2 : Tg} {mi2 : Env → Store → Res (List D)}
theorem app_end {R : Res (List D)} {f : Store → Res (List D)} {done : List D} {Kt : List D → Store → Res D} : (calm (R.bind fun ys S2 => (f S2).bind fun ws S3 => Res.ok (ys ++ ws) S3)).bind (fun ys S2 => Kt (done ++ ys) S2) = (calm R).bind fun ys S2 => (calm (f S2)).bind fun ws S3 => Kt ((done ++ ys) ++ ws) S3 := by
  cases R with
  | ok ys S1 =>
    show (calm ((f S1).bind fun ws S3 => Res.ok (ys ++ ws) S3)).bind (fun ys S2 => Kt (done ++ ys) S2) = (calm (f S1)).bind fun ws S3 => Kt ((done ++ ys) ++ ws) S3
    cases f S1 with
    | ok ws S2 =>
      show Kt (done ++ (ys ++ ws)) S2 = Kt ((done ++ ys) ++ ws) S2
      rw [List.append_assoc]
    | exc c S1 => rfl
    | bad => rfl
  | exc c S1 => rfl
  | bad => rfl
theorem lc2_read (hin : tgIn own 9 t = true) (hin2 : tgIn own2 9 t2 = true) {Q : VK} (q : tE T W (fun e S => (mi e S).bind fun xs S1 => (calm (compM2 mi2 me own2 t t2 (wipeE e own) xs S1)).bind fun ys S2 => endL live ys S2) σ H Q) :
    tLc2 (iI T W mi) (gR T 9 t) tYes (iI T WF mi2) (gR T 9 t2) (tT T WF fun _ S => .ok true S) (tE T WF me) own own2 σ H Q := by
  obtain ⟨g, e, S, L, r, p⟩ := q
  refine ⟨g, e, S, L, r, (p.bind (rel1 := ItIs T)).imp fun J H1 ⟨g1, ds, S1, l1, L1, J1, p1⟩ D hD => ?_⟩
  refine ⟨fun i m H => m = ds.length - i ∧ i ≤ ds.length ∧ CI T W σ g1 g1.R D Q H fun S' done => (calm (compM2 mi2 me own2 t t2 (wipeE e own) (ds.drop i) S')).bind fun ys S2 => endL live (done ++ ys) S2,
    ⟨_, rfl, Nat.zero_le _, g1.und D [], S1, [], [], ⟨⟨[], by simp [Gh.und]⟩, fun _ _ e => e⟩, rfl, L1.und hD, .nil, p1⟩, ?_⟩
  rintro i m H ⟨rfl, hi, g', S', acc, done, x1, eR, L, rs, p⟩
  by_cases hlt : i < ds.length
  · obtain ⟨d, hd, hdr⟩ := drop_get hlt
    rw [hdr] at p
    refine .inr ⟨J1.go g' S' H i x1 L hlt, fun H' => i + 1 ≤ ds.length ∧ CI T W σ g1 g1.R D Q H' fun S' done => (calm (compM2 mi2 me own2 t t2 (wipeE e own) (ds.drop (i + 1)) S')).bind fun ys S2 => endL live (done ++ ys) S2, fun H' n => ⟨ds.length - (i + 1), by omega, rfl, n.1, n.2⟩, fun x H' y => ?_⟩
    obtain ⟨g2, l2, L2', rv⟩ := J1.yld g' S' H i x H' d x1 L hd y
    unfold compM2 at p
    cases ha : asgT 9 t d (wipeE e own) with
    | none =>
      rw [ha] at p
      exact p.elim
    | some e1 =>
      rw [ha] at p
      refine ⟨g2, wipeE e own, S', d, e1, L2', ((r.wipe own).ext (l1.ext.trans x1)).mono l2, rv, ha, fun σ2 r2 w2 => ⟨(w2 own hin).trans wipe_wipe, ?_⟩⟩
      unfold tYes
      dsimp only
      rw [if_pos rfl]
      refine ⟨g2, e1, S', L2', r2, ?_⟩
      refine Post.calmBind (p.mono (l2.out _)) fun zs S1 hz p1 g3 H3 J2 l3 L3 I2 => ?_
      have p1 := p1.mono (l3.out g1.R)
      rw [app_end] at p1
      have x3 : Ext g1 g3 := x1.trans (l2.trans l3).ext
      have eR3 : g3.R = upd g1.R D (.lst acc) := ((l2.trans l3).r).trans eR
      refine comp_loop (Kt := fun d S2 => (calm (compM2 mi2 me own2 t t2 (wipeE e own) (ds.drop (i + 1)) S2)).bind fun ws S3 => endL live (d ++ ws) S3) (Q := Q) (W := W) (σ := σ) (eb := wipeE e1 own2) (H1 := H3) I2 (R0 := g1.R) ((r2.mono l3).wipe own2) hin2 (fun d S => ?_)
        ⟨g3, S1, acc, done, Ext.refl _, eR3, L3, rs.mono (l2.trans l3), p1⟩ fun H ⟨g4, S4, acc4, done4, x4, eR4, L4, rs4, p4⟩ => ⟨hlt, g4, S4, acc4, done4, x3.trans x4, eR4, L4, rs4, p4⟩
      cases compM2 mi2 me own2 t t2 (wipeE e own) (ds.drop (i + 1)) S with
      | ok ws S2 =>
        rcases endK (live := live) (d ++ ws) S2 with z | z
        · exact .inl z
        · rw [List.length_append] at z
          exact .inr (by omega)
      | exc c S1 => exact .inl rfl
      | bad => exact .inl rfl
  · have ei : i = ds.length := by omega
    subst ei
    have hd : ds.drop ds.length = [] := List.drop_length
    rw [hd] at p
    have p : Post T W (RV T.K) (g'.out g1.R) σ (endL live (done ++ []) S') Q := p
    rw [List.append_nil] at p
    exact .inl ⟨J1.stop g' S' H x1 L, done_list p L eR (L1.ne hD).2 rs⟩
theorem pts_nilR : PTs X [] (tT T WF fun _ S => .ok true S) := ⟨fun pins s σ H Q I q => pts_nil.run pins s σ H Q I (by
  obtain ⟨g, e, S, L, r, p⟩ := q
  exact Post.ok (d := true) p L rfl)⟩
theorem c_comp2 (O : XOk T k c X W) (hb : blkC c.N c.sc scope ow = true) (hw : ow.map (·.2) = own) (ho : ownOk scope ow = true) (hi : PI X tg iter (iI T W mi)) (hset : notSet iter = true) (htg : chkTg (c.blk scope ow) 9 t tg = true) (hin : tgIn own 9 t = true)
    (hset2 : notSet iter2 = true) (htg2 : chkTg (c.blk scope ow) 9 t2 tg2 = true) (hin2 : tgIn own2 9 t2 = true) (hsub : (own2.all fun i => own.contains i) = true)
    (hi2 : ∀ X', XOk T k (c.blk scope ow) X' WF → PI X' tg2 iter2 (iI T WF mi2)) (he : ∀ X', XOk T k (c.blk scope ow) X' WF → PE X' elt (tE T WF me)) :
    PE X (.ListComp elt [⟨tg, iter, [], 0⟩, ⟨tg2, iter2, [], 0⟩] scope pos) (tE T W fun e S => (mi e S).bind fun xs S1 => (calm (compM2 mi2 me own2 t t2 (wipeE e own) xs S1)).bind fun ys S2 => endL live ys S2) := by
  subst hw
  refine pe_imp (pe_lc2 O.calm (by rw [O.N]; exact O.nd) hi (blkOk_by (by rw [O.N, O.sc]; exact hb)) (fun i h => by simpa using List.all_eq_true.mp hsub i h) (fun s H C cl fp => c_tg (O.blk hb ho s H C cl fp) 9 t tg (notStar_tg htg) htg) (fun s H C cl fp => pts_nil)
    (fun s H C cl fp => hi2 _ (O.blk hb ho s H C cl fp)) (fun s H C cl fp => c_tg (O.blk hb ho s H C cl fp) 9 t2 tg2 (notStar_tg htg2) htg2) (fun s H C cl fp => pts_nilR) (fun s H C cl fp => he _ (O.blk hb ho s H C cl fp)) (fun x => folded_of hset) fun env x => folded_of hset2) fun σ H Q q => lc2_read hin hin2 q
end
end
end Pf

end
section
/-! Snd12: statements. -/
namespace Pf
open PySem PySem.Spec PyProof.Rows L2
theorem fm_short {α β : Type} {p : α → Bool} {f : α → Option β} (hf : ∀ t, p t = true → f t = none) : ∀ {ts : List α}, ts.any p = true → (ts.filterMap f).length < ts.length
  | [], h => by cases h
  | t :: ts, h => by
    have le : (ts.filterMap f).length ≤ ts.length := List.length_filterMap_le _ _
    rw [List.any_cons] at h
    rw [List.filterMap_cons]
    cases hh : p t with
    | true =>
      rw [hf t hh]
      show _ < ts.length + 1
      exact Nat.lt_succ_of_le le
    | false =>
      rw [hh, Bool.false_or] at h
      have ih := fm_short hf h
      cases f t with
      | none => exact Nat.lt_succ_of_lt ih
      | some z => exact Nat.succ_lt_succ ih
theorem sw_none {c : CC} {env : PySem.Env} (hsc : env.scope = c.sc) {tg v : Expr} {n : Nat} {t : Tg} (ht : chkTg c n t tg = true) (h : noSwap c tg v = true) : swappedStores [tg] v env = pure none := by
  have hns := notStar_tg ht
  cases n with
  | zero => cases ht
  | succ n =>
  cases t <;> cases tg <;> first | (cases ht; done) | skip
  · rfl
  · rename_i ts0 ts x1 pos
    cases v <;> first | rfl | skip
    rename_i vs x2 pos2
    unfold swappedStores
    dsimp only
    split
    · rfl
    · rename_i h1
      split
      · rfl
      · split
        · rfl
        · rename_i h3
          have h0 : (vs.all (foldedForSure 8) || (!(ts.length == 2 || ts.length == 3) || (vs.length != ts.length || ts.any fun
            | .Name x _ => !c.isL x
            | _ => true))) = true := h
          rw [Bool.or_eq_true] at h0
          rcases h0 with h0 | h
          · rw [if_pos h0]
          exfalso
          have h : (!(ts.length == 2 || ts.length == 3) || (vs.length != ts.length || ts.any fun
            | .Name x _ => !c.isL x
            | _ => true)) = true := h
          simp only [Bool.or_eq_true] at h h1 h3
          rcases h with h | h | h
          · exact h1 (.inl (.inl (by simpa using h)))
          · exact h1 (.inl (.inr h))
          · refine h3 (.inl ?_)
            rw [bne_iff_ne]
            refine Nat.ne_of_lt (fm_short (fun t hp => ?_) h)
            cases t <;> first | rfl | skip
            rename_i x p
            have hp : (!c.isL x) = true := hp
            have hl : (env.kindOf x == some NameKind.local) = false := by
              unfold Env.kindOf
              rw [hsc]
              unfold CC.isL at hp
              simpa using hp
            dsimp only
            rw [hl]
            rfl
theorem starred_none {es : List Expr} (h : ∀ z ∈ es, notStar z = true) : (es.any fun | .Starred .. => true | _ => false) = false := by
  rw [List.any_eq_false]
  intro x hx
  have := h x hx
  cases x <;> first | (cases this; done) | (intro q; cases q)
theorem sw2 {env : PySem.Env} (hk : env.blockKind = .function) {x y : Str} {px py pt pt2 : Pos} {kt k2 : Nat} {a b : Expr} (hx : env.kindOf x = some .local) (hy : env.kindOf y = some .local) (hl : (py.line == px.line) = true) (hxy : x ≠ y) (ha : notStar a = true) (hb : notStar b = true)
    (h1 : ([a, b].all (foldedForSure 8)) = false) (h2 : ([a, b].all (constantsAlone 8)) = false) : swappedStores [.Tuple [.Name x px, .Name y py] kt pt] (.Tuple [a, b] k2 pt2) env = pure (some [x, y]) := by
  have hs : ([a, b].any fun | .Starred .. => true | _ => false) = false := by
    exact starred_none (fun z hz => by
      simp only [List.mem_cons, List.not_mem_nil, or_false] at hz
      rcases hz with rfl | rfl <;> assumption)
  have e : [x, y].eraseDups = [x, y] := by
    rw [List.eraseDups_cons]
    simp [Ne.symm hxy, List.eraseDups_cons]
  unfold swappedStores
  dsimp only
  rw [if_neg (by rw [hk]; intro z; exact absurd (show false = true from z) (by decide)), if_neg (fun z => absurd (z.symm.trans hs) (by decide))]
  simp only [List.filterMap_cons, List.filterMap_nil, hx, hy, hl, List.head?_cons, Option.map_some, Option.getD_some, Expr.pos, beq_self_eq_true, Bool.and_self, if_true, e, h1, h2]
  rfl
theorem sw3 {env : PySem.Env} (hk : env.blockKind = .function) {x y z : Str} {px py pz pt pt2 : Pos} {kt k2 : Nat} {a b d : Expr} (hx : env.kindOf x = some .local) (hy : env.kindOf y = some .local) (hz : env.kindOf z = some .local) (hl : (py.line == px.line) = true) (hl2 : (pz.line == px.line) = true) (hxy : x ≠ y) (hxz : x ≠ z) (hyz : y ≠ z) (ha : notStar a = true) (hb : notStar b = true) (hd : notStar d = true)
    (h1 : ([a, b, d].all (foldedForSure 8)) = false) (h2 : ([a, b, d].all (constantsAlone 8)) = false) : swappedStores [.Tuple [.Name x px, .Name y py, .Name z pz] kt pt] (.Tuple [a, b, d] k2 pt2) env = pure (some [x, y, z]) := by
  have hs : ([a, b, d].any fun | .Starred .. => true | _ => false) = false := by
    exact starred_none (fun z hz => by
      simp only [List.mem_cons, List.not_mem_nil, or_false] at hz
      rcases hz with rfl | rfl | rfl <;> assumption)
  have e : [x, y, z].eraseDups = [x, y, z] := by
    rw [List.eraseDups_cons]
    simp [Ne.symm hxy, Ne.symm hxz, List.eraseDups_cons, Ne.symm hyz]
  unfold swappedStores
  dsimp only
  rw [if_neg (by rw [hk]; intro z; exact absurd (show false = true from z) (by decide)), if_neg (fun z => absurd (z.symm.trans hs) (by decide))]
  simp only [List.filterMap_cons, List.filterMap_nil, hx, hy, hz, hl, hl2, List.head?_cons, Option.map_some, Option.getD_some, Expr.pos, beq_self_eq_true, Bool.and_self, if_true, e, h1, h2]
  rfl
/-! ### readings of statements -/
def PostS (T : TT) (W : WX) (g : Gh) (r : Res Flow) (E : Ends) : Prop := match r with
  | .ok (.nx e) S => ∀ (g' : Gh) (H' : Hp) (σ' : L2.St), Le g g' → Lies T g' S H' → ER T g' σ' e → E.nx σ' H'
  | .ok (.ret d) S => ∀ (g' : Gh) (H' : Hp) (v : V), Le g g' → Lies T g' S H' → RV T.K g' v d → E.rt v H'
  | .exc c S => ∀ (g' : Gh) (H' : Hp) (σ' : L2.St), Le g g' → Lies T g' S H' → W (.ref (T.cls c)) none σ' H'
  | .bad => False
def tS (T : TT) (W : WX) (m : Env → Store → Res Flow) : TS := fun E σ H => ∃ g e S, Lies T g S H ∧ ER T g σ e ∧ PostS T W g (m e S) E
section
variable {T : TT} {X : Cx} {W : WX} {g : Gh} {S : Store} {H : Hp} {σ : L2.St} {k : Nat} {c : CC} {e : Env} {α β : Type} {rel1 : Gh → β → α → Prop} {E : Ends}
theorem PostS.mono {g' : Gh} {r : Res Flow} (p : PostS T W g r E) (l : Le g g') : PostS T W g' r E := by
  cases r with
  | ok f S => cases f with
    | nx e => exact fun g1 H1 σ1 l1 => p g1 H1 σ1 (l.trans l1)
    | ret d => exact fun g1 H1 v l1 => p g1 H1 v (l.trans l1)
  | exc c S => exact fun g1 H1 σ1 l1 => p g1 H1 σ1 (l.trans l1)
  | bad => exact p
theorem PostS.bind {r : Res α} {f : α → Store → Res Flow} (p : PostS T W g (r.bind f) E) : Post T W rel1 g σ r fun v H1 => ∃ g1 d S1, Le g g1 ∧ Lies T g1 S1 H1 ∧ rel1 g1 v d ∧ PostS T W g1 (f d S1) E := by
  cases r with
  | ok d S => exact fun g' H' v l L m => ⟨g', d, S, l, L, m, p.mono l⟩
  | exc c S => exact fun g' H' l L => p g' H' σ l L
  | bad => exact p
/-- a statement, then the rest -/
theorem PostS.seq {r : Res Flow} {f : Env → Store → Res Flow} (p : PostS T W g (r.bind fun x S1 => match x with
    | .nx e => f e S1
    | .ret d => .ok (.ret d) S1) E) {E' : Ends} (hn : ∀ σ' H', (∃ g' e' S', Le g g' ∧ Lies T g' S' H' ∧ ER T g' σ' e' ∧ PostS T W g' (f e' S') E) → E'.nx σ' H') (hr : E'.rt = E.rt) : PostS T W g r E' := by
  cases r with
  | ok x S => cases x with
    | nx e => exact fun g' H' σ' l L r => hn σ' H' ⟨g', e, S, l, L, r, p.mono l⟩
    | ret d =>
      show ∀ (g' : Gh) (H' : Hp) (v : V), Le g g' → Lies T g' S H' → RV T.K g' v d → E'.rt v H'
      rw [hr]
      exact p
  | exc c S => exact p
  | bad => exact p
theorem ps_imp {s : Stmt} {t t' : TS} (h : PS X s t) (q : ∀ E σ H, t' E σ H → t E σ H) : PS X s t' := ⟨fun pins s σ H E I w => h.run pins s σ H E I (q _ _ _ w)⟩
theorem pss_imp {s : List Stmt} {t t' : TS} (h : PSs X s t) (q : ∀ E σ H, t' E σ H → t E σ H) : PSs X s t' := ⟨fun pins s σ H E I w => h.run pins s σ H E I (q _ _ _ w)⟩
theorem PostS.nx (p : PostS T W g (.ok (.nx e) S) E) (L : Lies T g S H) (r : ER T g σ e) : E.nx σ H := p g H σ (Le.refl g) L r
theorem PostS.rt {d : D} {v : V} (p : PostS T W g (.ok (.ret d) S) E) (L : Lies T g S H) (r : RV T.K g v d) : E.rt v H := p g H v (Le.refl g) L r
/-! ### blocks -/
def seqM (m n : Env → Store → Res Flow) : Env → Store → Res Flow := fun e S => (m e S).bind fun x S1 => match x with
  | .nx e => n e S1
  | .ret d => .ok (.ret d) S1
theorem s_nil : PSs X [] (tS T W fun e S => .ok (.nx e) S) := pss_imp pss_nil fun E σ H ⟨g, e, S, L, r, p⟩ => p.nx L r
theorem s_cons {s : Stmt} {ss : List Stmt} {m n : Env → Store → Res Flow} (h1 : PS X s (tS T W m)) (h2 : PSs X ss (tS T W n)) : PSs X (s :: ss) (tS T W (seqM m n)) := by
  refine pss_imp (pss_cons h1 h2) fun E σ H ⟨g, e, S, L, r, p⟩ => ⟨g, e, S, L, r, ?_⟩
  exact PostS.seq p (fun σ' H' ⟨g', e', S', l, L', r', p'⟩ => ⟨g', e', S', L', r', p'⟩) rfl
theorem s_frz {i : Nat} {ss : List Stmt} {n : Env → Store → Res Flow} (h2 : PSs X ss (tS T W n)) : PSs X ss (tS T W (seqM (fun σ S => match cellOf σ i S with
    | some (n, xs) => .ok (.nx (σ.set i (some (.lst xs)))) (S.set n .dead)
    | none => .ok (.nx σ) S) n)) := by
  refine pss_imp h2 fun E σ H ⟨g, e, S, L, r, p⟩ => ?_
  unfold seqM at p
  dsimp only at p
  cases hc : cellOf e i S with
  | none =>
    rw [hc] at p
    exact ⟨g, e, S, L, r, p⟩
  | some z =>
    obtain ⟨m, xs⟩ := z
    rw [hc] at p
    obtain ⟨a, vs, h1, h2, h3, h4, h5, h6⟩ := cell_at L r hc
    obtain ⟨vs', h7, h8, h9, L'⟩ := L.freeze h2 h3
    have l : Le g (g.addF a (.lst vs')) := Le.addF h9
    exact ⟨_, _, _, L', (r.mono l).tell h1 (.lst upd_same (h8.mono l)), PostS.mono p l⟩
theorem s_pass {pos : Pos} : PS X (.Pass pos) (tS T W fun e S => .ok (.nx e) S) := ps_imp ps_pass fun E σ H ⟨g, e, S, L, r, p⟩ => p.nx L r
theorem s_expr {a : Expr} {ma : Env → Store → Res D} {pos : Pos} (ha : PE X a (tE T W ma)) (hn : notComp a = true) : PS X (.Expr a pos) (tS T W fun e S => (ma e S).bind fun _ S1 => .ok (.nx e) S1) := by
  refine ps_imp (ps_expr ha (by cases a <;> first | rfl | cases hn)) fun E σ H ⟨g, e, S, L, r, p⟩ => ?_
  exact ⟨g, e, S, L, r, p.bind.imp fun v H1 ⟨g1, d, S1, l, L1, rv, p1⟩ => p1.nx L1 (r.mono l)⟩
theorem s_ret {a : Expr} {ma : Env → Store → Res D} {pos : Pos} (ha : PE X a (tE T W ma)) : PS X (.Return (some a) pos) (tS T W fun e S => (ma e S).bind fun d S1 => .ok (.ret d) S1) := by
  refine ps_imp (ps_ret ha) fun E σ H ⟨g, e, S, L, r, p⟩ => ?_
  exact ⟨g, e, S, L, r, p.bind.imp fun v H1 ⟨g1, d, S1, l, L1, rv, p1⟩ => p1.rt L1 rv⟩
theorem s_if {d : Expr} {a b : List Stmt} {md : Env → Store → Res Bool} {ma mb : Env → Store → Res Flow} {pos : Pos} (hd : PT X d (tT T W md)) (ha : PSs X a (tS T W ma)) (hb : PSs X b (tS T W mb)) : PS X (.If d a b pos) (tS T W fun e S => (md e S).bind fun k S1 => match k with
    | true => ma e S1
    | false => mb e S1) := by
  refine ps_imp (ps_if hd ha hb) fun E σ H ⟨g, e, S, L, r, p⟩ => ?_
  refine ⟨g, e, S, L, r, (p.bind (rel1 := relB)).imp fun v H1 ⟨g1, d, S1, l, L1, rv, p1⟩ => ?_⟩
  have rv : v = d := rv
  subst rv
  cases v with
  | true => exact iteT ⟨g1, e, S1, L1, r.mono l, p1⟩
  | false => exact iteF ⟨g1, e, S1, L1, r.mono l, p1⟩
/-! ### stores -/
def asgM (ma : Env → Store → Res D) (t : Tg) : Env → Store → Res Flow := fun e S => (ma e S).bind fun d S1 => match asgT 9 t d e with
  | some e1 => .ok (.nx e1) S1
  | none => .bad
theorem asg_read {t : Tg} {ma : Env → Store → Res D} {H : Hp} (q : tS T W (asgM ma t) E σ H) : tAsg (tE T W ma) (gR T 9 t) E σ H := by
  obtain ⟨g, e, S, L, r, p⟩ := q
  refine ⟨g, e, S, L, r, p.bind.imp fun v H1 ⟨g1, d, S1, l, L1, rv, p1⟩ => ?_⟩
  cases ha : asgT 9 t d e with
  | none =>
    rw [ha] at p1
    exact p1.elim
  | some e1 =>
    rw [ha] at p1
    exact ⟨g1, e, S1, d, e1, L1, r.mono l, rv, ha, fun σ' r' _ => p1.nx L1 r'⟩
theorem s_asg (O : XOk T k c X W) {tg v : Expr} {t : Tg} {ma : Env → Store → Res D} {pos : Pos} (ha : PE X v (tE T W ma)) (ht : chkTg c 9 t tg = true) (hv : notComp v = true) (hsw : noSwap c tg v = true) : PS X (.Assign [tg] v pos) (tS T W (asgM ma t)) := by
  have hns := notStar_tg ht
  refine ps_imp (ps_asg ha (c_tg O 9 t tg hns ht) ?_ (sw_none O.sc ht hsw) (by rw [assignEach_of hns]; rfl)) fun E σ H => asg_read
  cases v <;> first | rfl | cases hv
/-- a comprehension for a name that is not a local of its own line -/
theorem s_asgC (O : XOk T k c X W) {y : Str} {py spos : Pos} {v : Expr} {t : Tg} {ma : Env → Store → Res D} (ha : PE X v (tE T W ma)) (ht : chkTg c 9 t (.Name y py) = true) (hl : c.isL y = false) : PS X (.Assign [.Name y py] v spos) (tS T W (asgM ma t)) := by
  have hns := notStar_tg ht
  refine ps_imp (ps_asg ha (c_tg O 9 t _ hns ht) ?_ rfl rfl) fun E σ H => asg_read
  have hk : (X.env.kindOf y == some NameKind.local) = false := by
    unfold Env.kindOf
    rw [O.sc]
    unfold CC.isL at hl
    simpa using hl
  have e : swapsWithSole [.Name y py] v spos.line X.env = swapsWith v (some (.Name y py)) spos.line X.env := rfl
  rw [e]
  unfold swapsWith
  cases v <;> first | rfl | (simp only [hk, Bool.and_false, Bool.false_and]; try rfl)
theorem asg_name {i : Nat} {ma : Env → Store → Res D} {H : Hp} (q : tS T W (asgM ma (.nm i)) E σ H) : tE T W ma σ H fun x H1 => E.nx (σ.set i (some x)) H1 := by
  obtain ⟨g, e, S, L, r, p⟩ := q
  refine ⟨g, e, S, L, r, p.bind.imp fun v H1 ⟨g1, d, S1, l, L1, rv, p1⟩ => ?_⟩
  have p1 : PostS T W g1 (match (if i < e.length then some (e.set i (some d)) else none) with
    | some e1 => .ok (.nx e1) S1
    | none => .bad) E := p1
  split at p1
  · rename_i e1 h
    split at h
    · cases h
      exact p1.nx L1 ((r.mono l).set rv)
    · cases h
  · exact p1.elim
theorem blockKind_of (O : XOk T k c X W) : X.env.blockKind = .function := by
  unfold Env.blockKind
  rw [O.sc, O.kf]
  rfl
theorem nm_of {n i : Nat} {y : Str} {py : Pos} (h : chkTg c (n + 1) (.nm i) (.Name y py) = true) : c.N[i]? = some y ∧ y ∈ c.asg := by
  obtain ⟨h1, h2⟩ := and2 (show c.st i y = true from h)
  exact ⟨of_decide_eq_true h1, of_decide_eq_true h2⟩
section
variable {live : Bool} {scope : Scope} {own : List Nat} {ow : List (Str × Nat)} {tg iter elt : Expr} {ifs : List Expr} {t : Tg} {i : Nat} {y : Str} {py : Pos} {mi : Env → Store → Res (List D)} {mc : Env → Store → Res Bool} {me : Env → Store → Res D} {pos spos : Pos}
theorem sw_of (O : XOk T k c X W) {gs : List Comprehension} (hl : c.isL y = true) (hline : (py.line == pos.line) = true) (ha : (scope.names.any fun (m, k) => m == y && (k == .local || k == .cell)) = false) : swapsWith (.ListComp elt gs scope pos) (some (.Name y py)) spos.line X.env = pure true := by
  refine sw_true (by rw [O.sc]; exact O.kf) ?_ hline ha
  rw [O.sc]
  exact of_decide_eq_true hl
theorem s_asgL (O : XOk T k c X W) (hn : chkTg c 9 (.nm i) (.Name y py) = true) (hl : c.isL y = true) (hline : (py.line == pos.line) = true) (ha : (scope.names.any fun (m, k) => m == y && (k == .local || k == .cell)) = false)
    (hb : blkC c.N c.sc scope ow = true) (hw : ow.map (·.2) = own) (ho : ownOk scope ow = true) (hi : PI X tg iter (iI T W mi)) (hset : notSet iter = true) (htg : chkTg (c.blk scope ow) 9 t tg = true) (hin : tgIn own 9 t = true)
    (ht : ∀ X', XOk T k (c.blk scope ow) X' WF → PTs X' ifs (tT T WF mc)) (he : ∀ X', XOk T k (c.blk scope ow) X' WF → PE X' elt (tE T WF me)) :
    PS X (.Assign [.Name y py] (.ListComp elt [⟨tg, iter, ifs, 0⟩] scope pos) spos) (tS T W (asgM (fun e S => (mi e S).bind fun xs S1 => (calm (compM mc me t (wipeE e own) xs S1)).bind fun ys S2 => endL live ys S2) (.nm i))) := by
  subst hw
  obtain ⟨n1, n2⟩ := nm_of hn
  refine ps_imp (ps_setLc O.calm (by rw [O.N]; exact O.nd) (O.hN n1) (by rw [O.sc]; exact of_decide_eq_true hl) (sw_of O hl hline ha) hi (blkOk_by (by rw [O.N, O.sc]; exact hb)) (fun s H C cl fp => c_tg (O.blk hb ho s H C cl fp) 9 t tg (notStar_tg htg) htg) (fun s H C cl fp => ht _ (O.blk hb ho s H C cl fp)) (fun s H C cl fp => he _ (O.blk hb ho s H C cl fp)) fun x => folded_of hset) fun E σ H q => lc_read hin (asg_name q)
variable {own2 : List Nat} {tg2 iter2 : Expr} {t2 : Tg} {mi2 : Env → Store → Res (List D)}
theorem s_asgL2 (O : XOk T k c X W) (hn : chkTg c 9 (.nm i) (.Name y py) = true) (hl : c.isL y = true) (hline : (py.line == pos.line) = true) (ha : (scope.names.any fun (m, k) => m == y && (k == .local || k == .cell)) = false)
    (hb : blkC c.N c.sc scope ow = true) (hw : ow.map (·.2) = own) (ho : ownOk scope ow = true) (hi : PI X tg iter (iI T W mi)) (hset : notSet iter = true) (htg : chkTg (c.blk scope ow) 9 t tg = true) (hin : tgIn own 9 t = true)
    (hset2 : notSet iter2 = true) (htg2 : chkTg (c.blk scope ow) 9 t2 tg2 = true) (hin2 : tgIn own2 9 t2 = true) (hsub : (own2.all fun i => own.contains i) = true)
    (hi2 : ∀ X', XOk T k (c.blk scope ow) X' WF → PI X' tg2 iter2 (iI T WF mi2)) (he : ∀ X', XOk T k (c.blk scope ow) X' WF → PE X' elt (tE T WF me)) :
    PS X (.Assign [.Name y py] (.ListComp elt [⟨tg, iter, [], 0⟩, ⟨tg2, iter2, [], 0⟩] scope pos) spos) (tS T W (asgM (fun e S => (mi e S).bind fun xs S1 => (calm (compM2 mi2 me own2 t t2 (wipeE e own) xs S1)).bind fun ys S2 => endL live ys S2) (.nm i))) := by
  subst hw
  obtain ⟨n1, n2⟩ := nm_of hn
  refine ps_imp (ps_setLc2 O.calm (by rw [O.N]; exact O.nd) (O.hN n1) (by rw [O.sc]; exact of_decide_eq_true hl) (sw_of O hl hline ha) hi (blkOk_by (by rw [O.N, O.sc]; exact hb)) (fun i h => by simpa using List.all_eq_true.mp hsub i h) (fun s H C cl fp => c_tg (O.blk hb ho s H C cl fp) 9 t tg (notStar_tg htg) htg) (fun s H C cl fp => pts_nil)
    (fun s H C cl fp => hi2 _ (O.blk hb ho s H C cl fp)) (fun s H C cl fp => c_tg (O.blk hb ho s H C cl fp) 9 t2 tg2 (notStar_tg htg2) htg2) (fun s H C cl fp => pts_nilR) (fun s H C cl fp => he _ (O.blk hb ho s H C cl fp)) (fun x => folded_of hset) fun env x => folded_of hset2) fun E σ H q => lc2_read hin hin2 (asg_name q)
end
/-! ### several names at once -/
def parM (is : List Nat) (ms : Env → Store → Res (List D)) : Env → Store → Res Flow := fun e S => (ms e S).bind fun xs S1 => match setAll is xs e with
  | some σ1 => .ok (.nx σ1) S1
  | none => .bad
theorem st_of {i : Nat} {x : Str} (h : (c.st i x && c.isL x) = true) : c.N[i]? = some x ∧ c.sc.names.lookup x = some .local := by
  obtain ⟨h1, h2⟩ := and2 h
  obtain ⟨h3, h4⟩ := and2 h1
  exact ⟨of_decide_eq_true h3, of_decide_eq_true h2⟩
theorem ne_of_ix {i j : Nat} {x y : Str} (h1 : c.N[i]? = some x) (h2 : c.N[j]? = some y) (h : i ≠ j) (nd : c.N.Nodup) : x ≠ y := fun z => by
  subst z
  exact h (nodup_ix nd h1 h2)
def setV : List Nat → List V → L2.St → L2.St
  | i :: is, v :: vs, σ => setV is vs (σ.set i (some v))
  | _, _, σ => σ
theorem setAll_ER : ∀ {is : List Nat} {ds : List D} {vs : List V} {e e' : Env} {σ : L2.St}, setAll is ds e = some e' → RVs T.K g vs ds → ER T g σ e → ER T g (setV is vs σ) e' ∧ vs.length = is.length
  | [], [], _, e, e', σ, h, .nil, r => by
    cases h
    exact ⟨r, rfl⟩
  | i :: is, d :: ds, _, e, e', σ, h, .cons r1 rs, r => by
    have h : (if i < e.length then setAll is ds (e.set i (some d)) else none) = some e' := h
    split at h
    · obtain ⟨h1, h2⟩ := setAll_ER h rs (r.set r1)
      exact ⟨h1, by rw [List.length_cons, List.length_cons, h2]⟩
    · cases h
  | [], _ :: _, _, _, _, _, h, _, _ => by cases h
  | _ :: _, [], _, _, _, _, h, _, _ => by cases h
theorem par_read {is : List Nat} {ms : Env → Store → Res (List D)} {H : Hp} (q : tS T W (parM is ms) E σ H) : tA T W ms σ H fun vs H1 => vs.length = is.length ∧ E.nx (setV is vs σ) H1 := by
  obtain ⟨g, e, S, L, r, p⟩ := q
  refine ⟨g, e, S, L, r, p.bind.imp fun vs H1 ⟨g1, ds, S1, l, L1, rv, p1⟩ => ?_⟩
  cases h : setAll is ds e with
  | none =>
    rw [h] at p1
    exact p1.elim
  | some e1 =>
    rw [h] at p1
    obtain ⟨h1, h2⟩ := setAll_ER h rv (r.mono l)
    exact ⟨h2, p1.nx L1 h1⟩
theorem s_par2 (O : XOk T k c X W) {i j : Nat} {x y : Str} {px py pt pt2 pos : Pos} {kt k2 : Nat} {a b : Expr} {ms : Env → Store → Res (List D)} (hx : (c.st i x && c.isL x) = true) (hy : (c.st j y && c.isL y) = true) (hij : i ≠ j) (hl : (py.line == px.line) = true) (ha : notStar a = true) (hb : notStar b = true)
    (h1 : ([a, b].all (foldedForSure 8)) = false) (h2 : ([a, b].all (constantsAlone 8)) = false) (hs : PA X [a, b] (tA T W ms)) : PS X (.Assign [.Tuple [.Name x px, .Name y py] kt pt] (.Tuple [a, b] k2 pt2) pos) (tS T W (parM [i, j] ms)) := by
  obtain ⟨x1, x2⟩ := st_of hx
  obtain ⟨y1, y2⟩ := st_of hy
  have nd := O.nd
  refine ps_imp (ps_par O.calm (by rw [O.N]; exact O.nd) (O.hN x1) (O.hN y1) hij (by rw [O.sc]; exact x2) (by rw [O.sc]; exact y2) hs (sw2 (blockKind_of O) (by unfold Env.kindOf; rw [O.sc]; exact x2) (by unfold Env.kindOf; rw [O.sc]; exact y2) hl (ne_of_ix x1 y1 hij nd) ha hb h1 h2)) fun E σ H q => ?_
  refine Rd_imp (par_read q) fun vs H1 ⟨h1, h2⟩ => ?_
  match vs, h1, h2 with
  | [v, w], _, h2 => exact ⟨v, w, rfl, h2⟩
theorem s_par3 (O : XOk T k c X W) {i j m : Nat} {x y z : Str} {px py pz pt pt2 pos : Pos} {kt k2 : Nat} {a b d : Expr} {ms : Env → Store → Res (List D)} (hx : (c.st i x && c.isL x) = true) (hy : (c.st j y && c.isL y) = true) (hz : (c.st m z && c.isL z) = true) (hij : i ≠ j) (him : i ≠ m) (hjm : j ≠ m) (hl : (py.line == px.line) = true) (hl2 : (pz.line == px.line) = true) (ha : notStar a = true) (hb : notStar b = true) (hd : notStar d = true)
    (h1 : ([a, b, d].all (foldedForSure 8)) = false) (h2 : ([a, b, d].all (constantsAlone 8)) = false) (hs : PA X [a, b, d] (tA T W ms)) : PS X (.Assign [.Tuple [.Name x px, .Name y py, .Name z pz] kt pt] (.Tuple [a, b, d] k2 pt2) pos) (tS T W (parM [i, j, m] ms)) := by
  obtain ⟨x1, x2⟩ := st_of hx
  obtain ⟨y1, y2⟩ := st_of hy
  obtain ⟨z1, z2⟩ := st_of hz
  have nd := O.nd
  refine ps_imp (ps_par3 O.calm (by rw [O.N]; exact O.nd) (O.hN x1) (O.hN y1) (O.hN z1) hij him hjm (by rw [O.sc]; exact x2) (by rw [O.sc]; exact y2) (by rw [O.sc]; exact z2) hs (sw3 (blockKind_of O) (by unfold Env.kindOf; rw [O.sc]; exact x2) (by unfold Env.kindOf; rw [O.sc]; exact y2) (by unfold Env.kindOf; rw [O.sc]; exact z2) hl hl2 (ne_of_ix x1 y1 hij nd) (ne_of_ix x1 z1 him nd) (ne_of_ix y1 z1 hjm nd) ha hb hd h1 h2)) fun E σ H q => ?_
  refine Rd_imp (par_read q) fun vs H1 ⟨h1, h2⟩ => ?_
  match vs, h1, h2 with
  | [u, v, w], _, h2 => exact ⟨u, v, w, rfl, h2⟩
/-! ### what changes a cell -/
theorem s_app (O : XOk T k c X W) {i : Nat} {x : Str} {a : Expr} {ma : Env → Store → Res D} {p apos pos spos : Pos} (h : c.nm i x = true) (hl : apos.endLine = pos.line) (ha : PE X a (tE T W ma)) (hn : notStar a = true) :
    PS X (.Expr (.Call (.Attribute (.Name x p) "append" apos) [a] [] pos) spos) (tS T W fun e S => match (cellOf e i S).isSome with
    | false => .bad
    | true => (ma e S).bind fun d S1 => match cellOf e i S1, pl d with
      | some (n, xs), true => if xs.length < line then .ok (.nx e) (S1.set n (.lst (xs ++ [d]))) else .bad
      | _, _ => .bad) := by
  have hall : ∀ e ∈ [a], notStar e = true := fun e he => by
    have : e = a := by simpa using he
    rw [this]
    exact hn
  have key : PE X (.Call (.Attribute (.Name x p) "append" apos) [a] [] pos) (tBM X.K "list" rAppend (tVar i) (tCons (tE T W ma) tNil)) := pe_bm PySem.F.plainAttrs_list PySem.F.slot_list_append PySem.F.type_list_append mt_append (c_name O h) (pa_cons ha pa_nil (starEach_of hn)) (base_of rfl) (few_of hall (Nat.le_of_ble_eq_true rfl)) (line_of hl) (starEach_of hn) rfl
  refine ps_imp (ps_expr key rfl) fun E σ H q => ?_
  obtain ⟨g, e, S, L, r, p⟩ := q
  dsimp only at p
  cases hc : cellOf e i S with
  | none =>
    rw [hc] at p
    exact p.elim
  | some z =>
    obtain ⟨n, xs⟩ := z
    rw [hc] at p
    obtain ⟨q, vs, h1, h2, h3, h4, h5, h6⟩ := cell_at L r hc
    refine ⟨.ref q, h1, .inl ⟨rfl, vs, SqL.of h4⟩, g, e, S, L, r, ?_⟩
    have p : PostS T W g ((ma e S).bind fun d S1 => match cellOf e i S1, pl d with
      | some (n, xs), true => if xs.length < line then .ok (.nx e) (S1.set n (.lst (xs ++ [d]))) else .bad
      | _, _ => .bad) E := p
    refine p.bind.imp fun v H1 ⟨g1, d, S1, l, L1, rv, p1⟩ => ?_
    have r1 := r.mono l
    cases hc1 : cellOf e i S1 with
    | none =>
      rw [hc1] at p1
      exact p1.elim
    | some z1 =>
      obtain ⟨m, ys⟩ := z1
      rw [hc1] at p1
      cases hp : pl d with
      | false =>
        rw [hp] at p1
        exact p1.elim
      | true =>
        rw [hp] at p1
        have p1 : PostS T W g1 (if ys.length < line then .ok (.nx e) (S1.set m (.lst (ys ++ [d]))) else .bad) E := p1
        split at p1
        · rename_i hlt
          obtain ⟨q1, us, k1, k2, k3, k4, k5, k6⟩ := cell_at L1 r1 hc1
          rw [h1] at k1
          cases k1
          refine ⟨q, us, v, rfl, rfl, k4, ?_, p1.nx (L1.write k2 k3 (xs := us) (k5.append (.cons rv .nil)) fun d' hd => ?_) r1⟩
          · have h1 := k5.length
            have h2 : line = 10000000 := rfl
            have h3 : sizeLine = 16777216 := by rw [sizeLine_eq]
            omega
          · rcases List.mem_append.mp hd with z | z
            · exact k6 d' z
            · have : d' = d := by simpa using z
              rw [this]
              exact hp
        · exact p1.elim
theorem ixN_of {n j : Nat} {k : Int} (h : place n k = some j) : ixN n k = some j := by
  unfold place at h
  unfold ixN
  by_cases h0 : 0 ≤ k
  · rw [if_pos h0] at h ⊢
    exact h
  · rw [if_neg h0] at h ⊢
    by_cases h1 : 0 ≤ k + n
    · rw [if_pos h1] at h
      rw [if_pos (by omega)]
      exact h
    · rw [if_neg h1] at h
      cases h
theorem s_setix (O : XOk T k c X W) {i : Nat} {x : Str} {a b : Expr} {ma mb : Env → Store → Res D} {p tpos pos : Pos} (h : c.nm i x = true) (hs : notSlice b = true) (hv : notComp a = true) (ha : PE X a (tE T W ma)) (hb : PE X b (tE T W mb)) :
    PS X (.Assign [.Subscript (.Name x p) b tpos] a pos) (tS T W fun e S => match (cellOf e i S).isSome with
    | false => .bad
    | true => (ma e S).bind fun d S1 => (mb e S1).bind fun kd S2 => match cellOf e i S2, kd, pl d with
      | some (n, xs), .int j, true => (match place xs.length j with
        | some p => .ok (.nx e) (S2.set n (.lst (xs.set p d)))
        | none => .bad)
      | _, _, _ => .bad) := by
  refine ps_imp (ps_asg ha (pg_sub (c_name O h) hb set_list (fun v => by cases b <;> first | rfl | cases hs)) (by cases a <;> first | rfl | cases hv) (by cases a <;> rfl) rfl) fun E σ H q => ?_
  obtain ⟨g, e, S, L, r, p⟩ := q
  dsimp only at p
  cases hc : cellOf e i S with
  | none =>
    rw [hc] at p
    exact p.elim
  | some z =>
    obtain ⟨n, xs⟩ := z
    rw [hc] at p
    obtain ⟨q, vs, h1, h2, h3, h4, h5, h6⟩ := cell_at L r hc
    refine ⟨g, e, S, L, r, ?_⟩
    have p : PostS T W g ((ma e S).bind fun d S1 => (mb e S1).bind fun kd S2 => match cellOf e i S2, kd, pl d with
      | some (n, xs), .int j, true => (match place xs.length j with
        | some p => .ok (.nx e) (S2.set n (.lst (xs.set p d)))
        | none => .bad)
      | _, _, _ => .bad) E := p
    refine p.bind.imp fun v H1 ⟨g1, d, S1, l, L1, rv, p1⟩ => ?_
    refine ⟨.ref q, h1, g1, e, S1, L1, r.mono l, ?_⟩
    refine p1.bind.imp fun w H2 ⟨g2, kd, S2, l2, L2', rw2, p2⟩ => ?_
    have r2 := (r.mono l).mono l2
    cases hc1 : cellOf e i S2 with
    | none =>
      rw [hc1] at p2
      exact p2.elim
    | some z1 =>
      obtain ⟨m, ys⟩ := z1
      rw [hc1] at p2
      cases rw2 <;> first | (exact p2.elim) | skip
      rename_i j _
      cases hp : pl d with
      | false =>
        rw [hp] at p2
        exact p2.elim
      | true =>
        rw [hp] at p2
        have p2 : PostS T W g2 (match place ys.length j with
          | some p => .ok (.nx e) (S2.set m (.lst (ys.set p d)))
          | none => .bad) E := p2
        cases hq : place ys.length j with
        | none =>
          rw [hq] at p2
          exact p2.elim
        | some t =>
          rw [hq] at p2
          obtain ⟨q1, us, k1, k2, k3, k4, k5, k6⟩ := cell_at L2' r2 hc1
          rw [h1] at k1
          cases k1
          refine ⟨q, us, j, t, rfl, rfl, k4, by rw [k5.length]; exact ixN_of hq, p2.nx (L2'.write k2 k3 (xs := us) (k5.set (rv.mono l2) t) fun d' hd => ?_) r2⟩
          rcases List.mem_or_eq_of_mem_set hd with z | z
          · exact k6 d' z
          · rw [z]
            exact hp
/-! ### raise, loops -/
theorem s_rais (O : XOk T k c X W) (F : SF T c k) {i : Nat} {x : Str} {m : List Nat} {j : Nat} {p p2 cpos pos : Pos} (h1 : c.excs[i]? = some x) (h2 : c.gl x = true) : PS X (.Raise (some (.Call (.Name x p) [.Constant (.str (toS m)) j p2] [] cpos)) none pos) (tS T W fun e S => .exc i S) := by
  obtain ⟨e1, e2, e3, e4, e5⟩ := F.ex i x h1
  obtain ⟨g1, g2⟩ := O.gl h2
  have eK := O.eK
  have eM := O.eM
  refine ps_imp (L2N.ps_raise O.calm O.tk (L2N.pmk_own PySem.F.excBase_ValueError (by rw [eK]; exact e2) (by rw [eM]; exact e1) (by rw [eK]; exact e3) (raises_own (by rw [eK]; exact e4) (by rw [eK]; exact e5)) g1 g2)) fun E σ H q => ?_
  obtain ⟨g, e, S, L, r, p⟩ := q
  exact p g H σ (Le.refl g) L
def forM (mb : Env → Store → Res Flow) (t : Tg) : List D → Env → Store → Res Flow
  | [], σ, S => .ok (.nx σ) S
  | x :: xs, σ, S => match asgT 9 t x σ with
    | none => .bad
    | some σ1 => (mb σ1 S).bind fun f S1 => match f with
      | .nx σ2 => forM mb t xs σ2 S1
      | .ret d => .ok (.ret d) S1
theorem forL_eq (r : Fs) (t : Tg) (body : List St) : ∀ xs σ S, forL r t body xs σ S = forM (fun e S => evB r e body S) t xs σ S
  | [], _, _ => rfl
  | x :: xs, σ, S => by
    unfold forL forM
    cases asgT 9 t x σ with
    | none => rfl
    | some σ1 =>
      dsimp only
      congr 1
      funext f S1
      cases f with
      | nx σ2 => exact forL_eq r t body xs σ2 S1
      | ret d => rfl
def whileM (mc : Env → Store → Res Bool) (mb : Env → Store → Res Flow) : Nat → Env → Store → Res Flow
  | 0, _, _ => .bad
  | n + 1, σ, S => (mc σ S).bind fun b S1 => match b with
    | false => .ok (.nx σ) S1
    | true => (mb σ S1).bind fun f S2 => match f with
      | .nx σ2 => whileM mc mb n σ2 S2
      | .ret d => .ok (.ret d) S2
theorem whileL_eq (r : Fs) (c : Pf.E) (body : List St) : ∀ n σ S, whileL r c body n σ S = whileM (fun e S => evT r e c S) (fun e S => evB r e body S) n σ S
  | 0, _, _ => rfl
  | n + 1, σ, S => by
    unfold whileL whileM
    congr 1
    funext b S1
    cases b with
    | false => rfl
    | true =>
      dsimp only
      congr 1
      funext f S2
      cases f with
      | nx σ2 => exact whileL_eq r c body n σ2 S2
      | ret d => rfl
theorem s_whl (O : XOk T k c X W) {d : Expr} {body : List Stmt} {mc : Env → Store → Res Bool} {mb : Env → Store → Res Flow} {n : Nat} {pos : Pos} (hd : PT X d (tT T W mc)) (hb : PSs X body (tS T W mb)) : PS X (.While d body [] pos) (tS T W fun e S => whileM mc mb n e S) := by
  refine ps_imp (ps_while O.po hd hb) fun E σ H q => ?_
  refine ⟨fun n σ H => tS T W (fun e S => whileM mc mb n e S) E σ H, ⟨n, q⟩, fun m σ H q => ?_⟩
  obtain ⟨g, e, S, L, r, p⟩ := q
  cases m with
  | zero => exact p.elim
  | succ m =>
    have p : PostS T W g ((mc e S).bind fun b S1 => match b with
      | false => .ok (.nx e) S1
      | true => (mb e S1).bind fun f S2 => match f with
        | .nx σ2 => whileM mc mb m σ2 S2
        | .ret d => .ok (.ret d) S2) E := p
    refine ⟨g, e, S, L, r, (p.bind (rel1 := relB)).imp fun v H1 ⟨g1, b, S1, l, L1, rv, p1⟩ => ?_⟩
    have rv : v = b := rv
    subst rv
    cases v with
    | false =>
      rw [if_neg Bool.false_ne_true]
      exact p1.nx L1 (r.mono l)
    | true =>
      rw [if_pos rfl]
      refine ⟨fun σ' H' => tS T W (fun e S => whileM mc mb m e S) E σ' H', fun σ' H' q => ⟨m, Nat.lt_succ_self m, q⟩, g1, e, S1, L1, r.mono l, ?_⟩
      exact PostS.seq (f := fun e S => whileM mc mb m e S) p1 (fun σ' H' ⟨g', e', S', l, L', r', p'⟩ => ⟨g', e', S', L', r', p'⟩) rfl
theorem s_for (O : XOk T k c X W) {tg iter : Expr} {body : List Stmt} {t : Tg} {mi : Env → Store → Res (List D)} {mb : Env → Store → Res Flow} {pos : Pos} (hi : PI X tg iter (iI T W mi)) (htg : chkTg c 9 t tg = true) (hset : notSet iter = true) (hb : PSs X body (tS T W mb)) :
    PS X (.For tg iter body [] pos) (tS T W fun e S => (mi e S).bind fun xs S1 => forM mb t xs e S1) := by
  refine ps_imp (ps_for O.po O.calm hi (c_tg O 9 t tg (notStar_tg htg) htg) hb fun x => folded_of hset) fun E σ H q => ?_
  obtain ⟨g, e, S, L, r, p⟩ := q
  refine ⟨g, e, S, L, r, (p.bind (rel1 := ItIs T)).imp fun J H1 ⟨g1, ds, S1, l1, L1, J1, p1⟩ => ?_⟩
  refine ⟨fun i m σ H => m = ds.length - i ∧ i ≤ ds.length ∧ ∃ g' e' S', Le g1 g' ∧ Lies T g' S' H ∧ ER T g' σ e' ∧ PostS T W g' (forM mb t (ds.drop i) e' S') E, ⟨_, rfl, Nat.zero_le _, g1, e, S1, Le.refl _, L1, r.mono l1, p1⟩, ?_⟩
  rintro i m σ H ⟨rfl, hi, g', e', S', l', L', r', p'⟩
  by_cases hlt : i < ds.length
  · obtain ⟨d, hd, hdr⟩ := drop_get hlt
    rw [hdr] at p'
    refine .inr ⟨J1.go g' S' H i l'.ext L' hlt, fun σ' H' => i + 1 ≤ ds.length ∧ ∃ g' e' S', Le g1 g' ∧ Lies T g' S' H' ∧ ER T g' σ' e' ∧ PostS T W g' (forM mb t (ds.drop (i + 1)) e' S') E, fun σ' H' n => ⟨ds.length - (i + 1), by omega, rfl, n.1, n.2⟩, fun x H' y => ?_⟩
    obtain ⟨g2, l2, L2', rv⟩ := J1.yld g' S' H i x H' d l'.ext L' hd y
    unfold forM at p'
    cases ha : asgT 9 t d e' with
    | none =>
      rw [ha] at p'
      exact p'.elim
    | some e1 =>
      rw [ha] at p'
      refine ⟨g2, e', S', d, e1, L2', r'.mono l2, rv, ha, fun σ2 r2 _ => ⟨g2, e1, S', L2', r2, ?_⟩⟩
      exact PostS.seq (f := fun e S => forM mb t (ds.drop (i + 1)) e S) (PostS.mono p' l2) (fun σ' H' ⟨g3, e3, S3, l3, L3, r3, p3⟩ => ⟨hlt, g3, e3, S3, l'.trans (l2.trans l3), L3, r3, p3⟩) rfl
  · have ei : i = ds.length := by omega
    subst ei
    have hd : ds.drop ds.length = [] := List.drop_length
    rw [hd] at p'
    exact .inl ⟨J1.stop g' S' H l'.ext L', p'.nx L' r'⟩
end
end Pf

end
section
/-! Snd16: while an exception is handled: ends of iterators, stores of pairs. -/
namespace Pf
open PySem PySem.Spec PyProof.Rows L2 HotX
/-- an exception without context -/
def HotObj (x1 : Addr) (h : Heap) : Prop := ∃ (o : Obj) (vs : Array Value), h.get? x1 = some o ∧ o.data = .fields vs ∧ vs[2]? = some .none
theorem HotObj.at {A : Around} {x1 : Addr} {h : Heap} (hh : A.handled = some (.ref x1)) (x : HotObj x1 h) : HotAt A x1 h := ⟨hh, x⟩
section
variable {prog : Program} {w : World} {A : Around} {E : Value → Shared → Prop} {s : Shared}
theorem HotObj.keep {x1 : Addr} {h h' : Heap} (x : HotObj x1 h) (k : ∀ o, h.get? x1 = some o → h'.get? x1 = some o) : HotObj x1 h' := by
  obtain ⟨o, vs, e1, e2, e3⟩ := x
  exact ⟨o, vs, k o e1, e2, e3⟩
/-- StopIteration made and raised -/
theorem stop_hot {α : Type} {x1 : Addr} {Q : α → Shared → Prop} (hot : HotAt A x1 s.heap)
    (hE : ∀ (e : Addr) (h' : Heap), (∀ b o, s.heap.get? b = some o → h'.get? b = some o) → (∃ o, h'.get? e = some o ∧ o.cls = .type "StopIteration") → E (.ref e) { s with heap := h' }) :
    wpAny (model prog w) A (do let e ← newExc (.type "StopIteration") []; raiseNew e : Sem α) Q E s := by
  obtain ⟨hh, o1, vs1, h1, d1, c1⟩ := hot
  refine wpAny_bind ?_
  simp only [newExc, newTuple]
  refine wpAny_bind (wpAny_newObj_type ?_ (by size_fits))
  refine wpAny_bind (m := firstArgMember _ _) (wpAny_of_eq (a := Value.none) (by first | rfl | (simp only [firstArgMember]; rfl)) ?_)
  refine wpAny_newObj_type ?_ (by size_fits)
  refine raiseNew_hot ⟨hh, o1, vs1, Heap.get?_push_of_some _ (Heap.get?_push_of_some _ h1), d1, c1⟩ (Nat.ne_of_lt (Heap.lt_size (Heap.get?_push_of_some _ h1))) (Heap.get?_push_size _ rfl) rfl (by first | (simp; done) | (simp; omega) | (simp only [Array.size_append]; simp; omega)) ?_
  refine hE _ _ (fun b o e => ?_) ⟨_, Heap.get?_update_self _ (Heap.get?_push_size _ rfl) rfl, rfl⟩
  rw [Heap.get?_update_other _ _ (Nat.ne_of_gt (Heap.lt_size (Heap.get?_push_of_some _ e)))]
  exact Heap.get?_push_of_some _ (Heap.get?_push_of_some _ e)
theorem list_end_hot {it l x1 : Addr} {i : Nat} {items : Array Value} {Q : Value → Shared → Prop} (hot : HotAt A x1 s.heap) (hne : x1 ≠ it) (hit : s.heap.IsListIter it l i) (hl : s.heap.IsList l items) (hx : items[i]? = none)
    (hE : ∀ h' e, Heap.ExtBut it s.heap h' → (∃ o, h'.get? e = some o ∧ o.cls = .type "StopIteration") → E (.ref e) { s with heap := h' }) : wpAny (model prog w) A (Builtin.SmallTypes.nextOf (.ref it)) Q E s := by
  obtain ⟨o, ho, hc, hd⟩ := id hit
  obtain ⟨ol, hol, _, nl, hdl⟩ := hl
  obtain ⟨hh, hob⟩ := hot
  unfold Builtin.SmallTypes.nextOf
  refine wpAny_bind (wpAny_callSpecial?_slot (name := Str.ofString "__next__") hit.typeIs slot_listiter_next (wpAny_call_entry slot_listiter_next hit.typeIs entry_listiter_next ?_ (args_listiter_next _)))
  show wpAny _ _ (field (.ref it) 0 >>= _) _ _ s
  refine wpAny_bind (wpAny_field ho hd (x := .ref l) rfl ?_)
  show wpAny _ _ (if (Value.ref l == Value.none) = true then _ else _) _ _ s
  rw [if_neg (show ¬ ((Value.ref l == Value.none) = true) from Bool.false_ne_true)]
  show wpAny _ _ (field (.ref it) 1 >>= _) _ _ s
  refine wpAny_bind (wpAny_field ho hd (x := .int i 0) rfl ?_)
  show wpAny _ _ (seqItems? (.ref l) >>= _) _ _ s
  refine wpAny_bind (wpAny_seqItems hol hdl ?_)
  simp only [Int.toNat_natCast, hx]
  refine wpAny_bind (wpAny_rule (wpAny_bind (wpAny_setField ho hd (by simp) ?_)))
  have hob2 : HotObj x1 (s.heap.update it (Obj.mapFields fun x => x.setIfInBounds 0 Value.none)) := HotObj.keep hob fun o e => by
    rw [Heap.get?_update_other _ _ (Ne.symm hne)]
    exact e
  refine stop_hot (A := A.in1) (HotObj.at hh hob2) fun e h' k ho' => ?_
  exact hE h' e (fun b o hb q => k b o ((Heap.SameBut.update ..).extBut b o hb q)) ho'
theorem drawsHot {x1 : Addr} (hh : A.handled = some (.ref x1)) (it l : Addr) (hne : l ≠ it) (hx : x1 ≠ it) (items : Array Value) :
    Draws prog w A it [it, l, x1] items.size (fun i v => items[i]? = some v) (fun i h => h.IsListIter it l i ∧ h.IsList l items ∧ HotObj x1 h) where
  live := fun _ _ st => let ⟨o, ho, _⟩ := st.1; ⟨o, ho⟩
  frame := fun _ _ _ st hk => ⟨st.1.at fun o e => hk it (by simp) o e, st.2.1.at fun o e => hk l (by simp) o e, st.2.2.keep fun o e => hk x1 (by simp) o e⟩
  item := fun i s Q E hi st hQ => wpAny_nextOf_list_item st.1 st.2.1 (x := items[i]) (by simp [hi]) fun h' hit' hs' =>
    hQ _ h' s.toks (by simp [hi]) ⟨hit', st.2.1.extBut hs'.extBut hne, st.2.2.keep fun o e => (hs'.2 x1 hx).trans e⟩ hs'
  done := fun s Q E st hE => list_end_hot (HotObj.at hh st.2.2) hx st.1 st.2.1 (by simp) hE
/-! ### a tuple unpacked -/
theorem tuple_end_hot {it t x1 : Addr} {i : Nat} {items : Array Value} {Q : Option Value → Shared → Prop} (hot : HotAt A x1 s.heap) (hne : x1 ≠ it) (hit : IsTupIter s.heap it t i) (ht : IsTup s.heap t items) (hx : items[i]? = none)
    (hQ : ∀ h', Heap.ExtBut it s.heap h' → Q none { s with heap := h' }) : wpAny (model prog w) A (pyNext (.ref it)) Q E s := by
  obtain ⟨o, ho, hc, hd⟩ := id hit
  obtain ⟨ol, hol, _, nl, hdl⟩ := ht
  obtain ⟨hh, hob⟩ := hot
  unfold pyNext
  refine wpAny_bind (wpAny_attempt (wpAny_callSpecial?_slot (name := Str.ofString "__next__") hit.typeIs slot_tupleiter_next (wpAny_call_entry slot_tupleiter_next hit.typeIs entry_tupleiter_next ?_ (args_tupleiter_next _))))
  show wpAny _ _ (field (.ref it) 0 >>= _) _ _ s
  refine wpAny_bind (wpAny_field ho hd (x := .ref t) rfl ?_)
  show wpAny _ _ (if (Value.ref t == Value.none) = true then _ else _) _ _ s
  rw [if_neg (show ¬ ((Value.ref t == Value.none) = true) from Bool.false_ne_true)]
  show wpAny _ _ (field (.ref it) 1 >>= _) _ _ s
  refine wpAny_bind (wpAny_field ho hd (x := .int i 0) rfl ?_)
  show wpAny _ _ (seqItems? (.ref t) >>= _) _ _ s
  refine wpAny_bind (wpAny_seqItems hol hdl ?_)
  simp only [Int.toNat_natCast, hx]
  refine wpAny_bind (wpAny_rule (wpAny_bind (wpAny_setField ho hd (by simp) ?_)))
  have hob2 : HotObj x1 (s.heap.update it (Obj.mapFields fun x => x.setIfInBounds 0 Value.none)) := HotObj.keep hob fun o e => by
    rw [Heap.get?_update_other _ _ (Ne.symm hne)]
    exact e
  refine stop_hot (A := A.in1) (HotObj.at hh hob2) fun e h' k ho' => ?_
  obtain ⟨oe, e1, e2⟩ := ho'
  refine wpAny_bind (wpAny_isInstance (T := "StopIteration") (b := true) ⟨oe, e1, e2⟩ isSubtype_stop ?_)
  exact wpAny_pure (hQ h' fun b o hb q => k b o ((Heap.SameBut.update ..).extBut b o hb q))
theorem unpackItems_hot {t x1 : Addr} {items : Array Value} {Q : List Value → Shared → Prop} (hot : HotAt A x1 s.heap) (ht : IsTup s.heap t items)
    (hQ : ∀ h', Heap.ExtBut s.heap.objs.size s.heap h' → Q items.toList { s with heap := h' }) : wpAny (model prog w) A (unpackItems (.ref t) items.size none) Q E s := by
  have hlt : t ≠ s.heap.objs.size := by obtain ⟨o, ho, _⟩ := ht; exact Nat.ne_of_lt (Heap.lt_size ho)
  obtain ⟨hh, hob⟩ := hot
  have hx1 : x1 ≠ s.heap.objs.size := by obtain ⟨o, _, ho, _⟩ := hob; exact Nat.ne_of_lt (Heap.lt_size ho)
  unfold unpackItems
  refine wpAny_bind ?_
  · unfold notIterableAtAll
    refine wpAny_bind (wpAny_specialOf ht.typeIs slot_tuple_iter.lookup (wpAny_pure ?_))
    simp only [Bool.false_eq_true, if_false]
    refine wpAny_bind (wpAny_holding (iter_tuple ht (wpAny_bind (wpAny_holding (draw_tuple hlt items.size 0 _ _ ⟨_, Heap.get?_push_size _ rfl, rfl, rfl⟩ (ht.push _) (by omega) fun h₁ hit₁ hs₁ => ?_)))))
    have hall : List.take items.size (List.drop 0 items.toList) = items.toList := by
      rw [List.drop_zero]; exact List.take_of_length_le (by simp)
    rw [hall, if_neg (by simp)]
    have hob₁ : HotObj x1 h₁ := HotObj.keep hob fun o e => (hs₁.2 x1 hx1).trans (Heap.get?_push_of_some _ e)
    refine wpAny_bind (wpAny_holding (tuple_end_hot (HotObj.at hh hob₁) hx1 hit₁ ((ht.push _).extBut hs₁.extBut hlt) (by simp) fun h₂ he₂ => ?_))
    simp only [Option.isSome_none, Bool.false_eq_true, if_false]
    exact wpAny_pure (hQ h₂ fun b o hb e => he₂ b o hb (hs₁.extBut b o hb (Heap.get?_push_of_some _ e)))
theorem assign_hot {env : PySem.Env} {elts : List Expr} {k1 : Nat} {pos : Pos} {t x1 : Addr} {items : Array Value} {Q : Unit → Shared → Prop} (hot : HotAt A x1 s.heap) (ht : IsTup s.heap t items)
    (hn : (assignEach elts env).length = items.size) (hstar : (assignEach elts env).findIdx? (·.1) = none)
    (h : ∀ h', Heap.ExtBut s.heap.objs.size s.heap h' → wpAny (model prog w) A (assignInOrder ((assignEach elts env).map (·.2)) items.toList) Q E { s with heap := h' }) :
    wpAny (model prog w) A (assign (.Tuple elts k1 pos) env (.ref t)) Q E s := by
  rw [assign_Tuple]
  refine wpAny_bind (wpAny_standAt ?_)
  unfold unpack
  rw [hn, hstar]
  exact wpAny_bind (wpAny_holding (unpackItems_hot hot ht h))
end
/-! ### the hand layer's side -/
/-- the exception that is handled stands since the entry -/
structure HotIn (X : Cx) (x1 : Addr) : Prop where
  hd : X.A.handled = some (.ref x1)
  obj : HotObj x1 X.s_0.heap
  free : X.H_0 x1 = none
  nfs : x1 ∉ X.fs
  nex : x1 ∉ X.ex
section
variable {X : Cx} {pins : List (Addr × Obj)} {σ : L2.St} {H : Hp} {s : Shared} {x1 : Addr}
theorem HotIn.now (C : HotIn X x1) (I : Inv X pins σ H s) : HotObj x1 s.heap := by
  obtain ⟨o, vs, e1, e2, e3⟩ := C.obj
  exact ⟨o, vs, I.base.keep x1 o e1 C.free C.nfs C.nex, e2, e3⟩
theorem HotIn.none (C : HotIn X x1) (I : Inv X pins σ H s) : H x1 = none := by
  obtain ⟨o, vs, e1, e2, e3⟩ := C.obj
  exact I.base.free x1 o e1 C.free C.nex
theorem HotIn.nloc (C : HotIn X x1) (I : Inv X pins σ H s) : x1 ≠ X.env.locals := fun z => by
  obtain ⟨o, vs, e1, e2, e3⟩ := C.now I
  obtain ⟨m, ⟨o', es, ep, f1, f2, _⟩, _⟩ := I.loc
  rw [z, f1] at e1
  cases e1
  rw [f2] at e2
  cases e2
theorem HotIn.nst (C : HotIn X x1) (I : Inv X pins σ H s) : x1 ∉ frs X.stack := fun h => by
  rcases List.mem_cons.mp (I.stkSub x1 h) with z | z
  · exact C.nloc I z
  · exact C.nfs z
theorem HotIn.blk (C : HotIn X x1) (I : Inv X pins σ H s) {scope : Scope} {cenv : PySem.Env} {fp : List Addr} (hf : x1 ∉ fp) : HotIn (X.blk s H scope cenv fp) x1 := by
  have h1 := C.hd
  have h2 := C.now I
  have h3 := C.none I
  have h4 := C.nst I
  refine HotIn.mk ?_ ?_ ?_ ?_ ?_
  · exact h1
  · exact h2
  · exact h3
  · exact h4
  · exact hf
theorem pg_tupQ {es : List Expr} {k : Nat} {pos : Pos} {t : TGs} {n : Nat} (C : HotIn X x1) (h : PGs X es t)
    (hn : (assignEach es X.env).length = n := by rfl) (hst : (assignEach es X.env).findIdx? (·.1) = none := by rfl) : PG X (.Tuple es k pos) (gTup X.K n t) := by
  refine ⟨fun pins s σ H v u Q I r hw => ?_⟩
  obtain ⟨a, xs, e1, hq, hl, hw⟩ := hw
  subst e1
  cases r
  obtain ⟨its, rv, ht, hz⟩ := I.tuple hq
  refine assign_hot (HotObj.at C.hd (C.now I)) ht (by simp [hn, ← hl, rv.length]) hst fun h' hx => ?_
  exact h.run pins _ σ H xs _ Q (I.kept (t' := s.toks) fun b o e => hx b o (Nat.ne_of_lt (Heap.lt_size e)) e) (by simpa using rv) hw
/-- a walk while x1 is handled -/
structure TurnQ (P : PySem.Program) (w : World) (K : PySem.W.Frag) (x1 : Addr) (tg : Expr) (J : L2.It) (fp : List Addr) (it : Addr) (tn : Nat → Heap → Prop) : Prop where
  mem : it ∈ fp
  obj : ∀ i h, tn i h → ∀ b ∈ fp, ∃ o, h.get? b = some o ∧ ∀ v, o.data ≠ .cell v
  keep : ∀ i h h', tn i h → (∀ b ∈ fp, ∀ o, h.get? b = some o → h'.get? b = some o) → tn i h'
  item : ∀ (X : Cx), X.prog = P → X.w = w → X.K = K → HotIn X x1 → ∀ (i : Nat) (pins : List (Addr × Obj)) (s : Shared) (σ : L2.St) (H : Hp) (E : Value → Shared → Prop), Inv X pins σ H s → (∀ b ∈ fp, FpOk X pins H b) → tn i s.heap → J.go i H →
    wpAny (model P w) X.A (pyNext (.ref it)) (fun r s1 => ∃ u, r = some u ∧ wpAny (model P w) X.A (letOwnedTupleGo tg (.ref it) u) (fun _ s2 => ∃ x H', Inv X pins σ H' s2 ∧ RelV x u ∧ J.yld i H x H' ∧ tn (i + 1) s2.heap ∧ ∀ b ∈ fp, H' b = none) E s1) E s
  done : ∀ (X : Cx), X.prog = P → X.w = w → X.K = K → HotIn X x1 → ∀ (i : Nat) (pins : List (Addr × Obj)) (s : Shared) (σ : L2.St) (H : Hp) (E : Value → Shared → Prop), Inv X pins σ H s → (∀ b ∈ fp, FpOk X pins H b) → tn i s.heap → J.stop i H →
    wpAny (model P w) X.A (pyNext (.ref it)) (fun r s1 => r = none ∧ Inv X pins σ H s1) E s
  self : ∀ (A : Around) (i : Nat) (s : Shared) (Q : Value → Shared → Prop) (E : Value → Shared → Prop), tn i s.heap → Q (.ref it) s → wpAny (model P w) A (pyIter (.ref it)) Q E s
end
end Pf

end
section
/-! Snd17: a comprehension over a zip, while an exception is handled. -/
namespace Pf
open PySem PySem.Spec PyProof.Rows L2 HotX
def PIEQ (X : Cx) (x1 : Addr) (pins : List (Addr × Obj)) (σ : L2.St) (tg : Expr) (R : L2.It → Hp → Prop) (itv : Value) (s2 : Shared) : Prop :=
  ∃ (it : Addr) (fp : List Addr) (tn : Nat → Heap → Prop) (J : L2.It) (H' : Hp), itv = .ref it ∧ Inv X pins σ H' s2 ∧ TurnQ X.prog X.w X.K x1 tg J fp it tn ∧ tn 0 s2.heap ∧ (∀ b ∈ fp, FpOk X pins H' b) ∧ x1 ∉ fp ∧ R J H'
structure PIQ (X : Cx) (x1 : Addr) (tg iter : Expr) (wi : TI) : Prop where
  run : ∀ (pins : List (Addr × Obj)) (s : Shared) (σ : L2.St) (H : Hp) (R : L2.It → Hp → Prop), Inv X pins σ H s → wi σ H R →
    wpAny (model X.prog X.w) X.A (eval iter X.env) (fun v s1 => wpAny (model X.prog X.w) X.A (pyIter v) (PIEQ X x1 pins σ tg R) X.xe s1) X.xe s
theorem itObj {h : Heap} {it a : Addr} {i : Nat} (st : h.IsListIter it a i) : ∃ o, h.get? it = some o ∧ ∀ v, o.data ≠ .cell v := by
  obtain ⟨o, e, c, d⟩ := st
  exact ⟨o, e, fun v z => by rw [d] at z; cases z⟩
theorem turn_zipQ {P : Program} {w : World} {K : PySem.W.Frag} {elts : List Expr} {kk : Nat} {tpos : Pos} {x1 a b z TI TO i1 i2 : Addr} (D : ZipSep2 z TI TO i1 i2 [i1, a, x1] [i2, b, x1]) (ha : a ≠ i1) (hb : b ≠ i2) (hx1 : x1 ≠ i1) (hx2 : x1 ≠ i2) :
    TurnQ P w K x1 (.Tuple elts kk tpos) (ItzX K true true a b) [z, TI, TO, i1, i2] z (fun i h => IsZip h z TI TO .none ∧ IsTupOf2 h TI (.ref i1) (.ref i2) ∧ (∃ x y, IsTupOf2 h TO x y) ∧ h.IsListIter i1 a i ∧ h.IsListIter i2 b i) where
  mem := by simp
  obj := fun i h st c hc => by
    obtain ⟨hz, hTI, ⟨x, y, hTO⟩, h1, h2⟩ := st
    have e' : c = z ∨ c = TI ∨ c = TO ∨ c = i1 ∨ c = i2 := by simpa using hc
    rcases e' with q | q | q | q | q
    · rw [q]; exact ⟨_, hz, fun v q => nomatch q⟩
    · rw [q]; exact ⟨_, hTI, fun v q => nomatch q⟩
    · rw [q]; exact ⟨_, hTO, fun v q => nomatch q⟩
    · rw [q]; exact itObj h1
    · rw [q]; exact itObj h2
  keep := fun i h h' st k => by
    obtain ⟨hz, hTI, ⟨x, y, hTO⟩, h1, h2⟩ := st
    exact ⟨k z (by simp) _ hz, k TI (by simp) _ hTI, ⟨x, y, k TO (by simp) _ hTO⟩, h1.at fun o q => k i1 (by simp) o q, h2.at fun o q => k i2 (by simp) o q⟩
  item := by
    intro X hP hw hK hc i pins s σ H E I hf st hg
    subst hP hw hK
    obtain ⟨hz, hTI, ⟨x0, y0, hTO⟩, h1, h2⟩ := st
    obtain ⟨xs, ys, x, y, hqx, hqy, hx, hy⟩ := hg
    obtain ⟨its, rv, p, _⟩ := I.list hqx
    obtain ⟨its2, rv2, p2, _⟩ := I.list hqy
    obtain ⟨u, hu, ru⟩ := rv.get hx
    obtain ⟨u2, hu2, ru2⟩ := rv2.get hy
    have hzl : z < s.heap.objs.size := Heap.lt_size hz
    have hi1 : i < its.toArray.size := by
      have : i < its.length := (List.getElem?_eq_some_iff.mp hu).1
      simpa using this
    have hi2 : i < its2.toArray.size := by
      have : i < its2.length := (List.getElem?_eq_some_iff.mp hu2).1
      simpa using this
    refine wpAny_pyNext_zipD2_item D (drawsHot (A := X.A.in1) hc.hd i1 a ha hx1 its.toArray) (drawsHot (A := X.A.in1) hc.hd i2 b hb hx2 its2.toArray) hz hTI hTO ⟨h1, p.isList, hc.now I⟩ ⟨h2, p2.isList, hc.now I⟩ hi1 hi2 fun v1 v2 h' tk e1 e2 z' TO' st1 st2 hT hsz hk => ?_
    have q1 : v1 = u := by
      have : its.toArray[i]? = some u := by simpa using hu
      rw [this] at e1
      cases e1
      rfl
    have q2 : v2 = u2 := by
      have : its2.toArray[i]? = some u2 := by simpa using hu2
      rw [this] at e2
      cases e2
      rfl
    subst q1 q2
    obtain ⟨h1', _⟩ := st1
    obtain ⟨h2', _⟩ := st2
    refine ⟨_, rfl, wpAny_letOwnedTupleGo_zip (s := { s with heap := h', toks := tk }) z' fun h'' z'' sb => ?_⟩
    have hT2 : h''.get? s.heap.objs.size = some { cls := .type "tuple", data := .seq #[v1, v2] } := (sb.2 _ (Nat.ne_of_gt hzl)).trans hT
    have new : ObjOk X.prog X.w (upd H s.heap.objs.size (.tup [x, y])) h'' s.heap.objs.size (.tup [x, y]) :=
      ⟨by show 2 ≤ sizeLine; decide, [v1, v2], .cons ru (.cons ru2 .nil), ⟨_, hT2, rfl, _, rfl⟩⟩
    have I1 : Inv X pins σ (upd H s.heap.objs.size (.tup [x, y])) { s with heap := h'', toks := tk } :=
      I.turnedNew (t' := tk) (ch := [z, TI, TO, i1, i2]) (fun c o hb q => (sb.2 c (fun q' => hb (by simp [q']))).trans (hk c o (fun q' => hb (by simp [q'])) (fun q' => hb (by simp [q'])) (fun q' => hb (by simp [q'])) (fun q' => hb (by simp [q'])) q)) hf (Nat.le_refl _) new
    refine ⟨.ref s.heap.objs.size, _, I1, rfl, ⟨_, x, y, rfl, I.hok.fresh (Nat.le_refl _), rfl, fun l hl => by rw [I.list_inj hl hqx]; exact hx, fun l hl => by rw [I.list_inj hl hqy]; exact hy⟩, ⟨z'', ?_, ⟨v1, v2, ?_⟩, ?_, ?_⟩, fun c hcm => ?_⟩
    · exact (sb.2 _ D.TIz).trans (hk _ _ D.TIz D.TITO D.TIi1 D.TIi2 hTI)
    · exact (sb.2 _ D.TOz).trans TO'
    · exact h1'.at fun o q => (sb.2 _ (Ne.symm D.zi1)).trans q
    · exact h2'.at fun o q => (sb.2 _ (Ne.symm D.zi2)).trans q
    · have hlt : c < s.heap.objs.size := by
        have e' : c = z ∨ c = TI ∨ c = TO ∨ c = i1 ∨ c = i2 := by simpa using hcm
        rcases e' with q | q | q | q | q
        · rw [q]; exact hzl
        · rw [q]; exact Heap.lt_size hTI
        · rw [q]; exact Heap.lt_size hTO
        · rw [q]; obtain ⟨_, e1, _⟩ := h1; exact Heap.lt_size e1
        · rw [q]; obtain ⟨_, e1, _⟩ := h2; exact Heap.lt_size e1
      rw [upd_ne (Nat.ne_of_lt hlt)]
      exact (hf c hcm).1
  done := by
    intro X hP hw hK hc i pins s σ H E I hf st hg
    subst hP hw hK
    obtain ⟨hz, hTI, ⟨x0, y0, hTO⟩, h1, h2⟩ := st
    obtain ⟨xs, ys, hqx, hqy, e1, e2, hend⟩ := hg
    obtain ⟨its, rv, p, _⟩ := I.list hqx
    obtain ⟨its2, rv2, p2, _⟩ := I.list hqy
    have l1 := rv.length
    have l2 := rv2.length
    refine wpAny_pyNext_zipD2_end D (drawsHot (A := X.A.in1) hc.hd i1 a ha hx1 its.toArray) (drawsHot (A := X.A.in1) hc.hd i2 b hb hx2 its2.toArray) hz hTI hTO ⟨h1, p.isList, hc.now I⟩ ⟨h2, p2.isList, hc.now I⟩ (by simp; omega) (by simp; omega) (by simp; omega) fun h' tk hk => ⟨rfl, I.turnedL (t' := tk) (ch := [z, TI, TO, i1, i2]) (fun c o hb q =>
      hk c o (fun q' => hb (by simp [q'])) (fun q' => hb (by simp [q'])) (fun q' => hb (by simp [q'])) (fun q' => hb (by simp [q'])) q) hf⟩
  self := fun A i s Q E st h => wpAny_pyIter_zip st.1 h
def iZipQ (K : PySem.W.Frag) (ta : TA) : TI := fun σ H R => ta σ H fun vs H1 => ∃ (a b : Addr) (xs ys : List V), vs = [.ref a, .ref b] ∧ SqL K H1 a xs ∧ SqL K H1 b ys ∧ R (ItzX K true true a b) H1
theorem pi_zipQ {X : Cx} {x1 : Addr} {e e2 : Expr} {ta : TA} {p pos tpos : Pos} {elts : List Expr} {kk : Nat} (hC : HotIn X x1) (hg : Gl X "zip") (hm : X.mg "zip" = none) (ha : PA X [e, e2] ta)
    (hs : starEach [e, e2] X.env = (false, eval e X.env) :: starEach [e2] X.env := by rfl) (hpl : (backTo pos (starEach [e2] X.env)).any (·.1) = false := by rfl) :
    PIQ X x1 (.Tuple elts kk tpos) (.Call (.Name "zip" p) [e, e2] [] pos) (iZipQ X.K ta) := by
  refine ⟨fun pins s σ H R I h => ?_⟩
  refine Call_ (ld_blt I hg hm PyProof.Rows.boot_zip (PyProof.Rows.callWith_type1 (thn (ha.run pos pins s σ H _ I h) fun us s1 ⟨vs, H1, I1, r1, q1⟩ => ?_) hs hpl))
  obtain ⟨a, b, xs, ys, ex, hqx, hqy, q⟩ := q1
  subst ex
  cases r1 with
  | cons r rr =>
    cases rr with
    | cons r' rr =>
      cases rr
      cases r
      cases r'
      obtain ⟨its, rv, p1, _⟩ := I1.list hqx
      obtain ⟨its2, rv2, p2, _⟩ := I1.list hqy
      have la := p1.lt
      have lb := p2.lt
      obtain ⟨o1, w1, hob, _⟩ := hC.now I1
      have lx : x1 < s1.heap.objs.size := Heap.lt_size hob
      refine zip_begins2 (begins_list a its.toArray) (begins_list b its2.toArray) p1.isList p2.isList fun h' hz hTI hTO h1 h2 hsz hk => wpAny_pyIter_zip hz ?_
      have I2 : Inv X pins σ H1 { s1 with heap := h' } := I1.kept (t' := s1.toks) hk
      refine ⟨s1.heap.objs.size + 4, [s1.heap.objs.size + 4, s1.heap.objs.size + 2, s1.heap.objs.size + 3, s1.heap.objs.size, s1.heap.objs.size + 1], _, _, H1, rfl, I2, turn_zipQ (zip_sep2 (fp1 := [a, x1]) (fp2 := [b, x1]) (by simp; exact ⟨la, lx⟩) (by simp; exact ⟨lb, lx⟩)) (Nat.ne_of_lt la) (Nat.ne_of_lt (Nat.lt_succ_of_lt lb)) (Nat.ne_of_lt lx) (Nat.ne_of_lt (Nat.lt_succ_of_lt lx)), ⟨hz, hTI, ⟨_, _, hTO⟩, ⟨_, h1, rfl, rfl⟩, ⟨_, h2, rfl, rfl⟩⟩, fun c hcm => ?_, ?_, q⟩
      · have e' : c = s1.heap.objs.size + 4 ∨ c = s1.heap.objs.size + 2 ∨ c = s1.heap.objs.size + 3 ∨ c = s1.heap.objs.size ∨ c = s1.heap.objs.size + 1 := by simpa using hcm
        have hle : s1.heap.objs.size ≤ c := by
          rcases e' with z | z | z | z | z
          · rw [z]; exact Nat.le_add_right _ _
          · rw [z]; exact Nat.le_add_right _ _
          · rw [z]; exact Nat.le_add_right _ _
          · rw [z]; exact Nat.le_refl _
          · rw [z]; exact Nat.le_add_right _ _
        exact I1.fpOk hle (I1.hok.fresh hle)
      · intro hm
        have e' : x1 = s1.heap.objs.size + 4 ∨ x1 = s1.heap.objs.size + 2 ∨ x1 = s1.heap.objs.size + 3 ∨ x1 = s1.heap.objs.size ∨ x1 = s1.heap.objs.size + 1 := by simpa using hm
        have lx' : x1 < s1.heap.objs.size := lx
        rcases e' with z | z | z | z | z <;> (rw [z] at lx'; exact absurd lx' (by first | exact Nat.lt_irrefl _ | exact Nat.not_lt_of_le (Nat.le_add_right _ _)))
section
variable {X : Cx}
theorem lc_coreQ {x1 : Addr} {pins : List (Addr × Obj)} {s : Shared} {σ : L2.St} {H : Hp} {Q : VK} {elt tg iter : Expr} {ifs : List Expr} {scope : Scope} {own : List (Str × Nat)} {pos pos' : Pos} {wi : TI} {g : TG} {tt : L2.TT} {te : TE} {use : Option (Value → Sem Unit)} {Qf : Value → Shared → Prop}
    (hC : HotIn X x1) (hN : X.N.Nodup) (I : Inv X pins σ H s) (hi : PIQ X x1 tg iter wi) (ok : BlkOk X.N X.env.scope scope own)
    (hg : ∀ (s : Shared) (H : Hp) (C : Addr) (cl : List (Str × Addr)) (fp : List Addr), HotIn (X.blk s H scope (compEnvC scope cl C X.env) fp) x1 → PG (X.blk s H scope (compEnvC scope cl C X.env) fp) tg g) (ht : ∀ (s : Shared) (H : Hp) (C : Addr) (cl : List (Str × Addr)) (fp : List Addr), PTs (X.blk s H scope (compEnvC scope cl C X.env) fp) ifs tt)
    (he : ∀ (s : Shared) (H : Hp) (C : Addr) (cl : List (Str × Addr)) (fp : List Addr), PE (X.blk s H scope (compEnvC scope cl C X.env) fp) elt te) (hs : ∀ x, foldedSetIterable iter X.env x = pure x)
    (h : tLc wi g tt te (own.map (·.2)) σ H Q)
    (hRR : ∀ D C s' m H', Inv X pins σ H' s' → Q (.ref D) H' → s'.heap.Ns C m → FpOk X pins H' C → compPost (model X.prog X.w) X.A X.xe use Qf (.ref D) C (.ok .next) s') :
    wpAny (model X.prog X.w) X.A (comprehension (.ListComp elt [⟨tg, iter, ifs, 0⟩] scope pos) scope X.env pos' (newList []) false (eval iter X.env) use) Qf X.xe s := by
  have hfree : ∀ y ∈ scope.names, y.2 = .free → ∃ c, X.env.cells.lookup y.1 = some c := fun y hy e => by
    rcases ok.free y hy e with k | k
    · exact I.ok.has _ (.inl k)
    · exact I.ok.has _ (.inr k)
  refine wpAny_comprehension_free (use := use) rfl hs (closure_ok hfree) ok.kind (fun y hy e => by rw [ok.uniq y hy, e])
    (thn (hi.run pins s σ H _ I h) fun xv s1 hx => thn hx fun itv s2 h2 => ?_)
  obtain ⟨it, fp, tn, J, H2, e, I2, T, st2, f2, nx1, q⟩ := h2
  subst e
  refine wpAny_newObj_type (newEnv_comp ?_) (by show 0 ≤ sizeLine; decide)
  generalize hD : s2.heap.objs.size = D
  have hDn : H2 D = none := I2.hok.fresh (Nat.le_of_eq hD)
  obtain ⟨W, ⟨m0, w0⟩, turn⟩ := q D hDn
  -- the new list
  generalize hs3 : ({ s2 with heap := s2.heap.push { cls := .type "list", data := .seq ([] : List Value).toArray } } : Shared) = s3
  have I3 : Inv X pins σ (upd H2 D (.lst [])) s3 := by
    rw [← hs3]
    refine I2.laid (t' := s2.toks) (fun b o e => Heap.get?_push_of_some _ e) (Nat.le_of_eq hD) ⟨Nat.zero_le _, [], 0, .nil, ?_⟩
    rw [← hD]
    exact Heap.get?_push_size _ rfl
  have h3 : s3.heap = s2.heap.push { cls := .type "list", data := .seq ([] : List Value).toArray } := by rw [← hs3]
  have sz : ∀ b ∈ fp, b < s2.heap.objs.size := fun b hb => by
    obtain ⟨o, e, _⟩ := T.obj _ _ st2 b hb
    exact Heap.lt_size e
  have f3 : ∀ b ∈ fp, FpOk X pins (upd H2 D (.lst [])) b ∧ b < s3.heap.objs.size := fun b hb => by
    have hlt := sz b hb
    refine ⟨⟨?_, (f2 b hb).2⟩, by rw [h3, Heap.size_push]; exact Nat.lt_succ_of_lt hlt⟩
    rw [upd_ne (by rw [← hD]; exact Nat.ne_of_lt hlt)]
    exact (f2 b hb).1
  have st3 : tn 0 s3.heap := T.keep _ _ _ st2 fun b _ o e => by rw [h3]; exact Heap.get?_push_of_some _ e
  have I4 := block_start I3 ok hN f3
  have hB := hC.blk I3 (scope := scope) (cenv := compEnvC scope (cellsFrom (s3.heap.objs.size + 1) scope.names (cloFrom X.env.cells scope.names [])) s3.heap.objs.size X.env) (fp := fp) nx1
  have pg := hg s3 (upd H2 D (.lst [])) s3.heap.objs.size (cellsFrom (s3.heap.objs.size + 1) scope.names (cloFrom X.env.cells scope.names [])) fp hB
  have pt := ht s3 (upd H2 D (.lst [])) s3.heap.objs.size (cellsFrom (s3.heap.objs.size + 1) scope.names (cloFrom X.env.cells scope.names [])) fp
  have pe := he s3 (upd H2 D (.lst [])) s3.heap.objs.size (cellsFrom (s3.heap.objs.size + 1) scope.names (cloFrom X.env.cells scope.names [])) fp
  show codeAny _ _ (.compStart (.ListComp elt [⟨tg, iter, ifs, 0⟩] scope pos) 0 (.ref it) (.ref D) (compEnvC scope (cellsFrom (s3.heap.objs.size + 1) scope.names (cloFrom X.env.cells scope.names [])) s3.heap.objs.size X.env)) (compPost (model X.prog X.w) X.A X.xe use Qf (.ref D) s3.heap.objs.size) { s3 with heap := pushCells (s3.heap.push { cls := .type "dict", data := .dict #[] }) scope.names }
  have nfp : ∀ b ∈ fp, (upd H2 D (.lst [])) b = none := fun b hb => (f3 b hb).1.1
  generalize hce : compEnvC scope (cellsFrom (s3.heap.objs.size + 1) scope.names (cloFrom X.env.cells scope.names [])) s3.heap.objs.size X.env = ce at I4 hB pg pt pe ⊢
  have cL : ce.locals = s3.heap.objs.size := by subst hce; rfl
  generalize hH3 : upd H2 D (.lst []) = H3 at I3 I4 hB pg pt pe w0 nfp f3
  generalize hs4 : ({ s3 with heap := pushCells (s3.heap.push { cls := .type "dict", data := .dict #[] }) scope.names } : Shared) = s4 at I4 ⊢
  have st4 : tn 0 s4.heap := T.keep _ _ _ st3 fun b _ o e => by rw [← hs4]; exact pushCells_keeps _ _ _ _ (Heap.get?_push_of_some _ e)
  have stat : ∀ {σ' : L2.St} {H' : Hp} {s' : Shared}, Inv (X.blk s3 H3 scope ce fp) [] σ' H' s' → (∀ b ∈ fp, H' b = none) → ∀ b ∈ fp, FpOk (X.blk s3 H3 scope ce fp) [] H' b := fun {σ' H' s'} I' hn b hb =>
    ⟨hn b hb, (I'.ok.exf b hb).1, I'.ok.exfs b hb, .inl hb, fun x c e => (I'.ok.exf b hb).2 x c e, fun p hp => absurd (show p ∈ ([] : List (Addr × Obj)) ++ [] from hp) (by simp)⟩
  have loop : codeAny (model X.prog X.w) X.A (.compLoop (.ListComp elt [⟨tg, iter, ifs, 0⟩] scope pos) 0 (.ref it) (.ref D) ce) (compPost (model X.prog X.w) X.A X.xe use Qf (.ref D) s3.heap.objs.size) s4 := by
    refine compLoop_any (fun n s' => ∃ i H', Inv (X.blk s3 H3 scope ce fp) [] (wipe σ (own.map (·.2))) H' s' ∧ tn i s'.heap ∧ (∀ b ∈ fp, H' b = none) ∧ W i n H') ?_ m0 ⟨0, H3, I4, st4, nfp, w0⟩
    rintro n s5 ⟨i, H5, I5, st5, n5, w5⟩
    rcases turn i n H5 w5 with ⟨stop, qq⟩ | ⟨go, Nx, hNx, step⟩
    · have td := T.done (X.blk s3 H3 scope ce fp) rfl rfl rfl hB i [] s5 _ H5 (fun _ _ => False) I5 (stat I5 n5) st5 stop
      refine thnF td fun r s6 ⟨hr, I6⟩ => ?_
      subst hr
      -- back in the def's context
      have I7 : Inv X pins σ H5 s6 := I3.call' (ch := fp) I6.os I6.base I6.hok I6.bare fun b hb => ⟨(f3 b hb).1.2.2.2.1, (f3 b hb).1.2.1, (f3 b hb).1.2.2.2.2.1, (f3 b hb).1.2.2.2.2.2⟩
      have nC : H5 s3.heap.objs.size = none := by
        have z : H5 ce.locals = none := I6.free
        rw [cL] at z
        exact z
      obtain ⟨m, hn, _⟩ := I6.loc
      have hn : s6.heap.Ns ce.locals m := hn
      rw [cL] at hn
      exact hRR D s3.heap.objs.size s6 m H5 I7 qq hn (I3.fpOk (Nat.le_refl _) nC)
    · have ti := T.item (X.blk s3 H3 scope ce fp) rfl rfl rfl hB i [] s5 _ H5 (fun _ _ => False) I5 (stat I5 n5) st5 go
      refine thnF ti fun r s6 ⟨u, hr, h6⟩ => ?_
      subst hr
      refine thnF h6 fun _ s7 ⟨x, H7, I7, r7, y7, st7, n7⟩ => ?_
      have I7' := I7.pinned (stat I7 n7) (T.obj _ _ st7)
      refine thnF (pg.run _ s7 _ H7 x u _ I7' r7 (step x H7 y7)) fun _ s8 ⟨σ8, H8, I8, hw8, q8⟩ => ?_
      refine thnF (pt.run _ s8 σ8 H8 _ I8 q8) fun b s9 ⟨H9, I9, q9⟩ => ?_
      -- the turn's end
      have fin : ∀ {s' : Shared} {H' : Hp}, Inv (X.blk s3 H3 scope ce fp) ([] ++ pinsAt fp s7.heap) σ8 H' s' → Nx H' → ∃ m, m < n ∧ ∃ i H', Inv (X.blk s3 H3 scope ce fp) [] (wipe σ (own.map (·.2))) H' s' ∧ tn i s'.heap ∧ (∀ b ∈ fp, H' b = none) ∧ W i m H' := fun {s' H'} I' nx => by
        obtain ⟨m', hm, w'⟩ := hNx H' nx
        have pin' : ∀ b ∈ fp, ∀ o, s7.heap.get? b = some o → s'.heap.get? b = some o ∧ H' b = none := fun b hb o e =>
          let z := I'.pin (b, o) (List.mem_append_right _ (List.mem_append_right _ (mem_pinsAt hb e)))
          ⟨z.1, z.2.1⟩
        have hl : (wipe σ (own.map (·.2))).length = σ8.length := by rw [← hw8, wipe_length]
        refine ⟨m', hm, i + 1, H', (I'.unpinned (pins := [])).weak hl (fun j v e => ?_), T.keep _ _ _ st7 fun b hb o e => (pin' b hb o e).1, fun b hb => ?_, w'⟩
        · rw [← hw8] at e
          exact (wipe_some e).1
        · obtain ⟨o, e, _⟩ := T.obj _ _ st7 b hb
          exact (pin' b hb o e).2
      cases b with
      | false =>
        simp only [Bool.false_eq_true, if_false] at q9 ⊢
        exact fin I9 q9
      | true =>
        simp only [if_true] at q9 ⊢
        refine thnF (pe.run _ s9 σ8 H9 _ I9 q9) fun z s10 ⟨yv, H10, I10, r10, acc, hD10, hz10, nx⟩ => ?_
        exact app_ok (X := X.blk s3 H3 scope ce fp) I10 hD10 hz10 r10 fun s11 I11 => fin I11 nx
  exact codeAny_compStart_list loop (T.self X.A 0 _ _ _ st4 loop)
end
theorem pe_lcQ {X : Cx} {x1 : Addr} {elt tg iter : Expr} {ifs : List Expr} {scope : Scope} {own : List (Str × Nat)} {pos : Pos} {wi : TI} {g : TG} {tt : L2.TT} {te : TE} (hC : HotIn X x1) (hN : X.N.Nodup) (hi : PIQ X x1 tg iter wi) (ok : BlkOk X.N X.env.scope scope own)
    (hg : ∀ (s : Shared) (H : Hp) (C : Addr) (cl : List (Str × Addr)) (fp : List Addr), HotIn (X.blk s H scope (compEnvC scope cl C X.env) fp) x1 → PG (X.blk s H scope (compEnvC scope cl C X.env) fp) tg g) (ht : ∀ (s : Shared) (H : Hp) (C : Addr) (cl : List (Str × Addr)) (fp : List Addr), PTs (X.blk s H scope (compEnvC scope cl C X.env) fp) ifs tt)
    (he : ∀ (s : Shared) (H : Hp) (C : Addr) (cl : List (Str × Addr)) (fp : List Addr), PE (X.blk s H scope (compEnvC scope cl C X.env) fp) elt te) (hs : ∀ x, foldedSetIterable iter X.env x = pure x := by intro _; rfl) :
    PE X (.ListComp elt [⟨tg, iter, ifs, 0⟩] scope pos) (tLc wi g tt te (own.map (·.2))) := by
  refine ⟨fun pins s σ H Q I h => ?_⟩
  rw [eval_ListComp]
  refine lc_coreQ hC hN I hi ok hg ht he hs h fun D C s' m H' I' q hn f => ⟨m, hn, fun h'' sb => ?_⟩
  obtain ⟨f0, f1, f2, f3, f4, f5⟩ := f
  exact ⟨.ref D, H', I'.turned (t' := s'.toks) (fun b o hb e => (sb.2 b hb).trans e) f0 f1 f3 f4 f5, rfl, q⟩
end Pf

end
section
set_option maxHeartbeats 2000000
/-! Snd18: a lambda handed over; its exceptions' context is None. -/
namespace Pf
open PySem PySem.Spec PyProof.Rows L2 LamX
theorem inv_xe {X : Cx} {pins : List (Addr × Obj)} {σ : L2.St} {H : Hp} {s : Shared} {xe : Value → Shared → Prop} (I : Inv X pins σ H s) : Inv { X with xe := xe } pins σ H s :=
  ⟨⟨I.ok.mod, I.ok.kind, I.ok.glob, I.ok.blt, I.ok.above, I.ok.inj, I.ok.has, I.ok.cab, I.ok.hd, I.ok.frames, I.ok.stk, I.ok.exf, I.ok.bs, I.ok.bsz, I.ok.noex, I.ok.exfs, I.ok.funs, I.ok.frf⟩, I.os, I.bare, I.base, I.loc, I.cell, I.free, I.freeC, I.pin, I.hok, I.len⟩
/-- the lambda's body: what leaves it has no context -/
def lamCxN (X : Cx) (A : Around) (outer : List PySem.Env) (s : Shared) (H : Hp) (E : XK) (scope : Scope) (f c' : Addr) : Cx :=
  { lamCx X A outer s H E scope f c' with xe := fun e s' => wpAny (model X.prog X.w) (A.deeper (lamEnv X scope s.heap.objs.size f c')) (leaving (lamEnv X scope s.heap.objs.size f c') e) (fun _ s'' => L2N.CX X.prog X.w outer H s E e s'') (fun e' s'' => L2N.CX X.prog X.w outer H s E e' s'') s' }
section
variable {X : Cx} {pins : List (Addr × Obj)} {σ : L2.St} {H HZ : Hp} {s s1 : Shared}
/-- x(), in the def that got the lambda: Z is that def's context, entered at s -/
theorem pe_actN {CXg : CXT} {Eg : XK} {Ng : List Str} {qg : Str} {sg : Scope} {g f c' : Addr} {cdg pm ctv : Value} {params : Arguments} {body : Expr} {scope : Scope} {k i : Nat} {a : Str} {pn : List (Addr × Obj)} {xe : Value → Shared → Prop} {W : WX} {E : XK} {tb : TE} {p1 p2 : Pos}
    (I : Inv X pins σ H s) (L : LamS X.env.scope scope) (hf : s.heap.get? f = some (PySem.W.kla_obj "<lambda>" (X.env.qual ++ "<lambda>") params body scope (cloFrom X.env.cells scope.names []) pm c' ctv)) (hfn : H f = none) (hfr : f ∉ frs X.stack)
    (hbind : bindArgs (PySem.W.kla_fn "<lambda>" (X.env.qual ++ "<lambda>") params body scope (cloFrom X.env.cells scope.names []) pm (.ref c') ctv) ⟨[], []⟩ = pure [])
    (tk : L2N.Takes ((cxOf CXg X.prog X.w X.K X.mg X.base Ng qg sg g cdg X.A X.stack s H Eg).tr pn xe) W) (hW : ∀ cls d σ' H', E cls d H' → W cls d σ' H') (hr : Room (k + 1) (X.A.deeper (envOfC qg sg s.heap.objs.size g cdg)))
    (hbody : ∀ (A : Around) (outer : List PySem.Env) (s : Shared) (H : Hp), Room k (A.deeper (lamEnv X scope s.heap.objs.size f c')) → PE (lamCxN X A outer s H E scope f c') body tb)
    (hN : Ng[i]? = some a) (hv : Vis sg a) (hd : (a == ("__debug__" : Str)) = false := by decide) (hcd : (a == ("__classdict__" : Str)) = false := by decide) :
    PE ((cxOf CXg X.prog X.w X.K X.mg X.base Ng qg sg g cdg X.A X.stack s H Eg).tr pn xe) (.Call (.Name a p1) [] [] p2)
      (fun σZ HZ Q => σZ[i]? = some (some (.ref f)) ∧ HZ c' = some (CodeO c' (X.env.qual ++ "<lambda>")) ∧ tb σ HZ Q) := by
  refine ⟨fun pinsZ sZ σZ HZ Q IZ h => ?_⟩
  obtain ⟨hs, hc, ht⟩ := h
  refine wpAny_Call_Name_kw (thn ((pe_var (pos := p1) (i := i) hN hv hd hcd).run pinsZ sZ σZ HZ (fun v H1 => v = .ref f ∧ H1 = HZ) IZ ⟨.ref f, hs, rfl, rfl⟩) fun u s1 ⟨v, H1, I1, r1, q1⟩ => ?_)
  obtain ⟨ev, eH⟩ := q1
  subst ev
  rw [eH] at I1
  obtain rfl : u = Value.ref f := r1
  have of1 : s1.heap.get? f = some (PySem.W.kla_obj "<lambda>" (X.env.qual ++ "<lambda>") params body scope (cloFrom X.env.cells scope.names []) pm c' ctv) := I1.base.keep f _ hf hfn hfr (fun z => nomatch (show f ∈ ([] : List Addr) from z))
  refine PySem.W.callWith_F0 ⟨_, _, _, _, of1⟩ ?_
  have un : Un (frs X.stack) [] H HZ s.heap s1.heap := I1.base
  obtain ⟨⟨oc, vs, t, hoc, hdc, hvc⟩, _, _⟩ := I1.hok c' _ hc
  have rc : codeAny (model X.prog X.w) (X.A.deeper (envOfC qg sg s.heap.objs.size g cdg)) (.call (.ref f) ⟨[], []⟩) (CR (L2N.CX X.prog X.w) (envOfC qg sg s.heap.objs.size g cdg :: X.stack) X.prog X.w HZ s1 Q E) s1 := by
    refine PySem.W.kla_callFunE hr.depth of1 rfl L.co L.gen rfl ⟨c', oc, vs, t, rfl, hoc, hdc, hvc⟩ ?_
    rw [hbind]
    refine wpAny_pure (wpAny_newFunctionEnv (fun y hy => (L.own y hy).2) (fun y hy => absurd hy (by simp)) (fun h₁ hns hsb => ⟨I1.nolimit.fresh _ hsb, ?_⟩) L.kind)
    show codeAny _ _ (.expr body (lamEnv X scope s1.heap.objs.size f c')) _ _
    have kp : ∀ b o, s1.heap.get? b = some o → h₁.get? b = some o := fun b o e => hsb.extBut b o (Nat.ne_of_lt (Heap.lt_size e)) (Heap.get?_push_of_some _ e)
    have J : Inv (lamCxN X (X.A.deeper (envOfC qg sg s.heap.objs.size g cdg)) (envOfC qg sg s.heap.objs.size g cdg :: X.stack) s1 HZ E scope f c') [] σ HZ { s1 with heap := h₁, toks := s1.toks + ([] : List (Str × Value)).length } :=
      inv_xe (lam_start2 (E := E) I L I1.env0 hr.hd un hns kp)
    refine PySem.W.kla_codeExpr (wpAny_mono ((hbody _ _ s1 HZ (hr.deeper _)).run [] _ _ HZ Q J ht) (fun v s' hq => ?_) fun e s' hq => hq)
    obtain ⟨w', H', J', rv, q⟩ := hq
    exact ⟨w', H', J'.os, J'.bare, J'.base, J'.hok, rv, q⟩
  have hx : Passes (L2N.CX X.prog X.w) ((cxOf CXg X.prog X.w X.K X.mg X.base Ng qg sg g cdg X.A X.stack s H Eg).tr pn xe) E := L2N.passes_call tk hW
  refine wpAny_call (codeAny_mono rc fun r s' hq => ?_)
  cases r with
  | error e => exact hx pinsZ σZ HZ s1 e s' I1 hq
  | ok fl =>
    cases fl with
    | ret u => exact I1.after hq
    | next => exact False.elim hq
    | brk => exact False.elim hq
    | cont => exact False.elim hq
end
/-- the def that calls what it got: a calls it; TT: what it makes of the lambda's reading -/
def GivesToN (k : Nat) (X : Cx) (Ng : List Str) (x : Str) (sg : Scope) (g : Addr) (cdg : Value) (bg : List Stmt) (a : Str) (q : Str) (TT : (XK → Hp → VK → Prop) → Hp → VK → Prop) : Prop :=
  ∀ (f c' : Addr) (s : Shared) (H : Hp) (Q : VK) (tl : XK → Hp → VK → Prop), Room (k + 1) (X.A.deeper (envOfC x sg s.heap.objs.size g cdg)) →
    (∀ (W : WX) (pn : List (Addr × Obj)) (xe : Value → Shared → Prop) (E : XK) (p1 p2 : Pos), L2N.Takes ((cxOf C8.CX0 X.prog X.w X.K X.mg X.base Ng x sg g cdg X.A X.stack s H C8.E0).tr pn xe) W → (∀ cls d σ' H', E cls d H' → W cls d σ' H') →
      PE ((cxOf C8.CX0 X.prog X.w X.K X.mg X.base Ng x sg g cdg X.A X.stack s H C8.E0).tr pn xe) (.Call (.Name a p1) [] [] p2) (fun σZ HZ Q => σZ[0]? = some (some (.ref f)) ∧ HZ c' = some (CodeO c' q) ∧ tl E HZ Q)) →
    H c' = some (CodeO c' q) → TT tl H Q →
    ∃ t, PSs (cxOf C8.CX0 X.prog X.w X.K X.mg X.base Ng x sg g cdg X.A X.stack s H C8.E0).nox bg t ∧ t { nx := fun _ H' => Q .non H', rt := Q } (L2.start Ng [.ref f]) H
section
variable {X : Cx}
/-- x(lambda: body) -/
theorem pe_lamcallN {T : List (Addr × Str)} {TT : (XK → Hp → VK → Prop) → Hp → VK → Prop} {x a : Str} {g c P : Addr} {k : Nat} {pg : Arguments} {bg : List Stmt} {sg : Scope} {dV kV doc pm cdv ct oc : Value} {an od : Option Addr} {osl : Array (Option Value)} {Ng : List Str}
    {params : Arguments} {body : Expr} {scope : Scope} {t : XK → TE} {p lpos pos : Pos} (hg : Gl X x) (hm : X.mg x = some (.ref g)) (hk : PySem.W.keepIn X.K (.ref g) = true)
    (lk : X.K.lookup g = some ⟨oc, od, .func (PySem.W.fnOf x x pg bg sg dV kV doc pm an cdv ct), osl⟩) (hcg : PySem.W.codeIn X.K cdv x = true) (hb : L2.Binds X.K (PySem.W.fnOf x x pg bg sg dV kV doc pm an cdv ct) [a] []) (Sg : FnScope Ng [a] sg) (hNg : Ng[0]? = some a) (hva : Vis sg a)
    (hG : GivesToN k X Ng x sg g cdv bg a (X.env.qual ++ "<lambda>") TT)
    (TB : TabB X.base X.mg c P) (hcode : X.env.code = .ref c) (hmT : (P, X.env.qual ++ "<lambda>") ∈ T) (hu : ∀ p ∈ T, p.1 = P → p.2 = X.env.qual ++ "<lambda>") (hr : Room (k + 2) X.A) (L : LamS X.env.scope scope) (hdef : defaultsOf params X.env = ([], []))
    (hbind : ∀ (q : Str) (cl : List (Str × Addr)) (pm cv ctv : Value), bindArgs (PySem.W.kla_fn "<lambda>" q params body scope cl pm cv ctv) ⟨[], []⟩ = pure [])
    (hbody : ∀ (A : Around) (outer : List PySem.Env) (s : Shared) (H : Hp) (E : XK) (f c' : Addr), Room k (A.deeper (lamEnv X scope s.heap.objs.size f c')) → PE (lamCxN X A outer s H E scope f c') body (t E))
    (hdb : (x == ("__debug__" : Str)) = false := by decide) (hd : (a == ("__debug__" : Str)) = false := by decide) (hcd : (a == ("__classdict__" : Str)) = false := by decide) :
    PE X (.Call (.Name x p) [.Lambda params body scope lpos] [] pos) (tLam T TT t) := by
  refine ⟨fun pins s σ H Q I h => ?_⟩
  obtain ⟨hT, h⟩ := h
  refine wpAny_Call_Name_kw (ld_glob I hg hm ?_ hdb)
  refine PySem.W.callWith_K (h₀ := X.base) I.ok.mod.kin hk ?_ (by rfl) (by rfl)
  show wpAny _ _ (spliced ((false, eval (.Lambda params body scope lpos) X.env) :: backTo pos (starEach [] X.env))) _ _ s
  refine Calls.spliced_cons (lam_make2 I TB hcode hmT hu hT hdef (L.has I.ok) fun f c' pm' ctv H1 s' I1 eN T1 hf hfn hfr hco => ?_)
  refine Calls.spliced_nil ⟨I1.kIn, ?_⟩
  have rc : codeAny (model X.prog X.w) X.A (.call (.ref g) ⟨[.ref f], []⟩) (CR C8.CX0 X.stack X.prog X.w H1 s' Q C8.E0) s' := by
    refine run_ofS (N := Ng) (ps := [a]) (us := [.ref f]) (vs := [.ref f]) lk hcg Sg hr I1.env0 (hb s' [.ref f] I1.kIn rfl) (.cons rfl .nil) rfl fun hr' => ?_
    obtain ⟨t', ht', hq'⟩ := hG f c' s' H1 Q (fun E H' Q' => t E σ H' Q') hr' (fun W pn xe E p1 p2 tk hW => pe_actN (i := 0) I1 L hf hfn hfr (hbind _ _ _ _ _) tk hW hr' (fun A outer s H hr2 => hbody A outer s H E f c' hr2) hNg hva hd hcd) hco (h H1 eN T1)
    exact ⟨t', ht'.nox, hq'⟩
  refine wpAny_call (codeAny_mono rc fun r s2 hq => ?_)
  cases r with
  | error e => exact (show False from hq).elim
  | ok fl =>
    cases fl with
    | ret u => exact I1.after hq
    | next => exact False.elim hq
    | brk => exact False.elim hq
    | cont => exact False.elim hq
end
end Pf

end
section
set_option maxHeartbeats 2000000
/-! Snd19: _law_named_error, walked while its exception is handled. -/
namespace Pf
open PySem PySem.Spec PyProof.Rows L2 HotX
/-- only more is known -/
def Grow (H H' : Hp) : Prop := ∀ b o, H b = some o → H' b = some o
theorem Grow.refl (H : Hp) : Grow H H := fun _ _ h => h
theorem Grow.trans {H H1 H2 : Hp} (a : Grow H H1) (b : Grow H1 H2) : Grow H H2 := fun c o h => b c o (a c o h)
theorem Grow.upd {H : Hp} {p : Addr} {o : HO} (h : H p = none) : Grow H (upd H p o) := fun b u e => by
  rw [upd_ne (ne_of_none e h)]
  exact e
theorem Grow.upd2 {H H' : Hp} {p : Addr} {o : HO} (g : Grow H H') (h : H p = none) : Grow H (L2.upd H' p o) := fun b u e => by
  rw [upd_ne (ne_of_none e h)]
  exact g b u e
/-- the handled exception is of the class D -/
def ClsIs (X : Cx) (x1 D : Addr) : Prop := ∃ (o : Obj) (vs : Array Value), X.s_0.heap.get? x1 = some o ∧ o.cls = .ref D ∧ o.dict = none ∧ o.data = .fields vs
section
variable {X : Cx} {x1 D : Addr}
theorem call_isQ (hot : HotIn X x1) (C : ExcC X.K D) (cl : ClsIs X x1 D) : CallR X (.builtin "isinstance") (rIsE X.K D x1) := by
  intro pins s σ H xs us Q I r h
  obtain ⟨c, cv, b, rfl, hcv, e, q⟩ := h
  match r with
  | .cons rx (.cons rt .nil) =>
    cases rx
    have ec := hcv _ rt
    subst ec
    obtain ⟨oe, vs, hget0, h1, h2, hv⟩ := cl
    have hget := I.base.keep x1 oe hget0 hot.free hot.nfs hot.nex
    have J : PySem.W.InstAt s.heap x1 oe D none := by
      obtain ⟨oc, od, oda, osl⟩ := oe
      dsimp only at h1 h2 hv
      subst h1 h2 hv
      exact ⟨hget, rfl, rfl, trivial⟩
    exact PySem.W.kia_one (PySem.W.handS_kitx_exc C.hg C.hk C.hs C.hd C.ha C.hn C.ht C.hm) I.kIn J e (fun z => nomatch z) fun tk => ⟨.bl b, H, I.kept (t' := tk) fun _ _ z => z, rfl, q⟩
/-- what a class's name says of the exception's class -/
structure IsF (X : Cx) (D : Addr) (y : Str) (b : Bool) : Prop where
  say : ∃ (c : V) (cv : Value), (∀ p, PE X (.Name y p) (tC c)) ∧ (∀ u, RelV c u → u = cv) ∧ PySem.W.kitOne X.K (.ref D) cv = some b
def isNm : Expr → Option Str
  | .Call (.Name f _) [.Name a _, .Name y _] [] _ => if f = ("isinstance" : Str) ∧ a = ("e" : Str) then some y else none
  | _ => none
def three : Expr → Option (List Str)
  | .List [a, b, c] _ => (match isNm a, isNm b, isNm c with
    | some x, some y, some z => some [x, y, z]
    | _, _, _ => none)
  | _ => none
/-- the def's names -/
def Nn : List Str := ["e", "some", "words", "word", "good"]
structure NmX (X : Cx) (x1 D : Addr) : Prop where
  hot : HotIn X x1
  C : ExcC X.K D
  cl : ClsIs X x1 D
  N : X.N = Nn
  fn : ∀ x, X.fn x = true
  loc : ∀ x ∈ Nn, x ≠ "word" → x ≠ "good" → X.env.scope.names.lookup x = some .local
  gi : Gl X "isinstance"
  gz : Gl X "zip"
  mi : X.mg "isinstance" = none
  mz : X.mg "zip" = none
theorem NmX.nd (O : NmX X x1 D) : X.N.Nodup := by rw [O.N]; decide +kernel
theorem isNm_of {e : Expr} {y : Str} (h : isNm e = some y) : ∃ p1 p2 p3 pos, e = .Call (.Name "isinstance" p1) [.Name "e" p2, .Name y p3] [] pos := by
  unfold isNm at h
  split at h
  · split at h
    · rename_i hq
      obtain ⟨h1, h2⟩ := hq
      cases h
      subst h1 h2
      exact ⟨_, _, _, _, rfl⟩
    · cases h
  · cases h
theorem NmX.var (O : NmX X x1 D) {i : Nat} {x : Str} {p : Pos} (hi : Nn[i]? = some x) (h1 : x ≠ "word") (h2 : x ≠ "good") (hd : (x == ("__debug__" : Str)) = false) (hcd : (x == ("__classdict__" : Str)) = false) : PE X (.Name x p) (tVar i) :=
  pe_var (by rw [O.N]; exact hi) (.inl (O.loc x (List.mem_of_getElem? hi) h1 h2)) hd hcd
theorem pe_is (O : NmX X x1 D) {e : Expr} {y : Str} {b : Bool} (h : isNm e = some y) (F : IsF X D y b) : PE X e (fun σ H Q => σ[0]? = some (some (.ref x1)) ∧ Q (.bl b) H) := by
  obtain ⟨p1, p2, p3, pos, rfl⟩ := isNm_of h
  obtain ⟨c, cv, h1, h2, h3⟩ := F.say
  refine pe_imp (pe_callB (call_isQ O.hot O.C O.cl) O.gi O.mi PyProof.Rows.boot_isinstance (pa_cons (O.var (i := 0) rfl (by decide) (by decide) (by decide) (by decide)) (pa_cons (h1 p3) pa_nil)) (by decide)) fun σ H Q q => ?_
  exact ⟨.ref x1, q.1, c, cv, b, rfl, h2, h3, q.2⟩
theorem pe_three (O : NmX X x1 D) {e : Expr} {y1 y2 y3 : Str} {b1 b2 b3 : Bool} (h : three e = some [y1, y2, y3]) (F1 : IsF X D y1 b1) (F2 : IsF X D y2 b2) (F3 : IsF X D y3 b3) :
    PE X e (fun σ H Q => σ[0]? = some (some (.ref x1)) ∧ ∀ p, H p = none → Q (.ref p) (upd H p (.lst [.bl b1, .bl b2, .bl b3]))) := by
  unfold three at h
  split at h
  · rename_i a b c pos
    split at h
    · rename_i u1 u2 u3 k1 k2 k3
      cases h
      have n1 : ∀ {z : Expr} {y : Str}, isNm z = some y → notStar z = true := fun {z y} hz => by
        obtain ⟨_, _, _, _, rfl⟩ := isNm_of hz
        rfl
      refine pe_imp (pe_lst (pa_cons (pe_is O k1 F1) (pa_cons (pe_is O k2 F2) (pa_cons (pe_is O k3 F3) pa_nil (starEach_of (n1 k3))) (starEach_of (n1 k2))) (starEach_of (n1 k1)))) fun σ H Q q => ?_
      exact ⟨q.1, q.1, q.1, by show 3 ≤ sizeLine; rw [sizeLine_eq]; omega, q.2⟩
    · cases h
  · cases h
/-! ### the comprehension -/
def keepT (zs : List (Str × Bool)) : List Str := (zs.filter (·.2)).map (·.1)
theorem keepT_snoc {zs : List (Str × Bool)} {i : Nat} {y : Str} {b : Bool} (h : zs[i]? = some (y, b)) : keepT (zs.take (i + 1)) = keepT (zs.take i) ++ (if b = true then [y] else []) := by
  unfold keepT
  rw [List.take_succ, h]
  cases b with
  | true => simp
  | false => simp
abbrev rSplit : V → List V → Hp → VK → Prop := fun x xs H Q => ∃ a b, x = .str a ∧ xs = [.str b] ∧ (b.length == 0) = false ∧ a.length + 2 ≤ sizeLine ∧ rNewStrs (Txt.split a b) H Q
abbrev gPair (K : PySem.W.Frag) : TG := gTup K 2 (gCons (gName 3) (gCons (gName 4) gNil))
theorem names_loop {K : PySem.W.Frag} {zs : List (Str × Bool)} {H1 : Hp} {a b q0 : Addr} {σ : L2.St} {Q : VK} (hl : σ.length = 5) (ha : H1 a = some (.lst ((zs.map (·.1)).map V.str))) (hb : H1 b = some (.lst ((zs.map (·.2)).map V.bl))) (hq : H1 q0 = none) (hz : zs.length ≤ 1000)
    (fin : ∀ H', Grow H1 H' → H' q0 = some (.lst ((keepT zs).map V.str)) → Q (.ref q0) H') :
    ∃ W : Nat → Nat → Hp → Prop, (∃ m, W 0 m (upd H1 q0 (.lst []))) ∧ ∀ i m H, W i m H →
      ((ItzX K true true a b).stop i H ∧ Q (.ref q0) H) ∨ ((ItzX K true true a b).go i H ∧ ∃ Nx : Hp → Prop, (∀ H', Nx H' → ∃ m', m' < m ∧ W (i + 1) m' H') ∧ ∀ x H', (ItzX K true true a b).yld i H x H' → gPair K x (wipe σ [3, 4]) H' fun σ2 H2 => wipe σ2 [3, 4] = wipe σ [3, 4] ∧ tB (tVar 4) σ2 H2 fun b H3 =>
        if b = true then tVar 3 σ2 H3 fun y H4 => ∃ acc, H4 q0 = some (.lst acc) ∧ acc.length < sizeLine ∧ Nx (upd H4 q0 (.lst (acc ++ [y]))) else Nx H3) := by
  refine ⟨fun i m H => m = zs.length - i ∧ i ≤ zs.length ∧ Grow H1 H ∧ H q0 = some (.lst ((keepT (zs.take i)).map V.str)), ⟨_, rfl, Nat.zero_le _, Grow.upd hq, upd_same⟩, ?_⟩
  rintro i m H ⟨rfl, hi, gr, hD⟩
  have sa : SqX K true H a ((zs.map (·.1)).map V.str) := SqL.of (gr _ _ ha)
  have sb : SqX K true H b ((zs.map (·.2)).map V.bl) := SqL.of (gr _ _ hb)
  by_cases hlt : i < zs.length
  · have hget : zs[i]? = some zs[i] := List.getElem?_eq_getElem hlt
    generalize zs[i] = z at hget
    obtain ⟨y, c⟩ := z
    have ga : ((zs.map (·.1)).map V.str)[i]? = some (.str y) := by rw [List.getElem?_map, List.getElem?_map, hget]; rfl
    have gb : ((zs.map (·.2)).map V.bl)[i]? = some (.bl c) := by rw [List.getElem?_map, List.getElem?_map, hget]; rfl
    refine .inr ⟨⟨_, _, _, _, sa, sb, ga, gb⟩, fun H' => i + 1 ≤ zs.length ∧ Grow H1 H' ∧ H' q0 = some (.lst ((keepT (zs.take (i + 1))).map V.str)), fun H' n => ⟨zs.length - (i + 1), by omega, rfl, n.1, n.2.1, n.2.2⟩, fun x H' yy => ?_⟩
    obtain ⟨T, u, v, e1, hT, e2, e3, e4⟩ := yy
    have e3 := e3 _ sa
    have e4 := e4 _ sb
    rw [ga] at e3
    rw [gb] at e4
    cases e3
    cases e4
    subst e1 e2
    have nT : T ≠ q0 := fun z => by
      rw [z, hD] at hT
      cases hT
    have gr2 : Grow H1 (upd H T (.tup [.str y, .bl c])) := gr.trans (Grow.upd hT)
    have hD2 : upd H T (.tup [.str y, .bl c]) q0 = some (.lst ((keepT (zs.take i)).map V.str)) := by rw [upd_ne (Ne.symm nT)]; exact hD
    have lw : (wipe σ [3, 4]).length = 5 := by rw [wipe_length]; exact hl
    refine ⟨T, _, rfl, SqT.of upd_same, rfl, _, _, rfl, _, _, rfl, rfl, ?_⟩
    refine ⟨?_, .bl c, ?_, c, rfl, ?_⟩
    · rw [wipe_set (by simp), wipe_set (by simp), wipe_wipe]
    · rw [List.getElem?_set_self (by rw [List.length_set, lw]; omega)]
    · have key := keepT_snoc hget
      cases c with
      | false =>
        rw [if_neg Bool.false_ne_true, List.append_nil] at key
        dsimp only
        rw [if_neg Bool.false_ne_true]
        exact ⟨hlt, gr2, by rw [key]; exact hD2⟩
      | true =>
        rw [if_pos rfl] at key
        dsimp only
        rw [if_pos rfl]
        refine ⟨.str y, ?_, _, hD2, ?_, hlt, gr2.upd2 hq, ?_⟩
        · rw [List.getElem?_set_ne (by decide), List.getElem?_set_self (by rw [lw]; omega)]
        · have h1 : ((keepT (zs.take i)).map V.str).length ≤ zs.length := by
            unfold keepT
            rw [List.length_map, List.length_map]
            exact Nat.le_trans (List.length_filter_le _ _) (by rw [List.length_take]; exact Nat.min_le_right _ _)
          have h3 : sizeLine = 16777216 := by rw [sizeLine_eq]
          omega
        · rw [upd_same, key, List.map_append]
          rfl
  · have ei : i = zs.length := by omega
    subst ei
    rw [List.take_length] at hD
    exact .inl ⟨⟨_, _, sa, sb, by simp, by simp, by simp⟩, fin H gr hD⟩
/-! ### the whole body -/
def ownN : List (Str × Nat) := [("word", 3), ("good", 4)]
def chkNamed (sc : Scope) (body : List Stmt) (ys : List Str) (ws : Str) : Bool := match body with
  | [.Assign [.Name s1 _] l1 _, .Assign [.Name s2 _] (.BinOp (.Name s3 _) .Add l2 _) _, .Assign [.Name s4 _] (.BinOp (.Name s5 _) .Add l3 _) _, .Assign [.Name s6 _] (.BinOp (.Name s7 _) .Add l4 _) _, .Assign [.Name w1 _] (.Constant (.str ws') _ _) _,
      .Return (some (.Call (.Attribute (.Constant (.str j1) _ _) m1 ap1) [.ListComp (.Name x1 _) [⟨.Tuple [.Name x2 _, .Name g1 _] _ _, .Call (.Name z _) [.Call (.Attribute (.Name w2 _) m2 ap2) [.Constant (.str j2) _ _] [] cp2, .Name s8 _] [] _, [.Name g2 _], 0⟩] scope _] [] cp1)) _] =>
    [s1, s2, s3, s4, s5, s6, s7, s8].all (fun x => decide (x = "some")) && ([w1, w2].all (fun x => decide (x = "words")) && ([x1, x2].all (fun x => decide (x = "word")) && ([g1, g2].all (fun x => decide (x = "good")) &&
      (decide (z = "zip") && (decide (m1 = "join") && (decide (m2 = "split") && ([j1, j2].all (fun x => decide (x = " ")) && (decide (ws = ws') && ((ap1.endLine == cp1.line) && ((ap2.endLine == cp2.line) &&
        (decide (three l1 = some (ys.take 3)) && (decide (three l2 = some ((ys.drop 3).take 3)) && (decide (three l3 = some ((ys.drop 6).take 3)) && (decide (three l4 = some ((ys.drop 9).take 3)) && (blkC Nn sc scope ownN && ownOk scope ownN)))))))))))))))
  | _ => false
theorem three_set {e : Expr} {y : List Str} (h : three e = some y) {py : Option Expr} {l : Nat} {env : PySem.Env} : swapsWith e py l env = pure false := by
  unfold three at h
  split at h
  · rfl
  · cases h
theorem own_loc {scope sc : Scope} {y : Str} {i : Nat} (ho : ownOk scope ownN = true) (hy : (y, i) ∈ ownN) : Loc (relS scope sc) y ∧ ((scope.names.lookup y == some NameKind.cell) = true ∨ (relS scope sc).names.lookup y = some .local) := by
  have h := List.all_eq_true.mp ho (y, i) hy
  rw [Bool.or_eq_true, decide_eq_true_eq, decide_eq_true_eq] at h
  rcases h with h | h
  · have q : (relS scope sc).names.lookup y = some .local := lookup_relS_keep (by intro z; cases z) h
    exact ⟨.inl q, .inr q⟩
  · have q : (relS scope sc).names.lookup y = some .cell := lookup_relS_keep (by intro z; cases z) h
    exact ⟨.inr q, .inl (by rw [h]; rfl)⟩
theorem cat_step {σ : L2.St} {H : Hp} {p x1 : Addr} {acc : List V} {a b c : Bool} {Q : VK} (h0 : σ[0]? = some (some (.ref x1))) (h1 : σ[1]? = some (some (.ref p))) (hp : H p = some (.lst acc)) (hsz : acc.length ≤ 100)
    (k : ∀ p2 H2, Grow H H2 → H2 p2 = some (.lst (acc ++ [.bl a, .bl b, .bl c])) → Q (.ref p2) H2) :
    tOp rCat (tVar 1) (fun σ H Q => σ[0]? = some (some (.ref x1)) ∧ ∀ p, H p = none → Q (.ref p) (upd H p (.lst [.bl a, .bl b, .bl c]))) σ H Q := by
  refine ⟨.ref p, h1, h0, fun q hq => ⟨p, q, acc, [.bl a, .bl b, .bl c], rfl, rfl, ?_, upd_same, ?_, fun p2 hp2 => ?_⟩⟩
  · rw [upd_ne (ne_of_none hp hq)]
    exact hp
  · have h3 : sizeLine = 16777216 := by rw [sizeLine_eq]
    simp only [List.length_cons, List.length_nil]
    omega
  · exact k p2 _ ((Grow.upd hq).trans (Grow.upd hp2)) upd_same
theorem named_walk (O : NmX X x1 D) {body : List Stmt} {ys : List Str} {ws : Str} {bs : List Bool} {r : Str} (h : chkNamed X.env.scope body ys ws = true) (hy : ys.length = 12) (hb : bs.length = 12) (hF : ∀ (i : Nat) (y : Str) (b : Bool), ys[i]? = some y → bs[i]? = some b → IsF X D y b)
    (hsp : (Txt.split ws " ").length = 12) (hws : ws.length ≤ 1000) (hj : ((keepT ((Txt.split ws " ").zip bs)).map (·.length)).sum + (keepT ((Txt.split ws " ").zip bs)).length * (" " : Str).length ≤ 16777216) (hr : Txt.join " " (keepT ((Txt.split ws " ").zip bs)) = r) :
    PSs X body (fun E σ H => σ.length = 5 ∧ σ[0]? = some (some (.ref x1)) ∧ ∀ H', Grow H H' → E.rt (.str r) H') := by
  match ys, hy with
  | [y1, y2, y3, y4, y5, y6, y7, y8, y9, y10, y11, y12], _ =>
  match bs, hb with
  | [b1, b2, b3, b4, b5, b6, b7, b8, b9, b10, b11, b12], _ =>
  unfold chkNamed at h
  split at h
  · rename_i s1 _ l1 _ s2 _ s3 _ l2 _ _ s4 _ s5 _ l3 _ _ s6 _ s7 _ l4 _ _ w1 _ ws' _ _ _ j1 _ _ m1 ap1 v1 _ v2 _ g1 _ _ _ z _ w2 _ m2 ap2 j2 _ _ cp2 s8 _ _ g2 _ scope _ cp1 _
    simp only [List.all_cons, List.all_nil, Bool.and_true, Bool.and_eq_true, decide_eq_true_eq] at h
    obtain ⟨⟨e1, e2, e3, e4, e5, e6, e7, e8⟩, ⟨e9, e10⟩, ⟨e11, e12⟩, ⟨e13, e14⟩, e15, e16, e17, ⟨e18, e19⟩, e20, k1, k2, t1, t2, t3, t4, hbl, how⟩ := h
    subst e1 e2 e3 e4 e5 e6 e7 e8 e9 e10 e11 e12 e13 e14 e15 e16 e17 e18 e19 e20
    have T1 := pe_three O t1 (hF 0 _ _ rfl rfl) (hF 1 _ _ rfl rfl) (hF 2 _ _ rfl rfl)
    have T2 := pe_three O t2 (hF 3 _ _ rfl rfl) (hF 4 _ _ rfl rfl) (hF 5 _ _ rfl rfl)
    have T3 := pe_three O t3 (hF 6 _ _ rfl rfl) (hF 7 _ _ rfl rfl) (hF 8 _ _ rfl rfl)
    have T4 := pe_three O t4 (hF 9 _ _ rfl rfl) (hF 10 _ _ rfl rfl) (hF 11 _ _ rfl rfl)
    have nS : X.N[1]? = some ("some" : Str) := by rw [O.N]; rfl
    have nW : X.N[2]? = some ("words" : Str) := by rw [O.N]; rfl
    have nWd : X.N[3]? = some ("word" : Str) := by rw [O.N]; rfl
    have nG : X.N[4]? = some ("good" : Str) := by rw [O.N]; rfl
    have lS : Loc X.env.scope "some" := .inl (O.loc _ (by decide) (by decide) (by decide))
    have lW : Loc X.env.scope "words" := .inl (O.loc _ (by decide) (by decide) (by decide))
    have vS : ∀ p, PE X (.Name "some" p) (tVar 1) := fun p => O.var (i := 1) rfl (by decide) (by decide) (by decide) (by decide)
    have vW : ∀ p, PE X (.Name "words" p) (tVar 2) := fun p => O.var (i := 2) rfl (by decide) (by decide) (by decide) (by decide)
    obtain ⟨o1, o2⟩ := own_loc (sc := X.env.scope) how (y := "word") (i := 3) (by decide)
    obtain ⟨o3, o4⟩ := own_loc (sc := X.env.scope) how (y := "good") (i := 4) (by decide)
    have vis : ∀ {y : Str}, Loc (relS scope X.env.scope) y → Vis (relS scope X.env.scope) y := fun {y} hy => hy.elim .inl fun q => .inr (.inl q)
    have hz : ∀ (s : Shared) (H : Hp) (C : Addr) (cl : List (Str × Addr)) (fp : List Addr), HotIn (X.blk s H scope (compEnvC scope cl C X.env) fp) x1 → ∀ (p1 p2 p3 : Pos) (kk : Nat), PG (X.blk s H scope (compEnvC scope cl C X.env) fp) (.Tuple [.Name "word" p1, .Name "good" p2] kk p3) (gPair X.K) := fun s H C cl fp hot' p1 p2 p3 kk =>
      pg_tupQ hot' (pgs_cons (pg_name (X := X.blk s H scope (compEnvC scope cl C X.env) fp) O.nd nWd o1 o2) (pgs_cons (pg_name (X := X.blk s H scope (compEnvC scope cl C X.env) fp) O.nd nG o3 o4) pgs_nil))
    have jq := fun (ap cp : Pos) (q : (ap.endLine == cp.line) = true) => q
    refine pss_imp (pss_cons (ps_set (i := 1) O.nd nS lS T1 (three_set t1) (.inl (O.fn _))) (pss_cons (ps_set (i := 1) O.nd nS lS (pe_op op_cat (vS _) T2) rfl (.inl (O.fn _))) (pss_cons (ps_set (i := 1) O.nd nS lS (pe_op op_cat (vS _) T3) rfl (.inl (O.fn _)))
      (pss_cons (ps_set (i := 1) O.nd nS lS (pe_op op_cat (vS _) T4) rfl (.inl (O.fn _))) (pss_cons (ps_set (i := 2) O.nd nW lW pe_str rfl (.inl (O.fn _))) (pss_one (ps_ret (pe_join pe_str
        (pe_lcQ (own := ownN) O.hot O.nd (pi_zipQ O.hot O.gz O.mz (pa_cons (pe_split (vW _) pe_str rfl rfl k2) (pa_cons (vS _) pa_nil))) (blkOk_by (by rw [O.N]; exact hbl)) (fun s H C cl fp hot' => hz s H C cl fp hot' _ _ _ _)
          (fun s H C cl fp => pts_one (pt_val (pe_var (X := X.blk s H scope (compEnvC scope cl C X.env) fp) nG (vis o3)))) (fun s H C cl fp => pe_var (X := X.blk s H scope (compEnvC scope cl C X.env) fp) nWd (vis o1))) rfl rfl k1)))))))) fun E σ H q => ?_
    obtain ⟨hl, h0, hq⟩ := q
    have up : ∀ {τ : L2.St} {v : V} {i : Nat}, τ.length = 5 → i < 5 → (τ.set i (some v))[i]? = some (some v) := fun {τ v i} h hi => List.getElem?_set_self (by omega)
    have st : ∀ {τ : L2.St} {v : V} {i j : Nat}, i ≠ j → (τ.set i (some v))[j]? = τ[j]? := fun {τ v i j} h => List.getElem?_set_ne h
    refine ⟨h0, fun p1 hp1 => ?_⟩
    have l1 : (σ.set 1 (some (.ref p1))).length = 5 := by rw [List.length_set]; exact hl
    have z1 : (σ.set 1 (some (.ref p1)))[0]? = some (some (.ref x1)) := (st (by decide)).trans h0
    refine cat_step z1 (up hl (by decide)) upd_same (Nat.le_of_ble_eq_true rfl) fun p2 H2 g2 e2 => ?_
    generalize σ.set 1 (some (.ref p1)) = σ1 at l1 z1
    have l2 : (σ1.set 1 (some (.ref p2))).length = 5 := by rw [List.length_set]; exact l1
    have z2 : (σ1.set 1 (some (.ref p2)))[0]? = some (some (.ref x1)) := (st (by decide)).trans z1
    refine cat_step z2 (up l1 (by decide)) e2 (Nat.le_of_ble_eq_true rfl) fun p3 H3 g3 e3 => ?_
    generalize σ1.set 1 (some (.ref p2)) = σ2 at l2 z2
    have l3 : (σ2.set 1 (some (.ref p3))).length = 5 := by rw [List.length_set]; exact l2
    have z3 : (σ2.set 1 (some (.ref p3)))[0]? = some (some (.ref x1)) := (st (by decide)).trans z2
    refine cat_step z3 (up l2 (by decide)) e3 (Nat.le_of_ble_eq_true rfl) fun p4 H4 g4 e4 => ?_
    generalize σ2.set 1 (some (.ref p3)) = σ3 at l3 z3
    have gr4 : Grow H H4 := (Grow.upd hp1).trans (g2.trans (g3.trans g4))
    -- the words
    have l4 : (σ3.set 1 (some (.ref p4))).length = 5 := by rw [List.length_set]; exact l3
    have w1 : (σ3.set 1 (some (.ref p4)))[1]? = some (some (.ref p4)) := up l3 (by decide)
    have l5 : ((σ3.set 1 (some (.ref p4))).set 2 (some (.str ws))).length = 5 := by rw [List.length_set]; exact l4
    have w2 : ((σ3.set 1 (some (.ref p4))).set 2 (some (.str ws)))[1]? = some (some (.ref p4)) := (st (by decide)).trans w1
    have w3 : ((σ3.set 1 (some (.ref p4))).set 2 (some (.str ws)))[2]? = some (some (.str ws)) := up l4 (by decide)
    refine ⟨⟨_, rfl⟩, .str ws, w3, ⟨_, rfl⟩, ws, " ", rfl, rfl, by decide, ?_, fun p5 hp5 => ?_⟩
    · have h3 : sizeLine = 16777216 := by rw [sizeLine_eq]
      omega
    refine ⟨.ref p4, w2, p5, p4, _, _, rfl, SqL.of upd_same, SqL.of (by rw [upd_ne (ne_of_none e4 hp5)]; exact e4), fun q0 hq0 => ?_⟩
    have hb12 : ((Txt.split ws " ").zip [b1, b2, b3, b4, b5, b6, b7, b8, b9, b10, b11, b12]).length = 12 := by rw [List.length_zip, hsp]; rfl
    have f1 : ((Txt.split ws " ").zip [b1, b2, b3, b4, b5, b6, b7, b8, b9, b10, b11, b12]).map (·.1) = Txt.split ws " " := by
      exact List.map_fst_zip (by rw [hsp]; exact Nat.le_refl 12)
    have f2 : ((Txt.split ws " ").zip [b1, b2, b3, b4, b5, b6, b7, b8, b9, b10, b11, b12]).map (·.2) = [b1, b2, b3, b4, b5, b6, b7, b8, b9, b10, b11, b12] := by
      exact List.map_snd_zip (by rw [hsp]; exact Nat.le_refl 12)
    refine names_loop (K := X.K) (Q := fun y H2 => ∃ (a : Str) (p : Addr) (ys : List Str), V.str (" " : Str) = V.str a ∧ [y] = [V.ref p] ∧ (SqL X.K H2 p (ys.map V.str) ∨ SqT X.K H2 p (ys.map V.str)) ∧ (ys.map (·.length)).sum + ys.length * a.length ≤ 16777216 ∧ E.rt (.str (Txt.join a ys)) H2) (zs := (Txt.split ws " ").zip [b1, b2, b3, b4, b5, b6, b7, b8, b9, b10, b11, b12]) l5 (by rw [f1]; exact upd_same) (by rw [f2, upd_ne (ne_of_none e4 hp5)]; exact e4) hq0 (by omega) fun H' gr' hD => ?_
    refine ⟨" ", q0, keepT ((Txt.split ws " ").zip [b1, b2, b3, b4, b5, b6, b7, b8, b9, b10, b11, b12]), rfl, rfl, .inl (SqL.of hD), hj, ?_⟩
    rw [hr]
    exact hq H' (gr4.trans ((Grow.upd hp5).trans gr'))
  · cases h
end
end Pf

end
section
set_option maxHeartbeats 2000000
/-! Snd20: _law_named_error called by the suite that holds the error; _law_error, _law_told. -/
namespace Pf
open PySem PySem.Spec PyProof.Rows L2 HotX
/-- what a class's name says of the exception's class, told of the module -/
def IsK (K : PySem.W.Frag) (mg : Str → Option Value) (sg : Scope) (D : Addr) (y : Str) (b : Bool) : Prop :=
  sg.names.lookup y = some .globalImplicit ∧ (y == ("__debug__" : Str)) = false ∧ ((∃ C, mg y = some (.ref C) ∧ PySem.W.kitOne K (.ref D) (.ref C) = some b) ∨
    (mg y = none ∧ y ≠ "__name__" ∧ ∃ n, bootBuiltins y = some (.type n) ∧ PySem.W.kitOne K (.ref D) (.type n) = some b))
theorem IsK.isF {X : Cx} {D : Addr} {y : Str} {b : Bool} {sg : Scope} (h : IsK X.K X.mg sg D y b) (hs : X.env.scope = sg) : IsF X D y b := by
  obtain ⟨h1, h2, h3⟩ := h
  have g : Gl X y := by
    show X.env.scope.names.lookup y = _
    rw [hs]
    exact h1
  rcases h3 with ⟨C, h4, h5⟩ | ⟨h4, h5, n, h6, h7⟩
  · exact ⟨.ref C, .ref C, fun p => pe_glob g h4 rfl h2, fun u hu => hu, h5⟩
  · exact ⟨.ty n, .type n, fun p => pe_bltn g h4 h6 rfl h5 h2, fun u hu => hu, h7⟩
/-- the def _law_named_error, as it stands -/
structure NamedD (K : PySem.W.Frag) (mg : Str → Option Value) (g : Addr) (x : Str) (ys : List Str) (ws : Str) : Prop where
  ex : ∃ (pg : Arguments) (bg : List Stmt) (sg : Scope) (fd : FuncData), FunD K x x pg bg sg [] [] g fd ∧ chkNamed sg bg ys ws = true ∧ FnScope Nn ["e"] sg ∧ L2.Binds K fd ["e"] [] ∧ (∀ x ∈ Nn, x ≠ "word" → x ≠ "good" → sg.names.lookup x = some .local) ∧
    sg.names.lookup ("isinstance" : Str) = some .globalImplicit ∧ sg.names.lookup ("zip" : Str) = some .globalImplicit ∧ (∀ y ∈ ys, sg.names.lookup y = some .globalImplicit)
  ly : ys.length = 12
  hsp : (Txt.split ws " ").length = 12
  hws : ws.length ≤ 1000
  gm : mg x = some (.ref g)
  mi : mg "isinstance" = none
  mz : mg "zip" = none
/-- what it says of an exception of the class D -/
structure NamedR (K : PySem.W.Frag) (mg : Str → Option Value) (D : Addr) (ys : List Str) (ws r : Str) : Prop where
  C : ExcC K D
  ex : ∃ bs : List Bool, bs.length = 12 ∧ (∀ (i : Nat) (y : Str) (b : Bool), ys[i]? = some y → bs[i]? = some b → (y == ("__debug__" : Str)) = false ∧ ((∃ C, mg y = some (.ref C) ∧ PySem.W.kitOne K (.ref D) (.ref C) = some b) ∨
      (mg y = none ∧ y ≠ "__name__" ∧ ∃ n, bootBuiltins y = some (.type n) ∧ PySem.W.kitOne K (.ref D) (.type n) = some b))) ∧
    ((keepT ((Txt.split ws " ").zip bs)).map (·.length)).sum + (keepT ((Txt.split ws " ").zip bs)).length * (" " : Str).length ≤ 16777216 ∧ Txt.join " " (keepT ((Txt.split ws " ").zip bs)) = r
theorem pe_named {X : Cx} {a D g : Addr} {oe : Obj} {x en : Str} {ys : List Str} {ws r : Str} {i k : Nat} {p p2 pos : Pos} (hh : X.A.handled = some (.ref a)) (hp : (a, oe) ∈ X.pn) (hz : L2N.Zn (.ref D) none oe) (hf : ∃ vs, oe.data = .fields vs) (hr : L2H.RoomH (k + 1) X.A)
    (M : NamedD X.K X.mg g x ys ws) (R : NamedR X.K X.mg D ys ws r) (hg : Gl X x) (hdb : (x == ("__debug__" : Str)) = false) (he : ∀ p, PE X (.Name en p) (tVar i)) :
    PE X (.Call (.Name x p) [.Name en p2] [] pos) (fun σ H Q => σ[i]? = some (some (.ref a)) ∧ ∀ H', Grow H H' → Q (.str r) H') := by
  refine ⟨fun pins s σ H Q I h => ?_⟩
  obtain ⟨h0, hq⟩ := h
  obtain ⟨pg, bg, sg, fd, F, hchk, S, hb, hloc, gi, gz, gy⟩ := M.ex
  refine wpAny_Call_Name_kw (ld_glob I hg M.gm ?_ hdb)
  refine PySem.W.callWith_K (h₀ := X.base) I.ok.mod.kin F.kp ?_ (by rfl) (by rfl)
  show wpAny _ _ (spliced ((false, eval (.Name en p2) X.env) :: backTo pos (starEach [] X.env))) _ _ s
  refine Calls.spliced_cons (thn ((he p2).run pins s σ H (fun v H1 => v = .ref a ∧ H1 = H) I ⟨.ref a, h0, rfl, rfl⟩) fun u s1 ⟨v, H1, I1, r1, q1⟩ => ?_)
  obtain ⟨ev, eH⟩ := q1
  subst ev
  subst eH
  obtain rfl : u = Value.ref a := r1
  refine Calls.spliced_nil ⟨I1.kIn, ?_⟩
  obtain ⟨P1, P2, P3, P4, P5⟩ := I1.pin (a, oe) (List.mem_append_left _ hp)
  have hpin : L2H.PinOk X.stack H1 s1 (a, oe) := ⟨P1, P2, fun hm => (List.mem_cons.mp (I1.stkSub a hm)).elim P3 P4, P5⟩
  obtain ⟨oc, od, dV, kV, doc, pm, an, cdv, ct, osl, rfl, lk, hcd, _, _⟩ := F.ex
  have e0 := I1.env0
  have KX : X.K.In s1.heap := I1.kIn
  have lim : s1.heap.NoLimit := I1.nolimit
  have hkind : ∀ y ∈ (["e"] : List Str).zip [Value.ref a], sg.names.lookup y.1 = some .local ∨ (sg.names.lookup y.1 = some .cell ∧ ((cellsFrom (s1.heap.objs.size + 1) sg.names []).lookup y.1).isSome = true) := fun ⟨n, v⟩ hy => by
    rcases S.par n (List.of_mem_zip hy).1 with q | q
    · exact .inl q
    · exact .inr ⟨q, PySem.W.cellsFrom_some _ _ _ (.inl q)⟩
  have rc : codeAny (model X.prog X.w) X.A (.call (.ref g) ⟨[.ref a], []⟩) (CR C8.CX0 X.stack X.prog X.w H1 s1 Q C8.E0) s1 := by
    refine codeAny_call_function hr.depth (KX _ _ lk) rfl S.co S.gen rfl (PySem.W.codeRec_of KX hcd) (hb s1 [.ref a] KX rfl _ _ _ _ ?_)
    refine wpAny_newFunctionEnv_cells S.kind hkind fun env he s2 xx => ?_
    subst he
    refine ⟨lim.keeps xx.toInCall.keep, codeAny_func ?_⟩
    have J : Inv (L2H.cxH C8.CX0 X.prog X.w X.K X.mg X.base Nn x sg g cdv X.A X.stack s1 H1 C8.E0 (a, oe)) [] (L2.start Nn [.ref a]) H1 s2 := L2H.inv_startH S hpin e0 rfl (.cons rfl .nil) xx
    obtain ⟨vs, hv⟩ := hf
    have hot : HotIn (L2H.cxH C8.CX0 X.prog X.w X.K X.mg X.base Nn x sg g cdv X.A X.stack s1 H1 C8.E0 (a, oe)) a := by
      refine HotIn.mk ?_ ?_ ?_ ?_ ?_
      · exact hh
      · exact ⟨oe, vs, P1, hv, hz.2.2 vs hv⟩
      · exact P2
      · exact hpin.nofs
      · exact fun z => nomatch (show a ∈ ([] : List Addr) from z)
    have O : NmX (L2H.cxH C8.CX0 X.prog X.w X.K X.mg X.base Nn x sg g cdv X.A X.stack s1 H1 C8.E0 (a, oe)) a D :=
      { hot := hot, C := R.C, cl := ⟨oe, vs, P1, hz.1, hz.2.1, hv⟩, N := rfl, fn := fun _ => rfl, loc := hloc, gi := gi, gz := gz, mi := M.mi, mz := M.mz }
    obtain ⟨bs, b1, b2, b3, b4⟩ := R.ex
    have W := named_walk O (r := r) hchk M.ly b1 (fun i y b h1 h2 => IsK.isF (sg := sg) ⟨gy y (List.mem_of_getElem? h1), (b2 i y b h1 h2).1, (b2 i y b h1 h2).2⟩ rfl) M.hsp M.hws b3 b4
    refine wpAny_mono (W.run [] s2 _ H1 { nx := fun _ H' => Q .non H', rt := Q } J ⟨rfl, rfl, hq⟩) (fun fl s' hs => ?_) fun e s' hs => hs
    cases fl with
    | ret u =>
      obtain ⟨v, σ', H', J', rv, q⟩ := hs
      exact ⟨v, H', J'.os, J'.bare, J'.base, J'.hok, rv, q⟩
    | next =>
      obtain ⟨σ', H', J', q⟩ := hs
      exact ⟨V.non, H', J'.os, J'.bare, J'.base, J'.hok, rfl, q⟩
    | brk =>
      obtain ⟨_, _, _, q⟩ := hs
      exact False.elim q
    | cont =>
      obtain ⟨_, _, _, q⟩ := hs
      exact False.elim q
  refine wpAny_call (codeAny_mono rc fun r s2 hq => ?_)
  cases r with
  | error e => exact (show False from hq).elim
  | ok fl =>
    cases fl with
    | ret u => exact I1.after hq
    | next => exact False.elim hq
    | brk => exact False.elim hq
    | cont => exact False.elim hq
end Pf

end
section
set_option maxHeartbeats 2000000
/-! Snd21: _law_error(lambda: ..), _law_told(lambda: ..). -/
namespace Pf
open PySem PySem.Spec PyProof.Rows L2 HotX LamX
def Nc : List Str := ["call", "e"]
def chkErr (told : Bool) (bg : List Stmt) : Bool := match told, bg with
  | false, [.Try [.Expr (.Call (.Name a _) [] [] _) _] [.ExceptHandler (some (.Name b _)) (some e) [.Return (some (.Call (.Name n _) [.Name e2 _] [] _)) _] _] [] [] _, .Return (some (.Constant (.str z) _ _)) _] =>
    decide (a = "call") && (decide (b = "BiasError") && (decide (e = "e") && (decide (e2 = "e") && (decide (n = "_law_named_error") && decide (z = "")))))
  | true, [.Try [.Return (some (.Tuple [.Call (.Name a _) [] [] _, .Constant (.str z) _ _] _ _)) _] [.ExceptHandler (some (.Name b _)) (some e) [.Return (some (.Tuple [.Constant .none _ _, .Call (.Name n _) [.Name e2 _] [] _] _ _)) _] _] [] [] _] =>
    decide (a = "call") && (decide (b = "BiasError") && (decide (e = "e") && (decide (e2 = "e") && (decide (n = "_law_named_error") && decide (z = "")))))
  | _, _ => false
/-- what is made of the lambda's reading -/
def TErr (K : PySem.W.Frag) (mg : Str → Option Value) (CS : Addr) (ys : List Str) (ws : Str) (told : Bool) : (XK → Hp → VK → Prop) → Hp → VK → Prop := fun tl H Q =>
  tl (fun cls d H' => ∃ (D : Addr) (r : Str), cls = .ref D ∧ d = none ∧ PySem.W.exmOne K (.ref D) (.ref CS) = some true ∧ NamedR K mg D ys ws r ∧ ∀ H'', Grow H' H'' → (match told with
      | false => Q (.str r) H''
      | true => ∀ p, H'' p = none → Q (.ref p) (upd H'' p (.tup [.non, .str r])))) H
    (fun v H' => match told with
      | false => Q (.str "") H'
      | true => ([v, .str ""] : List V).length ≤ sizeLine ∧ ∀ p, H' p = none → Q (.ref p) (upd H' p (.tup [v, .str ""])))
theorem takesN0 {X : Cx} : L2N.Takes X (fun _ _ _ _ => False) := fun _ _ x => by
  obtain ⟨_, _, _, _, _, _, _, _, _, _, _, _, _, _, _, _, z⟩ := x
  exact z.elim
theorem err_gives {X : Cx} {k : Nat} {told : Bool} {x q : Str} {sg : Scope} {g gN CS : Addr} {cdg : Value} {bg : List Stmt} {ys : List Str} {ws : Str} (hb : chkErr told bg = true) (l1 : sg.names.lookup ("call" : Str) = some .local) (l2 : sg.names.lookup ("e" : Str) = some .local)
    (l3 : sg.names.lookup ("BiasError" : Str) = some .globalImplicit) (l4 : sg.names.lookup ("_law_named_error" : Str) = some .globalImplicit) (hm : X.mg "BiasError" = some (.ref CS)) (M : NamedD X.K X.mg gN "_law_named_error" ys ws) :
    GivesToN k X Nc x sg g cdg bg "call" q (TErr X.K X.mg CS ys ws told) := by
  intro f c' s H Q tl hr act hc h
  have hN : Nc.Nodup := by decide +kernel
  have rH : L2H.RoomH (k + 1) (X.A.deeper (envOfC x sg s.heap.objs.size g cdg)) := ⟨hr.dp, hr.un⟩
  have suiteNamed : ∀ (a : Addr) (oe : Obj) (D : Addr) (r : Str) (pn : List (Addr × Obj)) (p p2 pos : Pos), L2N.Zn (.ref D) none oe → (∃ vs, oe.data = .fields vs) → NamedR X.K X.mg D ys ws r →
      PE (((cxOf C8.CX0 X.prog X.w X.K X.mg X.base Nc x sg g cdg X.A X.stack s H C8.E0).nox).suite a ((a, oe) :: pn)) (.Call (.Name "_law_named_error" p) [.Name "e" p2] [] pos) (fun σ H Q => σ[1]? = some (some (.ref a)) ∧ ∀ H', Grow H H' → Q (.str r) H') := fun a oe D r pn p p2 pos hz hv R =>
    pe_named (i := 1) (k := k) rfl List.mem_cons_self hz hv ⟨rH.dp, rH.un⟩ M R l4 (by decide) fun p => pe_var (X := ((cxOf C8.CX0 X.prog X.w X.K X.mg X.base Nc x sg g cdg X.A X.stack s H C8.E0).nox).suite a ((a, oe) :: pn)) rfl (.inl l2)
  cases told with
  | false =>
    unfold chkErr at hb
    split at hb
    · rename_i a _ _ _ b _ e n _ e2 _ _ _ _ _ z _ _ _
      simp only [Bool.and_eq_true, decide_eq_true_eq] at hb
      obtain ⟨h1, h2, h3, h4, h5, h6⟩ := hb
      subst h1 h2 h3 h4 h5 h6
      refine ⟨_, pss_cons (L2N.ps_try_as (X := (cxOf C8.CX0 X.prog X.w X.K X.mg X.base Nc x sg g cdg X.A X.stack s H C8.E0).nox) (c := .ref CS) (i := 1)
        (tb := fun W E σ H => ∃ Ech : XK, (∀ cls d σ' H', Ech cls d H' → W cls d σ' H') ∧ σ[0]? = some (some (.ref f)) ∧ H c' = some (CodeO c' q) ∧ tl Ech H (fun _ H' => E.nx σ H'))
        (ts := fun a cls d E σ H => σ.length = 2 → ∃ (D : Addr) (r : Str), cls = .ref D ∧ d = none ∧ NamedR X.K X.mg D ys ws r ∧ σ[1]? = some (some (.ref a)) ∧ ∀ H', Grow H H' → E.rt (.str r) H')
        rfl rfl hN rfl l2 ⟨l3, by decide, .inl hm⟩ takesN0 (fun W pn xe tk _ => ?_) (fun a oe cls d pn hz hv => ?_)) (pss_one (ps_ret pe_str)), ?_⟩
      · refine ⟨fun pins s' σ H' E I h' => ?_⟩
        obtain ⟨Ech, hW, k1, k2, k3⟩ := h'
        exact (pss_one (ps_expr (act W pn xe Ech _ _ tk hW))).run pins s' σ H' E I ⟨k1, k2, k3⟩
      · refine ⟨fun pins s' σ H' E I h' => ?_⟩
        obtain ⟨D, r, e1, e2, R, k1, k2⟩ := h' I.len
        subst e1 e2
        exact (pss_one (ps_ret (suiteNamed a oe D r pn _ _ _ hz hv R))).run pins s' σ H' E I ⟨k1, k2⟩
      · refine ⟨_, fun cls d σ' H' q => ?_, rfl, hc, h⟩
        obtain ⟨D, r, e1, e2, e3, R, k1⟩ := q
        subst e1 e2
        exact ⟨true, e3, fun _ a ha hl => ⟨D, r, rfl, rfl, R, List.getElem?_set_self (by rw [List.length_set] at hl; omega), k1⟩, fun z => by cases z⟩
    · contradiction
    · cases hb
  | true =>
    unfold chkErr at hb
    split at hb
    · contradiction
    · rename_i a _ _ z _ _ _ _ _ b _ e _ _ n _ e2 _ _ _ _ _ _ _ _
      simp only [Bool.and_eq_true, decide_eq_true_eq] at hb
      obtain ⟨h1, h2, h3, h4, h5, h6⟩ := hb
      subst h1 h2 h3 h4 h5 h6
      refine ⟨_, pss_one (L2N.ps_try_as (X := (cxOf C8.CX0 X.prog X.w X.K X.mg X.base Nc x sg g cdg X.A X.stack s H C8.E0).nox) (c := .ref CS) (i := 1)
        (tb := fun W E σ H => ∃ Ech : XK, (∀ cls d σ' H', Ech cls d H' → W cls d σ' H') ∧ σ[0]? = some (some (.ref f)) ∧ H c' = some (CodeO c' q) ∧ tl Ech H (fun v H' => ([v, .str ""] : List V).length ≤ sizeLine ∧ ∀ p, H' p = none → E.rt (.ref p) (upd H' p (.tup [v, .str ""]))))
        (ts := fun a cls d E σ H => σ.length = 2 → ∃ (D : Addr) (r : Str), cls = .ref D ∧ d = none ∧ NamedR X.K X.mg D ys ws r ∧ σ[1]? = some (some (.ref a)) ∧ ∀ H', Grow H H' → ∀ p, H' p = none → E.rt (.ref p) (upd H' p (.tup [.non, .str r])))
        rfl rfl hN rfl l2 ⟨l3, by decide, .inl hm⟩ takesN0 (fun W pn xe tk _ => ?_) (fun a oe cls d pn hz hv => ?_)), ?_⟩
      · refine ⟨fun pins s' σ H' E I h' => ?_⟩
        obtain ⟨Ech, hW, k1, k2, k3⟩ := h'
        exact (pss_one (ps_ret (pe_tup (pa_cons (act W pn xe Ech _ _ tk hW) (pa_cons pe_str pa_nil))))).run pins s' σ H' E I ⟨k1, k2, k3⟩
      · refine ⟨fun pins s' σ H' E I h' => ?_⟩
        obtain ⟨D, r, e1, e2, R, k1, k2⟩ := h' I.len
        subst e1 e2
        exact (pss_one (ps_ret (pe_tup (pa_cons pe_non (pa_cons (suiteNamed a oe D r pn _ _ _ hz hv R) pa_nil))))).run pins s' σ H' E I ⟨k1, fun H'' gr => ⟨by show 2 ≤ sizeLine; rw [sizeLine_eq]; omega, k2 H'' gr⟩⟩
      · refine ⟨_, fun cls d σ' H' q => ?_, rfl, hc, h⟩
        obtain ⟨D, r, e1, e2, e3, R, k1⟩ := q
        subst e1 e2
        exact ⟨true, e3, fun _ a ha hl => ⟨D, r, rfl, rfl, R, List.getElem?_set_self (by rw [List.length_set] at hl; omega), k1⟩, fun z => by cases z⟩
    · cases hb
/-- what a lambda leans on -/
structure LamW (T : TT) (told : Bool) : Prop where
  ex : ∃ (gN CS g : Addr) (ys : List Str) (ws : Str) (pg : Arguments) (bg : List Stmt) (sg : Scope) (fd : FuncData), NamedD T.K T.mg gN "_law_named_error" ys ws ∧ T.mg "BiasError" = some (.ref CS) ∧
    (∀ (c : Nat) (s : List Nat), T.G.errs[c]? = some s → PySem.W.exmOne T.K (.ref (T.cls c)) (.ref CS) = some true ∧ NamedR T.K T.mg (T.cls c) ys ws (toS s)) ∧
    T.mg (lamName told) = some (.ref g) ∧ FunD T.K (lamName told) (lamName told) pg bg sg [] [] g fd ∧ chkErr told bg = true ∧ FnScope Nc ["call"] sg ∧ L2.Binds T.K fd ["call"] [] ∧
    sg.names.lookup ("call" : Str) = some .local ∧ sg.names.lookup ("e" : Str) = some .local ∧ sg.names.lookup ("BiasError" : Str) = some .globalImplicit ∧ sg.names.lookup ("_law_named_error" : Str) = some .globalImplicit
section
variable {T : TT} {X : Cx} {W : WX} {g : Gh} {S : Store} {H : Hp} {σ : L2.St} {k : Nat} {c : CC} {e : Env}
theorem Lies.extN {H' : Hp} (L : Lies T g S H) (x : ExtN H H') (t : Tabs T.tabs H') : Lies T g S H' := by
  refine ⟨fun a o e => ⟨x a o (L.f a o e).1 (L.f a o e).2, (L.f a o e).2⟩, fun a o e => ⟨x a o (L.r a o e).1 (L.r a o e).2, (L.r a o e).2⟩, L.fr, L.len, fun n a c e1 e2 hd => ?_, L.nd, t⟩
  obtain ⟨h1, h2, h3⟩ := L.cell n a c e1 e2 hd
  exact ⟨h1, h2, h3.mono (g' := g) (fun _ _ e => e) fun xs q => x a _ q (by intro ps z; cases z)⟩
theorem Lies.grow {H' : Hp} (L : Lies T g S H) (x : Grow H H') : Lies T g S H' := L.extN (ExtN.of x) (L.tabs.ext x)
def lamM (T : TT) (told : Bool) (mL : Env → Store → Res D) : Env → Store → Res D := fun σ S => match mL σ S with
  | .ok d S1 => (match told with
    | true => .ok (.tup [d, .str []]) S1
    | false => .ok (.str []) S1)
  | .exc c S1 => (match T.G.errs[c]? with
    | some s => (match told with
      | true => .ok (.tup [.non, .str s]) S1
      | false => .ok (.str s) S1)
    | none => .bad)
  | .bad => .bad
theorem toS_nil : toS [] = ("" : Str) := by decide +kernel
theorem lam_read {told : Bool} {CS : Addr} {ys : List Str} {ws : Str} {mL : Env → Store → Res D} {Q : VK} (hE : ∀ (c : Nat) (s : List Nat), T.G.errs[c]? = some s → PySem.W.exmOne T.K (.ref (T.cls c)) (.ref CS) = some true ∧ NamedR T.K T.mg (T.cls c) ys ws (toS s)) (q : tE T W (lamM T told mL) σ H Q) :
    tLam T.tabs (TErr T.K T.mg CS ys ws told) (fun E => tE T (fun cls d _ H => E cls d H) mL) σ H Q := by
  obtain ⟨g, e, S, L, r, p⟩ := q
  refine ⟨L.tabs, fun H1 eN hT1 => ?_⟩
  refine ⟨g, e, S, L.extN eN hT1, r, ?_⟩
  unfold lamM at p
  cases hm : mL e S with
  | bad =>
    rw [hm] at p
    exact p.elim
  | ok d S1 =>
    rw [hm] at p
    intro g' H' v l L' rv
    cases told with
    | false =>
      have z := p g' H' _ l L' (.str [])
      rw [toS_nil] at z
      exact z
    | true =>
      refine ⟨by show 2 ≤ sizeLine; rw [sizeLine_eq]; omega, fun q0 hq => ?_⟩
      have l2 : Le g' (g'.addF q0 (.tup [v, .str ""])) := Le.addF (L'.ne hq).1
      have z : RV T.K (g'.addF q0 (.tup [v, .str ""])) (.str (toS [])) (.str []) := .str []
      rw [toS_nil] at z
      exact p _ _ _ (l.trans l2) (L'.newF hq (by intro ps z; cases z)) (.tup sqt_upd (.cons (rv.mono l2) (.cons z .nil)))
  | exc c S1 =>
    rw [hm] at p
    dsimp only at p
    cases he : T.G.errs[c]? with
    | none =>
      rw [he] at p
      exact p.elim
    | some s =>
      rw [he] at p
      intro g' H' l L'
      obtain ⟨h1, h2⟩ := hE c s he
      refine ⟨T.cls c, toS s, rfl, rfl, h1, h2, fun H'' gr => ?_⟩
      have L2' := L'.grow gr
      cases told with
      | false => exact p g' H'' _ l L2' (.str s)
      | true =>
        intro q0 hq
        have l2 : Le g' (g'.addF q0 (.tup [.non, .str (toS s)])) := Le.addF (L2'.ne hq).1
        exact p _ _ _ (l.trans l2) (L2'.newF hq (by intro ps z; cases z)) (.tup sqt_upd (.cons .non (.cons (.str s) .nil)))
theorem c_lam {k0 : Nat} (O : XOk T (k0 + 2) c X W) (hl : c.lam = true) (LW : LamW T c.told) {x : Str} {scope : Scope} {body : Expr} {mL : Env → Store → Res D} {p lpos pos : Pos} (hx : x = lamName c.told) (hg : c.gl x = true) (hls : lamSB c.sc scope = true)
    (hbody : ∀ X' W', XOk T k0 { c with sc := scope, asg := [], lam := false } X' W' → PE X' body (tE T W' mL)) :
    PE X (.Call (.Name x p) [.Lambda ⟨[], [], none, [], [], none, []⟩ body scope lpos] [] pos) (tE T W (lamM T c.told mL)) := by
  obtain ⟨gN, CS, g, ys, ws, pg, bg, sg, fd, M, hCS, hE, hgm, F, hchk, Sg, hb, l1, l2, l3, l4⟩ := LW.ex
  obtain ⟨cA, P, hcode, TB, hmT, hu⟩ := O.lam hl
  obtain ⟨g1, g2⟩ := O.gl hg
  have eP := O.eP
  have eW := O.eW
  have eK := O.eK
  have eM := O.eM
  have eB := O.eB
  subst hx
  obtain ⟨oc, od, dV, kV, doc, pm, an, cdv, ct, osl, rfl, lk, hcd, _, _⟩ := F.ex
  have LS : LamS X.env.scope scope := by rw [O.sc]; exact lamS_by hls
  refine pe_imp (pe_lamcallN (k := k0) (T := T.tabs) (TT := TErr T.K T.mg CS ys ws c.told) (Ng := Nc) (a := "call") (t := fun E => tE T (fun cls d _ H => E cls d H) mL) g1 (by rw [eM]; exact hgm) (by rw [eK]; exact F.kp) (by rw [eK]; exact lk) (by rw [eK]; exact hcd) (by rw [eK]; exact hb) Sg rfl (.inl l1)
    (by rw [← eK, ← eM]; exact err_gives hchk l1 l2 l3 l4 (by rw [eM]; exact hCS) (by rw [eK, eM]; exact M)) (by rw [eB, eM]; exact TB) hcode hmT hu O.room LS rfl (fun _ _ _ _ _ => rfl) (fun A outer s H E f c' hr => ?_) g2) fun σ H Q q => lam_read hE q
  refine hbody _ _ ⟨eP, eW, eK, eM, eB, O.N, O.nd, rfl, LS.kind, rfl, hr, L2N.takes_of rfl rfl rfl rfl, passes_of rfl, fun x hx => (by cases hx), fun h => (by cases h)⟩
end
end Pf

end
section
/-! Snd22: sorted. -/
namespace Pf
open PySem PySem.Spec PyProof.Rows L2
def tupD (t : List Int) : D := .tup (t.map .int)
theorem intAll_of : ∀ {xs : List D} {is : List Int}, intAll xs = some is → xs = is.map .int
  | [], is, h => by
    cases h
    rfl
  | x :: xs, is, h => by
    cases x <;> first | (cases h; done) | skip
    rename_i i
    have h : (intAll xs).map (i :: ·) = some is := h
    obtain ⟨js, h1, h2⟩ := Option.map_eq_some_iff.mp h
    rw [← h2, intAll_of h1]
    rfl
theorem tupInts_of : ∀ {xs : List D} {ts : List (List Int)}, tupInts xs = some ts → xs = ts.map tupD
  | [], ts, h => by
    cases h
    rfl
  | x :: xs, ts, h => by
    cases x <;> first | (cases h; done) | skip
    rename_i ys
    have h : (match intAll ys, tupInts xs with | some i, some t => some (i :: t) | _, _ => none) = some ts := h
    split at h
    · rename_i i t h1 h2
      cases h
      rw [intAll_of h1, tupInts_of h2]
      rfl
    · cases h
/-! ### order -/
abbrev Bk : Int := 1000
def Ok1 (d : Nat) (t : List Int) : Prop := t.length = d ∧ TS.Bd Bk t
theorem lt_code : ∀ {x y : List Int}, x.length = y.length → TS.Bd Bk x → TS.Bd Bk y → (ltInts x y = true ↔ TS.code Bk x < TS.code Bk y)
  | [], [], _, _, _ => by
    unfold ltInts
    constructor
    · intro h
      cases h
    · intro h
      exact absurd h (Int.lt_irrefl _)
  | a :: x, b :: y, hl, hx, hy => by
    have hl' : x.length = y.length := by simpa using hl
    have ih := lt_code hl' hx.tail hy.tail
    unfold ltInts
    by_cases e : a = b
    · subst e
      rw [if_pos rfl]
      exact ih.trans (TS.code_same hl').symm
    · rw [if_neg e, decide_eq_true_eq]
      constructor
      · exact fun h => TS.code_lt hl' hx.tail hy.tail h
      · intro h
        rcases Int.lt_trichotomy a b with z | z | z
        · exact z
        · exact absurd z e
        · have := TS.code_lt hl'.symm hy.tail hx.tail z
          omega
  | [], _ :: _, h, _, _ => by cases h
  | _ :: _, [], h, _, _ => by cases h
theorem code_anti : ∀ {x y : List Int}, x.length = y.length → TS.Bd Bk x → TS.Bd Bk y → TS.code Bk x = TS.code Bk y → x = y
  | [], [], _, _, _, _ => rfl
  | a :: x, b :: y, hl, hx, hy, h => by
    have hl' : x.length = y.length := by simpa using hl
    rcases Int.lt_trichotomy a b with z | z | z
    · have := TS.code_lt hl' hx.tail hy.tail z
      omega
    · subst z
      have q : a * Bk ^ x.length + TS.code Bk x = a * Bk ^ y.length + TS.code Bk y := h
      rw [hl'] at q
      rw [code_anti hl' hx.tail hy.tail (by omega)]
    · have := TS.code_lt hl'.symm hy.tail hx.tail z
      omega
  | [], _ :: _, h, _, _, _ => by cases h
  | _ :: _, [], h, _, _, _ => by cases h
theorem ins_perm (x : List Int) : ∀ ys, (insInts x ys).Perm (x :: ys)
  | [] => List.Perm.refl _
  | y :: ys => by
    unfold insInts
    split
    · exact List.Perm.refl _
    · exact ((ins_perm x ys).cons y).trans (List.Perm.swap x y ys)
theorem sort_perm : ∀ ts, (sortInts ts).Perm ts
  | [] => List.Perm.refl _
  | t :: ts => (ins_perm t (sortInts ts)).trans ((sort_perm ts).cons t)
abbrev leC (x y : List Int) : Prop := TS.code Bk x ≤ TS.code Bk y
theorem ins_sorted {d : Nat} {x : List Int} (hx : Ok1 d x) : ∀ {ys : List (List Int)}, (∀ y ∈ ys, Ok1 d y) → ys.Pairwise leC → (insInts x ys).Pairwise leC
  | [], _, _ => List.pairwise_singleton _ _
  | y :: ys, hy, hs => by
    have h1 := List.pairwise_cons.mp hs
    have oy := hy y List.mem_cons_self
    have lc := lt_code (hx.1.trans oy.1.symm) hx.2 oy.2
    unfold insInts
    cases q : ltInts x y with
    | true =>
      rw [if_pos rfl]
      have lt := lc.mp q
      refine List.pairwise_cons.mpr ⟨fun z hz => ?_, hs⟩
      rcases List.mem_cons.mp hz with e | hz
      · rw [e]
        exact Int.le_of_lt lt
      · exact Int.le_trans (Int.le_of_lt lt) (h1.1 z hz)
    | false =>
      rw [if_neg Bool.false_ne_true]
      have ge : TS.code Bk y ≤ TS.code Bk x := by
        rcases Int.lt_or_le (TS.code Bk x) (TS.code Bk y) with z | z
        · rw [lc.mpr z] at q
          cases q
        · exact z
      refine List.pairwise_cons.mpr ⟨fun z hz => ?_, ins_sorted hx (fun z hz => hy z (List.mem_cons_of_mem _ hz)) h1.2⟩
      rcases List.mem_cons.mp ((ins_perm x ys).mem_iff.mp hz) with e | hz
      · rw [e]
        exact ge
      · exact h1.1 z hz
theorem sort_sorted {d : Nat} : ∀ {ts : List (List Int)}, (∀ t ∈ ts, Ok1 d t) → (sortInts ts).Pairwise leC
  | [], _ => List.Pairwise.nil
  | t :: ts, h => ins_sorted (h t List.mem_cons_self) (fun y hy => h y (List.mem_cons_of_mem _ ((sort_perm ts).mem_iff.mp hy))) (sort_sorted fun y hy => h y (List.mem_cons_of_mem _ hy))
theorem sort_uniq {d : Nat} {ts ts' : List (List Int)} (h : ∀ t ∈ ts, Ok1 d t) (hp : ts'.Perm ts) (hs : ts'.Pairwise leC) : ts' = sortInts ts := by
  refine List.Perm.eq_of_pairwise (le := leC) (fun a b ha hb h1 h2 => ?_) hs (sort_sorted h) (hp.trans (sort_perm ts).symm)
  have oa := h a (hp.mem_iff.mp ha)
  have ob := h b ((sort_perm ts).mem_iff.mp hb)
  exact code_anti (oa.1.trans ob.1.symm) oa.2 ob.2 (Int.le_antisymm h1 h2)
/-! ### values -/
theorem RVs.perm {K : PySem.W.Frag} {g : Gh} {ys xs : List V} (hp : ys.Perm xs) : ∀ {ts : List (List Int)}, RVs K g xs (ts.map tupD) → ∃ ts' : List (List Int), RVs K g ys (ts'.map tupD) ∧ ts'.Perm ts := by
  induction hp with
  | nil =>
    intro ts r
    exact ⟨ts, r, List.Perm.refl _⟩
  | cons x _ ih =>
    intro ts r
    cases ts with
    | nil => cases r
    | cons t ts =>
      cases r with
      | cons r1 rs =>
        obtain ⟨ts', h1, h2⟩ := ih rs
        exact ⟨t :: ts', .cons r1 h1, h2.cons t⟩
  | swap x y l =>
    intro ts r
    match ts, r with
    | t :: t' :: ts, .cons r1 (.cons r2 rs) => exact ⟨t' :: t :: ts, .cons r2 (.cons r1 rs), List.Perm.swap t t' ts⟩
  | trans _ _ ih1 ih2 =>
    intro ts r
    obtain ⟨t1, h1, h2⟩ := ih2 r
    obtain ⟨t2, h3, h4⟩ := ih1 h1
    exact ⟨t2, h3, h4.trans h2⟩
theorem tupI_of {T : TT} {g : Gh} {S : Store} {H : Hp} {v : V} {t : List Int} (L : Lies T g S H) (r : RV T.K g v (tupD t)) : TupI T.K H v t := by
  unfold tupD at r
  cases r
  rename_i a vs h rs
  have e : vs = t.map V.int := by
    have key : ∀ {vs : List V} {t : List Int}, RVs T.K g vs (t.map D.int) → vs = t.map V.int := fun {vs t} => by
      induction t generalizing vs with
      | nil =>
        intro r
        cases r
        rfl
      | cons i t ih =>
        intro r
        cases r with
        | cons r1 rs =>
          cases r1
          rw [ih rs]
          rfl
    exact key rs
  subst e
  exact ⟨a, rfl, L.sqT h⟩
theorem pw_of {T : TT} {g : Gh} {S : Store} {H : Hp} (L : Lies T g S H) : ∀ {ys : List V} {ts : List (List Int)}, RVs T.K g ys (ts.map tupD) → ys.Pairwise (fun x y => ∀ n m, TupI T.K H x n → TupI T.K H y m → TS.code Bk n ≤ TS.code Bk m) → ts.Pairwise leC
  | _, [], _, _ => List.Pairwise.nil
  | _, t :: ts, .cons r rs, h => by
    have h1 := List.pairwise_cons.mp h
    refine List.pairwise_cons.mpr ⟨fun t' ht' => ?_, pw_of L rs h1.2⟩
    obtain ⟨i, hi, e⟩ := List.mem_iff_getElem.mp ht'
    have hd : (ts.map tupD)[i]? = some (tupD t') := by rw [List.getElem?_map, List.getElem?_eq_getElem hi, e]; rfl
    obtain ⟨v, h2, h3⟩ := rs.get hd
    exact h1.1 v (List.mem_of_getElem? h2) t t' (tupI_of L r) (tupI_of L h3)
section
variable {T : TT} {X : Cx}
theorem swo_none : SrtO.Swo (fun _ _ : Value => false) := ⟨fun _ _ _ => rfl, fun _ _ _ _ _ => rfl⟩
theorem perm_one {α : Type} {l m : List α} (h : l.Perm m) (hm : m.length ≤ 1) : l = m := by
  match m, hm with
  | [], _ => exact h.eq_nil
  | [a], _ => exact h.eq_singleton
theorem bi_sorted (eK : X.K = T.K) : CallR X (.builtin "sorted") (rBi T .sorted) := by
  intro pins s σ H xs us Q I r h
  obtain ⟨g, S, as, d, L, rs, e, m⟩ := h
  match as, rs with
  | [], _ => cases e
  | a :: b :: _, _ =>
    cases a <;> cases b <;> (have e : none = some d := e; cases e)
  | [a], .cons r1 .nil =>
  cases a <;> first | (cases e; done) | skip
  rename_i ds
  cases r1
  rename_i p vs hF rs1
  have e : (if ds.length ≤ 1 then some (D.lst ds) else (match tupInts ds with
    | some ts => if decide (ts.length < 60) && (ts.all fun t => decide (t.length = (ts.headD []).length) && (decide (1 ≤ t.length) && t.all fun z => decide (0 ≤ z) && decide (z < 1000))) then some (.lst ((sortInts ts).map fun t => .tup (t.map .int))) else none
    | none => none)) = some d := e
  by_cases h1 : ds.length ≤ 1
  · rw [if_pos h1] at e
    cases e
    obtain ⟨its, rv, hl, hz⟩ := I.list (SqL.of (K := X.K) (L.at hF))
    rw [Vals.ref1 r]
    have hlen : its.length ≤ 1 := by rw [← rv.length, rs1.length]; exact h1
    refine SrtO.sorted_ord swo_none hl.isList (by rw [← rv.length]; exact hz) (fun h2 => absurd h2 (by omega)) fun out _ st => ?_
    have eo := perm_one st.perm hlen
    subst eo
    obtain ⟨ep, he'⟩ := PyProof.Rows.sortedAll_at s.heap out out.toArray
    exact ⟨.ref _, upd H (s.heap.objs.size + 1) (.lst vs), I.laid (t' := s.toks) (fun _ _ => PyProof.Rows.sortedAll_old) (Nat.le_succ _) ⟨hz, out, ep, rv, he'⟩, rfl, m.lst L rs1 _ (I.hok.fresh (Nat.le_succ _))⟩
  · rw [if_neg h1] at e
    split at e
    · rename_i ts ht
      split at e
      · rename_i hc
        cases e
        obtain ⟨c1, c2⟩ := and2 hc
        have c1 := of_decide_eq_true c1
        have ex := tupInts_of ht
        subst ex
        have ok : ∀ t ∈ ts, Ok1 (ts.headD []).length t ∧ 1 ≤ t.length := fun t ht => by
          obtain ⟨k1, k2⟩ := and2 (List.all_eq_true.mp c2 t ht)
          obtain ⟨k2, k3⟩ := and2 k2
          refine ⟨⟨of_decide_eq_true k1, fun z hz => ?_⟩, of_decide_eq_true k2⟩
          obtain ⟨k4, k5⟩ := and2 (List.all_eq_true.mp k3 z hz)
          exact ⟨of_decide_eq_true k4, of_decide_eq_true k5⟩
        have hd : 1 ≤ (ts.headD []).length := by
          cases ts with
          | nil => exact absurd (Nat.zero_le _) h1
          | cons t ts => exact (ok t List.mem_cons_self).2
        refine cr_sortT (d := (ts.headD []).length) (B := Bk) hd pins s σ H _ us Q I r ⟨p, vs, rfl, SqL.of (L.at hF), ?_, fun x hx => ?_, fun ys p' hp hw hn => ?_⟩
        · have := rs1.length
          rw [List.length_map] at this
          omega
        · obtain ⟨i, hi, ei⟩ := List.mem_iff_getElem.mp hx
          obtain ⟨dd, h2, h3⟩ := rs1.getV (show vs[i]? = some x by rw [List.getElem?_eq_getElem hi, ei])
          rw [List.getElem?_map] at h2
          obtain ⟨t, h4, h5⟩ := Option.map_eq_some_iff.mp h2
          subst h5
          have o := ok t (List.mem_of_getElem? h4)
          exact ⟨t, by rw [eK]; exact tupI_of L h3, o.1.1, o.1.2⟩
        · rw [eK] at hw
          obtain ⟨ts', r2, hp2⟩ := RVs.perm hp rs1
          have eq := sort_uniq (fun t ht => (ok t ht).1) hp2 (pw_of L r2 hw)
          rw [eq] at r2
          exact m.lst L r2 p' hn
      · cases e
    · cases e
theorem bi_all (eK : X.K = T.K) (hc : X.calm = true) (b : BI) : CallR X (biVal b) (rBi T b) := by
  by_cases h : b = .sorted
  · subst h
    exact bi_sorted eK
  · exact bi_ok eK hc b h
end
end Pf

end
section
/-! Snd13: what is checked is sound. -/
namespace Pf
open PySem PySem.Spec PyProof.Rows L2
abbrev RR (T : TT) (k : Nat) (L : Fs) (m : Nat) : Fs := fs (callN T.P T.G k) L T.G m
/-- what a lambda's body is evaluated by -/
def LamOk (T : TT) (k : Nat) (L : Fs) (c : CC) : Prop := L = noL ∨ ∃ k0, k = k0 + 2 ∧ L = RR T k0 noL deep ∧ LamW T c.told ∧ SF T c k0
section
variable {T : TT} {X : Cx} {W : WX} {g : Gh} {S : Store} {H : Hp} {σ : L2.St} {k : Nat} {L : Fs} {c : CC}
theorem pe_bad {e' : Expr} : PE X e' (tE T W fun _ _ => .bad) := ⟨fun pins s σ H Q I ⟨g, e, S, L, r, p⟩ => p.elim⟩
theorem pt_bad {e' : Expr} : PT X e' (tT T W fun _ _ => .bad) := ⟨fun pins s σ H Q I ⟨g, e, S, L, r, p⟩ => p.elim⟩
theorem pw_bad {e' : Expr} : PW X e' (tT T W fun _ _ => .bad) := ⟨fun wh pins s σ H Q I ⟨g, e, S, L, r, p⟩ => p.elim⟩
theorem ps_bad {s : Stmt} : PS X s (tS T W fun _ _ => .bad) := ⟨fun pins s σ H Q I ⟨g, e, S, L, r, p⟩ => p.elim⟩
def PEn (T : TT) (n : Nat) : Prop := ∀ (k : Nat) (L : Fs) (c : CC) (X : Cx) (W : WX), XOk T k c X W → SF T c k → (c.lam = true → LamOk T k L c) → ∀ (m : Nat) (e : E) (e' : Expr), chkE n c e e' = true → PE X e' (tE T W fun σ S => (RR T k L m).e σ e S)
def PTn (T : TT) (n : Nat) : Prop := ∀ (k : Nat) (L : Fs) (c : CC) (X : Cx) (W : WX), XOk T k c X W → SF T c k → (c.lam = true → LamOk T k L c) → ∀ (m : Nat) (e : E) (e' : Expr), chkT n c e e' = true → PT X e' (tT T W (asT fun σ S => (RR T k L m).e σ e S)) ∧ ∀ o xs p, e' = .BoolOp o xs p → PW X e' (tT T W (asT fun σ S => (RR T k L m).e σ e S))
theorem evA_len {r : Fs} : ∀ {es : List E} {σ : Env} {S : Store} {ds : List D} {S' : Store}, evA r σ es S = .ok ds S' → ds.length = es.length
  | [], _, _, _, _, h => by
    cases h
    rfl
  | e :: es, σ, S, ds, S', h => by
    have h : ((r.e σ e S).bind fun x S1 => (evA r σ es S1).bind fun xs S2 => .ok (x :: xs) S2) = .ok ds S' := h
    cases h1 : r.e σ e S with
    | ok x S1 =>
      rw [h1] at h
      have h : ((evA r σ es S1).bind fun xs S2 => .ok (x :: xs) S2) = .ok ds S' := h
      cases h2 : evA r σ es S1 with
      | ok xs S2 =>
        rw [h2] at h
        cases h
        rw [List.length_cons, List.length_cons, evA_len h2]
      | exc c S2 =>
        rw [h2] at h
        cases h
      | bad =>
        rw [h2] at h
        cases h
    | exc c S2 =>
      rw [h1] at h
      cases h
    | bad =>
      rw [h1] at h
      cases h
theorem all_PA {n : Nat} (ih : PEn T n) (O : XOk T k c X W) (F : SF T c k) (Lm : c.lam = true → LamOk T k L c) (m : Nat) : ∀ {es : List E} {es' : List Expr}, chkAll (chkE n c) es es' = true → PA X es' (tA T W fun σ S => evA (RR T k L m) σ es S) ∧ ∀ z ∈ es', notStar z = true
  | [], [], _ => ⟨c_nil, fun z h => by cases h⟩
  | a :: as, b :: bs, h => by
    obtain ⟨h1, h⟩ := and2 (show (notStar b && (chkE n c a b && chkAll (chkE n c) as bs)) = true from h)
    obtain ⟨h2, h3⟩ := and2 h
    obtain ⟨p1, p2⟩ := all_PA ih O F Lm m h3
    refine ⟨c_cons (ih k L c X W O F Lm m a b h2) p1 h1, fun z hz => ?_⟩
    rcases List.mem_cons.mp hz with e | hz
    · rw [e]
      exact h1
    · exact p2 z hz
  | [], _ :: _, h => by cases h
  | _ :: _, [], h => by cases h
theorem chkI_PI {n : Nat} (ih : PEn T n) (O : XOk T k c X W) (F : SF T c k) (Lm : c.lam = true → LamOk T k L c) (m : Nat) {it : Pf.It} {tg iter : Expr} (h : chkI (chkE n c) c it tg iter = true) : PI X tg iter (iI T W fun σ S => evI (RR T k L m) σ it S) ∧ notSet iter = true := by
  unfold chkI at h
  cases it with
  | seq e =>
    obtain ⟨h1, h2⟩ := and2 h
    exact ⟨c_seq O (ih k L c X W O F Lm m e iter h2), h1⟩
  | rng1 a =>
    dsimp only at h
    split at h
    · obtain ⟨h1, h⟩ := and2 h
      obtain ⟨h2, h3⟩ := and2 h
      exact ⟨c_rng1 O F h1 (ih k L c X W O F Lm m a _ h3) h2, rfl⟩
    · cases h
  | rng2 a b =>
    dsimp only at h
    split at h
    · obtain ⟨h1, h⟩ := and2 h
      obtain ⟨h2, h⟩ := and2 h
      obtain ⟨h3, h⟩ := and2 h
      obtain ⟨h4, h5⟩ := and2 h
      exact ⟨c_rng2 O F h1 (ih k L c X W O F Lm m a _ h4) (ih k L c X W O F Lm m b _ h5) h2 h3, rfl⟩
    · cases h
  | enum a =>
    dsimp only at h
    split at h
    · obtain ⟨h1, h⟩ := and2 h
      obtain ⟨h2, h⟩ := and2 h
      obtain ⟨h3, h4⟩ := and2 h
      exact ⟨c_enum O F h1 (ih k L c X W O F Lm m a _ h3) h2 h4, rfl⟩
    · cases h
  | zip a b =>
    dsimp only at h
    split at h
    · obtain ⟨h1, h⟩ := and2 h
      obtain ⟨h2, h⟩ := and2 h
      obtain ⟨h3, h⟩ := and2 h
      obtain ⟨h4, h⟩ := and2 h
      obtain ⟨h5, h6⟩ := and2 h
      exact ⟨c_zip O F h1 (ih k L c X W O F Lm m a _ h4) (ih k L c X W O F Lm m b _ h5) h2 h3 h6, rfl⟩
    · cases h
theorem chkI_set {f : E → Expr → Bool} {it : Pf.It} {tg iter : Expr} (h : chkI f c it tg iter = true) : notSet iter = true := by
  unfold chkI at h
  cases it with
  | seq e => exact (and2 h).1
  | _ =>
    dsimp only at h
    split at h
    · rfl
    · cases h
theorem SF.blk (F : SF T c k) {scope : Scope} {own : List (Str × Nat)} : SF T (c.blk scope own) k := ⟨F.bl, F.gi, F.fn, F.ex⟩
theorem opOf_of {o : Op} {o' : Operator} (h : opOk o o' = true) : o' = opOf o := by
  cases o <;> cases o' <;> first | rfl | cases h
theorem chkO_PO {n : Nat} (ih : PEn T n) (O : XOk T k c X W) (F : SF T c k) (Lm : c.lam = true → LamOk T k L c) (m : Nat) {lo : Option E} {lo' : Option Expr} (h : chkOpt (chkE n c) lo lo' = true) : PO X lo' (Rd T W relO fun σ S => evO (RR T k L m) σ lo S) := by
  cases lo with
  | none => cases lo' with
    | none => exact c_po (lo := none) (ml := none) trivial
    | some b => cases h
  | some a => cases lo' with
    | none => cases h
    | some b => exact c_po (lo := some b) (ml := some fun σ S => (RR T k L m).e σ a S) (ih k L c X W O F Lm m a b h)
theorem pe_step {n : Nat} (ih : PEn T n) (ihT : PTn T n) : PEn T (n + 1) := by
  intro k L c X W O F Lm m e e' h
  cases m with
  | zero => exact pe_bad
  | succ m =>
  cases e' with
  | Name x pos =>
    unfold chkE at h
    cases e <;> first | (exact absurd h Bool.false_ne_true) | skip
    · exact c_var O h
    · rename_i y i
      obtain ⟨h1, h⟩ := and2 h
      obtain ⟨h2, h3⟩ := and2 h
      have h1 := of_decide_eq_true h1
      subst h1
      obtain ⟨g1, g2⟩ := O.gl h2
      obtain ⟨t, ht⟩ := F.gi _ (of_decide_eq_true h3)
      exact c_const (pe_glob (v := .int i) g1 (by rw [O.eM]; exact ht) ⟨t, rfl⟩ g2) fun g => .int i
  | Constant v j pos =>
    unfold chkE at h
    dsimp only at h
    split at h
    · exact c_const pe_non fun g => .non
    · rename_i b b'
      have h : b = b' := by simpa using h
      subst h
      exact c_const pe_bl fun g => .bl _
    · have h := of_decide_eq_true h
      subst h
      exact c_const pe_int fun g => .int _
    · have h := of_decide_eq_true h
      subst h
      exact c_const pe_str fun g => .str _
    · cases h
  | UnaryOp o a' pos =>
    unfold chkE at h
    dsimp only at h
    split at h
    · exact c_neg O (ih k L c X W O F Lm m _ _ h)
    · exact c_not O (ih k L c X W O F Lm m _ _ h)
    · cases h
  | BinOp a' o' b' pos =>
    unfold chkE at h
    dsimp only at h
    split at h
    · obtain ⟨h1, h⟩ := and2 h
      obtain ⟨h2, h3⟩ := and2 h
      rw [opOf_of h1]
      exact c_bin O (ih k L c X W O F Lm m _ _ h2) (ih k L c X W O F Lm m _ _ h3)
    · cases h
  | Compare a' os bs pos =>
    unfold chkE at h
    dsimp only at h
    split at h
    · obtain ⟨h1, h⟩ := and2 h
      obtain ⟨h2, h⟩ := and2 h
      obtain ⟨h3, h4⟩ := and2 h
      have h1 := of_decide_eq_true h1
      subst h1
      exact c_cmp O (ih k L c X W O F Lm m _ _ h3) (ih k L c X W O F Lm m _ _ h4) h2
    · obtain ⟨h1, h⟩ := and2 h
      obtain ⟨h2, h⟩ := and2 h
      obtain ⟨h3, h⟩ := and2 h
      obtain ⟨h4, h⟩ := and2 h
      obtain ⟨h5, h6⟩ := and2 h
      have h1 := of_decide_eq_true h1
      have h2 := of_decide_eq_true h2
      subst h1 h2
      exact c_cmp2 O (ih k L c X W O F Lm m _ _ h4) (ih k L c X W O F Lm m _ _ h5) (ih k L c X W O F Lm m _ _ h6) h3
    · obtain ⟨h1, h⟩ := and2 h
      obtain ⟨h2, h⟩ := and2 h
      obtain ⟨h3, h⟩ := and2 h
      obtain ⟨h4, h⟩ := and2 h
      obtain ⟨h5, h⟩ := and2 h
      obtain ⟨h6, h⟩ := and2 h
      obtain ⟨h7, h8⟩ := and2 h
      have h1 := of_decide_eq_true h1
      have h2 := of_decide_eq_true h2
      have h3 := of_decide_eq_true h3
      subst h1 h2 h3
      exact c_cmp3 O (ih k L c X W O F Lm m _ _ h5) (ih k L c X W O F Lm m _ _ h6) (ih k L c X W O F Lm m _ _ h7) (ih k L c X W O F Lm m _ _ h8) h4
    · cases h
  | BoolOp o xs pos =>
    unfold chkE at h
    dsimp only at h
    split at h
    · exact pe_one (ih k L c X W O F Lm (m + 1) _ _ h)
    · split at h
      · obtain ⟨h1, h2⟩ := and2 h
        exact c_and O (ih k L c X W O F Lm m _ _ h1) (ih k L c X W O F Lm m _ _ h2)
      · obtain ⟨h1, h2⟩ := and2 h
        exact c_or O (ih k L c X W O F Lm m _ _ h1) (ih k L c X W O F Lm m _ _ h2)
      · cases h
    · cases h
  | IfExp d' a' b' pos =>
    unfold chkE at h
    dsimp only at h
    split at h
    · obtain ⟨h1, h⟩ := and2 h
      obtain ⟨h2, h3⟩ := and2 h
      exact c_ife O (ihT k L c X W O F Lm m _ _ h1).1 (ih k L c X W O F Lm m _ _ h2) (ih k L c X W O F Lm m _ _ h3)
    · cases h
  | Tuple es' j pos =>
    unfold chkE at h
    dsimp only at h
    split at h
    · obtain ⟨h1, h2⟩ := and2 h
      have h1 := of_decide_eq_true h1
      refine c_tup O (all_PA ih O F Lm m h2).1 fun e S ds S' q => ?_
      rw [evA_len q]
      exact Nat.le_trans h1 (Nat.le_of_ble_eq_true rfl)
    · cases h
  | List es' pos =>
    unfold chkE at h
    dsimp only at h
    split at h
    · obtain ⟨h1, h2⟩ := and2 h
      have h1 := of_decide_eq_true h1
      refine c_lst O (all_PA ih O F Lm m h2).1 fun e S ds S' q => ?_
      rw [evA_len q]
      exact Nat.le_trans h1 (Nat.le_of_ble_eq_true rfl)
    · cases h
  | Subscript a' i' pos =>
    by_cases hs : notSlice i' = true
    · have key : ∃ a i, e = .ix a i ∧ (chkE n c a a' && chkE n c i i') = true := by
        unfold chkE at h
        cases i' <;> first | (cases hs; done) | skip
        all_goals
          dsimp only at h
          split at h
          · exact ⟨_, _, rfl, h⟩
          · cases h
      obtain ⟨a, i, e1, hq⟩ := key
      subst e1
      obtain ⟨h1, h2⟩ := and2 hq
      exact c_ix O (ih k L c X W O F Lm m _ _ h1) (ih k L c X W O F Lm m _ _ h2) hs
    · cases i' <;> first | (exact absurd rfl hs) | skip
      rename_i lo' hi' st' p
      unfold chkE at h
      dsimp only at h
      split at h
      · obtain ⟨h1, h⟩ := and2 h
        obtain ⟨h2, h⟩ := and2 h
        obtain ⟨h3, h4⟩ := and2 h
        cases st' with
        | some _ => cases h1
        | none => exact c_sl O (ih k L c X W O F Lm m _ _ h2) (chkO_PO ih O F Lm m h3) (chkO_PO ih O F Lm m h4)
      · obtain ⟨h1, h⟩ := and2 h
        obtain ⟨h2, h⟩ := and2 h
        obtain ⟨h3, h4⟩ := and2 h
        cases lo' with
        | some _ => cases h1
        | none => cases hi' with
          | some _ => cases h2
          | none =>
            split at h4
            · have h4 := of_decide_eq_true h4
              subst h4
              exact c_rev O (ih k L c X W O F Lm m _ _ h3)
            · cases h4
      · obtain ⟨h1, h⟩ := and2 h
        obtain ⟨h2, h3⟩ := and2 h
        cases lo' with
        | some _ => cases h1
        | none =>
          split at h3
          · obtain ⟨h4, h5⟩ := and2 h3
            have h4 := of_decide_eq_true h4
            have h5 := of_decide_eq_true h5
            subst h4 h5
            exact c_rev1 O (ih k L c X W O F Lm m _ _ h2)
          · cases h3
      · cases h
  | ListComp elt gs scope pos =>
    unfold chkE at h
    dsimp only at h
    split at h
    · rename_i live own t it cnd el tg iter ifs
      obtain ⟨h1, h⟩ := and2 h
      obtain ⟨h2, h⟩ := and2 h
      obtain ⟨h3, h⟩ := and2 h
      obtain ⟨h4, h⟩ := and2 h
      obtain ⟨h5, h⟩ := and2 h
      obtain ⟨h6, h⟩ := and2 h
      obtain ⟨h7, h8⟩ := and2 h
      have h1 := of_decide_eq_true h1
      obtain ⟨p1, p2⟩ := chkI_PI ih O F Lm m h4
      have key := c_comp O (live := live) (pos := pos) h2 h1 h3 p1 p2 h5 h6 (mc := optT (RR T k L m) cnd) (me := fun σ S => (RR T k L m).e σ el S) (ifs := ifs) (fun X' O' => ?_) (fun X' O' => ih k L _ X' WF O' F.blk (fun h => by cases h) m el elt h8)
      · refine pe_imp key fun σ H Q q => ?_
        obtain ⟨g, e, S, LL, r, p⟩ := q
        refine ⟨g, e, S, LL, r, ?_⟩
        have e1 : ∀ xs S1, compL (RR T k L m) (wipeE e own) t cnd el xs S1 = compM (optT (RR T k L m) cnd) (fun σ S => (RR T k L m).e σ el S) t (wipeE e own) xs S1 := fun xs S1 => compL_eq _ _ _ _ _ _ _
        have p : Post T W (RV T.K) g σ ((evI (RR T k L m) e it S).bind fun xs S1 => (calm (compL (RR T k L m) (wipeE e own) t cnd el xs S1)).bind fun ys S2 => endL live ys S2) Q := p
        simp only [e1] at p
        exact p
      · split at h7
        · exact pts_nilR
        · exact pts_one (ihT k L _ X' WF O' F.blk (fun h => by cases h) m _ _ h7).1
        · cases h7
    · rename_i own own2 t it t2 it2 el tg iter tg2 iter2
      obtain ⟨h1, h⟩ := and2 h
      obtain ⟨h2, h⟩ := and2 h
      obtain ⟨h3, h⟩ := and2 h
      obtain ⟨h4, h⟩ := and2 h
      obtain ⟨h5, h⟩ := and2 h
      obtain ⟨h6, h⟩ := and2 h
      obtain ⟨h7, h⟩ := and2 h
      obtain ⟨h8, h⟩ := and2 h
      obtain ⟨h9, h⟩ := and2 h
      obtain ⟨h10, h11⟩ := and2 h
      have h1 := of_decide_eq_true h1
      obtain ⟨p1, p2⟩ := chkI_PI ih O F Lm m h4
      have key := c_comp2 O (live := false) (pos := pos) h2 h1 h3 p1 p2 h5 h6 (chkI_set h7) h8 h9 h10 (mi2 := fun σ S => evI (RR T k L m) σ it2 S) (me := fun σ S => (RR T k L m).e σ el S) (fun X' O' => (chkI_PI ih O' F.blk (fun h => by cases h) m h7).1) (fun X' O' => ih k L _ X' WF O' F.blk (fun h => by cases h) m el elt h11)
      refine pe_imp key fun σ H Q q => ?_
      obtain ⟨g, e, S, LL, r, p⟩ := q
      refine ⟨g, e, S, LL, r, ?_⟩
      have e1 : ∀ xs S1, compL2 (RR T k L m) (wipeE e own) own2 t t2 it2 el xs S1 = compM2 (fun σ S => evI (RR T k L m) σ it2 S) (fun σ S => (RR T k L m).e σ el S) own2 t t2 (wipeE e own) xs S1 := fun xs S1 => compL2_eq _ _ _ _ _ _ _ _ _
      have p : Post T W (RV T.K) g σ ((evI (RR T k L m) e it S).bind fun xs S1 => (calm (compL2 (RR T k L m) (wipeE e own) own2 t t2 it2 el xs S1)).bind fun ys S2 => endL false ys S2) Q := p
      simp only [e1] at p
      exact p
    · cases h
  | Call f' as' ks pos =>
    unfold chkE at h
    dsimp only at h
    split at h
    · rename_i x p
      split at h
      · rename_i i as
        obtain ⟨h1, h⟩ := and2 h
        obtain ⟨h2, h⟩ := and2 h
        obtain ⟨h3, h4⟩ := and2 h
        obtain ⟨p1, p2⟩ := all_PA ih O F Lm m h4
        cases as' with
        | nil => cases h3
        | cons a1 as1 => exact c_call O F (of_decide_eq_true h1) h2 p1 p2
      · rename_i b as
        obtain ⟨h1, h⟩ := and2 h
        obtain ⟨h3, h4⟩ := and2 h
        obtain ⟨p1, p2⟩ := all_PA ih O F Lm m h4
        cases as' with
        | nil => cases h3
        | cons a1 as1 => exact c_bi O F h1 p1 p2 (bi_all O.eK O.calm b)
      · split at h
        · obtain ⟨h1, h⟩ := and2 h
          obtain ⟨h2, h3⟩ := and2 h
          exact c_mkl O F h1 (ih k L c X W O F Lm m _ _ h3) h2
        · cases h
      · split at h
        · obtain ⟨h1, h⟩ := and2 h
          obtain ⟨h2, h⟩ := and2 h
          obtain ⟨h3, h4⟩ := and2 h
          exact c_isin O F h1 h4 (ih k L c X W O F Lm m _ _ h3) h2
        · cases h
      · rename_i told kk a
        split at h
        · rename_i body scope lp
          obtain ⟨h1, h⟩ := and2 h
          obtain ⟨h2, h⟩ := and2 h
          obtain ⟨h3, h⟩ := and2 h
          obtain ⟨h4, h⟩ := and2 h
          obtain ⟨h5, h6⟩ := and2 h
          have h2 := of_decide_eq_true h2
          have h3 := of_decide_eq_true h3
          subst h2
          rcases Lm h1 with eL | ⟨k0, ek, eL, LW, F0⟩
          · subst eL
            exact ⟨fun pins s σ H Q I ⟨g, e, S, LL, r, p⟩ => p.elim⟩
          subst ek eL
          exact c_lam O h1 LW h3 h4 h5 fun X' W' O' => ih k0 noL _ X' W' O' ⟨F0.bl, F0.gi, F0.fn, F0.ex⟩ (fun h => by cases h) deep a body h6
        · cases h
      · cases h
    · rename_i o' mm apos
      obtain ⟨h0, h⟩ := and2 h
      have h0 := of_decide_eq_true h0
      split at h
      · rename_i mt o as hq
        obtain ⟨h2, h⟩ := and2 h
        obtain ⟨h3, h⟩ := and2 h
        obtain ⟨h4, h⟩ := and2 h
        obtain ⟨h5, h⟩ := and2 h
        obtain ⟨h6, h7⟩ := and2 h
        have h2 := of_decide_eq_true h2
        have h5 := of_decide_eq_true h5
        subst h2
        obtain ⟨p1, p2⟩ := all_PA ih O F Lm m h7
        cases as' with
        | nil => cases h4
        | cons a1 as1 =>
          cases mt with
          | count => exact c_count O (ih k L c X W O F Lm m _ _ h3) p1 p2 h5 h6 h0
          | index => exact c_index O (ih k L c X W O F Lm m _ _ h3) p1 p2 h5 h6 h0
          | join => exact c_join O (ih k L c X W O F Lm m _ _ h3) p1 p2 h5 h6 h0
          | split => exact c_split O (ih k L c X W O F Lm m _ _ h3) p1 p2 h5 h6 h0
      · split at h
        · obtain ⟨h1, h2⟩ := and2 h
          have h1 := of_decide_eq_true h1
          subst h1
          exact c_pop O h2 (.inr h0) h0
        · cases h
      · split at h
        · obtain ⟨h1, h2⟩ := and2 h
          have h1 := of_decide_eq_true h1
          subst h1
          exact c_pop0 O h2 h0
        · cases h
      · cases h
    · cases h
  | _ => 
    unfold chkE at h
    cases h
theorem pt_step {n : Nat} (ihs : ∀ j ≤ n, PEn T j) (ihT : PTn T n) : PTn T (n + 1) := by
  intro k L c X W O F Lm m e e' h
  have ih := ihs n (Nat.le_refl n)
  cases m with
  | zero => exact ⟨pt_bad, fun o xs p _ => pw_bad⟩
  | succ m =>
  cases e' with
  | BoolOp o xs pos =>
    have key : PW X (.BoolOp o xs pos) (tT T W (asT fun σ S => (RR T k L (m + 1)).e σ e S)) := by
      unfold chkT at h
      dsimp only at h
      split at h
      · have q := (ihT k L c X W O F Lm (m + 1) _ _ h).1
        cases o with
        | And => exact pw_and1 q
        | Or => exact pw_or1 q
      · split at h
        · obtain ⟨h1, h2⟩ := and2 h
          exact c_andT O (ihT k L c X W O F Lm m _ _ h1).1 ((ihT k L c X W O F Lm m _ _ h2).2 _ _ _ rfl)
        · obtain ⟨h1, h2⟩ := and2 h
          exact c_orT O (ihT k L c X W O F Lm m _ _ h1).1 ((ihT k L c X W O F Lm m _ _ h2).2 _ _ _ rfl)
        · cases h
      · cases h
    exact ⟨key.pt, fun o' xs' p' e => by
      cases e
      exact key⟩
  | UnaryOp o a' pos =>
    refine ⟨?_, fun o xs p e => by cases e⟩
    unfold chkT at h
    dsimp only at h
    split at h
    · exact c_notT O (ihT k L c X W O F Lm m _ _ h).1
    · cases h
  | Compare a' os bs pos =>
    refine ⟨?_, fun o xs p e => by cases e⟩
    unfold chkT at h
    dsimp only at h
    obtain ⟨hl, h⟩ := and2 h
    have hl := of_decide_eq_true hl
    cases n with
    | zero => cases h
    | succ n =>
    have ih' : ∀ m e e', chkE n c e e' = true → PE X e' (tE T W fun σ S => (RR T k L m).e σ e S) := fun m e e' q => ihs n (Nat.le_succ n) k L c X W O F Lm m e e' q
    unfold chkE at h
    dsimp only at h
    split at h
    · obtain ⟨h1, h⟩ := and2 h
      obtain ⟨h2, h⟩ := and2 h
      obtain ⟨h3, h4⟩ := and2 h
      have h1 := of_decide_eq_true h1
      subst h1
      exact c_cmpT O (ih' m _ _ h3) (ih' m _ _ h4) h2
    · obtain ⟨h1, h⟩ := and2 h
      obtain ⟨h2, h⟩ := and2 h
      obtain ⟨h3, h⟩ := and2 h
      obtain ⟨h4, h⟩ := and2 h
      obtain ⟨h5, h6⟩ := and2 h
      have h1 := of_decide_eq_true h1
      have h2 := of_decide_eq_true h2
      subst h1 h2
      exact c_cmp2T O (ih' m _ _ h4) (ih' m _ _ h5) (ih' m _ _ h6) h3
    · exact absurd hl (show ¬ 3 ≤ 2 by decide)
    · cases h
  | _ =>
    refine ⟨?_, fun o xs p e => by cases e⟩
    unfold chkT at h
    dsimp only at h
    obtain ⟨h1, h2⟩ := and2 h
    exact c_test O (ih k L c X W O F Lm (m + 1) _ _ h2) h1
theorem pet_all (T : TT) : ∀ n, (∀ j ≤ n, PEn T j) ∧ ∀ j ≤ n, PTn T j
  | 0 => by
    refine ⟨fun j hj => ?_, fun j hj => ?_⟩
    · have : j = 0 := by omega
      subst this
      intro k L c X W O F Lm m e e' h
      cases h
    · have : j = 0 := by omega
      subst this
      intro k L c X W O F Lm m e e' h
      cases h
  | n + 1 => by
    obtain ⟨h1, h2⟩ := pet_all T n
    refine ⟨fun j hj => ?_, fun j hj => ?_⟩
    · rcases Nat.lt_or_ge j (n + 1) with q | q
      · exact h1 j (by omega)
      · have : j = n + 1 := by omega
        subst this
        exact pe_step (h1 n (Nat.le_refl n)) (h2 n (Nat.le_refl n))
    · rcases Nat.lt_or_ge j (n + 1) with q | q
      · exact h2 j (by omega)
      · have : j = n + 1 := by omega
        subst this
        exact pt_step h1 (h2 n (Nat.le_refl n))
theorem pe_of (O : XOk T k c X W) (F : SF T c k) (Lm : c.lam = true → LamOk T k L c) {n m : Nat} {e : E} {e' : Expr} (h : chkE n c e e' = true) : PE X e' (tE T W fun σ S => (RR T k L m).e σ e S) := (pet_all T n).1 n (Nat.le_refl n) k L c X W O F Lm m e e' h
theorem pt_of (O : XOk T k c X W) (F : SF T c k) (Lm : c.lam = true → LamOk T k L c) {n m : Nat} {e : E} {e' : Expr} (h : chkT n c e e' = true) : PT X e' (tT T W (asT fun σ S => (RR T k L m).e σ e S)) := ((pet_all T n).2 n (Nat.le_refl n) k L c X W O F Lm m e e' h).1
theorem pen_of {n : Nat} : PEn T n := (pet_all T n).1 n (Nat.le_refl n)
/-! ### statements -/
def PSn (T : TT) (n : Nat) : Prop := ∀ (k : Nat) (L : Fs) (c : CC) (X : Cx) (W : WX), XOk T k c X W → SF T c k → (c.lam = true → LamOk T k L c) → ∀ (m : Nat) (s : St) (s' : Stmt), chkS n c s s' = true → PS X s' (tS T W fun σ S => (RR T k L m).s σ s S)
def PBn (T : TT) (n : Nat) : Prop := ∀ (k : Nat) (L : Fs) (c : CC) (X : Cx) (W : WX), XOk T k c X W → SF T c k → (c.lam = true → LamOk T k L c) → ∀ (m : Nat) (b : List St) (b' : List Stmt), chkB n c b b' = true → PSs X b' (tS T W fun σ S => evB (RR T k L m) σ b S)
theorem evB_cons {r : Fs} {s : St} {b : List St} : (fun σ S => evB r σ (s :: b) S) = seqM (fun σ S => r.s σ s S) (fun σ S => evB r σ b S) := rfl
theorem pss_bad {s : List Stmt} {m : Env → Store → Res Flow} : PSs X s (tS T W (seqM (fun _ _ => .bad) m)) := ⟨fun pins s σ H Q I ⟨g, e, S, L, r, p⟩ => p.elim⟩
theorem pb_step {n : Nat} (ihS : PSn T n) (ihB : PBn T n) : PBn T (n + 1) := by
  intro k L c X W O F Lm m b b' h
  unfold chkB at h
  cases b with
  | nil => cases b' with
    | nil => exact s_nil
    | cons _ _ => cases h
  | cons s r =>
    by_cases hf : ∃ i, s = .frz i
    · obtain ⟨i, e⟩ := hf
      subst e
      rw [evB_cons]
      cases m with
      | zero => exact pss_bad
      | succ m => exact s_frz (ihB k L c X W O F Lm (m + 1) r b' h)
    · have key : ∃ s' r', b' = s' :: r' ∧ (chkS n c s s' && chkB n c r r') = true := by
        cases b' with
        | nil => cases s <;> first | (cases h; done) | exact absurd ⟨_, rfl⟩ hf
        | cons s' r' => exact ⟨s', r', rfl, by cases s <;> first | exact h | exact absurd ⟨_, rfl⟩ hf⟩
      obtain ⟨s', r', e, hq⟩ := key
      subst e
      obtain ⟨h1, h2⟩ := and2 hq
      rw [evB_cons]
      exact s_cons (ihS k L c X W O F Lm m s s' h1) (ihB k L c X W O F Lm m r r' h2)
theorem isL_nodup2 {i j : Nat} (h : [i, j].Nodup) : i ≠ j := by
  have := List.nodup_cons.mp h
  simpa using this.1
theorem len2 {α : Type} {l : List α} (h : l.length = 2) : ∃ a b, l = [a, b] := by
  match l, h with
  | [a, b], _ => exact ⟨a, b, rfl⟩
theorem len3 {α : Type} {l : List α} (h : l.length = 3) : ∃ a b c, l = [a, b, c] := by
  match l, h with
  | [a, b, c], _ => exact ⟨a, b, c, rfl⟩
theorem name_of {t : Expr} {r : List Expr} {xs : List Str} (h : parNames (t :: r) = some xs) : ∃ x p, t = .Name x p := by
  cases t <;> first | (cases h; done) | exact ⟨_, _, rfl⟩
theorem names_of {x : Str} {p : Pos} {r : List Expr} {xs : List Str} (h : parNames (.Name x p :: r) = some xs) : ∃ xs', xs = x :: xs' ∧ parNames r = some xs' := by
  have h : (parNames r).map (x :: ·) = some xs := h
  obtain ⟨xs', h1, h2⟩ := Option.map_eq_some_iff.mp h
  exact ⟨xs', h2.symm, h1⟩
theorem ps_step {n : Nat} (ihB : PBn T n) : PSn T (n + 1) := by
  intro k L c X W O F Lm m s s' h
  cases m with
  | zero => exact ps_bad
  | succ m =>
  cases s' with
  | Pass pos =>
    unfold chkS at h
    dsimp only at h
    split at h
    · exact s_pass
    · cases h
  | Return v pos =>
    cases v with
    | none =>
      unfold chkS at h
      cases h
    | some v =>
      unfold chkS at h
      dsimp only at h
      split at h
      · exact s_ret (pen_of k L c X W O F Lm m _ _ h)
      · cases h
  | If d' a' b' pos =>
    unfold chkS at h
    dsimp only at h
    split at h
    · obtain ⟨h1, h⟩ := and2 h
      obtain ⟨h2, h3⟩ := and2 h
      exact s_if (pt_of O F Lm h1) (ihB k L c X W O F Lm m _ _ h2) (ihB k L c X W O F Lm m _ _ h3)
    · cases h
  | While d' body els pos =>
    cases els with
    | cons _ _ =>
      unfold chkS at h
      cases h
    | nil =>
      unfold chkS at h
      dsimp only at h
      split at h
      · rename_i d b
        obtain ⟨h1, h2⟩ := and2 h
        have e1 : (fun σ S => (RR T k L (m + 1)).s σ (.whl d b) S) = fun σ S => whileM (asT fun σ S => (RR T k L m).e σ d S) (fun e S => evB (RR T k L m) e b S) whileMost σ S := by
          funext σ S
          exact whileL_eq _ _ _ _ _ _
        rw [e1]
        exact s_whl O (pt_of O F Lm h1) (ihB k L c X W O F Lm m _ _ h2)
      · cases h
  | For tg iter body els pos =>
    cases els with
    | cons _ _ =>
      unfold chkS at h
      cases h
    | nil =>
      unfold chkS at h
      dsimp only at h
      split at h
      · rename_i t it b
        obtain ⟨h1, h⟩ := and2 h
        obtain ⟨h2, h3⟩ := and2 h
        obtain ⟨p1, p2⟩ := chkI_PI pen_of O F Lm m h2
        have e1 : (fun σ S => (RR T k L (m + 1)).s σ (.for_ t it b) S) = fun σ S => (evI (RR T k L m) σ it S).bind fun xs S1 => forM (fun e S => evB (RR T k L m) e b S) t xs σ S1 := by
          funext σ S
          show ((evI (RR T k L m) σ it S).bind fun xs S1 => forL (RR T k L m) t b xs σ S1) = _
          congr 1
          funext xs S1
          exact forL_eq _ _ _ _ _ _
        rw [e1]
        exact s_for O p1 h1 p2 (ihB k L c X W O F Lm m _ _ h3)
      · cases h
  | Raise ex ca pos =>
    unfold chkS at h
    split at h <;> first | (cases h; done) | skip
    all_goals first | (rename_i hq; cases hq; done) | skip
    · rename_i x p mm j p2 cpos pos hq
      cases hq
      split at h
      · obtain ⟨h1, h⟩ := and2 h
        obtain ⟨h2, h3⟩ := and2 h
        have h3 := of_decide_eq_true h3
        subst h3
        exact s_rais O F (of_decide_eq_true h1) h2
      · cases h
  | Expr v pos =>
    unfold chkS at h
    dsimp only at h
    split at h
    · obtain ⟨h1, h2⟩ := and2 h
      exact s_expr (pen_of k L c X W O F Lm m _ _ h2) h1
    · split at h
      · obtain ⟨h1, h⟩ := and2 h
        obtain ⟨h2, h⟩ := and2 h
        obtain ⟨h3, h⟩ := and2 h
        obtain ⟨h4, h5⟩ := and2 h
        have h1 := of_decide_eq_true h1
        have h2 := of_decide_eq_true h2
        subst h2
        exact s_app O h3 h1 (pen_of k L c X W O F Lm m _ _ h5) h4
      · cases h
    · cases h
  | Assign tgs v pos =>
    cases tgs with
    | nil =>
      unfold chkS at h
      cases h
    | cons tg tgs => cases tgs with
    | cons _ _ =>
      unfold chkS at h
      cases h
    | nil =>
    unfold chkS at h
    dsimp only at h
    split at h
    · rename_i t e
      have q := and2 h
      clear h
      obtain ⟨h1, h⟩ := q
      have q := and2 h
      clear h
      obtain ⟨h2, h⟩ := q
      have q := and2 h
      clear h
      obtain ⟨h3, h4⟩ := q
      by_cases hv : notComp v = true
      · have h5 : noSwap c tg v = true := by
          cases v <;> first | exact h4 | cases hv
        exact s_asg O (pen_of k L c X W O F Lm m _ _ h3) h1 hv h5
      · cases v <;> first | (exact absurd rfl hv) | (cases h4; done) | skip
        rename_i elt gs scope cpos
        cases tg <;> first | (cases h4; done) | skip
        rename_i y py
        cases hl : c.isL y with
        | false => exact s_asgC O (pen_of k L c X W O F Lm m _ _ h3) h1 hl
        | true =>
          have h4 : (if c.isL y = true then (py.line == cpos.line) && !(scope.names.any fun (m, k) => m == y && (k == .local || k == .cell)) else true) = true := h4
          rw [hl, if_pos rfl] at h4
          obtain ⟨h5, h6⟩ := and2 h4
          have h6 : (scope.names.any fun (m, k) => m == y && (k == .local || k == .cell)) = false := by simpa using h6
          obtain ⟨i, ht⟩ : ∃ i, t = .nm i := by
            cases t with
            | nm i => exact ⟨i, rfl⟩
            | tup ts => cases h1
          subst ht
          cases m with
          | zero => exact ⟨fun pins s σ H Q I ⟨g, e, S, L, r, p⟩ => p.elim⟩
          | succ m =>
          cases n with
          | zero => cases h3
          | succ n =>
          unfold chkE at h3
          dsimp only at h3
          split at h3
          · rename_i live own t it cnd el tg iter ifs
            obtain ⟨k1, h⟩ := and2 h3
            obtain ⟨k2, h⟩ := and2 h
            obtain ⟨k3, h⟩ := and2 h
            obtain ⟨k4, h⟩ := and2 h
            obtain ⟨k5, h⟩ := and2 h
            obtain ⟨k6, h⟩ := and2 h
            obtain ⟨k7, k8⟩ := and2 h
            have k1 := of_decide_eq_true k1
            obtain ⟨p1, p2⟩ := chkI_PI pen_of O F Lm m k4
            have key := s_asgL O (live := live) (pos := cpos) (spos := pos) h1 hl h5 h6 k2 k1 k3 p1 p2 k5 k6 (mc := optT (RR T k L m) cnd) (me := fun σ S => (RR T k L m).e σ el S) (ifs := ifs) (fun X' O' => ?_) (fun X' O' => pen_of k L _ X' WF O' F.blk (fun h => by cases h) m el elt k8)
            · refine ps_imp key fun E σ H q => ?_
              obtain ⟨g, e, S, LL, r, p⟩ := q
              refine ⟨g, e, S, LL, r, ?_⟩
              have e1 : ∀ xs S1, compL (RR T k L m) (wipeE e own) t cnd el xs S1 = compM (optT (RR T k L m) cnd) (fun σ S => (RR T k L m).e σ el S) t (wipeE e own) xs S1 := fun xs S1 => compL_eq _ _ _ _ _ _ _
              have p : PostS T W g (asgM (fun e S => (evI (RR T k L m) e it S).bind fun xs S1 => (calm (compL (RR T k L m) (wipeE e own) t cnd el xs S1)).bind fun ys S2 => endL live ys S2) (.nm i) e S) E := p
              unfold asgM at p ⊢
              simp only [e1] at p
              exact p
            · split at k7
              · exact pts_nilR
              · exact pts_one (pt_of O' F.blk (fun h => by cases h) k7)
              · cases k7
          · rename_i own own2 t it t2 it2 el tg iter tg2 iter2
            obtain ⟨k1, h⟩ := and2 h3
            obtain ⟨k2, h⟩ := and2 h
            obtain ⟨k3, h⟩ := and2 h
            obtain ⟨k4, h⟩ := and2 h
            obtain ⟨k5, h⟩ := and2 h
            obtain ⟨k6, h⟩ := and2 h
            obtain ⟨k7, h⟩ := and2 h
            obtain ⟨k8, h⟩ := and2 h
            obtain ⟨k9, h⟩ := and2 h
            obtain ⟨k10, k11⟩ := and2 h
            have k1 := of_decide_eq_true k1
            obtain ⟨p1, p2⟩ := chkI_PI pen_of O F Lm m k4
            have key := s_asgL2 O (live := false) (pos := cpos) (spos := pos) h1 hl h5 h6 k2 k1 k3 p1 p2 k5 k6 (chkI_set k7) k8 k9 k10 (mi2 := fun σ S => evI (RR T k L m) σ it2 S) (me := fun σ S => (RR T k L m).e σ el S) (fun X' O' => (chkI_PI pen_of O' F.blk (fun h => by cases h) m k7).1) (fun X' O' => pen_of k L _ X' WF O' F.blk (fun h => by cases h) m el elt k11)
            refine ps_imp key fun E σ H q => ?_
            obtain ⟨g, e, S, LL, r, p⟩ := q
            refine ⟨g, e, S, LL, r, ?_⟩
            have e1 : ∀ xs S1, compL2 (RR T k L m) (wipeE e own) own2 t t2 it2 el xs S1 = compM2 (fun σ S => evI (RR T k L m) σ it2 S) (fun σ S => (RR T k L m).e σ el S) own2 t t2 (wipeE e own) xs S1 := fun xs S1 => compL2_eq _ _ _ _ _ _ _ _ _
            have p : PostS T W g (asgM (fun e S => (evI (RR T k L m) e it S).bind fun xs S1 => (calm (compL2 (RR T k L m) (wipeE e own) own2 t t2 it2 el xs S1)).bind fun ys S2 => endL false ys S2) (.nm i) e S) E := p
            unfold asgM at p ⊢
            simp only [e1] at p
            exact p
          · cases h3
    · rename_i is es
      split at h
      · rename_i ts x1 pt vs x2 pt2
        obtain ⟨h1, h⟩ := and2 h
        obtain ⟨h2, h⟩ := and2 h
        obtain ⟨h3, h⟩ := and2 h
        obtain ⟨h4, h⟩ := and2 h
        obtain ⟨h5, h⟩ := and2 h
        obtain ⟨h6, h7⟩ := and2 h
        have h2 := of_decide_eq_true h2
        have h3 := of_decide_eq_true h3
        have h5 : (vs.all (foldedForSure 8)) = false := by simpa using h5
        have h6 : (vs.all (constantsAlone 8)) = false := by simpa using h6
        split at h4
        · rename_i xs hxs
          obtain ⟨p1, p2⟩ := all_PA pen_of O F Lm m h7
          unfold parOk at h4
          obtain ⟨l1, h4⟩ := and2 h4
          obtain ⟨l2, l3⟩ := and2 h4
          have l1 := of_decide_eq_true l1
          have l3 := of_decide_eq_true l3
          rcases h2 with h2 | h2
          · obtain ⟨t1, t2, e1⟩ := len2 h2
            subst e1
            obtain ⟨v1, v2, e2⟩ := len2 (h3.trans h2)
            subst e2
            obtain ⟨x, px, e3⟩ := name_of hxs
            subst e3
            obtain ⟨xs', e4, hxs'⟩ := names_of hxs
            subst e4
            obtain ⟨y, py, e3⟩ := name_of hxs'
            subst e3
            obtain ⟨xs2, e4, hxs2⟩ := names_of hxs'
            subst e4
            cases hxs2
            obtain ⟨i, j, e5⟩ := len2 l1
            subst e5
            have hx : (c.st i x && c.isL x) = true := List.all_eq_true.mp l2 (i, x) (List.mem_cons_self)
            have hy : (c.st j y && c.isL y) = true := List.all_eq_true.mp l2 (j, y) (List.mem_cons_of_mem _ List.mem_cons_self)
            exact s_par2 O hx hy (isL_nodup2 l3) (List.all_eq_true.mp h1 (.Name y py) List.mem_cons_self) (p2 v1 List.mem_cons_self) (p2 v2 (List.mem_cons_of_mem _ List.mem_cons_self)) h5 h6 p1
          · obtain ⟨t1, t2, t3, e1⟩ := len3 h2
            subst e1
            obtain ⟨v1, v2, v3, e2⟩ := len3 (h3.trans h2)
            subst e2
            obtain ⟨x, px, e3⟩ := name_of hxs
            subst e3
            obtain ⟨xs', e4, hxs'⟩ := names_of hxs
            subst e4
            obtain ⟨y, py, e3⟩ := name_of hxs'
            subst e3
            obtain ⟨xs2, e4, hxs2⟩ := names_of hxs'
            subst e4
            obtain ⟨z, pz, e3⟩ := name_of hxs2
            subst e3
            obtain ⟨xs3, e4, hxs3⟩ := names_of hxs2
            subst e4
            cases hxs3
            obtain ⟨i, j, l, e5⟩ := len3 l1
            subst e5
            have hx : (c.st i x && c.isL x) = true := List.all_eq_true.mp l2 (i, x) (List.mem_cons_self)
            have hy : (c.st j y && c.isL y) = true := List.all_eq_true.mp l2 (j, y) (List.mem_cons_of_mem _ List.mem_cons_self)
            have hz : (c.st l z && c.isL z) = true := List.all_eq_true.mp l2 (l, z) (List.mem_cons_of_mem _ (List.mem_cons_of_mem _ List.mem_cons_self))
            have n1 := List.nodup_cons.mp l3
            have hij : i ≠ j := fun q => n1.1 (q ▸ List.mem_cons_self)
            have hil : i ≠ l := fun q => n1.1 (q ▸ List.mem_cons_of_mem _ List.mem_cons_self)
            exact s_par3 O hx hy hz hij hil (isL_nodup2 n1.2) (List.all_eq_true.mp h1 (.Name y py) List.mem_cons_self) (List.all_eq_true.mp h1 (.Name z pz) (List.mem_cons_of_mem _ List.mem_cons_self)) (p2 v1 List.mem_cons_self) (p2 v2 (List.mem_cons_of_mem _ List.mem_cons_self)) (p2 v3 (List.mem_cons_of_mem _ (List.mem_cons_of_mem _ List.mem_cons_self))) h5 h6 p1
        · cases h4
      · cases h
    · rename_i i kk e
      split at h
      · rename_i x p k' tpos
        by_cases hs : notSlice k' = true
        · have hq : (c.nm i x && (notComp v && (chkE n c e v && chkE n c kk k'))) = true := by
            cases k' <;> first | exact h | cases hs
          obtain ⟨h1, h⟩ := and2 hq
          obtain ⟨h2, h⟩ := and2 h
          obtain ⟨h3, h4⟩ := and2 h
          exact s_setix O h1 hs h2 (pen_of k L c X W O F Lm m _ _ h3) (pen_of k L c X W O F Lm m _ _ h4)
        · cases k' <;> first | (exact absurd rfl hs) | cases h
      · cases h
    · cases h
  | _ =>
    unfold chkS at h
    cases h
theorem psb_all (T : TT) : ∀ n, PSn T n ∧ PBn T n
  | 0 => by
    refine ⟨?_, ?_⟩
    · intro k L c X W O F Lm m s s' h
      cases h
    · intro k L c X W O F Lm m s s' h
      cases h
  | n + 1 => by
    obtain ⟨h1, h2⟩ := psb_all T n
    exact ⟨ps_step h2, pb_step h1 h2⟩
theorem pb_of (O : XOk T k c X W) (F : SF T c k) (Lm : c.lam = true → LamOk T k L c) {n m : Nat} {b : List St} {b' : List Stmt} (h : chkB n c b b' = true) : PSs X b' (tS T W fun σ S => evB (RR T k L m) σ b S) := (psb_all T n).2 k L c X W O F Lm m b b' h
end
end Pf

end
section
/-! Snd14: defs keep what callN says; a law's end. -/
namespace Pf
open PySem PySem.Spec PyProof.Rows L2
theorem zip_lookup {ps : List Str} (hn : ps.Nodup) : ∀ {us : List Value}, us.length = ps.length → ∀ {p : Str}, p ∈ ps → ((ps.zip us).lookup p).isSome = true := by
  induction ps with
  | nil => intro us hl p hp; cases hp
  | cons q ps ih =>
    intro us hl p hp
    cases us with
    | nil => cases hl
    | cons u us =>
      rw [List.zip_cons_cons, List.lookup_cons]
      cases hq : p == q with
      | true => rfl
      | false =>
        rcases List.mem_cons.mp hp with e | hp
        · subst e
          rw [beq_self_eq_true] at hq
          cases hq
        · exact ih (List.nodup_cons.mp hn).2 (by simpa using hl) hp
theorem fm_congr {α β : Type} {f g : α → Option β} : ∀ {l : List α}, (∀ x ∈ l, f x = g x) → l.filterMap f = l.filterMap g
  | [], _ => rfl
  | a :: l, h => by
    rw [List.filterMap_cons, List.filterMap_cons, h a List.mem_cons_self, fm_congr fun x hx => h x (List.mem_cons_of_mem _ hx)]
theorem zip_fm {ps : List Str} (hn : ps.Nodup) : ∀ {us : List Value}, us.length = ps.length → (ps.filterMap fun n => ((ps.zip us).lookup n).map (n, ·)) = ps.zip us := by
  induction ps with
  | nil => intro us hl; rfl
  | cons q ps ih =>
    intro us hl
    cases us with
    | nil => cases hl
    | cons u us =>
      have n1 := List.nodup_cons.mp hn
      rw [List.zip_cons_cons, List.filterMap_cons, List.lookup_cons, beq_self_eq_true]
      show (q, u) :: _ = _
      congr 1
      rw [← ih n1.2 (us := us) (by simpa using hl)]
      refine fm_congr fun p hp => ?_
      rw [List.lookup_cons]
      cases hq : p == q with
      | true =>
        have : p = q := by simpa using hq
        subst this
        exact absurd hp n1.1
      | false =>
        rw [ih n1.2 (by simpa using hl)]
theorem bind_plain {fd : FuncData} {args : List Arg} (hp : fd.params = ⟨[], args, none, [], [], none, []⟩) (hd : fd.defaults = .none) {us : List Value} (hn : (args.map (·.arg)).Nodup) (hl : us.length = (args.map (·.arg)).length) : bindArgs fd ⟨us, []⟩ = pure ((args.map (·.arg)).zip us) := by
  have h1 : ((args.map (·.arg)).filter fun n => (((args.map (·.arg)).zip us).lookup n).isNone) = [] := by
    rw [List.filter_eq_nil_iff]
    intro p hp
    have := zip_lookup hn hl hp
    simp only [Option.isNone_iff_eq_none]
    intro z
    rw [z] at this
    cases this
  have h2 : ¬ us.length > (args.map (·.arg)).length := by omega
  unfold bindArgs
  have hs : seqItems? Value.none = pure none := rfl
  simp only [hp, hd, hs, List.map_nil, List.nil_append, List.append_nil, List.forIn_nil, pure_bind, Option.getD_none, List.drop_nil, List.length_nil, Nat.sub_zero, List.take_length, List.drop_length, List.zip_nil_left, h1, List.isEmpty_nil, Bool.not_true, Option.isNone_none, Bool.and_true]
  rw [if_neg (by simp only [decide_eq_true_eq]; exact h2)]
  simp only [pure_bind, Bool.false_eq_true, if_false, List.isEmpty_nil, Bool.not_true, zip_fm hn hl]
/-- the names that the defs use -/
structure Nm where
  fns : List Str
  excs : List Str
  gints : List (List Nat × Int)
  lams : List Str
  told : Bool
  ys : List Str
  ws : Str
  bits : List (List Bool)
def ccOf (nm : Nm) (N : List Str) (sc : Scope) (lam : Bool) : CC :=
  ⟨N, sc, N.filter fun x => decide (sc.names.lookup x = some .local) || decide (sc.names.lookup x = some .cell), nm.fns, nm.excs, nm.gints, lam, nm.told⟩
def parsOf : Arguments → List Str
  | a => a.args.map (·.arg)
def plainP : Arguments → Bool
  | ⟨[], _, none, [], [], none, []⟩ => true
  | _ => false
def chkD (nm : Nm) (N : List Str) (d : He.DefD) (fn : Fn) : Bool :=
  plainP d.params && (decide (parsOf d.params = N.take fn.np) && (decide ((parsOf d.params).length = fn.np) && (decide (N.length = fn.np + fn.nl) && (decide N.Nodup &&
    (decide (d.scope.kind = .function) && (!d.scope.isCoroutine && (!d.scope.isGenerator && ((parsOf d.params).all (fun x => decide (d.scope.names.lookup x = some .local) || decide (d.scope.names.lookup x = some .cell)) &&
      (d.scope.names.all (fun y => decide (y.2 ≠ .free)) && (d.dfl.isEmpty && (d.kwd.isEmpty && chkB 100 (ccOf nm N d.scope (decide (d.name ∈ nm.lams))) fn.body d.body)))))))))))
theorem plainP_of {p : Arguments} (h : plainP p = true) : p = ⟨[], p.args, none, [], [], none, []⟩ := by
  obtain ⟨a, b, c, d, e, f, g⟩ := p
  unfold plainP at h
  split at h
  · rename_i hq
    cases hq
    rfl
  · cases h
section
variable {T : TT} {nm : Nm}
theorem asg_loc {N : List Str} {sc : Scope} {lam : Bool} {x : Str} (h : x ∈ (ccOf nm N sc lam).asg) : Loc sc x := by
  have h := (List.mem_filter.mp h).2
  rw [Bool.or_eq_true, decide_eq_true_eq, decide_eq_true_eq] at h
  exact h
theorem RVs.cutβ {K : PySem.W.Frag} {g : Gh} {n : Nat} {v : V} {d : D} (h : RV K g v d) (hp : pl d = true) : RV K ⟨g.β.take n, g.F, g.R⟩ v d := RV.plain (g := g) (g' := ⟨g.β.take n, g.F, g.R⟩) (fun _ _ e => e) (n := 60) h hp
theorem Le.cut {g g' : Gh} (l : Le g g') : Le g ⟨g'.β.take g.β.length, g'.F, g'.R⟩ := by
  obtain ⟨x, e⟩ := l.b
  refine ⟨⟨[], ?_⟩, l.f, l.r⟩
  show g'.β.take g.β.length = g.β ++ []
  rw [e, List.take_left, List.append_nil]
theorem er_start {g : Gh} {N : List Str} {vs : List V} {ds : List D} {nl : Nat} (r : RVs T.K g vs ds) (hl : N.length = ds.length + nl) : ER T g (L2.start N vs) (ds.map some ++ List.replicate nl none) := by
  have len := r.length
  unfold L2.start
  have e : N.length - vs.length = nl := by omega
  rw [e]
  refine ⟨by simp [len], fun i d q => ?_⟩
  by_cases hi : i < ds.length
  · rw [List.getElem?_append_left (by simpa using hi), List.getElem?_map] at q
    cases hd : ds[i]? with
    | none =>
      rw [hd] at q
      cases q
    | some d' =>
      rw [hd] at q
      cases q
      obtain ⟨v, h1, h2⟩ := r.get hd
      refine ⟨v, ?_, h2⟩
      rw [List.getElem?_append_left (by simpa [len] using hi), List.getElem?_map, h1]
      rfl
  · rw [List.getElem?_append_right (by simpa using hi), List.getElem?_replicate] at q
    split at q <;> cases q
theorem fnok_step {k i : Nat} {N : List Str} {d : He.DefD} {fn : Fn} {f : Addr} {fd : FuncData} (h : chkD nm N d fn = true) (hP : T.P[i]? = some fn) (F : FunD T.K d.name d.qual d.params d.body d.scope [] [] f fd) (hf : f = He.fAd T.K d.at_) (hS : SF T (ccOf nm N d.scope (decide (d.name ∈ nm.lams))) k)
    (hL : d.name ∈ nm.lams → LamX.TabB T.base T.mg (He.cT T.K d.at_).1 (He.cT T.K d.at_).2 ∧ ((He.cT T.K d.at_).2, d.qual ++ ".<locals>." ++ "<lambda>") ∈ T.tabs ∧ ∀ p ∈ T.tabs, p.1 = (He.cT T.K d.at_).2 → p.2 = d.qual ++ ".<locals>." ++ "<lambda>") (hLm : d.name ∈ nm.lams → LamOk T k (lamN T.P T.G k) (ccOf nm N d.scope (decide (d.name ∈ nm.lams)))) :
    FnOk T.prog T.w T.K T.mg T.base (L2N.CX T.prog T.w) (k + 1) f fd (parsOf d.params) (spN T (k + 1) i) := by
  obtain ⟨h1, h⟩ := and2 h
  obtain ⟨h2, h⟩ := and2 h
  obtain ⟨h3, h⟩ := and2 h
  obtain ⟨h4, h⟩ := and2 h
  obtain ⟨h5, h⟩ := and2 h
  obtain ⟨h6, h⟩ := and2 h
  obtain ⟨h7, h⟩ := and2 h
  obtain ⟨h8, h⟩ := and2 h
  obtain ⟨h9, h⟩ := and2 h
  obtain ⟨h10, h⟩ := and2 h
  obtain ⟨h11, h⟩ := and2 h
  obtain ⟨h12, h13⟩ := and2 h
  have h2 := of_decide_eq_true h2
  have h3 := of_decide_eq_true h3
  have h4 := of_decide_eq_true h4
  have h5 := of_decide_eq_true h5
  have h6 := of_decide_eq_true h6
  have sc : FnScope N (parsOf d.params) d.scope := by
    refine ⟨h6, by simpa using h7, by simpa using h8, h5, by rw [h3, h2], fun x hx => ?_, fun y hy => ?_⟩
    · have q := List.all_eq_true.mp h9 x hx
      rw [Bool.or_eq_true, decide_eq_true_eq, decide_eq_true_eq] at q
      exact q
    · exact of_decide_eq_true (List.all_eq_true.mp h10 y hy)
  -- what a call computes
  have unf : ∀ ds S, callN T.P T.G (k + 1) i ds S = runFn (callN T.P T.G k) (lamN T.P T.G k) T.G fn ds S := fun ds S => by
    show (match T.P[i]? with
      | some fn => runFn (callN T.P T.G k) (lamN T.P T.G k) T.G fn ds S
      | none => .bad) = _
    rw [hP]
  have lenOf : ∀ (vs : List V) (H : Hp) (Q : VK) (E : XK), spN T (k + 1) i vs H Q E → vs.length = fn.np := fun vs H Q E q => by
    obtain ⟨g, S, ds, L, r, p⟩ := q
    rw [unf] at p
    unfold runFn at p
    split at p
    · rename_i hl
      rw [r.length, hl]
    · exact p.elim
  obtain ⟨oc, od, dV, kV, doc, pm, an, cdv, ct, osl, rfl, lk, hcd, _, _⟩ := F.ex
  obtain ⟨cA, rfl⟩ := He.codeIn_ref hcd
  have hcA : He.codeOf T.K d.at_ = cA := He.codeOf_eq (by rw [← hf]; exact lk) rfl
  refine fn_of lk hcd sc (fun vs H Q E q => by rw [lenOf vs H Q E q, h3]) fun A outer s H vs Q E hr q => ?_
  have O : XOk T k (ccOf nm N d.scope (decide (d.name ∈ nm.lams))) (cxOf (L2N.CX T.prog T.w) T.prog T.w T.K T.mg T.base N d.qual d.scope f (.ref cA) A outer s H E) (fun cls d _ H => E cls d H) := by
    refine ⟨rfl, rfl, rfl, rfl, rfl, rfl, h5, rfl, h6, rfl, hr, L2N.takes_of rfl rfl rfl rfl, passes_of rfl, fun x hx => ⟨asg_loc hx, .inl rfl⟩, fun z => ?_⟩
    have z : decide (d.name ∈ nm.lams) = true := z
    obtain ⟨q1, q2, q3⟩ := hL (of_decide_eq_true z)
    rw [show (He.cT T.K d.at_).1 = cA from hcA] at q1
    refine Exists.intro cA (Exists.intro (He.cT T.K d.at_).2 (And.intro ?_ (And.intro ?_ (And.intro ?_ ?_))))
    · rfl
    · exact q1
    · have e2 : (cxOf (L2N.CX T.prog T.w) T.prog T.w T.K T.mg T.base N d.qual d.scope f (.ref cA) A outer s H E).env.qual = d.qual ++ ".<locals>." := rfl
      rw [e2]
      exact q2
    · have e2 : (cxOf (L2N.CX T.prog T.w) T.prog T.w T.K T.mg T.base N d.qual d.scope f (.ref cA) A outer s H E).env.qual = d.qual ++ ".<locals>." := rfl
      rw [e2]
      exact q3
  refine ⟨_, pb_of (m := deep) (L := lamN T.P T.G k) O hS (fun z => hLm (by
    have z : decide (d.name ∈ nm.lams) = true := z
    exact of_decide_eq_true z)) h13, ?_⟩
  obtain ⟨g, S, ds, L, r, p⟩ := q
  rw [unf] at p
  unfold runFn at p
  split at p
  · rename_i hl
    refine ⟨g, ds.map some ++ List.replicate fn.nl none, S, L, er_start r (by omega), ?_⟩
    have e0 : S.length = g.β.length := L.len.symm
    have cutOk : ∀ {g' : Gh} {S1 : Store} {H' : Hp}, Le g g' → Lies T g' S1 H' → Le g ⟨g'.β.take S.length, g'.F, g'.R⟩ ∧ Lies T ⟨g'.β.take S.length, g'.F, g'.R⟩ (S1.take S.length) H' := fun {g' S1 H'} l L' => by
      refine ⟨?_, L'.cut _⟩
      rw [e0]
      exact l.cut
    have fin : ∀ {d : D} {S1 : Store}, Post T (fun c d _ H => E c d H) (RV T.K) g [] (trim S.length d S1) Q → ∀ (g' : Gh) (H' : Hp) (v : V), Le g g' → Lies T g' S1 H' → RV T.K g' v d → Q v H' := fun {d S1} p g' H' v l L' rv => by
      unfold trim at p
      split at p
      · rename_i hp
        obtain ⟨l2, L2'⟩ := cutOk l L'
        exact p _ H' v l2 L2' (RVs.cutβ rv hp)
      · exact p g' H' v l L' rv
    show PostS T _ g (evB (fs (callN T.P T.G k) (lamN T.P T.G k) T.G deep) (ds.map some ++ List.replicate fn.nl none) fn.body S) _
    cases hb : evB (fs (callN T.P T.G k) (lamN T.P T.G k) T.G deep) (ds.map some ++ List.replicate fn.nl none) fn.body S with
    | ok fl S1 =>
      rw [hb] at p
      cases fl with
      | nx e => exact fun g' H' σ' l L' _ => fin (d := .non) p g' H' .non l L' .non
      | ret d => exact fin p
    | exc c S1 =>
      rw [hb] at p
      exact fun g' H' σ' l L' => by
        obtain ⟨l2, L2'⟩ := cutOk l L'
        exact p _ H' l2 L2'
    | bad =>
      rw [hb] at p
      exact p.elim
  · exact p.elim
/-- the module's names, as the law finds them -/
structure Wd (T : TT) (nm : Nm) (defs : List (List Str × He.DefD)) : Prop where
  bl : ∀ x ∈ blts, T.mg x = none
  gi : ∀ p ∈ nm.gints, ∃ t, T.mg (toS p.1) = some (.int p.2 t)
  ex : ∀ (i : Nat) (x : Str), nm.excs[i]? = some x → T.mg x = some (.ref (T.cls i)) ∧ PySem.W.excIn T.K (T.cls i) He.veBase "ValueError.__new__" = true ∧ PySem.W.keepIn T.K (.ref (T.cls i)) = true ∧
    PySem.W.subIn T.K (.ref (T.cls i)) (.type "BaseException") = some true ∧ PySem.W.typeIn T.K (.ref (T.cls i)) = some (.type "type")
  fn : ∀ (i : Nat) (x : Str), nm.fns[i]? = some x → ∃ (N : List Str) (d : He.DefD) (fn : Fn) (f : Addr) (fd : FuncData), defs[i]? = some (N, d) ∧ T.P[i]? = some fn ∧ chkD nm N d fn = true ∧ T.mg x = some (.ref f) ∧ FunD T.K d.name d.qual d.params d.body d.scope [] [] f fd ∧ f = He.fAd T.K d.at_
  lw : nm.lams ≠ [] → LamW T nm.told
  lt : ∀ (i : Nat) (N : List Str) (d : He.DefD), defs[i]? = some (N, d) → d.name ∈ nm.lams → LamX.TabB T.base T.mg (He.cT T.K d.at_).1 (He.cT T.K d.at_).2 ∧ ((He.cT T.K d.at_).2, d.qual ++ ".<locals>." ++ "<lambda>") ∈ T.tabs ∧ ∀ p ∈ T.tabs, p.1 = (He.cT T.K d.at_).2 → p.2 = d.qual ++ ".<locals>." ++ "<lambda>"
theorem fnok_zero {i : Nat} {f : Addr} {fd : FuncData} {ps : List Str} : FnOk T.prog T.w T.K T.mg T.base (L2N.CX T.prog T.w) 0 f fd ps (spN T 0 i) := by
  refine ⟨fun vs H Q E q => ?_, fun A outer s H args us vs Q E _ _ _ _ q => ?_⟩
  · obtain ⟨g, S, ds, L, r, p⟩ := q
    exact p.elim
  · obtain ⟨g, S, ds, L, r, p⟩ := q
    exact p.elim
theorem binds_of {K : PySem.W.Frag} {N : List Str} {d : He.DefD} {fn : Fn} {f : Addr} {fd : FuncData} (h : chkD nm N d fn = true) (F : FunD K d.name d.qual d.params d.body d.scope [] [] f fd) : ∀ (kV doc pm : Value) (an : Option Addr) (cdv ct : Value) (us : List Value), us.length = (parsOf d.params).length →
    bindArgs (PySem.W.fnOf d.name d.qual d.params d.body d.scope .none kV doc pm an cdv ct) ⟨us, []⟩ = pure ((parsOf d.params).zip us) := by
  obtain ⟨h1, h⟩ := and2 h
  obtain ⟨h2, h⟩ := and2 h
  obtain ⟨h3, h⟩ := and2 h
  obtain ⟨h4, h⟩ := and2 h
  obtain ⟨h5, h⟩ := and2 h
  have h2 := of_decide_eq_true h2
  have h5 := of_decide_eq_true h5
  intro kV doc pm an cdv ct us hl
  refine bind_plain (plainP_of h1) rfl ?_ hl
  show (parsOf d.params).Nodup
  rw [h2]
  exact h5.sublist (List.take_sublist _ _)
theorem lamok_of {defs : List (List Str × He.DefD)} (M : Wd T nm defs) {k : Nat} {c : CC} (hc : c.told = nm.told) (hl : nm.lams ≠ []) (h : ∀ j < k, SF T c j) : LamOk T k (lamN T.P T.G k) c := by
  match k, h with
  | 0, _ => exact .inl rfl
  | 1, _ => exact .inl rfl
  | k0 + 2, h => exact .inr ⟨k0, rfl, rfl, by rw [hc]; exact M.lw hl, h k0 (by omega)⟩
theorem sf_all {defs : List (List Str × He.DefD)} (M : Wd T nm defs) : ∀ (k : Nat) (N : List Str) (sc : Scope) (lam : Bool), SF T (ccOf nm N sc lam) k := by
  intro k
  induction k using Nat.strongRecOn with
  | ind k ih =>
    intro N sc lam
    refine ⟨M.bl, M.gi, fun i x hx => ?_, M.ex⟩
    obtain ⟨N', d, fn, f, fd, h1, h2, h3, h4, h5, h6⟩ := M.fn i x hx
    refine ⟨f, fd, _, h4, h5.kp, h5.bindsN (binds_of h3 h5), ?_⟩
    cases k with
    | zero => exact fnok_zero
    | succ k => exact fnok_step h3 h2 h5 h6 (ih k (Nat.lt_succ_self k) N' d.scope _) (M.lt i N' d h1) fun hl => lamok_of M rfl (fun z => by rw [z] at hl; cases hl) fun j hj => ih j (by omega) N' d.scope _
end
end Pf

end
section
/-! Snd15: a law's end. -/
namespace Pf
open PySem PySem.Spec PyProof.Rows L2 LamX
/-- what is tracked, but for the tables -/
def noTab (H : Hp) : Hp := fun b => match H b with
  | some (.tbl _) => none
  | o => o
theorem noTab_of {H : Hp} {b : Addr} {o : HO} (h : H b = some o) (ho : ∀ ps, o ≠ .tbl ps) : noTab H b = some o := by
  unfold noTab
  rw [h]
  cases o <;> first | rfl | exact absurd rfl (ho _)
theorem of_noTab {H : Hp} {b : Addr} {o : HO} (h : noTab H b = some o) : H b = some o ∧ ∀ ps, o ≠ .tbl ps := by
  unfold noTab at h
  cases q : H b with
  | none =>
    rw [q] at h
    cases h
  | some u =>
    rw [q] at h
    cases u <;> first | (cases h; done) | skip
    all_goals
      cases h
      exact ⟨rfl, by intro ps z; cases z⟩
theorem law_sp {T : TT} {H : Hp} {a : Addr} {ns : List Int} (hT : ∀ p ∈ T.tabs, H p.1 = some (.tbl #[])) (hS : SqL T.K H a (ns.map V.int)) {k i : Nat} {S' : Store} (hc : callN T.P T.G k i [.scr (ns.map .int)] [] = .ok (.bl true) S') : spN T k i [.ref a] H (fun v _ => v = .bl true) (fun _ _ _ => False) := by
  have LL : Lies T ⟨[], noTab H, fun _ => none⟩ [] H := by
    refine ⟨fun b o e => of_noTab e, fun b o e => ?_, fun b o e => rfl, rfl, fun n b c e => ?_, fun n m b c c' e => ?_, fun p hp => TabS.nil (hT p hp)⟩
    · have e : (none : Option HO) = some o := e
      cases e
    · have e : ([] : List Addr)[n]? = some b := e
      simp at e
    · have e : ([] : List Addr)[n]? = some b := e
      simp at e
  have hS2 : SqL T.K (noTab H) a (ns.map V.int) := by
    rcases hS with (h | ⟨o, h⟩) | h
    · exact .inl (.inl (noTab_of h (by intro ps z; cases z)))
    · exact .inl (.inr ⟨o, noTab_of h (by intro ps z; cases z)⟩)
    · exact .inr h
  refine ⟨⟨[], noTab H, fun _ => none⟩, [], [.scr (ns.map .int)], LL, .cons (.scr hS2 ?_) .nil, ?_⟩
  · have key : ∀ l : List Int, RVs T.K ⟨[], noTab H, fun _ => none⟩ (l.map V.int) (l.map D.int) := fun l => by
      induction l with
      | nil => exact .nil
      | cons x l ih => exact .cons (.int x) ih
    exact key ns
  · rw [hc]
    intro g' H' v l L r
    cases r
    rfl
/-! ### checks -/
def scB (N ps : List Str) (sc : Scope) : Bool := decide (sc.kind = .function) && (!sc.isCoroutine && (!sc.isGenerator && (decide N.Nodup && (decide (N.take ps.length = ps) && (ps.all (fun x => decide (sc.names.lookup x = some .local) || decide (sc.names.lookup x = some .cell)) && sc.names.all (fun y => decide (y.2 ≠ .free)))))))
theorem scB_of {N ps : List Str} {sc : Scope} (h : scB N ps sc = true) : FnScope N ps sc := by
  obtain ⟨h1, h⟩ := and2 h
  obtain ⟨h2, h⟩ := and2 h
  obtain ⟨h3, h⟩ := and2 h
  obtain ⟨h4, h⟩ := and2 h
  obtain ⟨h5, h⟩ := and2 h
  obtain ⟨h6, h7⟩ := and2 h
  refine ⟨of_decide_eq_true h1, by simpa using h2, by simpa using h3, of_decide_eq_true h4, of_decide_eq_true h5, fun x hx => ?_, fun y hy => of_decide_eq_true (List.all_eq_true.mp h7 y hy)⟩
  have q := List.all_eq_true.mp h6 x hx
  rw [Bool.or_eq_true, decide_eq_true_eq, decide_eq_true_eq] at q
  exact q
def glB (sc : Scope) (x : Str) : Bool := decide (sc.names.lookup x = some .globalImplicit)
def loB (sc : Scope) (x : Str) : Bool := decide (sc.names.lookup x = some .local)
/-- a def with plain parameters at its own name -/
def atB (d : He.DefD) (x : Str) (ps : List Str) : Bool := decide (d.at_ = (x, none)) && (decide (d.name = x) && (decide (d.qual = x) && (d.dfl.isEmpty && (d.kwd.isEmpty && (plainP d.params && (decide (parsOf d.params = ps) && decide ps.Nodup))))))
structure AtD (d : He.DefD) (x : Str) (ps : List Str) : Prop where
  a : d.at_ = (x, none)
  n : d.name = x
  q : d.qual = x
  df : d.dfl = []
  kw : d.kwd = []
  pl : plainP d.params = true
  pr : parsOf d.params = ps
  nd : ps.Nodup
theorem atB_of {d : He.DefD} {x : Str} {ps : List Str} (h : atB d x ps = true) : AtD d x ps := by
  obtain ⟨h1, h⟩ := and2 h
  obtain ⟨h2, h⟩ := and2 h
  obtain ⟨h3, h⟩ := and2 h
  obtain ⟨h4, h⟩ := and2 h
  obtain ⟨h5, h⟩ := and2 h
  obtain ⟨h6, h⟩ := and2 h
  obtain ⟨h7, h8⟩ := and2 h
  exact ⟨of_decide_eq_true h1, of_decide_eq_true h2, of_decide_eq_true h3, List.isEmpty_iff.mp h4, List.isEmpty_iff.mp h5, h6, of_decide_eq_true h7, of_decide_eq_true h8⟩
theorem AtD.fun_ {d : He.DefD} {x : Str} {ps : List Str} {K : PySem.W.Frag} {fd : FuncData} (A : AtD d x ps) (F : FunD K d.name d.qual d.params d.body d.scope (d.dvs K) (d.kws K) (He.fAd K d.at_) fd) : FunD K x x d.params d.body d.scope [] [] (He.ga K x) fd ∧ L2.Binds K fd ps [] := by
  have e1 : He.fAd K d.at_ = He.ga K x := by rw [A.a]; rfl
  have e2 : d.dvs K = [] := by
    unfold He.DefD.dvs
    rw [A.df]
    rfl
  have e3 : d.kws K = [] := by
    unfold He.DefD.kws
    rw [A.kw]
    rfl
  rw [e1, e2, e3, A.n, A.q] at F
  refine ⟨F, F.bindsN fun kV doc pm an cdv ct us hl => ?_⟩
  have e4 : d.params.args.map (·.arg) = ps := A.pr
  have q := bind_plain (fd := PySem.W.fnOf x x d.params d.body d.scope .none kV doc pm an cdv ct) (us := us) (plainP_of A.pl) rfl (by rw [e4]; exact A.nd) (by rw [e4]; exact hl)
  rw [e4] at q
  exact q
def chkNm (nm : Nm) (d : He.DefD) : Bool := atB d "_law_named_error" ["e"] && (scB Nn ["e"] d.scope && (chkNamed d.scope d.body nm.ys nm.ws && ((Nn.all fun x => decide (x = "word") || (decide (x = "good") || loB d.scope x)) && (glB d.scope "isinstance" && (glB d.scope "zip" && ((nm.ys.all fun y => glB d.scope y) && (decide (nm.ys.length = 12) &&
  (decide ((Txt.split nm.ws " ").length = 12) && (decide (nm.ws.length ≤ 1000) && (nm.ys.all fun y => (decide (y ∈ nm.excs) || decide (y = "ValueError")) && !(y == ("__debug__" : Str))))))))))))
def chkEr (nm : Nm) (d : He.DefD) : Bool := atB d (lamName nm.told) ["call"] && (scB Nc ["call"] d.scope && (chkErr nm.told d.body && (loB d.scope "call" && (loB d.scope "e" && (glB d.scope "BiasError" && glB d.scope "_law_named_error")))))
/-- what each exception is told as -/
def chkBits (nm : Nm) (errs : List (List Nat)) : Bool := decide (errs.length = nm.excs.length) && (List.range errs.length).all fun i => decide ((nm.bits.getD i []).length = 12) &&
  (decide (((keepT ((Txt.split nm.ws " ").zip (nm.bits.getD i []))).map (·.length)).sum + (keepT ((Txt.split nm.ws " ").zip (nm.bits.getD i []))).length * (" " : Str).length ≤ 16777216) && decide (Txt.join " " (keepT ((Txt.split nm.ws " ").zip (nm.bits.getD i []))) = toS (errs.getD i [])))
/-! ### facts of K -/
def excCB (K : PySem.W.Frag) (D : Addr) : Bool :=
  decide (PySem.W.findIn K (.ref D) "__getattribute__" = some (some (.builtin "BaseException.__getattribute__"))) && (decide (PySem.W.findIn K (.ref D) "__getattr__" = some none) && (decide (PySem.W.subIn K (.ref D) (.type "BaseException") = some true) && (PySem.W.hasDictIn K D &&
  (decide (PySem.W.findIn K (.ref D) "__class__" = some (some (.builtin "object.__class__"))) && (decide (PySem.W.specialIn K (.builtin "object.__class__") "__get__" = some (some (.builtin "getset_descriptor.__get__"))) && (decide (PySem.W.takesIn K (.builtin "object.__class__") = some true) && decide (PySem.W.mroIn K D (.type "object") = some true)))))))
theorem excCB_of {K : PySem.W.Frag} {D : Addr} (h : excCB K D = true) : ExcC K D := by
  obtain ⟨h1, h⟩ := and2 h
  obtain ⟨h2, h⟩ := and2 h
  obtain ⟨h3, h⟩ := and2 h
  obtain ⟨h4, h⟩ := and2 h
  obtain ⟨h5, h⟩ := and2 h
  obtain ⟨h6, h⟩ := and2 h
  obtain ⟨h7, h8⟩ := and2 h
  exact ⟨of_decide_eq_true h1, of_decide_eq_true h2, of_decide_eq_true h3, h4, of_decide_eq_true h5, of_decide_eq_true h6, of_decide_eq_true h7, of_decide_eq_true h8⟩
def clsV (nm : Nm) (K : PySem.W.Frag) (y : Str) : Value := if y ∈ nm.excs then .ref (He.ga K y) else .type "ValueError"
def exB (nm : Nm) (K : PySem.W.Frag) : Bool := decide ((nm.lams.map fun x => (He.cT K (x, none)).2).Nodup) && (nm.lams.isEmpty || (List.range nm.excs.length).all fun i =>
  decide (PySem.W.exmOne K (.ref (He.ga K (nm.excs.getD i Str.empty))) (.ref (He.ga K "BiasError")) = some true) && (excCB K (He.ga K (nm.excs.getD i Str.empty)) &&
    ((nm.ys.zip (nm.bits.getD i [])).all fun p => decide (PySem.W.kitOne K (.ref (He.ga K (nm.excs.getD i Str.empty))) (clsV nm K p.1) = some p.2))))
/-- the facts that the law's Hook tells -/
def faOf (nm : Nm) : List He.Fa := nm.fns.map .glo ++ ((blts ++ [("ValueError" : Str)]).map .free ++ (nm.gints.map (fun p => .int (toS p.1) p.2) ++ (nm.excs.map .glo ++ (nm.excs.map .exc ++ (if nm.lams.isEmpty then [] else [.glo "_law_named_error", .glo (lamName nm.told)])))))
def chkXs (nm : Nm) (xs : List He.DefD) (errs : List (List Nat)) : Bool := match xs with
  | [dn, de] => chkNm nm dn && (chkEr nm de && (chkBits nm errs && decide (("BiasError" : Str) ∈ nm.excs)))
  | _ => false
def chkW (nm : Nm) (defs : List (List Str × He.DefD)) (xs : List He.DefD) (P : List Fn) (errs : List (List Nat)) : Bool :=
  decide (nm.fns = defs.map (·.2.name)) && (decide (defs.length = P.length) && ((defs.all fun p => decide (p.2.at_ = (p.2.name, none)) && (decide (p.2.qual = p.2.name) && (p.2.dfl.isEmpty && p.2.kwd.isEmpty))) && (((defs.zip P).all fun p => chkD nm p.1.1 p.1.2 p.2) &&
    (nm.lams.isEmpty || chkXs nm xs errs))))
theorem says_facts {fa : List He.Fa} {fn : List He.DefD} {K : PySem.W.Frag} (c : He.SaysD fa fn K) {f : He.Fa} (h : f ∈ fa) : f.ok K = true := c.facts h
def mkT (P0 : PySem.Program) (w : World) (K : PySem.W.Frag) (mg : Str → Option Value) (base : Heap) (nm : Nm) (P : List Fn) (G : Cfg) : TT :=
  ⟨P0, w, K, mg, base, nm.lams.map fun x => ((He.cT K (x, none)).2, x ++ ".<locals>." ++ "<lambda>"), fun i => He.ga K (nm.excs.getD i Str.empty), P, G⟩
section
variable {P0 : PySem.Program} {w : World} {K : PySem.W.Frag} {mg : Str → Option Value} {base h : Heap} {nm : Nm} {defs : List (List Str × He.DefD)} {xs : List He.DefD} {P : List Fn} {G : Cfg}
theorem lamw_of (X : K.In h) (Gn : h.Ns mainGlobals mg) (c : He.SaysD (faOf nm) (defs.map (·.2) ++ xs) K) (hex : exB nm K = true) (hl : nm.lams.isEmpty = false) (hx : chkXs nm xs G.errs = true) : LamW (mkT P0 w K mg base nm P G) nm.told := by
  obtain ⟨dn, de, rfl⟩ : ∃ dn de, xs = [dn, de] := by
    unfold chkXs at hx
    split at hx
    · exact ⟨_, _, rfl⟩
    · cases hx
  obtain ⟨c1, hx⟩ := and2 (show (chkNm nm dn && (chkEr nm de && (chkBits nm G.errs && decide (("BiasError" : Str) ∈ nm.excs)))) = true from hx)
  obtain ⟨c2, hx⟩ := and2 hx
  obtain ⟨c3, c4⟩ := and2 hx
  have c4 := of_decide_eq_true c4
  obtain ⟨n1, c1⟩ := and2 c1
  obtain ⟨n2, c1⟩ := and2 c1
  obtain ⟨n3, c1⟩ := and2 c1
  obtain ⟨n4, c1⟩ := and2 c1
  obtain ⟨n5, c1⟩ := and2 c1
  obtain ⟨n6, c1⟩ := and2 c1
  obtain ⟨n7, c1⟩ := and2 c1
  obtain ⟨n8, c1⟩ := and2 c1
  obtain ⟨n9, c1⟩ := and2 c1
  obtain ⟨n10, n11⟩ := and2 c1
  obtain ⟨r1, c2⟩ := and2 c2
  obtain ⟨r2, c2⟩ := and2 c2
  obtain ⟨r3, c2⟩ := and2 c2
  obtain ⟨r4, c2⟩ := and2 c2
  obtain ⟨r5, c2⟩ := and2 c2
  obtain ⟨r6, r7⟩ := and2 c2
  have A1 := atB_of n1
  have A2 := atB_of r1
  obtain ⟨f1, F1⟩ := c.defs (d := dn) (List.mem_append_right _ List.mem_cons_self)
  obtain ⟨f2, F2⟩ := c.defs (d := de) (List.mem_append_right _ (List.mem_cons_of_mem _ List.mem_cons_self))
  obtain ⟨F1, B1⟩ := A1.fun_ F1
  obtain ⟨F2, B2⟩ := A2.fun_ F2
  have inFa : ∀ {f : He.Fa}, f ∈ (if nm.lams.isEmpty then [] else [He.Fa.glo "_law_named_error", .glo (lamName nm.told)]) → f.ok K = true := fun {f} hf => says_facts c (List.mem_append_right _ (List.mem_append_right _ (List.mem_append_right _ (List.mem_append_right _ (List.mem_append_right _ hf)))))
  rw [hl] at inFa
  have g1 := He.glo_ok X Gn (inFa (f := .glo "_law_named_error") List.mem_cons_self)
  have g2 := He.glo_ok X Gn (inFa (f := .glo (lamName nm.told)) (List.mem_cons_of_mem _ List.mem_cons_self))
  have fr : ∀ x ∈ blts ++ [("ValueError" : Str)], mg x = none := fun x hx => He.free_ok X Gn (says_facts c (f := .free x) (List.mem_append_right _ (List.mem_append_left _ (List.mem_map.mpr ⟨x, hx, rfl⟩))))
  have gx : ∀ x ∈ nm.excs, mg x = some (.ref (He.ga K x)) := fun x hx => He.glo_ok X Gn (says_facts c (f := .glo x) (List.mem_append_right _ (List.mem_append_right _ (List.mem_append_right _ (List.mem_append_left _ (List.mem_map.mpr ⟨x, hx, rfl⟩))))))
  have M : NamedD K mg (He.ga K "_law_named_error") "_law_named_error" nm.ys nm.ws :=
    ⟨⟨dn.params, dn.body, dn.scope, f1, F1, n3, scB_of n2, B1, fun x hx h1 h2 => by
      have q := List.all_eq_true.mp n4 x hx
      simp only [Bool.or_eq_true, decide_eq_true_eq] at q
      rcases q with q | q | q
      · exact absurd q h1
      · exact absurd q h2
      · exact of_decide_eq_true q, of_decide_eq_true n5, of_decide_eq_true n6, fun y hy => of_decide_eq_true (List.all_eq_true.mp n7 y hy)⟩, of_decide_eq_true n8, of_decide_eq_true n9, of_decide_eq_true n10, g1, fr _ (by decide), fr _ (by decide)⟩
  obtain ⟨e1, e2⟩ := and2 hex
  rw [hl, Bool.false_or] at e2
  obtain ⟨b1, b2⟩ := and2 c3
  have b1 := of_decide_eq_true b1
  refine ⟨_, _, _, _, _, _, _, _, _, M, gx _ c4, fun i s hs => ?_, g2, F2, r3, scB_of r2, B2, of_decide_eq_true r4, of_decide_eq_true r5, of_decide_eq_true r6, of_decide_eq_true r7⟩
  have hi : i < G.errs.length := (List.getElem?_eq_some_iff.mp hs).1
  obtain ⟨k1, k2⟩ := and2 (List.all_eq_true.mp e2 i (List.mem_range.mpr (by rw [← b1]; exact hi)))
  obtain ⟨k2, k3⟩ := and2 k2
  obtain ⟨m1, m2⟩ := and2 (List.all_eq_true.mp b2 i (List.mem_range.mpr hi))
  obtain ⟨m2, m3⟩ := and2 m2
  have es : G.errs.getD i [] = s := by
    rw [List.getD_eq_getElem?_getD, show G.errs[i]? = some s from hs]
    rfl
  rw [es] at m3
  refine ⟨of_decide_eq_true k1, excCB_of k2, nm.bits.getD i [], of_decide_eq_true m1, fun j y b hy hb => ?_, of_decide_eq_true m2, of_decide_eq_true m3⟩
  have q := of_decide_eq_true (List.all_eq_true.mp k3 (y, b) (List.mem_of_getElem? (i := j) (by rw [List.getElem?_zip_eq_some]; exact ⟨hy, hb⟩)))
  obtain ⟨y1, y2⟩ := and2 (List.all_eq_true.mp n11 y (List.mem_of_getElem? hy))
  refine ⟨by simpa using y2, ?_⟩
  have q9 : PySem.W.kitOne K (.ref (He.ga K (nm.excs.getD i Str.empty))) (if y ∈ nm.excs then .ref (He.ga K y) else .type "ValueError") = some b := q
  clear q
  by_cases hy2 : y ∈ nm.excs
  · rw [if_pos hy2] at q9
    exact .inl ⟨_, gx y hy2, q9⟩
  · rw [if_neg hy2] at q9
    rw [Bool.or_eq_true, decide_eq_true_eq, decide_eq_true_eq] at y1
    rcases y1 with y1 | y1
    · exact absurd y1 hy2
    · subst y1
      exact .inr ⟨fr _ (by decide), by decide, "ValueError", by decide +kernel, q9⟩
theorem wd_of (X : K.In h) (Gn : h.Ns mainGlobals mg) (c : He.SaysD (faOf nm) (defs.map (·.2) ++ xs) K) (hex : exB nm K = true) (hc : chkW nm defs xs P G.errs = true)
    (hT : ∀ x ∈ nm.lams, TabB base mg (He.cT K (x, none)).1 (He.cT K (x, none)).2) : Wd (mkT P0 w K mg base nm P G) nm defs := by
  obtain ⟨h1, hc⟩ := and2 hc
  obtain ⟨h2, hc⟩ := and2 hc
  obtain ⟨h3, hc⟩ := and2 hc
  obtain ⟨h4, h5⟩ := and2 hc
  have h1 := of_decide_eq_true h1
  have h2 := of_decide_eq_true h2
  have at3 : ∀ {N : List Str} {d : He.DefD}, (N, d) ∈ defs → d.at_ = (d.name, none) ∧ d.qual = d.name ∧ d.dfl = [] ∧ d.kwd = [] := fun {N d} hm => by
    obtain ⟨k1, k2⟩ := and2 (List.all_eq_true.mp h3 (N, d) hm)
    obtain ⟨k2, k3⟩ := and2 k2
    obtain ⟨k3, k4⟩ := and2 k3
    exact ⟨of_decide_eq_true k1, of_decide_eq_true k2, List.isEmpty_iff.mp k3, List.isEmpty_iff.mp k4⟩
  refine ⟨fun x hx => He.free_ok X Gn (says_facts c ?_), fun p hp => He.int_ok X Gn (says_facts c ?_), fun i x hx => ?_, fun i x hx => ?_, fun hl => ?_, fun i N d hd hl => ?_⟩
  · exact List.mem_append_right _ (List.mem_append_left _ (List.mem_map.mpr ⟨x, List.mem_append_left _ hx, rfl⟩))
  · exact List.mem_append_right _ (List.mem_append_right _ (List.mem_append_left _ (List.mem_map.mpr ⟨p, hp, rfl⟩)))
  · have hm : x ∈ nm.excs := List.mem_of_getElem? hx
    have e : nm.excs.getD i Str.empty = x := by
      rw [List.getD_eq_getElem?_getD, hx]
      rfl
    have g1 := He.glo_ok X Gn (says_facts c (f := .glo x) (List.mem_append_right _ (List.mem_append_right _ (List.mem_append_right _ (List.mem_append_left _ (List.mem_map.mpr ⟨x, hm, rfl⟩))))))
    have g2 := He.exc_ok (says_facts c (f := .exc x) (List.mem_append_right _ (List.mem_append_right _ (List.mem_append_right _ (List.mem_append_right _ (List.mem_append_left _ (List.mem_map.mpr ⟨x, hm, rfl⟩)))))))
    show mg x = some (.ref (He.ga K (nm.excs.getD i Str.empty))) ∧ PySem.W.excIn K (He.ga K (nm.excs.getD i Str.empty)) He.veBase "ValueError.__new__" = true ∧ PySem.W.keepIn K (.ref (He.ga K (nm.excs.getD i Str.empty))) = true ∧
      PySem.W.subIn K (.ref (He.ga K (nm.excs.getD i Str.empty))) (.type "BaseException") = some true ∧ PySem.W.typeIn K (.ref (He.ga K (nm.excs.getD i Str.empty))) = some (.type "type")
    rw [e]
    exact ⟨g1, g2⟩
  · have hx2 : (defs.map (·.2.name))[i]? = some x := by rw [← h1]; exact hx
    rw [List.getElem?_map] at hx2
    obtain ⟨p, hp, e⟩ := Option.map_eq_some_iff.mp hx2
    obtain ⟨N, d⟩ := p
    have hi : i < P.length := by
      rw [← h2]
      exact (List.getElem?_eq_some_iff.mp hp).1
    have hP : P[i]? = some P[i] := List.getElem?_eq_getElem hi
    obtain ⟨fd, F⟩ := c.defs (d := d) (List.mem_append_left _ (List.mem_map.mpr ⟨(N, d), List.mem_of_getElem? hp, rfl⟩))
    obtain ⟨k1, k2, k3, k4⟩ := at3 (List.mem_of_getElem? hp)
    have hz : (defs.zip P)[i]? = some ((N, d), P[i]) := by
      rw [List.getElem?_zip_eq_some]
      exact ⟨hp, hP⟩
    have k5 := List.all_eq_true.mp h4 ((N, d), P[i]) (List.mem_of_getElem? hz)
    have e0 : d.name = x := e
    have eg : He.fAd K d.at_ = He.ga K x := by rw [k1, ← e0]; rfl
    have ed : d.dvs K = [] := by
      unfold He.DefD.dvs
      rw [k3]
      rfl
    have ek : d.kws K = [] := by
      unfold He.DefD.kws
      rw [k4]
      rfl
    rw [ed, ek] at F
    refine ⟨N, d, P[i], He.fAd K d.at_, fd, hp, hP, k5, ?_, F, rfl⟩
    rw [eg]
    exact He.glo_ok X Gn (says_facts c (f := .glo x) (List.mem_append_left _ (List.mem_map.mpr ⟨x, List.mem_of_getElem? hx, rfl⟩)))
  · have hl2 : nm.lams.isEmpty = false := by
      cases q : nm.lams.isEmpty with
      | false => rfl
      | true => exact absurd (List.isEmpty_iff.mp q) hl
    rw [hl2, Bool.false_or] at h5
    exact lamw_of X Gn c hex hl2 h5
  · obtain ⟨k1, k2, _, _⟩ := at3 (List.mem_of_getElem? hd)
    rw [k1, k2]
    refine ⟨hT d.name hl, List.mem_map.mpr ⟨d.name, hl, rfl⟩, fun p hp he => ?_⟩
    obtain ⟨x, hx, rfl⟩ := List.mem_map.mp hp
    have nd := of_decide_eq_true (and2 hex).1
    have inj : x = d.name := by
      have key : ∀ {l : List Str}, (l.map fun x => (He.cT K (x, none)).2).Nodup → ∀ {a b : Str}, a ∈ l → b ∈ l → (He.cT K (a, none)).2 = (He.cT K (b, none)).2 → a = b := fun {l} => by
        induction l with
        | nil => intro _ a b ha; cases ha
        | cons z l ih =>
          intro hn a b ha hb e
          have hn := List.nodup_cons.mp hn
          rcases List.mem_cons.mp ha with q1 | q1 <;> rcases List.mem_cons.mp hb with q2 | q2
          · rw [q1, q2]
          · rw [q1] at e
            exact absurd (List.mem_map.mpr ⟨b, q2, e.symm⟩) hn.1
          · rw [q2] at e
            exact absurd (List.mem_map.mpr ⟨a, q1, e⟩) hn.1
          · exact ih hn.2 q1 q2 e
      exact key nd hx hl he
    show x ++ ".<locals>." ++ "<lambda>" = _
    rw [inj]
end
/-- what the law's end asks, of the head's facts and of what callN says -/
theorem law_end {l : PySem.W.OpenLaw} {nm : Nm} {defs : List (List Str × He.DefD)} {xs : List He.DefD} {P : List Fn} {G : Cfg} {k i m : Nat} {law : Str} {N : List Str} {d : He.DefD} (hchk : chkW nm defs xs P G.errs = true) (hi : defs[i]? = some (N, d)) (hn : nm.fns[i]? = some law) (hp : parsOf d.params = [("script" : Str)])
    (hcall : ∀ ns : List Int, ns.length ≤ m → ∃ S', callN P G (k + 1) i [.scr (ns.map .int)] [] = .ok (.bl true) S')
    (w : World) (mg : Str → Option Value) (fa : Addr) (h : Heap) (Y : ∃ K : PySem.W.Frag, K.In h ∧ He.SaysX (faOf nm) (defs.map (·.2) ++ xs) [] (nm.lams.map fun x => (x, none)) (exB nm) w h K) (Gn : h.Ns mainGlobals mg) (hmg : mg law = some (.ref fa)) :
    ∃ K : PySem.W.Frag, K.In h ∧ LawAtS l w K (L2N.CX l.prog w) (k + 1) m "script" mg fa h := by
  obtain ⟨K, KX, c⟩ := Y
  have cd := c.t.d
  have wd : ∀ base : Heap, (∀ x ∈ nm.lams, TabB base mg (He.cT K (x, none)).1 (He.cT K (x, none)).2) → Wd (mkT l.prog w K mg base nm P G) nm defs := fun base => wd_of KX Gn cd c.more hchk
  obtain ⟨h1, hc⟩ := and2 hchk
  obtain ⟨h2, hc⟩ := and2 hc
  obtain ⟨h3, hc⟩ := and2 hc
  obtain ⟨h4, h5⟩ := and2 hc
  have h1 := of_decide_eq_true h1
  have h2 := of_decide_eq_true h2
  have hm := List.mem_of_getElem? hi
  obtain ⟨k1, k2⟩ := and2 (List.all_eq_true.mp h3 (N, d) hm)
  obtain ⟨k2, k3⟩ := and2 k2
  obtain ⟨k3, k4⟩ := and2 k3
  have k1 : d.at_ = (d.name, none) := of_decide_eq_true k1
  obtain ⟨fd, F⟩ := cd.defs (d := d) (List.mem_append_left _ (List.mem_map.mpr ⟨(N, d), hm, rfl⟩))
  have hPi : i < P.length := by
    rw [← h2]
    exact (List.getElem?_eq_some_iff.mp hi).1
  have hz : (defs.zip P)[i]? = some ((N, d), P[i]) := by
    rw [List.getElem?_zip_eq_some]
    exact ⟨hi, List.getElem?_eq_getElem hPi⟩
  have k5 := List.all_eq_true.mp h4 ((N, d), P[i]) (List.mem_of_getElem? hz)
  have hname : d.name = law := by
    have q : (defs.map (·.2.name))[i]? = some law := by rw [← h1]; exact hn
    rw [List.getElem?_map, hi] at q
    exact Option.some.inj q
  have eg : He.fAd K d.at_ = He.ga K law := by rw [k1, hname]; rfl
  have ed : d.dvs K = [] := by
    unfold He.DefD.dvs
    rw [List.isEmpty_iff.mp k3]
    rfl
  have ek : d.kws K = [] := by
    unfold He.DefD.kws
    rw [List.isEmpty_iff.mp k4]
    rfl
  rw [ed, ek] at F
  have hfa : fa = He.fAd K d.at_ := by
    have q := He.glo_ok KX Gn (says_facts cd (f := .glo law) (List.mem_append_left _ (List.mem_map.mpr ⟨law, List.mem_of_getElem? hn, rfl⟩)))
    rw [hmg] at q
    rw [eg]
    exact Value.ref.inj (Option.some.inj q)
  have b := binds_of k5 F
  refine ⟨K, KX, fd, nm.lams.map fun x => He.cT K (x, none), fun vs H Q E => ∀ base, spN (mkT l.prog w K mg base nm P G) (k + 1) i vs H Q E, fun p hp => ?_, fun p hp => ?_, fun p hp => ?_, fun s u => ?_, fun H a ns hl _ hT hS base => ?_, fun base _ _ hT => ?_⟩
  · obtain ⟨x, hx, rfl⟩ := List.mem_map.mp hp
    exact c.empty _ (List.mem_map.mpr ⟨x, hx, rfl⟩)
  · obtain ⟨x, hx, rfl⟩ := List.mem_map.mp hp
    exact c.out _ (List.mem_map.mpr ⟨x, hx, rfl⟩)
  · obtain ⟨x, hx, rfl⟩ := List.mem_map.mp hp
    exact PySem.W.codeHd_of_K KX (c.hd _ (List.mem_map.mpr ⟨x, hx, rfl⟩))
  · exact FunD.bindsA (ps := [("script" : Str)]) F (fun kV doc pm an cdv ct us hl => by
      have q := b kV doc pm an cdv ct us (by rw [hp]; exact hl)
      rw [hp] at q
      exact q) s [u] rfl
  · obtain ⟨S', hc⟩ := hcall ns hl
    refine law_sp (T := mkT l.prog w K mg base nm P G) (fun p hp => ?_) hS hc
    obtain ⟨x, hx, rfl⟩ := List.mem_map.mp hp
    exact hT (He.cT K (x, none)) (List.mem_map.mpr ⟨x, hx, rfl⟩)
  · have W := wd base fun x hx => hT (He.cT K (x, none)) (List.mem_map.mpr ⟨x, hx, rfl⟩)
    have q := fnok_step (T := mkT l.prog w K mg base nm P G) (k := k) (i := i) k5 (List.getElem?_eq_getElem hPi) F rfl (sf_all W k N d.scope _) (W.lt i N d hi) fun hl => lamok_of W rfl (fun z => by rw [z] at hl; cases hl) fun j hj => sf_all W j N d.scope _
    rw [hp, ← hfa] at q
    exact q.imp fun vs H Q E z => z base
theorem cx_calm {P0 : PySem.Program} {w : World} (H : Hp) (s : Shared) (e : Value) (s' : Shared) (z : L2N.CX P0 w [] H s (fun _ _ _ => False) e s') : False := by
  obtain ⟨a, B, H', cls, d, _, _, _, _, _, _, _, q⟩ := z
  exact q
end Pf

end
section
namespace K21
open Pf
/-- is_plain value -/
def b_is_plain : List Pf.St := [(.ret (.and (.isin (.var 0) .int) (.not (.isin (.var 0) .bool))))]
/-- is_whole value low high -/
def b_is_whole : List Pf.St := [(.ret (.and (.call 0 [(.var 0)]) (.cmp2 .le .le (.var 1) (.var 0) (.var 2))))]
/-- is_row value low high -/
def b_is_row : List Pf.St := [(.ret (.and (.isin (.var 0) .tuple) (.cmp2 .le .le (.var 1) (.bi .len [(.var 0)]) (.var 2))))]
/-- is_stand value many -/
def b_is_stand : List Pf.St := [(.ifs (.or (.not (.call 2 [(.var 0), (.int 2), (.int 4)])) (.not (.isin (.ix (.var 0) (.int 0)) .str))) [(.ret (.bl false))] []), (.ifs (.cmp .eq (.ix (.var 0) (.int 0)) (.str [101, 110, 100])) [(.ret (.and (.cmp .eq (.bi .len [(.var 0)]) (.int 2)) (.call 1 [(.ix (.var 0) (.int 1)), (.neg (.int 9)), (.int 9)])))] []), (.ifs (.cmp .eq (.ix (.var 0) (.int 0)) (.str [116, 104, 114, 111, 119])) [(.ifs (.or (.cmp .ne (.bi .len [(.var 0)]) (.int 4)) (.not (.call 1 [(.ix (.var 0) (.int 1)), (.int 0), (.int 9)]))) [(.ret (.bl false))] []), (.ret (.and (.call 1 [(.ix (.var 0) (.int 2)), (.int 0), (.bin .sub (.var 1) (.int 1))]) (.call 1 [(.ix (.var 0) (.int 3)), (.int 0), (.bin .sub (.var 1) (.int 1))])))] []), (.ifs (.or (.cmp .ne (.ix (.var 0) (.int 0)) (.str [99, 104, 111, 111, 115, 101])) (.or (.cmp .ne (.bi .len [(.var 0)]) (.int 3)) (.not (.call 1 [(.ix (.var 0) (.int 1)), (.int 0), (.bin .sub (.var 1) (.int 1))])))) [(.ret (.bl false))] []), (.ret (.and (.call 1 [(.ix (.var 0) (.int 2)), (.int 0), (.bin .sub (.var 1) (.int 1))]) (.cmp .lt (.ix (.var 0) (.int 1)) (.ix (.var 0) (.int 2)))))]
/-- is_board value words stand -/
def b_is_board : List Pf.St := [(.ifs (.or (.not (.call 2 [(.var 0), (.int 2), (.int 6)])) (.not (.bi .all [(.comp false [2] (.nm 2) (.seq (.var 0)) none (.call 3 [(.var 2), (.bi .len [(.var 0)])]))]))) [(.ret (.bl false))] []), (.asg (.nm 1) (.comp false [2] (.nm 2) (.seq (.var 0)) none (.ix (.var 2) (.int 0)))), (.ret (.and (.cmp .in_ (.str [101, 110, 100]) (.var 1)) (.cmp .le (.mt .count (.var 1) [(.str [99, 104, 111, 111, 115, 101])]) (.int 3))))]
/-- need_board board -/
def b_need_board : List Pf.St := [(.ifs (.not (.call 4 [(.var 0)])) [(.rais 1 [110, 111, 116, 32, 97, 32, 98, 111, 97, 114, 100])] [])]
/-- as_text board stand part -/
def b_as_text : List Pf.St := [(.ret (.mt .join (.str [10]) [(.comp false [1] (.nm 1) (.seq (.var 0)) none (.mt .join (.str [32]) [(.comp false [2] (.nm 2) (.seq (.var 1)) none (.bi .str [(.var 2)]))]))]))]
/-- board_text board -/
def b_board_text : List Pf.St := [(.expr (.call 5 [(.var 0)])), (.ret (.call 6 [(.var 0)]))]
/-- part_in word figure -/
def b_part_in : List Pf.St := [(.asg (.nm 1) (.ife (.cmp .eq (.sl (.var 0) none (some (.int 1))) (.str [45])) (.sl (.var 0) (some (.int 1)) none) (.var 0))), (.ret (.ife (.and (.cmp .eq (.bi .len [(.var 1)]) (.int 1)) (.cmp .in_ (.var 1) (.str [48, 49, 50, 51, 52, 53, 54, 55, 56, 57]))) (.bi .int [(.var 0)]) (.var 0)))]
/-- read_board value found line word -/
def b_read_board : List Pf.St := [(.ifs (.not (.isin (.var 0) .str)) [(.rais 8 [110, 111, 116, 32, 97, 32, 115, 116, 114, 105, 110, 103])] []), (.asg (.nm 1) (.bi .tuple [(.comp false [2] (.nm 2) (.seq (.mt .split (.var 0) [(.str [10])])) none (.bi .tuple [(.comp false [3] (.nm 3) (.seq (.mt .split (.var 2) [(.str [32])])) none (.call 8 [(.var 3)]))]))])), (.ifs (.or (.not (.call 4 [(.var 1)])) (.cmp .ne (.call 6 [(.var 1)]) (.var 0))) [(.rais 8 [110, 111, 116, 32, 116, 104, 101, 32, 116, 101, 120, 116, 32, 111, 102, 32, 97, 32, 98, 111, 97, 114, 100])] []), (.ret (.var 1))]
/-- _law_cell script k -/
def b_law_cell : List Pf.St := [(.ifs (.cmp .lt (.var 1) (.bi .len [(.var 0)])) [(.ret (.ix (.var 0) (.var 1)))] []), (.ifs (.cmp .eq (.bi .len [(.var 0)]) (.int 0)) [(.ret (.bin .add (.bin .mul (.int 7919) (.var 1)) (.int 101)))] []), (.ret (.bin .add (.bin .mod (.ix (.var 0) (.bin .mod (.var 1) (.bi .len [(.var 0)]))) (.int 1000003)) (.bin .mul (.int 7919) (.var 1))))]
/-- _law_draws script k many base primes cell rest row j mash -/
def b_law_draws : List Pf.St := [(.asg (.nm 4) (.tup [(.int 2147483647), (.int 2147483629), (.int 2147483587), (.int 2147483579), (.int 2147483563), (.int 2147483549), (.int 2147483543), (.int 2147483497)])), (.asg (.nm 5) (.call 10 [(.var 0), (.var 1)])), (.asg (.nm 6) (.int 0)), (.ifs (.cmp .ge (.var 5) (.bin .pow (.int 10) (.int 18))) [(.asg (.nm 6) (.var 5))] []), (.asg (.nm 7) (.lst true [])), (.for_ (.nm 8) (.rng1 (.var 2)) [(.asg (.nm 9) (.bin .mul (.bin .mod (.var 5) (.ix (.var 4) (.bin .mod (.var 8) (.int 8)))) (.bin .add (.int 48271) (.bin .mul (.bin .mul (.int 2) (.var 8)) (.var 8))))), (.asg (.nm 9) (.bin .add (.bin .add (.var 9) (.bin .mul (.bin .mul (.int 7919) (.bin .add (.var 8) (.int 1))) (.bin .add (.var 8) (.int 1)))) (.bin .mul (.int 104729) (.var 1)))), (.asg (.nm 9) (.bin .mod (.var 9) (.ix (.var 4) (.bin .mod (.bin .add (.bin .mul (.int 3) (.var 8)) (.var 1)) (.int 8))))), (.asg (.nm 9) (.bin .mod (.bin .mul (.bin .mul (.var 9) (.var 9)) (.var 9)) (.ix (.var 4) (.bin .mod (.bin .add (.var 8) (.int 5)) (.int 8))))), (.ifs (.cmp .gt (.var 6) (.int 0)) [(.asg (.nm 9) (.var 6))] []), (.app 7 (.bin .mod (.var 9) (.var 3))), (.asg (.nm 6) (.bin .fdiv (.var 6) (.var 3)))]), (.ret (.var 7))]
/-- _law_bag script k -/
def b_law_bag : List Pf.St := [(.ret (.call 11 [(.var 0), (.var 1), (.int 150), (.int 27720)]))]
/-- _law_take bag many draw -/
def b_law_take : List Pf.St := [(.asg (.nm 2) (.ife (.cmp .ne (.var 0) (.lst false [])) (.pop0 0) (.int 0))), (.ret (.bin .mod (.bi .int [(.var 2)]) (.var 1)))]
/-- _law_choice bag some -/
def b_law_choice : List Pf.St := [(.ret (.ix (.var 1) (.call 13 [(.var 0), (.bi .len [(.var 1)])])))]
/-- _law_stand bag many most way cost one -/
def b_law_stand : List Pf.St := [(.asg (.nm 3) (.call 13 [(.var 0), (.int 8)])), (.ifs (.cmp .lt (.var 3) (.int 2)) [(.ret (.tup [(.str [101, 110, 100]), (.bin .sub (.call 13 [(.var 0), (.int 19)]) (.int 9))]))] []), (.ifs (.and (.cmp .lt (.var 3) (.int 4)) (.cmp .gt (.var 2) (.int 0))) [(.asg (.nm 5) (.call 13 [(.var 0), (.bin .sub (.var 1) (.int 1))])), (.ret (.tup [(.str [99, 104, 111, 111, 115, 101]), (.var 5), (.bin .add (.bin .add (.var 5) (.int 1)) (.call 13 [(.var 0), (.bin .sub (.bin .sub (.var 1) (.int 1)) (.var 5))]))]))] []), (.asg (.nm 4) (.call 14 [(.var 0), (.lst false [(.int 0), (.int 0), (.int 0), (.int 1), (.int 1), (.int 2), (.int 5)])])), (.ret (.tup [(.str [116, 104, 114, 111, 119]), (.var 4), (.call 13 [(.var 0), (.var 1)]), (.call 13 [(.var 0), (.var 1)])]))]
/-- _law_board bag most many found number left_so stand -/
def b_law_board : List Pf.St := [(.asg (.nm 2) (.bin .add (.int 3) (.call 13 [(.var 0), (.int 4)]))), (.asg (.nm 3) (.tup [])), (.for_ (.nm 4) (.rng1 (.bin .sub (.var 2) (.int 1))) [(.asg (.nm 5) (.bin .sub (.var 1) (.bi .len [(.comp false [6] (.nm 6) (.seq (.var 3)) (some (.cmp .eq (.ix (.var 6) (.int 0)) (.str [99, 104, 111, 111, 115, 101]))) (.var 6))]))), (.asg (.nm 3) (.bin .add (.var 3) (.tup [(.call 15 [(.var 0), (.var 2), (.var 5)])])))]), (.ifs (.and (.cmp .gt (.call 13 [(.var 0), (.int 3)]) (.int 0)) (.cmp .eq (.ix (.ix (.var 3) (.int 0)) (.int 0)) (.str [101, 110, 100]))) [(.asg (.nm 3) (.bin .add (.tup [(.tup [(.str [116, 104, 114, 111, 119]), (.call 13 [(.var 0), (.int 2)]), (.call 13 [(.var 0), (.var 2)]), (.bin .sub (.var 2) (.int 1))])]) (.sl (.var 3) (some (.int 1)) none)))] []), (.ret (.bin .add (.var 3) (.tup [(.tup [(.str [101, 110, 100]), (.bin .sub (.call 13 [(.var 0), (.int 19)]) (.int 9))])])))]
/-- _law_text board stand part -/
def b_law_text : List Pf.St := [(.ret (.mt .join (.str [10]) [(.comp false [1] (.nm 1) (.seq (.var 0)) none (.mt .join (.str [32]) [(.comp false [2] (.nm 2) (.seq (.var 1)) none (.bi .str [(.var 2)]))]))]))]
/-- _law_integer word figure -/
def b_law_integer : List Pf.St := [(.asg (.nm 1) (.ife (.and (.cmp .eq (.sl (.var 0) none (some (.int 1))) (.str [45])) (.cmp .ne (.var 0) (.str [45, 48]))) (.sl (.var 0) (some (.int 1)) none) (.var 0))), (.ret (.ife (.and (.cmp .eq (.bi .len [(.var 1)]) (.int 1)) (.cmp .in_ (.var 1) (.str [48, 49, 50, 51, 52, 53, 54, 55, 56, 57]))) (.bi .int [(.var 0)]) (.var 0)))]
/-- _law_read text found line words word -/
def b_law_read : List Pf.St := [(.asg (.nm 1) (.tup [])), (.for_ (.nm 2) (.seq (.mt .split (.var 0) [(.str [10])])) [(.asg (.nm 3) (.mt .split (.var 2) [(.str [32])])), (.asg (.nm 1) (.bin .add (.var 1) (.tup [(.bin .add (.tup [(.ix (.var 3) (.int 0))]) (.bi .tuple [(.comp false [4] (.nm 4) (.seq (.sl (.var 3) (some (.int 1)) none)) none (.call 18 [(.var 4)]))]))])))]), (.ret (.ife (.call 4 [(.var 1)]) (.var 1) .non))]
/-- _law_bent bag text rows line words at way sign_so -/
def b_law_bent : List Pf.St := [(.par [5, 6] [(.call 13 [(.var 0), (.bin .add (.bi .len [(.var 1)]) (.int 1))]), (.call 13 [(.var 0), (.int 6)])]), (.asg (.nm 2) (.mt .split (.var 1) [(.str [10])])), (.asg (.nm 3) (.call 13 [(.var 0), (.bi .len [(.var 2)])])), (.ifs (.cmp .eq (.var 6) (.int 0)) [(.asg (.nm 7) (.call 14 [(.var 0), (.lst false [(.str [32]), (.str [120]), (.str [10]), (.str [49]), (.str [48]), (.str [32, 50]), (.str [10, 101, 110, 100, 32, 48]), (.str [10, 101, 110, 100, 32, 45, 48]), (.str [45]), (.str [10, 116, 104, 114, 111, 119, 32, 48, 32, 48, 32, 48])])])), (.ret (.bin .add (.bin .add (.sl (.var 1) none (some (.var 5))) (.var 7)) (.sl (.var 1) (some (.var 5)) none)))] []), (.ifs (.cmp .eq (.var 6) (.int 1)) [(.ret (.bin .add (.sl (.var 1) none (some (.var 5))) (.sl (.var 1) (some (.bin .add (.var 5) (.int 1))) none)))] []), (.ifs (.cmp .eq (.var 6) (.int 2)) [(.ret (.mt .join (.str [10]) [(.bin .add (.sl (.var 2) none (some (.var 3))) (.sl (.var 2) (some (.bin .add (.var 3) (.int 1))) none))]))] []), (.ifs (.cmp .eq (.var 6) (.int 3)) [(.ret (.mt .join (.str [10]) [(.bin .add (.sl (.var 2) none (some (.bin .add (.var 3) (.int 1)))) (.sl (.var 2) (some (.var 3)) none))]))] []), (.ifs (.cmp .eq (.var 6) (.int 4)) [(.ret (.mt .join (.str [10]) [(.bin .add (.sl (.var 2) (some (.var 3)) none) (.sl (.var 2) none (some (.var 3))))]))] []), (.asg (.nm 4) (.mt .split (.ix (.var 2) (.var 3)) [(.str [32])])), (.ret (.mt .join (.str [10]) [(.bin .add (.bin .add (.sl (.var 2) none (some (.var 3))) (.lst false [(.mt .join (.str [32]) [(.bin .add (.sl (.var 4) none (some (.int 1))) (.rev1 (.var 4)))])])) (.sl (.var 2) (some (.bin .add (.var 3) (.int 1))) none))]))]
/-- law script k some text bag board turn odd bent due answer -/
def b_law : List Pf.St := [(.for_ (.nm 1) (.rng1 (.int 10)) [(.asg (.nm 4) (.call 12 [(.var 0), (.var 1)])), (.asg (.nm 5) (.call 16 [(.var 4), (.int 3)])), (.asg (.nm 3) (.call 17 [(.var 5)])), (.ifs (.or (.cmp .ne (.call 7 [(.var 5)]) (.var 3)) (.cmp .ne (.call 9 [(.var 3)]) (.var 5))) [(.ret (.bl false))] []), (.for_ (.nm 6) (.rng1 (.int 14)) [(.asg (.nm 8) (.call 20 [(.var 4), (.var 3)])), (.asg (.nm 9) (.call 19 [(.var 8)])), (.asg (.nm 10) (.lam true 0 (.call 9 [(.var 8)]))), (.ifs (.cmp .ne (.var 10) (.ife (.cmp .is (.var 9) .non) (.tup [.non, (.str [116, 101, 120, 116, 32, 118, 97, 108, 117, 101])]) (.tup [(.var 9), (.str [])]))) [(.ret (.bl false))] [])]), (.for_ (.nm 7) (.seq (.lst false [.non, (.int 5), (.str []), (.str [101, 110, 100, 32, 49]), (.tup [(.var 3)]), (.bin .add (.var 3) (.str [10])), (.bin .add (.str [10]) (.var 3)), (.bin .add (.str [32]) (.var 3))])) [(.ifs (.cmp .ne (.lam true 0 (.call 9 [(.var 7)])) (.tup [.non, (.str [116, 101, 120, 116, 32, 118, 97, 108, 117, 101])])) [(.ret (.bl false))] [])]), (.for_ (.nm 7) (.seq (.lst false [.non, (.var 3), (.sl (.var 5) none (some (.int 1)))])) [(.ifs (.cmp .ne (.lam true 0 (.call 7 [(.var 7)])) (.tup [.non, (.str [98, 111, 97, 114, 100, 32, 118, 97, 108, 117, 101])])) [(.ret (.bl false))] [])])]), (.asg (.nm 2) (.lst false [(.str [101, 110, 100, 32, 48, 49, 10, 101, 110, 100, 32, 49]), (.str [101, 110, 100, 32, 45, 48, 10, 101, 110, 100, 32, 49]), (.str [101, 110, 100, 32, 32, 49, 10, 101, 110, 100, 32, 49]), (.str [69, 110, 100, 32, 49, 10, 101, 110, 100, 32, 49]), (.str [116, 104, 114, 111, 119, 32, 49, 32, 48, 10, 101, 110, 100, 32, 49])])), (.for_ (.nm 3) (.seq (.bin .add (.var 2) (.lst false [(.str [101, 110, 100, 32, 49, 10, 101, 110, 100, 32, 49, 48])]))) [(.ifs (.cmp .ne (.lam true 0 (.call 9 [(.var 3)])) (.tup [.non, (.str [116, 101, 120, 116, 32, 118, 97, 108, 117, 101])])) [(.ret (.bl false))] [])]), (.ifs (.cmp .ne (.call 9 [(.str [99, 104, 111, 111, 115, 101, 32, 48, 32, 49, 10, 101, 110, 100, 32, 45, 57])]) (.tup [(.tup [(.str [99, 104, 111, 111, 115, 101]), (.int 0), (.int 1)]), (.tup [(.str [101, 110, 100]), (.neg (.int 9))])])) [(.ret (.bl false))] []), (.ret (.cmp .eq (.call 7 [(.tup [(.tup [(.str [101, 110, 100]), (.neg (.int 3))]), (.tup [(.str [101, 110, 100]), (.int 0)])])]) (.str [101, 110, 100, 32, 45, 51, 10, 101, 110, 100, 32, 48])))]
def prog : List Fn := [⟨1, 0, b_is_plain⟩,
  ⟨3, 0, b_is_whole⟩,
  ⟨3, 0, b_is_row⟩,
  ⟨2, 0, b_is_stand⟩,
  ⟨1, 2, b_is_board⟩,
  ⟨1, 0, b_need_board⟩,
  ⟨1, 2, b_as_text⟩,
  ⟨1, 0, b_board_text⟩,
  ⟨1, 1, b_part_in⟩,
  ⟨1, 3, b_read_board⟩,
  ⟨2, 0, b_law_cell⟩,
  ⟨4, 6, b_law_draws⟩,
  ⟨2, 0, b_law_bag⟩,
  ⟨2, 1, b_law_take⟩,
  ⟨2, 0, b_law_choice⟩,
  ⟨3, 3, b_law_stand⟩,
  ⟨2, 5, b_law_board⟩,
  ⟨1, 2, b_law_text⟩,
  ⟨1, 1, b_law_integer⟩,
  ⟨1, 4, b_law_read⟩,
  ⟨2, 6, b_law_bent⟩,
  ⟨1, 10, b_law⟩]
abbrev f_is_plain : Nat := 0
abbrev f_is_whole : Nat := 1
abbrev f_is_row : Nat := 2
abbrev f_is_stand : Nat := 3
abbrev f_is_board : Nat := 4
abbrev f_need_board : Nat := 5
abbrev f_as_text : Nat := 6
abbrev f_board_text : Nat := 7
abbrev f_part_in : Nat := 8
abbrev f_read_board : Nat := 9
abbrev f_law_cell : Nat := 10
abbrev f_law_draws : Nat := 11
abbrev f_law_bag : Nat := 12
abbrev f_law_take : Nat := 13
abbrev f_law_choice : Nat := 14
abbrev f_law_stand : Nat := 15
abbrev f_law_board : Nat := 16
abbrev f_law_text : Nat := 17
abbrev f_law_integer : Nat := 18
abbrev f_law_read : Nat := 19
abbrev f_law_bent : Nat := 20
abbrev f_law : Nat := 21
def cfg : Cfg := ⟨[[118, 97, 108, 117, 101], [98, 111, 97, 114, 100, 32, 118, 97, 108, 117, 101], [112, 108, 97, 110, 32, 118, 97, 108, 117, 101], [98, 105, 97, 115, 32, 118, 97, 108, 117, 101], [110, 117, 109, 98, 101, 114, 32, 118, 97, 108, 117, 101], [101, 110, 100, 32, 118, 97, 108, 117, 101], [102, 97, 99, 116, 115, 32, 118, 97, 108, 117, 101], [115, 116, 101, 112, 32, 118, 97, 108, 117, 101], [116, 101, 120, 116, 32, 118, 97, 108, 117, 101], [117, 110, 115, 117, 114, 101, 32, 118, 97, 108, 117, 101], [110, 111, 110, 101, 32, 118, 97, 108, 117, 101], [117, 110, 100, 111, 32, 118, 97, 108, 117, 101]]⟩
end K21

end
section
namespace K21
open PySem PySem.Spec PyProof.Rows L2 Pf
abbrev top (i : Nat) : Stmt := PySem.Challenge.pw_anybias_k21_texts_of_boards.main.body.getD i (.Pass ⟨0, 0, 0, 0⟩)
def d_is_plain : He.DefD := ⟨(("is_plain" : Str), none), ("is_plain" : Str), ("is_plain" : Str), defArgs (top 14), defBody (top 14), defScope (top 14), [], []⟩
def d_is_whole : He.DefD := ⟨(("is_whole" : Str), none), ("is_whole" : Str), ("is_whole" : Str), defArgs (top 15), defBody (top 15), defScope (top 15), [], []⟩
def d_is_row : He.DefD := ⟨(("is_row" : Str), none), ("is_row" : Str), ("is_row" : Str), defArgs (top 16), defBody (top 16), defScope (top 16), [], []⟩
def d_is_stand : He.DefD := ⟨(("is_stand" : Str), none), ("is_stand" : Str), ("is_stand" : Str), defArgs (top 17), defBody (top 17), defScope (top 17), [], []⟩
def d_is_board : He.DefD := ⟨(("is_board" : Str), none), ("is_board" : Str), ("is_board" : Str), defArgs (top 18), defBody (top 18), defScope (top 18), [], []⟩
def d_need_board : He.DefD := ⟨(("need_board" : Str), none), ("need_board" : Str), ("need_board" : Str), defArgs (top 19), defBody (top 19), defScope (top 19), [], []⟩
def d_as_text : He.DefD := ⟨(("as_text" : Str), none), ("as_text" : Str), ("as_text" : Str), defArgs (top 21), defBody (top 21), defScope (top 21), [], []⟩
def d_board_text : He.DefD := ⟨(("board_text" : Str), none), ("board_text" : Str), ("board_text" : Str), defArgs (top 22), defBody (top 22), defScope (top 22), [], []⟩
def d_part_in : He.DefD := ⟨(("part_in" : Str), none), ("part_in" : Str), ("part_in" : Str), defArgs (top 23), defBody (top 23), defScope (top 23), [], []⟩
def d_read_board : He.DefD := ⟨(("read_board" : Str), none), ("read_board" : Str), ("read_board" : Str), defArgs (top 24), defBody (top 24), defScope (top 24), [], []⟩
def d_law_cell : He.DefD := ⟨(("_law_cell" : Str), none), ("_law_cell" : Str), ("_law_cell" : Str), defArgs (top 26), defBody (top 26), defScope (top 26), [], []⟩
def d_law_draws : He.DefD := ⟨(("_law_draws" : Str), none), ("_law_draws" : Str), ("_law_draws" : Str), defArgs (top 27), defBody (top 27), defScope (top 27), [], []⟩
def d_law_bag : He.DefD := ⟨(("_law_bag" : Str), none), ("_law_bag" : Str), ("_law_bag" : Str), defArgs (top 28), defBody (top 28), defScope (top 28), [], []⟩
def d_law_take : He.DefD := ⟨(("_law_take" : Str), none), ("_law_take" : Str), ("_law_take" : Str), defArgs (top 29), defBody (top 29), defScope (top 29), [], []⟩
def d_law_choice : He.DefD := ⟨(("_law_choice" : Str), none), ("_law_choice" : Str), ("_law_choice" : Str), defArgs (top 30), defBody (top 30), defScope (top 30), [], []⟩
def d_law_stand : He.DefD := ⟨(("_law_stand" : Str), none), ("_law_stand" : Str), ("_law_stand" : Str), defArgs (top 31), defBody (top 31), defScope (top 31), [], []⟩
def d_law_board : He.DefD := ⟨(("_law_board" : Str), none), ("_law_board" : Str), ("_law_board" : Str), defArgs (top 32), defBody (top 32), defScope (top 32), [], []⟩
def d_law_text : He.DefD := ⟨(("_law_text" : Str), none), ("_law_text" : Str), ("_law_text" : Str), defArgs (top 35), defBody (top 35), defScope (top 35), [], []⟩
def d_law_integer : He.DefD := ⟨(("_law_integer" : Str), none), ("_law_integer" : Str), ("_law_integer" : Str), defArgs (top 36), defBody (top 36), defScope (top 36), [], []⟩
def d_law_read : He.DefD := ⟨(("_law_read" : Str), none), ("_law_read" : Str), ("_law_read" : Str), defArgs (top 37), defBody (top 37), defScope (top 37), [], []⟩
def d_law_bent : He.DefD := ⟨(("_law_bent" : Str), none), ("_law_bent" : Str), ("_law_bent" : Str), defArgs (top 38), defBody (top 38), defScope (top 38), [], []⟩
def d_law : He.DefD := ⟨(("law" : Str), none), ("law" : Str), ("law" : Str), defArgs (top 39), defBody (top 39), defScope (top 39), [], []⟩
def d_law_named_error : He.DefD := ⟨(("_law_named_error" : Str), none), ("_law_named_error" : Str), ("_law_named_error" : Str), defArgs (top 33), defBody (top 33), defScope (top 33), [], []⟩
def d_law_told : He.DefD := ⟨(("_law_told" : Str), none), ("_law_told" : Str), ("_law_told" : Str), defArgs (top 34), defBody (top 34), defScope (top 34), [], []⟩
def defs : List (List Str × He.DefD) := [([("value" : Str)], d_is_plain),
  ([("value" : Str), ("low" : Str), ("high" : Str)], d_is_whole),
  ([("value" : Str), ("low" : Str), ("high" : Str)], d_is_row),
  ([("value" : Str), ("many" : Str)], d_is_stand),
  ([("value" : Str), ("words" : Str), ("stand" : Str)], d_is_board),
  ([("board" : Str)], d_need_board),
  ([("board" : Str), ("stand" : Str), ("part" : Str)], d_as_text),
  ([("board" : Str)], d_board_text),
  ([("word" : Str), ("figure" : Str)], d_part_in),
  ([("value" : Str), ("found" : Str), ("line" : Str), ("word" : Str)], d_read_board),
  ([("script" : Str), ("k" : Str)], d_law_cell),
  ([("script" : Str), ("k" : Str), ("many" : Str), ("base" : Str), ("primes" : Str), ("cell" : Str), ("rest" : Str), ("row" : Str), ("j" : Str), ("mash" : Str)], d_law_draws),
  ([("script" : Str), ("k" : Str)], d_law_bag),
  ([("bag" : Str), ("many" : Str), ("draw" : Str)], d_law_take),
  ([("bag" : Str), ("some" : Str)], d_law_choice),
  ([("bag" : Str), ("many" : Str), ("most" : Str), ("way" : Str), ("cost" : Str), ("one" : Str)], d_law_stand),
  ([("bag" : Str), ("most" : Str), ("many" : Str), ("found" : Str), ("number" : Str), ("left_so" : Str), ("stand" : Str)], d_law_board),
  ([("board" : Str), ("stand" : Str), ("part" : Str)], d_law_text),
  ([("word" : Str), ("figure" : Str)], d_law_integer),
  ([("text" : Str), ("found" : Str), ("line" : Str), ("words" : Str), ("word" : Str)], d_law_read),
  ([("bag" : Str), ("text" : Str), ("rows" : Str), ("line" : Str), ("words" : Str), ("at" : Str), ("way" : Str), ("sign_so" : Str)], d_law_bent),
  ([("script" : Str), ("k" : Str), ("some" : Str), ("text" : Str), ("bag" : Str), ("board" : Str), ("turn" : Str), ("odd" : Str), ("bent" : Str), ("due" : Str), ("answer" : Str)], d_law)]
def xs : List He.DefD := [d_law_named_error, d_law_told]
def nm : Nm := ⟨[("is_plain" : Str), ("is_whole" : Str), ("is_row" : Str), ("is_stand" : Str), ("is_board" : Str), ("need_board" : Str), ("as_text" : Str), ("board_text" : Str), ("part_in" : Str), ("read_board" : Str), ("_law_cell" : Str), ("_law_draws" : Str), ("_law_bag" : Str), ("_law_take" : Str), ("_law_choice" : Str), ("_law_stand" : Str), ("_law_board" : Str), ("_law_text" : Str), ("_law_integer" : Str), ("_law_read" : Str), ("_law_bent" : Str), ("law" : Str)], [("BiasError" : Str), ("InvalidBoard" : Str), ("InvalidPlan" : Str), ("InvalidBias" : Str), ("InvalidNumber" : Str), ("InvalidEnd" : Str), ("InvalidFacts" : Str), ("InvalidStep" : Str), ("InvalidText" : Str), ("Unsure" : Str), ("NoPlan" : Str), ("NothingToUndo" : Str)], [],
  [("law" : Str)], true, [("InvalidBoard" : Str), ("InvalidPlan" : Str), ("InvalidBias" : Str), ("InvalidNumber" : Str), ("InvalidEnd" : Str), ("InvalidFacts" : Str), ("InvalidStep" : Str), ("InvalidText" : Str), ("Unsure" : Str), ("NoPlan" : Str), ("NothingToUndo" : Str), ("ValueError" : Str)], ("board plan bias number end facts step text unsure none undo value" : Str),
  [[false, false, false, false, false, false, false, false, false, false, false, true], [true, false, false, false, false, false, false, false, false, false, false, true], [false, true, false, false, false, false, false, false, false, false, false, true], [false, false, true, false, false, false, false, false, false, false, false, true], [false, false, false, true, false, false, false, false, false, false, false, true], [false, false, false, false, true, false, false, false, false, false, false, true], [false, false, false, false, false, true, false, false, false, false, false, true], [false, false, false, false, false, false, true, false, false, false, false, true], [false, false, false, false, false, false, false, true, false, false, false, true], [false, false, false, false, false, false, false, false, true, false, false, true], [false, false, false, false, false, false, false, false, false, true, false, true], [false, false, false, false, false, false, false, false, false, false, true, true]]⟩
def loose : List Str := ([("__name__" : Str), ("BiasError" : Str), ("InvalidBoard" : Str), ("InvalidPlan" : Str), ("InvalidBias" : Str), ("InvalidNumber" : Str), ("InvalidEnd" : Str), ("InvalidFacts" : Str), ("InvalidStep" : Str), ("InvalidText" : Str), ("Unsure" : Str), ("NoPlan" : Str), ("NothingToUndo" : Str), ("is_plain" : Str), ("is_whole" : Str), ("is_row" : Str), ("is_stand" : Str), ("is_board" : Str), ("need_board" : Str), ("as_text" : Str), ("board_text" : Str), ("part_in" : Str), ("read_board" : Str), ("_law_cell" : Str), ("_law_draws" : Str), ("_law_bag" : Str), ("_law_take" : Str), ("_law_choice" : Str), ("_law_stand" : Str), ("_law_board" : Str)] : List Str) ++ ([("_law_named_error" : Str), ("_law_told" : Str), ("_law_text" : Str), ("_law_integer" : Str), ("_law_read" : Str), ("_law_bent" : Str)] : List Str)
def lawTop : Nat := 39
abbrev lawRow : PySem.W.OpenLaw := PySem.Challenge.rw_anybias_k21_texts_of_boards
abbrev R : PySem.W.OpenRow := PySem.W.OpenLaw.row lawRow
abbrev tf : List He.Defn := nm.lams.map fun x => (x, none)
abbrev hk : PySem.W.Hook := He.hookX 4 (faOf nm) (defs.map (·.2) ++ xs) [] tf (exB nm)
def ob (s : PySem.W.SharedT) : He.AlX := He.obsX 4 (faOf nm) (defs.map (·.2) ++ xs) [] tf (exB nm) (HandSHeadRun.getT s)
theorem ob_eq (s : PySem.W.SharedT) : ob s = hk.obs s.abs := He.obsX_eq (HandSHeadRun.getT_eq s)
def ixLaw : Nat := 21
end K21

end
section
/-! Base: what the joined text imports. -/

end
section
/-! Den: what evaluates a compact text by simp. -/
namespace Pf.Dn
section
variable {α β : Type} {C : Call} {L : Fs} {G : Cfg} {n k : Nat} {σ : Env} {S : Store} {r : Fs}
@[simp] theorem fs_e60 {e : E} : (fs C L G 60).e σ e S = stepE (fs C L G 59) L C G σ e S := rfl
@[simp] theorem fs_s60 {st : St} : (fs C L G 60).s σ st S = stepS (fs C L G 59) σ st S := rfl
@[simp] theorem fs_e59 {e : E} : (fs C L G 59).e σ e S = stepE (fs C L G 58) L C G σ e S := rfl
@[simp] theorem fs_s59 {st : St} : (fs C L G 59).s σ st S = stepS (fs C L G 58) σ st S := rfl
@[simp] theorem fs_e58 {e : E} : (fs C L G 58).e σ e S = stepE (fs C L G 57) L C G σ e S := rfl
@[simp] theorem fs_s58 {st : St} : (fs C L G 58).s σ st S = stepS (fs C L G 57) σ st S := rfl
@[simp] theorem fs_e57 {e : E} : (fs C L G 57).e σ e S = stepE (fs C L G 56) L C G σ e S := rfl
@[simp] theorem fs_s57 {st : St} : (fs C L G 57).s σ st S = stepS (fs C L G 56) σ st S := rfl
@[simp] theorem fs_e56 {e : E} : (fs C L G 56).e σ e S = stepE (fs C L G 55) L C G σ e S := rfl
@[simp] theorem fs_s56 {st : St} : (fs C L G 56).s σ st S = stepS (fs C L G 55) σ st S := rfl
@[simp] theorem fs_e55 {e : E} : (fs C L G 55).e σ e S = stepE (fs C L G 54) L C G σ e S := rfl
@[simp] theorem fs_s55 {st : St} : (fs C L G 55).s σ st S = stepS (fs C L G 54) σ st S := rfl
@[simp] theorem fs_e54 {e : E} : (fs C L G 54).e σ e S = stepE (fs C L G 53) L C G σ e S := rfl
@[simp] theorem fs_s54 {st : St} : (fs C L G 54).s σ st S = stepS (fs C L G 53) σ st S := rfl
@[simp] theorem fs_e53 {e : E} : (fs C L G 53).e σ e S = stepE (fs C L G 52) L C G σ e S := rfl
@[simp] theorem fs_s53 {st : St} : (fs C L G 53).s σ st S = stepS (fs C L G 52) σ st S := rfl
@[simp] theorem fs_e52 {e : E} : (fs C L G 52).e σ e S = stepE (fs C L G 51) L C G σ e S := rfl
@[simp] theorem fs_s52 {st : St} : (fs C L G 52).s σ st S = stepS (fs C L G 51) σ st S := rfl
@[simp] theorem fs_e51 {e : E} : (fs C L G 51).e σ e S = stepE (fs C L G 50) L C G σ e S := rfl
@[simp] theorem fs_s51 {st : St} : (fs C L G 51).s σ st S = stepS (fs C L G 50) σ st S := rfl
@[simp] theorem fs_e50 {e : E} : (fs C L G 50).e σ e S = stepE (fs C L G 49) L C G σ e S := rfl
@[simp] theorem fs_s50 {st : St} : (fs C L G 50).s σ st S = stepS (fs C L G 49) σ st S := rfl
@[simp] theorem fs_e49 {e : E} : (fs C L G 49).e σ e S = stepE (fs C L G 48) L C G σ e S := rfl
@[simp] theorem fs_s49 {st : St} : (fs C L G 49).s σ st S = stepS (fs C L G 48) σ st S := rfl
@[simp] theorem fs_e48 {e : E} : (fs C L G 48).e σ e S = stepE (fs C L G 47) L C G σ e S := rfl
@[simp] theorem fs_s48 {st : St} : (fs C L G 48).s σ st S = stepS (fs C L G 47) σ st S := rfl
@[simp] theorem fs_e47 {e : E} : (fs C L G 47).e σ e S = stepE (fs C L G 46) L C G σ e S := rfl
@[simp] theorem fs_s47 {st : St} : (fs C L G 47).s σ st S = stepS (fs C L G 46) σ st S := rfl
@[simp] theorem fs_e46 {e : E} : (fs C L G 46).e σ e S = stepE (fs C L G 45) L C G σ e S := rfl
@[simp] theorem fs_s46 {st : St} : (fs C L G 46).s σ st S = stepS (fs C L G 45) σ st S := rfl
@[simp] theorem fs_e45 {e : E} : (fs C L G 45).e σ e S = stepE (fs C L G 44) L C G σ e S := rfl
@[simp] theorem fs_s45 {st : St} : (fs C L G 45).s σ st S = stepS (fs C L G 44) σ st S := rfl
@[simp] theorem fs_e44 {e : E} : (fs C L G 44).e σ e S = stepE (fs C L G 43) L C G σ e S := rfl
@[simp] theorem fs_s44 {st : St} : (fs C L G 44).s σ st S = stepS (fs C L G 43) σ st S := rfl
@[simp] theorem fs_e43 {e : E} : (fs C L G 43).e σ e S = stepE (fs C L G 42) L C G σ e S := rfl
@[simp] theorem fs_s43 {st : St} : (fs C L G 43).s σ st S = stepS (fs C L G 42) σ st S := rfl
@[simp] theorem fs_e42 {e : E} : (fs C L G 42).e σ e S = stepE (fs C L G 41) L C G σ e S := rfl
@[simp] theorem fs_s42 {st : St} : (fs C L G 42).s σ st S = stepS (fs C L G 41) σ st S := rfl
@[simp] theorem fs_e41 {e : E} : (fs C L G 41).e σ e S = stepE (fs C L G 40) L C G σ e S := rfl
@[simp] theorem fs_s41 {st : St} : (fs C L G 41).s σ st S = stepS (fs C L G 40) σ st S := rfl
@[simp] theorem fs_e40 {e : E} : (fs C L G 40).e σ e S = stepE (fs C L G 39) L C G σ e S := rfl
@[simp] theorem fs_s40 {st : St} : (fs C L G 40).s σ st S = stepS (fs C L G 39) σ st S := rfl
@[simp] theorem fs_e39 {e : E} : (fs C L G 39).e σ e S = stepE (fs C L G 38) L C G σ e S := rfl
@[simp] theorem fs_s39 {st : St} : (fs C L G 39).s σ st S = stepS (fs C L G 38) σ st S := rfl
@[simp] theorem fs_e38 {e : E} : (fs C L G 38).e σ e S = stepE (fs C L G 37) L C G σ e S := rfl
@[simp] theorem fs_s38 {st : St} : (fs C L G 38).s σ st S = stepS (fs C L G 37) σ st S := rfl
@[simp] theorem fs_e37 {e : E} : (fs C L G 37).e σ e S = stepE (fs C L G 36) L C G σ e S := rfl
@[simp] theorem fs_s37 {st : St} : (fs C L G 37).s σ st S = stepS (fs C L G 36) σ st S := rfl
@[simp] theorem fs_e36 {e : E} : (fs C L G 36).e σ e S = stepE (fs C L G 35) L C G σ e S := rfl
@[simp] theorem fs_s36 {st : St} : (fs C L G 36).s σ st S = stepS (fs C L G 35) σ st S := rfl
@[simp] theorem fs_e35 {e : E} : (fs C L G 35).e σ e S = stepE (fs C L G 34) L C G σ e S := rfl
@[simp] theorem fs_s35 {st : St} : (fs C L G 35).s σ st S = stepS (fs C L G 34) σ st S := rfl
@[simp] theorem fs_e34 {e : E} : (fs C L G 34).e σ e S = stepE (fs C L G 33) L C G σ e S := rfl
@[simp] theorem fs_s34 {st : St} : (fs C L G 34).s σ st S = stepS (fs C L G 33) σ st S := rfl
@[simp] theorem fs_e33 {e : E} : (fs C L G 33).e σ e S = stepE (fs C L G 32) L C G σ e S := rfl
@[simp] theorem fs_s33 {st : St} : (fs C L G 33).s σ st S = stepS (fs C L G 32) σ st S := rfl
@[simp] theorem fs_e32 {e : E} : (fs C L G 32).e σ e S = stepE (fs C L G 31) L C G σ e S := rfl
@[simp] theorem fs_s32 {st : St} : (fs C L G 32).s σ st S = stepS (fs C L G 31) σ st S := rfl
@[simp] theorem fs_e31 {e : E} : (fs C L G 31).e σ e S = stepE (fs C L G 30) L C G σ e S := rfl
@[simp] theorem fs_s31 {st : St} : (fs C L G 31).s σ st S = stepS (fs C L G 30) σ st S := rfl
@[simp] theorem fs_e30 {e : E} : (fs C L G 30).e σ e S = stepE (fs C L G 29) L C G σ e S := rfl
@[simp] theorem fs_s30 {st : St} : (fs C L G 30).s σ st S = stepS (fs C L G 29) σ st S := rfl
@[simp] theorem fs_e29 {e : E} : (fs C L G 29).e σ e S = stepE (fs C L G 28) L C G σ e S := rfl
@[simp] theorem fs_s29 {st : St} : (fs C L G 29).s σ st S = stepS (fs C L G 28) σ st S := rfl
@[simp] theorem fs_e28 {e : E} : (fs C L G 28).e σ e S = stepE (fs C L G 27) L C G σ e S := rfl
@[simp] theorem fs_s28 {st : St} : (fs C L G 28).s σ st S = stepS (fs C L G 27) σ st S := rfl
@[simp] theorem fs_e27 {e : E} : (fs C L G 27).e σ e S = stepE (fs C L G 26) L C G σ e S := rfl
@[simp] theorem fs_s27 {st : St} : (fs C L G 27).s σ st S = stepS (fs C L G 26) σ st S := rfl
@[simp] theorem fs_e26 {e : E} : (fs C L G 26).e σ e S = stepE (fs C L G 25) L C G σ e S := rfl
@[simp] theorem fs_s26 {st : St} : (fs C L G 26).s σ st S = stepS (fs C L G 25) σ st S := rfl
@[simp] theorem fs_e25 {e : E} : (fs C L G 25).e σ e S = stepE (fs C L G 24) L C G σ e S := rfl
@[simp] theorem fs_s25 {st : St} : (fs C L G 25).s σ st S = stepS (fs C L G 24) σ st S := rfl
@[simp] theorem fs_e24 {e : E} : (fs C L G 24).e σ e S = stepE (fs C L G 23) L C G σ e S := rfl
@[simp] theorem fs_s24 {st : St} : (fs C L G 24).s σ st S = stepS (fs C L G 23) σ st S := rfl
@[simp] theorem fs_e23 {e : E} : (fs C L G 23).e σ e S = stepE (fs C L G 22) L C G σ e S := rfl
@[simp] theorem fs_s23 {st : St} : (fs C L G 23).s σ st S = stepS (fs C L G 22) σ st S := rfl
@[simp] theorem fs_e22 {e : E} : (fs C L G 22).e σ e S = stepE (fs C L G 21) L C G σ e S := rfl
@[simp] theorem fs_s22 {st : St} : (fs C L G 22).s σ st S = stepS (fs C L G 21) σ st S := rfl
@[simp] theorem fs_e21 {e : E} : (fs C L G 21).e σ e S = stepE (fs C L G 20) L C G σ e S := rfl
@[simp] theorem fs_s21 {st : St} : (fs C L G 21).s σ st S = stepS (fs C L G 20) σ st S := rfl
@[simp] theorem bind_ok {a : α} {f : α → Store → Res β} : (Res.ok a S).bind f = f a S := rfl
@[simp] theorem bind_exc {c : Nat} {f : α → Store → Res β} : (Res.exc c S : Res α).bind f = .exc c S := rfl
@[simp] theorem bind_bad {f : α → Store → Res β} : (Res.bad : Res α).bind f = .bad := rfl
@[simp] theorem ofO_some {a : α} : Res.ofO (some a) S = .ok a S := rfl
@[simp] theorem ofO_none : (Res.ofO none S : Res α) = .bad := rfl
theorem callN_eq {P : List Fn} {f : Nat} {fn : Fn} {as : List D} (h : P[f]? = some fn) : callN P G (k + 1) f as S = runFn (callN P G k) (lamN P G k) G fn as S := by
  show (match P[f]? with | some fn => runFn (calls P G k).1 (calls P G k).2.2 G fn as S | none => .bad) = _
  rw [h]; rfl
@[simp] theorem ty_int_int {i : Int} : tyD .int (.int i) = true := rfl
@[simp] theorem ty_int_bl {i : Bool} : tyD .int (.bl i) = true := rfl
@[simp] theorem ty_int_str {i : List Nat} : tyD .int (.str i) = false := rfl
@[simp] theorem ty_int_tup {i : List D} : tyD .int (.tup i) = false := rfl
@[simp] theorem ty_int_lst {i : List D} : tyD .int (.lst i) = false := rfl
@[simp] theorem ty_int_non  : tyD .int (.non) = false := rfl
@[simp] theorem ty_bool_int {i : Int} : tyD .bool (.int i) = false := rfl
@[simp] theorem ty_bool_bl {i : Bool} : tyD .bool (.bl i) = true := rfl
@[simp] theorem ty_bool_str {i : List Nat} : tyD .bool (.str i) = false := rfl
@[simp] theorem ty_bool_tup {i : List D} : tyD .bool (.tup i) = false := rfl
@[simp] theorem ty_bool_lst {i : List D} : tyD .bool (.lst i) = false := rfl
@[simp] theorem ty_bool_non  : tyD .bool (.non) = false := rfl
@[simp] theorem ty_str_int {i : Int} : tyD .str (.int i) = false := rfl
@[simp] theorem ty_str_bl {i : Bool} : tyD .str (.bl i) = false := rfl
@[simp] theorem ty_str_str {i : List Nat} : tyD .str (.str i) = true := rfl
@[simp] theorem ty_str_tup {i : List D} : tyD .str (.tup i) = false := rfl
@[simp] theorem ty_str_lst {i : List D} : tyD .str (.lst i) = false := rfl
@[simp] theorem ty_str_non  : tyD .str (.non) = false := rfl
@[simp] theorem ty_tuple_int {i : Int} : tyD .tuple (.int i) = false := rfl
@[simp] theorem ty_tuple_bl {i : Bool} : tyD .tuple (.bl i) = false := rfl
@[simp] theorem ty_tuple_str {i : List Nat} : tyD .tuple (.str i) = false := rfl
@[simp] theorem ty_tuple_tup {i : List D} : tyD .tuple (.tup i) = true := rfl
@[simp] theorem ty_tuple_lst {i : List D} : tyD .tuple (.lst i) = false := rfl
@[simp] theorem ty_tuple_non  : tyD .tuple (.non) = false := rfl
@[simp] theorem ty_list_int {i : Int} : tyD .list (.int i) = false := rfl
@[simp] theorem ty_list_bl {i : Bool} : tyD .list (.bl i) = false := rfl
@[simp] theorem ty_list_str {i : List Nat} : tyD .list (.str i) = false := rfl
@[simp] theorem ty_list_tup {i : List D} : tyD .list (.tup i) = false := rfl
@[simp] theorem ty_list_lst {i : List D} : tyD .list (.lst i) = true := rfl
@[simp] theorem ty_list_non  : tyD .list (.non) = false := rfl
/-- not a cell -/
def fl : D → Bool
  | .ref _ => false
  | .scr _ => false
  | _ => true
@[simp] theorem fl_int {i : Int} : fl (.int i) = true := Eq.trans rfl rfl
@[simp] theorem fl_bl {i : Bool} : fl (.bl i) = true := Eq.trans rfl rfl
@[simp] theorem fl_str {i : List Nat} : fl (.str i) = true := Eq.trans rfl rfl
@[simp] theorem fl_tup {i : List D} : fl (.tup i) = true := Eq.trans rfl rfl
@[simp] theorem fl_lst {i : List D} : fl (.lst i) = true := Eq.trans rfl rfl
@[simp] theorem fl_non  : fl (.non) = true := Eq.trans rfl rfl
@[simp] theorem fl_ref {i : Nat} : fl (.ref i) = false := Eq.trans rfl rfl
@[simp] theorem fl_scr {i : List D} : fl (.scr i) = false := Eq.trans rfl rfl
@[simp] theorem trim_bl {b : Bool} : trim n (.bl b) S = .ok (.bl b) (S.take n) := rfl
@[simp] theorem trim_int {b : Int} : trim n (.int b) S = .ok (.int b) (S.take n) := rfl
@[simp] theorem trim_non : trim n .non S = .ok .non (S.take n) := rfl
@[simp] theorem trim_ref {b : Nat} : trim n (.ref b) S = .ok (.ref b) S := rfl
theorem trim_pl {d : D} (h : pl d = true) : trim n d S = .ok d (S.take n) := by
  unfold trim
  rw [if_pos h]
theorem bind_congr {x : Res α} {f g : α → Store → Res β} (h : ∀ d S1, f d S1 = g d S1) : x.bind f = x.bind g := by
  cases x with
  | ok a S => exact h a S
  | exc => rfl
  | bad => rfl
/-- what waits for a truth value -/
def isBl (f : Bool → Store → Res β) (d : D) (S : Store) : Res β := match d with
  | .bl b => f b S
  | _ => .bad
def isI (f : Int → Store → Res β) (d : D) (S : Store) : Res β := match d with
  | .int b => f b S
  | _ => .bad
def isSeq (f : List D → Store → Res β) (d : D) (S : Store) : Res β := match d with
  | .tup b => f b S
  | .lst b => f b S
  | _ => .bad
@[simp] theorem isBl_bl {f : Bool → Store → Res β} {b : Bool} : isBl f (.bl b) S = f b S := rfl
@[simp] theorem isI_int {f : Int → Store → Res β} {b : Int} : isI f (.int b) S = f b S := rfl
@[simp] theorem isSeq_tup {f : List D → Store → Res β} {b : List D} : isSeq f (.tup b) S = f b S := rfl
@[simp] theorem isSeq_lst {f : List D → Store → Res β} {b : List D} : isSeq f (.lst b) S = f b S := rfl
@[simp] theorem ite_bind {c : Prop} [Decidable c] {x y : Res α} {f : α → Store → Res β} : (if c then x else y).bind f = if c then x.bind f else y.bind f := by
  split <;> rfl
@[simp] theorem ite_ok {c : Prop} [Decidable c] {x y : α} : (if c then Res.ok x S else Res.ok y S) = .ok (if c then x else y) S := by
  split <;> rfl
@[simp] theorem ite_bl {c : Prop} [Decidable c] {x y : Bool} : (if c then D.bl x else D.bl y) = D.bl (if c then x else y) := by
  split <;> rfl
@[simp] theorem ite_ret {c : Prop} [Decidable c] {x y : D} : (if c then Flow.ret x else Flow.ret y) = Flow.ret (if c then x else y) := by
  split <;> rfl
def cmpK (f : Bool → Store → Res D) (o : Cm) (x y : D) (S : Store) : Res D := (Res.ofO (cmpD S o x y) S).bind f
@[simp] theorem cmpK_lt {f : Bool → Store → Res D} {i j : Int} : cmpK f .lt (.int i) (.int j) S = f (decide (i < j)) S := rfl
@[simp] theorem cmpK_le {f : Bool → Store → Res D} {i j : Int} : cmpK f .le (.int i) (.int j) S = f (decide (i ≤ j)) S := rfl
@[simp] theorem cmpK_gt {f : Bool → Store → Res D} {i j : Int} : cmpK f .gt (.int i) (.int j) S = f (decide (j < i)) S := rfl
@[simp] theorem cmpK_ge {f : Bool → Store → Res D} {i j : Int} : cmpK f .ge (.int i) (.int j) S = f (decide (j ≤ i)) S := rfl
@[simp] theorem cmpK_eq {f : Bool → Store → Res D} {x y : D} {a b : D} (h1 : dataOf S x = some a) (h2 : dataOf S y = some b) : cmpK f .eq x y S = f (eqv a b) S := by
  unfold cmpK cmpD
  rw [h1, h2]
  rfl
@[simp] theorem cmpK_ne {f : Bool → Store → Res D} {x y : D} {a b : D} (h1 : dataOf S x = some a) (h2 : dataOf S y = some b) : cmpK f .ne x y S = f (!eqv a b) S := by
  unfold cmpK cmpD
  rw [h1, h2]
  rfl
theorem dataOf_pl {d : D} (hf : fl d = true) (h : pl d = true) : dataOf S d = some d := by
  have e : rd S d = d := by cases d <;> first | rfl | cases hf
  unfold dataOf
  rw [e, if_pos h]
section
variable {a b c d : E}
theorem e_var {i : Nat} : stepE r L C G σ (.var i) S = (match σ[i]? with | some (some d) => .ok d S | _ => .bad) := rfl
@[simp] theorem e_var_some {i : Nat} {d : D} (h : σ[i]? = some (some d)) : stepE r L C G σ (.var i) S = .ok d S := by
  rw [e_var, h]
@[simp] theorem e_non : stepE r L C G σ .non S = .ok .non S := rfl
@[simp] theorem e_bl {b : Bool} : stepE r L C G σ (.bl b) S = .ok (.bl b) S := rfl
@[simp] theorem e_int {i : Int} : stepE r L C G σ (.int i) S = .ok (.int i) S := rfl
@[simp] theorem e_str {s : List Nat} : stepE r L C G σ (.str s) S = .ok (.str s) S := rfl
@[simp] theorem e_gint {x : List Nat} {i : Int} : stepE r L C G σ (.gint x i) S = .ok (.int i) S := rfl
@[simp] theorem e_neg : stepE r L C G σ (.neg a) S = (r.e σ a S).bind (isI fun i S1 => .ok (.int (-i)) S1) := by
  show (r.e σ a S).bind _ = _
  refine bind_congr fun d S1 => ?_
  cases d <;> rfl
@[simp] theorem e_not : stepE r L C G σ (.not a) S = (r.e σ a S).bind (isBl fun k S1 => .ok (.bl (!k)) S1) := by
  show (r.e σ a S).bind _ = _
  refine bind_congr fun d S1 => ?_
  cases d <;> rfl
@[simp] theorem e_bin {o : Op} : stepE r L C G σ (.bin o a b) S = (r.e σ a S).bind fun x S1 => (r.e σ b S1).bind fun y S2 => .ofO (binD o x y) S2 := rfl
@[simp] theorem e_cmp {o : Cm} : stepE r L C G σ (.cmp o a b) S = (r.e σ a S).bind fun x S1 => (r.e σ b S1).bind fun y S2 => cmpK (fun k S3 => .ok (.bl k) S3) o x y S2 := rfl
@[simp] theorem e_cmp2 {o p : Cm} : stepE r L C G σ (.cmp2 o p a b c) S = (r.e σ a S).bind fun x S1 => (r.e σ b S1).bind fun y S2 => cmpK (fun k S3 => if k = true then (r.e σ c S3).bind fun z S4 => cmpK (fun k S5 => .ok (.bl k) S5) p y z S4 else .ok (.bl false) S3) o x y S2 := by
  show (r.e σ a S).bind _ = _
  refine bind_congr fun x S1 => ?_
  refine bind_congr fun y S2 => ?_
  unfold cmpK
  refine bind_congr fun k S3 => ?_
  cases k <;> rfl
@[simp] theorem e_cmp3 {o p q : Cm} : stepE r L C G σ (.cmp3 o p q a b c d) S = (r.e σ a S).bind fun x S1 => (r.e σ b S1).bind fun y S2 => cmpK (fun k S3 => if k = true then (r.e σ c S3).bind fun z S4 => cmpK (fun k S5 => if k = true then (r.e σ d S5).bind fun w S6 => cmpK (fun k S7 => .ok (.bl k) S7) q z w S6 else .ok (.bl false) S5) p y z S4 else .ok (.bl false) S3) o x y S2 := by
  show (r.e σ a S).bind _ = _
  refine bind_congr fun x S1 => ?_
  refine bind_congr fun y S2 => ?_
  unfold cmpK
  refine bind_congr fun k S3 => ?_
  cases k
  · rfl
  · show (r.e σ c S3).bind _ = _
    rw [if_pos rfl]
    refine bind_congr fun z S4 => ?_
    refine bind_congr fun k S5 => ?_
    cases k <;> rfl
@[simp] theorem e_and : stepE r L C G σ (.and a b) S = (r.e σ a S).bind (isBl fun k S1 => if k = true then r.e σ b S1 else .ok (.bl false) S1) := by
  show (r.e σ a S).bind _ = _
  refine bind_congr fun d S1 => ?_
  cases d <;> first | rfl | (rename_i k; cases k <;> rfl)
@[simp] theorem e_or : stepE r L C G σ (.or a b) S = (r.e σ a S).bind (isBl fun k S1 => if k = true then .ok (.bl true) S1 else r.e σ b S1) := by
  show (r.e σ a S).bind _ = _
  refine bind_congr fun d S1 => ?_
  cases d <;> first | rfl | (rename_i k; cases k <;> rfl)
@[simp] theorem e_T : evT r σ a S = (r.e σ a S).bind (isBl fun k S1 => .ok k S1) := by
  show (r.e σ a S).bind _ = _
  refine bind_congr fun d S1 => ?_
  cases d <;> rfl
@[simp] theorem e_ife : stepE r L C G σ (.ife c a b) S = (r.e σ c S).bind (isBl fun k S1 => if k = true then r.e σ a S1 else r.e σ b S1) := by
  show (evT r σ c S).bind _ = _
  rw [e_T]
  cases r.e σ c S with
  | bad => rfl
  | exc => rfl
  | ok d S1 => cases d <;> first | rfl | (rename_i k; cases k <;> rfl)
@[simp] theorem e_isin {t : Ty} : stepE r L C G σ (.isin a t) S = (r.e σ a S).bind fun d S1 => if fl d = true then .ok (.bl (tyD t d)) S1 else .bad := by
  show (r.e σ a S).bind _ = _
  refine bind_congr fun d S1 => ?_
  cases d <;> rfl
@[simp] theorem e_call {f : Nat} {as : List E} : stepE r L C G σ (.call f as) S = (evA r σ as S).bind fun xs S1 => C f xs S1 := rfl
@[simp] theorem e_bi {f : BI} {as : List E} : stepE r L C G σ (.bi f as) S = (evA r σ as S).bind fun xs S1 => .ofO (biD S1 f xs) S1 := rfl
@[simp] theorem e_mt {m : MT} {as : List E} : stepE r L C G σ (.mt m a as) S = (r.e σ a S).bind fun x S1 => if rcv m x = true then (evA r σ as S1).bind fun xs S2 => .ofO (mtD S2 m x xs) S2 else .bad := by
  show (r.e σ a S).bind _ = _
  refine bind_congr fun d S1 => ?_
  cases rcv m d <;> rfl
@[simp] theorem e_ix : stepE r L C G σ (.ix a b) S = (r.e σ a S).bind fun x S1 => (r.e σ b S1).bind fun y S2 => .ofO (ixD S2 x y) S2 := rfl
@[simp] theorem e_sl {lo hi : Option E} : stepE r L C G σ (.sl a lo hi) S = (r.e σ a S).bind fun x S1 => (evO r σ lo S1).bind fun l S2 => (evO r σ hi S2).bind fun h S3 => .ofO (slD S3 x l h) S3 := rfl
@[simp] theorem e_O0 : evO r σ none S = .ok none S := rfl
@[simp] theorem e_O1 : evO r σ (some a) S = (r.e σ a S).bind (isI fun i S1 => .ok (some i) S1) := by
  show (r.e σ a S).bind _ = _
  refine bind_congr fun d S1 => ?_
  cases d <;> rfl
@[simp] theorem e_rev : stepE r L C G σ (.rev a) S = (r.e σ a S).bind fun x S1 => .ofO (revD x) S1 := rfl
@[simp] theorem e_rev1 : stepE r L C G σ (.rev1 a) S = (r.e σ a S).bind fun x S1 => .ofO (rev1D x) S1 := rfl
@[simp] theorem e_tup {es : List E} : stepE r L C G σ (.tup es) S = (evA r σ es S).bind fun xs S1 => .ok (.tup xs) S1 := rfl
@[simp] theorem e_lst {es : List E} : stepE r L C G σ (.lst false es) S = (evA r σ es S).bind fun xs S1 => .ok (.lst xs) S1 := rfl
@[simp] theorem e_mkl : stepE r L C G σ (.mkl false a) S = (r.e σ a S).bind (isSeq fun xs S1 => .ok (.lst xs) S1) := by
  show (r.e σ a S).bind _ = _
  refine bind_congr fun d S1 => ?_
  cases d <;> rfl
@[simp] theorem e_comp {own : List Nat} {t : Tg} {it : It} {o : Option E} : stepE r L C G σ (.comp false own t it o a) S = (evI r σ it S).bind fun xs S1 => (calm (compL r (wipeE σ own) t o a xs S1)).bind fun ys S2 => if ys.length ≤ line then .ok (.lst ys) S2 else .bad := rfl
@[simp] theorem i_seq : evI r σ (.seq a) S = (r.e σ a S).bind (isSeq fun xs S1 => .ok xs S1) := by
  show (r.e σ a S).bind _ = _
  refine bind_congr fun d S1 => ?_
  cases d <;> rfl
@[simp] theorem i_rng1 : evI r σ (.rng1 a) S = (r.e σ a S).bind (isI fun n S1 => .ofO (rngD 0 n) S1) := by
  show (r.e σ a S).bind _ = _
  refine bind_congr fun d S1 => ?_
  cases d <;> rfl
@[simp] theorem i_enum : evI r σ (.enum a) S = (r.e σ a S).bind (isSeq fun xs S1 => .ok (enumD xs) S1) := by
  show (r.e σ a S).bind _ = _
  refine bind_congr fun d S1 => ?_
  cases d <;> rfl
@[simp] theorem i_zip : evI r σ (.zip a b) S = (r.e σ a S).bind fun d S1 => (r.e σ b S1).bind fun d' S2 => isSeq (fun xs S2 => isSeq (fun ys S2 => .ok (xs.zipWith (fun x y => .tup [x, y]) ys) S2) d' S2) d S2 := by
  show (r.e σ a S).bind _ = _
  refine bind_congr fun d S1 => ?_
  refine bind_congr fun d' S2 => ?_
  cases d <;> cases d' <;> rfl
@[simp] theorem A_nil : evA r σ [] S = .ok [] S := rfl
@[simp] theorem A_cons {e : E} {es : List E} : evA r σ (e :: es) S = (r.e σ e S).bind fun x S1 => (evA r σ es S1).bind fun xs S2 => .ok (x :: xs) S2 := rfl
end
/-! ### statements -/
def flowK (f : Env → Store → Res Flow) (g : Flow) (S : Store) : Res Flow := match g with
  | .nx σ => f σ S
  | .ret d => .ok (.ret d) S
@[simp] theorem flowK_nx {f : Env → Store → Res Flow} : flowK f (.nx σ) S = f σ S := rfl
@[simp] theorem flowK_ret {f : Env → Store → Res Flow} {d : D} : flowK f (.ret d) S = .ok (.ret d) S := rfl
@[simp] theorem B_nil : evB r σ [] S = .ok (.nx σ) S := rfl
@[simp] theorem B_cons {st : St} {sts : List St} : evB r σ (st :: sts) S = (r.s σ st S).bind (flowK fun σ1 S1 => evB r σ1 sts S1) := by
  show (r.s σ st S).bind _ = _
  refine bind_congr fun g S1 => ?_
  cases g <;> rfl
def asgK (o : Option Env) (S : Store) : Res Flow := match o with
  | some σ => .ok (.nx σ) S
  | none => .bad
@[simp] theorem asgK_some : asgK (some σ) S = .ok (.nx σ) S := rfl
section
variable {a b : E}
@[simp] theorem s_asg {t : Tg} : stepS r σ (.asg t a) S = (r.e σ a S).bind fun d S1 => asgK (asgT 9 t d σ) S1 := rfl
@[simp] theorem s_par {is : List Nat} {es : List E} : stepS r σ (.par is es) S = (evA r σ es S).bind fun xs S1 => asgK (setAll is xs σ) S1 := rfl
@[simp] theorem s_ifs {x y : List St} : stepS r σ (.ifs a x y) S = (r.e σ a S).bind (isBl fun k S1 => if k = true then evB r σ x S1 else evB r σ y S1) := by
  show (evT r σ a S).bind _ = _
  rw [e_T]
  cases r.e σ a S with
  | bad => rfl
  | exc => rfl
  | ok d S1 => cases d <;> first | rfl | (rename_i k; cases k <;> rfl)
@[simp] theorem s_for {t : Tg} {it : It} {body : List St} : stepS r σ (.for_ t it body) S = (evI r σ it S).bind fun xs S1 => forL r t body xs σ S1 := rfl
@[simp] theorem s_ret : stepS r σ (.ret a) S = (r.e σ a S).bind fun d S1 => .ok (.ret d) S1 := rfl
@[simp] theorem s_expr : stepS r σ (.expr a) S = (r.e σ a S).bind fun _ S1 => .ok (.nx σ) S1 := rfl
@[simp] theorem s_rais {c : Nat} {m : List Nat} : stepS r σ (.rais c m) S = .exc c S := rfl
@[simp] theorem s_pass : stepS r σ .pass S = .ok (.nx σ) S := rfl
@[simp] theorem asg_nm {m i : Nat} {d : D} (h : i < σ.length) : asgT (m + 1) (.nm i) d σ = some (σ.set i (some d)) := if_pos h
end
/-! ### a call -/
def endR (n : Nat) : Res Flow → Res D
  | .ok (.ret d) S1 => trim n d S1
  | .ok (.nx _) S1 => trim n .non S1
  | .exc c S1 => .exc c (S1.take n)
  | .bad => .bad
@[simp] theorem endR_ret {d : D} : endR n (.ok (.ret d) S) = trim n d S := rfl
@[simp] theorem endR_nx : endR n (.ok (.nx σ) S) = .ok .non (S.take n) := rfl
@[simp] theorem endR_exc {c : Nat} : endR n (.exc c S) = .exc c (S.take n) := rfl
@[simp] theorem endR_ite {c : Prop} [Decidable c] {x y : Res Flow} : endR n (if c then x else y) = if c then endR n x else endR n y := by
  split <;> rfl
theorem call_eq {P : List Fn} {f : Nat} {fn : Fn} {as : List D} (h : P[f]? = some fn) (hl : as.length = fn.np) : callN P G (k + 1) f as S = endR S.length (evB (fs (callN P G k) (lamN P G k) G 60) (as.map some ++ List.replicate fn.nl none) fn.body S) := by
  rw [callN_eq h]
  unfold runFn
  rw [if_pos hl]
  show _ = endR S.length (evB (fs (callN P G k) (lamN P G k) G 60) (as.map some ++ List.replicate fn.nl none) fn.body S)
  show (match evB (fs (callN P G k) (lamN P G k) G 60) (as.map some ++ List.replicate fn.nl none) fn.body S with
    | .ok (.ret d) S1 => trim S.length d S1
    | .ok (.nx _) S1 => trim S.length .non S1
    | .exc c S1 => .exc c (S1.take S.length)
    | .bad => .bad) = _
  generalize evB (fs (callN P G k) (lamN P G k) G 60) (as.map some ++ List.replicate fn.nl none) fn.body S = z
  cases z with
  | ok a S1 => cases a <;> rfl
  | exc => rfl
  | bad => rfl
end
end Pf.Dn

end
section
/-! Den2: plain data under simp. -/
namespace Pf.Dn
open Pf
theorem plN_mono {n : Nat} : ∀ {d : D}, plN n d = true → plN (n + 1) d = true := by
  induction n with
  | zero => intro d h; cases h
  | succ n ih =>
    intro d h
    cases d with
    | tup xs =>
      have h : xs.all (plN n) = true := h
      show xs.all (plN (n + 1)) = true
      exact List.all_eq_true.mpr fun x hx => ih (List.all_eq_true.mp h x hx)
    | lst xs =>
      have h : xs.all (plN n) = true := h
      show xs.all (plN (n + 1)) = true
      exact List.all_eq_true.mpr fun x hx => ih (List.all_eq_true.mp h x hx)
    | str s => exact h
    | ref _ => cases h
    | scr _ => cases h
    | non => rfl
    | bl _ => rfl
    | int _ => rfl
theorem pl_tup {xs : List D} (h : pl (.tup xs) = true) {x : D} (hx : x ∈ xs) : pl x = true := plN_mono (List.all_eq_true.mp (show xs.all (plN 59) = true from h) x hx)
theorem pl_lst {xs : List D} (h : pl (.lst xs) = true) {x : D} (hx : x ∈ xs) : pl x = true := plN_mono (List.all_eq_true.mp (show xs.all (plN 59) = true from h) x hx)
theorem pl_fl {d : D} (h : pl d = true) : fl d = true := by
  cases d <;> first | exact Eq.trans rfl rfl | cases h
theorem pl_int {i : Int} : pl (.int i) = true := Eq.trans rfl rfl
theorem pl_bl {i : Bool} : pl (.bl i) = true := Eq.trans rfl rfl
theorem pl_non : pl .non = true := Eq.trans rfl rfl
variable {S : Store} {a b c d : D} {r : List D}
@[simp] theorem d_int {i : Int} : dataOf S (.int i) = some (.int i) := rfl
@[simp] theorem d_bl {i : Bool} : dataOf S (.bl i) = some (.bl i) := rfl
@[simp] theorem d_non : dataOf S .non = some .non := rfl
theorem d_str {s : List Nat} (h : pl (.str s) = true) : dataOf S (.str s) = some (.str s) := dataOf_pl (Eq.trans rfl rfl) h
theorem d_tup {s : List D} (h : pl (.tup s) = true) : dataOf S (.tup s) = some (.tup s) := dataOf_pl (Eq.trans rfl rfl) h
theorem d_lst {s : List D} (h : pl (.lst s) = true) : dataOf S (.lst s) = some (.lst s) := dataOf_pl (Eq.trans rfl rfl) h
@[simp] theorem eqv_int {i j : Int} : eqv (.int i) (.int j) = (i == j) := rfl
@[simp] theorem eqv_bl {i j : Bool} : eqv (.bl i) (.bl j) = (i == j) := rfl
@[simp] theorem eqv_str {i j : List Nat} : eqv (.str i) (.str j) = (i == j) := rfl
@[simp] theorem ix0 : ixD S (.tup (a :: r)) (.int 0) = some a := by
  show (place (r.length + 1) 0).bind (fun j => (a :: r)[j]?) = _
  have : place (r.length + 1) 0 = some 0 := by unfold place; rw [if_pos (by decide), if_pos (by omega)]; rfl
  rw [this]; rfl
@[simp] theorem ix1 : ixD S (.tup (a :: b :: r)) (.int 1) = some b := by
  show (place (r.length + 2) 1).bind (fun j => (a :: b :: r)[j]?) = _
  have : place (r.length + 2) 1 = some 1 := by unfold place; rw [if_pos (by decide), if_pos (by omega)]; rfl
  rw [this]; rfl
@[simp] theorem ix2 : ixD S (.tup (a :: b :: c :: r)) (.int 2) = some c := by
  show (place (r.length + 3) 2).bind (fun j => (a :: b :: c :: r)[j]?) = _
  have : place (r.length + 3) 2 = some 2 := by unfold place; rw [if_pos (by decide), if_pos (by omega)]; rfl
  rw [this]; rfl
@[simp] theorem ix3 : ixD S (.tup (a :: b :: c :: d :: r)) (.int 3) = some d := by
  show (place (r.length + 4) 3).bind (fun j => (a :: b :: c :: d :: r)[j]?) = _
  have : place (r.length + 4) 3 = some 3 := by unfold place; rw [if_pos (by decide), if_pos (by omega)]; rfl
  rw [this]; rfl
theorem ixN {xs : List D} {i : Nat} (h : i < xs.length) : ixD S (.tup xs) (.int i) = xs[i]? := by
  show (place xs.length i).bind (fun j => xs[j]?) = _
  have : place xs.length i = some i := by unfold place; rw [if_pos (by omega), if_pos (by omega)]; rfl
  rw [this]; rfl
theorem ixNl {xs : List D} {i : Nat} (h : i < xs.length) : ixD S (.lst xs) (.int i) = xs[i]? := by
  show (place xs.length i).bind (fun j => xs[j]?) = _
  have : place xs.length i = some i := by unfold place; rw [if_pos (by omega), if_pos (by omega)]; rfl
  rw [this]; rfl
theorem cut_from {α : Type} {xs : List α} {n : Nat} : cut xs (some n) none = xs.drop n := by
  unfold cut
  rw [HT.sIx_nat, HT.sIx_none]
  rw [List.take_of_length_le (by rw [List.length_drop]; omega)]
  by_cases h : n ≤ xs.length
  · rw [Nat.min_eq_left h]
  · rw [Nat.min_eq_right (by omega), List.drop_of_length_le (Nat.le_refl _), List.drop_of_length_le (by omega)]
theorem cut_to {α : Type} {xs : List α} {n : Nat} : cut xs none (some n) = xs.take n := by
  unfold cut
  rw [HT.sIx_nat, HT.sIx_none, List.drop_zero, Nat.sub_zero]
  by_cases h : n ≤ xs.length
  · rw [Nat.min_eq_left h]
  · rw [Nat.min_eq_right (by omega), List.take_of_length_le (Nat.le_refl _), List.take_of_length_le (by omega)]
@[simp] theorem sl1 {xs : List D} : slD S (.tup xs) (some 1) none = some (.tup (xs.drop 1)) := congrArg (fun z => some (D.tup z)) (cut_from (n := 1))
@[simp] theorem sl2 {xs : List D} : slD S (.tup xs) (some 2) none = some (.tup (xs.drop 2)) := congrArg (fun z => some (D.tup z)) (cut_from (n := 2))
@[simp] theorem bin_add {i j : Int} : binD .add (.int i) (.int j) = some (.int (i + j)) := rfl
@[simp] theorem bin_sub {i j : Int} : binD .sub (.int i) (.int j) = some (.int (i - j)) := rfl
theorem bin_mod {i j : Int} (h : j ≠ 0) : binD .mod (.int i) (.int j) = some (.int (i.fmod j)) := if_neg h
theorem bin_tup {i j : List D} (h : i.length + j.length ≤ line) : binD .add (.tup i) (.tup j) = some (.tup (i ++ j)) := if_pos h
theorem bin_lst {i j : List D} (h : i.length + j.length ≤ line) : binD .add (.lst i) (.lst j) = some (.lst (i ++ j)) := if_pos h
@[simp] theorem len_tup {S : Store} {xs : List D} : biD S .len [.tup xs] = some (.int xs.length) := rfl
@[simp] theorem len_lst {S : Store} {xs : List D} : biD S .len [.lst xs] = some (.int xs.length) := rfl
section
variable {q : Fs} {σ : Env} {i : Nat} {c0 e0 : E}
theorem compL_pure {p : D → Bool} {f : D → D} (hi : i < σ.length) : ∀ {xs : List D}, (∀ x ∈ xs, q.e (σ.set i (some x)) c0 S = .ok (.bl (p x)) S) → (∀ x ∈ xs, p x = true → q.e (σ.set i (some x)) e0 S = .ok (f x) S) → compL q σ (.nm i) (some c0) e0 xs S = .ok ((xs.filter p).map f) S
  | [], _, _ => rfl
  | x :: xs, h1, h2 => by
    have ih := compL_pure (p := p) (f := f) hi (xs := xs) (fun y hy => h1 y (List.mem_cons_of_mem _ hy)) (fun y hy => h2 y (List.mem_cons_of_mem _ hy))
    have g1 := h1 x List.mem_cons_self
    have g2 := h2 x List.mem_cons_self
    show (match asgT 9 (.nm i) x σ with | none => Res.bad | some σ1 => (evT q σ1 c0 S).bind fun b S1 => match b with
        | true => (q.e σ1 e0 S1).bind fun y S2 => (compL q σ (.nm i) (some c0) e0 xs S2).bind fun ys S3 => .ok (y :: ys) S3
        | false => compL q σ (.nm i) (some c0) e0 xs S1) = _
    rw [asg_nm hi]
    dsimp only
    rw [e_T, g1]
    cases hp : p x with
    | true =>
      rw [List.filter_cons_of_pos hp]
      show ((q.e (σ.set i (some x)) e0 S).bind _) = _
      rw [g2 hp]
      show (compL q σ (.nm i) (some c0) e0 xs S).bind _ = _
      rw [ih]
      rfl
    | false =>
      rw [List.filter_cons_of_neg (by rw [hp]; decide)]
      exact ih
theorem compL_pure0 {f : D → D} (hi : i < σ.length) : ∀ {xs : List D}, (∀ x ∈ xs, q.e (σ.set i (some x)) e0 S = .ok (f x) S) → compL q σ (.nm i) none e0 xs S = .ok (xs.map f) S
  | [], _ => rfl
  | x :: xs, h2 => by
    have ih := compL_pure0 (f := f) hi (xs := xs) (fun y hy => h2 y (List.mem_cons_of_mem _ hy))
    have g2 := h2 x List.mem_cons_self
    show (match asgT 9 (.nm i) x σ with | none => Res.bad | some σ1 => (q.e σ1 e0 S).bind fun y S2 => (compL q σ (.nm i) none e0 xs S2).bind fun ys S3 => .ok (y :: ys) S3) = _
    rw [asg_nm hi]
    dsimp only
    rw [g2]
    show (compL q σ (.nm i) none e0 xs S).bind _ = _
    rw [ih]
    rfl
@[simp] theorem compL_nil {t : Tg} {o : Option E} : compL q σ t o e0 [] S = .ok [] S := rfl
@[simp] theorem compL_cons {x : D} {xs : List D} (hi : i < σ.length) : compL q σ (.nm i) (some c0) e0 (x :: xs) S = (q.e (σ.set i (some x)) c0 S).bind (isBl fun k S1 => if k = true then (q.e (σ.set i (some x)) e0 S1).bind fun y S2 => (compL q σ (.nm i) (some c0) e0 xs S2).bind fun ys S3 => .ok (y :: ys) S3 else compL q σ (.nm i) (some c0) e0 xs S1) := by
  show (match asgT 9 (.nm i) x σ with | none => Res.bad | some σ1 => (evT q σ1 c0 S).bind fun b S1 => match b with
        | true => (q.e σ1 e0 S1).bind fun y S2 => (compL q σ (.nm i) (some c0) e0 xs S2).bind fun ys S3 => .ok (y :: ys) S3
        | false => compL q σ (.nm i) (some c0) e0 xs S1) = _
  rw [asg_nm hi]
  dsimp only
  rw [e_T]
  cases q.e (σ.set i (some x)) c0 S with
  | bad => rfl
  | exc => rfl
  | ok d S1 => cases d <;> first | rfl | (rename_i k; cases k <;> rfl)
@[simp] theorem wipe_nil : wipeE σ [] = σ := rfl
@[simp] theorem wipe_cons {v : Nat} {vs : List Nat} : wipeE σ (v :: vs) = (wipeE σ vs).set v none := rfl
@[simp] theorem d_nil : dataOf S (.lst []) = some (.lst []) := rfl
@[simp] theorem d_tnil : dataOf S (.tup []) = some (.tup []) := rfl
@[simp] theorem calm_ok {α : Type} {a : α} : calm (.ok a S) = .ok a S := rfl
@[simp] theorem eqv_nil {xs : List D} : eqv (.lst xs) (.lst []) = xs.isEmpty := by cases xs <;> rfl
@[simp] theorem eqv_tnil {xs : List D} : eqv (.tup xs) (.tup []) = xs.isEmpty := by cases xs <;> rfl
theorem pl_sub {xs ys : List D} (h : pl (.tup xs) = true) (hs : ∀ y ∈ ys, y ∈ xs) : pl (.lst ys) = true :=
  List.all_eq_true.mpr fun y hy => List.all_eq_true.mp (show xs.all (plN 59) = true from h) y (hs y hy)
theorem pl_tsub {xs ys : List D} (h : pl (.tup xs) = true) (hs : ∀ y ∈ ys, y ∈ xs) : pl (.tup ys) = true :=
  List.all_eq_true.mpr fun y hy => List.all_eq_true.mp (show xs.all (plN 59) = true from h) y (hs y hy)
end
end Pf.Dn

end
section
namespace K21
open Pf Pf.Dn
def isPlain (v : D) : Bool := tyD .int v && !(tyD .bool v)
theorem c_plain {k : Nat} {v : D} {S : Store} (h : fl v = true) : callN prog cfg (k + 1) f_is_plain [v] S = .ok (.bl (isPlain v)) S := by
  rw [call_eq (fn := ⟨1, 0, b_is_plain⟩) rfl rfl]
  simp [b_is_plain, isPlain, h]
def isWhole (v : D) (lo hi : Int) : Bool := match v with
  | .int i => decide (lo ≤ i) && decide (i ≤ hi)
  | _ => false
theorem c_whole {k : Nat} {v : D} {S : Store} {lo hi : Int} (h : fl v = true) : callN prog cfg (k + 2) f_is_whole [v, .int lo, .int hi] S = .ok (.bl (isWhole v lo hi)) S := by
  rw [call_eq (fn := ⟨3, 0, b_is_whole⟩) rfl rfl]
  cases v <;> simp at h <;> simp [b_is_whole, isWhole, c_plain, isPlain]
theorem whole_int {v : D} {lo hi : Int} (h : isWhole v lo hi = true) : ∃ i, v = .int i := by
  cases v <;> first | exact ⟨_, rfl⟩ | cases h
def isRow (v : D) (lo hi : Int) : Bool := match v with
  | .tup xs => decide (lo ≤ xs.length) && decide ((xs.length : Int) ≤ hi)
  | _ => false
theorem c_row {k : Nat} {v : D} {S : Store} {lo hi : Int} (h : fl v = true) : callN prog cfg (k + 1) f_is_row [v, .int lo, .int hi] S = .ok (.bl (isRow v lo hi)) S := by
  rw [call_eq (fn := ⟨3, 0, b_is_row⟩) rfl rfl]
  cases v <;> simp at h <;> simp [b_is_row, isRow]
abbrev wEnd : List Nat := [101, 110, 100]
abbrev wThrow : List Nat := [116, 104, 114, 111, 119]
abbrev wChoose : List Nat := [99, 104, 111, 111, 115, 101]
def isStand (v : D) (m : Int) : Bool := match v with
  | .tup [.str w, a] => w == wEnd && isWhole a (-9) 9
  | .tup [.str w, a, b] => w == wChoose && (isWhole a 0 (m - 1) && (isWhole b 0 (m - 1) && (match a, b with | .int i, .int j => decide (i < j) | _, _ => false)))
  | .tup [.str w, a, b, c] => w == wThrow && (isWhole a 0 9 && (isWhole b 0 (m - 1) && isWhole c 0 (m - 1)))
  | _ => false
theorem c_stand {k : Nat} {v : D} {S : Store} {m : Int} (h : pl v = true) : callN prog cfg (k + 3) f_is_stand [v, .int m] S = .ok (.bl (isStand v m)) S := by
  rw [call_eq (fn := ⟨2, 0, b_is_stand⟩) rfl rfl]
  have hf := pl_fl h
  cases v <;> simp at hf
  case tup xs =>
    have he : ∀ x ∈ xs, pl x = true := fun x hx => pl_tup h hx
    have z1 : pl (.str wEnd) = true := by decide
    have z2 : pl (.str wThrow) = true := by decide
    have z3 : pl (.str wChoose) = true := by decide
    rcases xs with _ | ⟨w, _ | ⟨a, r⟩⟩
    · simp [b_is_stand, isStand, c_row, isRow]
    · simp [b_is_stand, isStand, c_row, isRow]
    · have hw := he w (by simp)
      have ha := pl_fl (he a (by simp))
      have hwf := pl_fl hw
      cases w <;> simp at hwf
      case str s =>
        have hs := d_str (S := S) hw
        have d1 := d_str (S := S) z1
        have d2 := d_str (S := S) z2
        have d3 := d_str (S := S) z3
        rcases r with _ | ⟨b, _ | ⟨c, _ | ⟨d, r⟩⟩⟩
        · by_cases h1 : s = wEnd
          · subst h1
            simp [b_is_stand, isStand, c_row, isRow, c_whole, ha, hs, d1, d2, d3]
          · by_cases h2 : s = wThrow
            · subst h2
              simp [b_is_stand, isStand, c_row, isRow, c_whole, ha, hs, d1, d2, d3]
            · simp [b_is_stand, isStand, c_row, isRow, c_whole, ha, hs, d1, d2, d3, h1, h2]
        · have hb := pl_fl (he b (by simp))
          by_cases h1 : s = wEnd
          · subst h1
            simp [b_is_stand, isStand, c_row, isRow, c_whole, ha, hb, hs, d1, d2, d3]
          · by_cases h2 : s = wThrow
            · subst h2
              simp [b_is_stand, isStand, c_row, isRow, c_whole, ha, hb, hs, d1, d2, d3]
            · by_cases h3 : s = wChoose
              · subst h3
                cases q1 : isWhole a 0 (m - 1) with
                | false => simp [b_is_stand, isStand, c_row, isRow, c_whole, ha, hb, hs, d1, d2, d3, q1]
                | true =>
                  cases q2 : isWhole b 0 (m - 1) with
                  | false => simp [b_is_stand, isStand, c_row, isRow, c_whole, ha, hb, hs, d1, d2, d3, q1, q2]
                  | true =>
                    obtain ⟨i, rfl⟩ := whole_int q1
                    obtain ⟨j, rfl⟩ := whole_int q2
                    simp [b_is_stand, isStand, c_row, isRow, c_whole, hs, d1, d2, d3, q1, q2]
              · simp [b_is_stand, isStand, c_row, isRow, c_whole, ha, hb, hs, d1, d2, d3, h1, h2, h3]
        · have hb := pl_fl (he b (by simp))
          have hc := pl_fl (he c (by simp))
          by_cases h1 : s = wEnd
          · subst h1
            simp [b_is_stand, isStand, c_row, isRow, c_whole, ha, hb, hc, hs, d1, d2, d3]
          · by_cases h2 : s = wThrow
            · subst h2
              cases q1 : isWhole a 0 9 <;> simp [b_is_stand, isStand, c_row, isRow, c_whole, ha, hb, hc, hs, d1, d2, d3, q1]
            · simp [b_is_stand, isStand, c_row, isRow, c_whole, ha, hb, hc, hs, d1, d2, d3, h1, h2]
        · have e : ¬ ((r.length : Int) + 1 + 1 + 1 + 1 + 1 ≤ 4) := by omega
          simp [b_is_stand, isStand, c_row, isRow, e]
      all_goals (cases r <;> simp [b_is_stand, isStand, c_row, isRow])
  all_goals simp [b_is_stand, isStand, c_row, isRow]
end K21

end
section
namespace K21
open Pf Pf.Dn
def hd : D → D
  | .tup (w :: _) => w
  | _ => .non
def isBoard (v : D) : Bool := match v with
  | .tup xs => (decide (2 ≤ xs.length) && decide (xs.length ≤ 6)) && (xs.all (fun x => isStand x xs.length) && (xs.any (fun x => eqv (hd x) (.str wEnd)) && decide (xs.countP (fun x => eqv (hd x) (.str wChoose)) ≤ 3)))
  | _ => false
theorem boolAll_map {α : Type} {p : α → Bool} : ∀ {xs : List α}, boolAll (xs.map fun x => .bl (p x)) = some (xs.map p)
  | [] => rfl
  | x :: xs => by
    show (boolAll (xs.map fun x => .bl (p x))).map (p x :: ·) = _
    rw [boolAll_map]
    rfl
theorem stand_hd {x : D} {m : Int} (h : isStand x m = true) : ∃ s r, x = .tup (.str s :: r) ∧ hd x = .str s ∧ r ≠ [] := by
  unfold isStand at h
  split at h <;> first | exact ⟨_, _, rfl, rfl, by simp⟩ | cases h
theorem cmpK_in {f : Bool → Store → Res D} {S : Store} {x y : D} {a b : D} {z : Bool} (h1 : Pf.dataOf S x = some a) (h2 : Pf.dataOf S y = some b) (h3 : inD a b = some z) : cmpK f .in_ x y S = f z S := by
  unfold cmpK cmpD
  rw [h1, h2]
  dsimp only
  rw [h3]
  rfl
theorem pl_hds {xs : List D} (h : pl (.tup xs) = true) : pl (.lst (xs.map hd)) = true := by
  refine List.all_eq_true.mpr fun y hy => ?_
  obtain ⟨x, hx, rfl⟩ := List.mem_map.mp hy
  have hp : plN 59 x = true := List.all_eq_true.mp (show xs.all (plN 59) = true from h) x hx
  show plN 59 (hd x) = true
  unfold hd
  split
  · rename_i w r
    exact plN_mono (List.all_eq_true.mp (show (w :: r).all (plN 58) = true from hp) w List.mem_cons_self)
  · rfl
theorem flat_hds {xs : List D} {m : Int} (h : xs.all (fun x => isStand x m) = true) : (xs.map hd).all isFlat = true := by
  refine List.all_eq_true.mpr fun y hy => ?_
  obtain ⟨x, hx, rfl⟩ := List.mem_map.mp hy
  obtain ⟨s, r, _, e, _⟩ := stand_hd (List.all_eq_true.mp h x hx)
  rw [e]
  rfl
theorem count_hds {xs : List D} {m : Int} {S : Store} {s : List Nat} (h : xs.all (fun x => isStand x m) = true) : mtD S .count (.lst (xs.map hd)) [.str s] = some (.int (xs.countP (fun x => eqv (hd x) (.str s)) : Nat)) := by
  show (if isFlat (.str s) && (xs.map hd).all isFlat then some (D.int ((xs.map hd).countP fun z => eqv z (.str s) : Nat)) else none) = _
  rw [flat_hds h, List.countP_map]
  rfl
theorem c_board {k : Nat} {v : D} {S : Store} (h : pl v = true) : callN prog cfg (k + 4) f_is_board [v] S = .ok (.bl (isBoard v)) S := by
  rw [call_eq (fn := ⟨1, 2, b_is_board⟩) rfl rfl]
  have hf := pl_fl h
  cases v <;> simp at hf
  case tup xs =>
    have he : ∀ x ∈ xs, pl x = true := fun x hx => pl_tup h hx
    by_cases hl : (2 ≤ xs.length ∧ xs.length ≤ 6)
    · have hl2 : (2 ≤ (xs.length : Int) ∧ (xs.length : Int) ≤ 6) := by omega
      have h3 : xs.length ≤ line := by unfold line; omega
      simp [b_is_board, c_row, isRow, hl2]
      rw [compL_pure0 (f := fun x => .bl (isStand x xs.length)) (by simp) (fun x hx => by simp [c_stand, he x hx])]
      cases ha : xs.all (fun x => isStand x xs.length) with
      | false => 
        have e1 : biD S .all [.lst (xs.map fun x => .bl (isStand x xs.length))] = some (.bl false) := by
          show (boolAll _).map _ = _
          rw [boolAll_map]
          show some (D.bl ((xs.map _).all id)) = _
          rw [List.all_map]
          show some (D.bl (xs.all (fun x => isStand x xs.length))) = _
          rw [ha]
        simp [h3, e1, isBoard, ha]
      | true =>
        have e1 : biD S .all [.lst (xs.map fun x => .bl (isStand x xs.length))] = some (.bl true) := by
          show (boolAll _).map _ = _
          rw [boolAll_map]
          show some (D.bl ((xs.map _).all id)) = _
          rw [List.all_map]
          show some (D.bl (xs.all (fun x => isStand x xs.length))) = _
          rw [ha]
        simp [h3, e1]
        rw [compL_pure0 (f := hd) (by simp) (fun x hx => by
          obtain ⟨s, r, e, e2, _⟩ := stand_hd (List.all_eq_true.mp ha x hx)
          rw [e2, e]
          simp)]
        have d1 : Pf.dataOf S (.str wEnd) = some (.str wEnd) := d_str (by decide)
        have d2 := d_lst (S := S) (pl_hds h)
        have e2 : inD (.str wEnd) (.lst (xs.map hd)) = some (xs.any (fun x => eqv (hd x) (.str wEnd))) := by
          show some ((xs.map hd).any fun z => eqv z (.str wEnd)) = _
          rw [List.any_map]
          rfl
        have e3 : rcv .count (.lst (xs.map hd)) = true := Eq.trans rfl rfl
        simp [h3, cmpK_in d1 d2 e2, e3, count_hds ha]
        cases e4 : xs.any (fun x => eqv (hd x) (.str wEnd)) <;> simp [isBoard, hl, ha, e4]
        exact Int.ofNat_le (n := 3)
    · have hl2 : ¬ (2 ≤ (xs.length : Int) ∧ (xs.length : Int) ≤ 6) := by omega
      have e1 : ((xs.length : Int) < 2 ∨ 6 < (xs.length : Int)) := by omega
      have e2 : (decide (2 ≤ xs.length) && decide (xs.length ≤ 6)) = false := by
        rcases Nat.lt_or_ge xs.length 2 with q | q
        · rw [decide_eq_false (by omega : ¬ 2 ≤ xs.length), Bool.false_and]
        · rw [decide_eq_false (by omega : ¬ xs.length ≤ 6), Bool.and_false]
      simp [b_is_board, c_row, isRow, hl2]
      rw [if_pos e1]
      unfold isBoard
      dsimp only
      rw [e2, Bool.false_and]
  all_goals simp [b_is_board, isBoard, c_row, isRow]
end K21

end
section
/-! Den3: loops. -/
namespace Pf.Dn
open Pf
section
variable {q : Fs} {t : Tg} {body : List Pf.St}
theorem forL_nil {σ : Pf.Env} {S : Store} : forL q t body [] σ S = .ok (.nx σ) S := rfl
theorem forL_cons {x : D} {xs : List D} {σ σ1 : Pf.Env} {S : Store} (h1 : asgT 9 t x σ = some σ1) : forL q t body (x :: xs) σ S = (evB q σ1 body S).bind (flowK fun σ2 S1 => forL q t body xs σ2 S1) := by
  show (match asgT 9 t x σ with | none => Res.bad | some σ1 => (evB q σ1 body S).bind fun f S1 => match f with
    | .nx σ2 => forL q t body xs σ2 S1
    | .ret d => .ok (.ret d) S1) = _
  rw [h1]
  refine bind_congr fun f S1 => ?_
  cases f <;> rfl
/-- a loop that does not return: J tells what holds with so many items left -/
theorem forL_ind (J : List D → Pf.Env → Store → Prop) (h : ∀ x xs σ S, J (x :: xs) σ S → ∃ σ1, asgT 9 t x σ = some σ1 ∧ ∃ σ2 S2, evB q σ1 body S = .ok (.nx σ2) S2 ∧ J xs σ2 S2) : ∀ {ys : List D} {σ : Pf.Env} {S : Store}, J ys σ S → ∃ σ2 S2, forL q t body ys σ S = .ok (.nx σ2) S2 ∧ J [] σ2 S2
  | [], σ, S, hJ => ⟨σ, S, rfl, hJ⟩
  | y :: ys, σ, S, hJ => by
    obtain ⟨σ1, h1, σ2, S2, h2, hJ2⟩ := h y ys σ S hJ
    rw [forL_cons h1, h2]
    exact forL_ind J h hJ2
/-- a loop that folds -/
theorem forL_fold {α β : Type} {m : β → D} {step : α → β → α} (I : α → Pf.Env → Store → Prop) : ∀ {ys : List β} {a : α} {σ : Pf.Env} {S : Store}, (∀ y ∈ ys, ∀ a σ S, I a σ S → ∃ σ1, asgT 9 t (m y) σ = some σ1 ∧ ∃ σ2 S2, evB q σ1 body S = .ok (.nx σ2) S2 ∧ I (step a y) σ2 S2) → I a σ S → ∃ σ2 S2, forL q t body (ys.map m) σ S = .ok (.nx σ2) S2 ∧ I (ys.foldl step a) σ2 S2
  | [], a, σ, S, _, hI => ⟨σ, S, rfl, hI⟩
  | y :: ys, a, σ, S, h, hI => by
    obtain ⟨σ1, h1, σ2, S2, h2, hI2⟩ := h y List.mem_cons_self a σ S hI
    show ∃ σ2 S2, forL q t body (m y :: ys.map m) σ S = .ok (.nx σ2) S2 ∧ _
    rw [forL_cons h1, h2]
    exact forL_fold I (fun z hz => h z (List.mem_cons_of_mem _ hz)) hI2
theorem compL_g0 {α : Type} {σ : Pf.Env} {e0 : E} {S : Store} {m f : α → D} {g : α → Pf.Env} : ∀ {ys : List α}, (∀ y ∈ ys, asgT 9 t (m y) σ = some (g y) ∧ q.e (g y) e0 S = .ok (f y) S) → compL q σ t none e0 (ys.map m) S = .ok (ys.map f) S
  | [], _ => rfl
  | y :: ys, h => by
    have ih := compL_g0 (fun z hz => h z (List.mem_cons_of_mem _ hz))
    obtain ⟨h1, h2⟩ := h y List.mem_cons_self
    show (match asgT 9 t (m y) σ with | none => Res.bad | some σ1 => (q.e σ1 e0 S).bind fun y S2 => (compL q σ t none e0 (ys.map m) S2).bind fun ys S3 => .ok (y :: ys) S3) = _
    rw [h1]
    dsimp only
    rw [h2]
    show (compL q σ t none e0 (ys.map m) S).bind _ = _
    rw [ih]
    rfl
@[simp] theorem compL_cons0 {i : Nat} {σ : Pf.Env} {S : Store} {e0 : E} {x : D} {xs : List D} (hi : i < σ.length) : compL q σ (.nm i) none e0 (x :: xs) S = (q.e (σ.set i (some x)) e0 S).bind fun y S2 => (compL q σ (.nm i) none e0 xs S2).bind fun ys S3 => .ok (y :: ys) S3 := by
  show (match asgT 9 (.nm i) x σ with | none => Res.bad | some σ1 => (q.e σ1 e0 S).bind fun y S2 => (compL q σ (.nm i) none e0 xs S2).bind fun ys S3 => .ok (y :: ys) S3) = _
  rw [asg_nm hi]
theorem compL_gc {α : Type} {σ : Pf.Env} {c0 e0 : E} {S : Store} {m f : α → D} (p : α → Bool) (g : α → Pf.Env) : ∀ {ys : List α}, (∀ y ∈ ys, asgT 9 t (m y) σ = some (g y) ∧ q.e (g y) c0 S = .ok (.bl (p y)) S ∧ (p y = true → q.e (g y) e0 S = .ok (f y) S)) → compL q σ t (some c0) e0 (ys.map m) S = .ok ((ys.filter p).map f) S
  | [], _ => rfl
  | y :: ys, h => by
    have ih := compL_gc p g (fun z hz => h z (List.mem_cons_of_mem _ hz))
    obtain ⟨h1, h2, h3⟩ := h y List.mem_cons_self
    show (match asgT 9 t (m y) σ with | none => Res.bad | some σ1 => (evT q σ1 c0 S).bind fun b S1 => match b with
        | true => (q.e σ1 e0 S1).bind fun y S2 => (compL q σ t (some c0) e0 (ys.map m) S2).bind fun ys S3 => .ok (y :: ys) S3
        | false => compL q σ t (some c0) e0 (ys.map m) S1) = _
    rw [h1]
    dsimp only
    rw [e_T, h2]
    cases hp : p y with
    | true =>
      rw [List.filter_cons_of_pos hp]
      show ((q.e (g y) e0 S).bind _) = _
      rw [h3 hp]
      show (compL q σ t (some c0) e0 (ys.map m) S).bind _ = _
      rw [ih]
      rfl
    | false =>
      rw [List.filter_cons_of_neg (by rw [hp]; decide)]
      exact ih
theorem compL2_g {α β : Type} {σ : Pf.Env} {own2 : List Nat} {t2 : Tg} {it2 : It} {e0 : E} {S : Store} {m : α → D} {g : α → Pf.Env} {ys2 : α → List β} {m2 : β → D} {f : α → β → D} {g2 : α → β → Pf.Env} : ∀ {ys : List α}, (∀ y ∈ ys, asgT 9 t (m y) σ = some (g y) ∧ evI q (g y) it2 S = .ok ((ys2 y).map m2) S ∧ ∀ z ∈ ys2 y, asgT 9 t2 (m2 z) (wipeE (g y) own2) = some (g2 y z) ∧ q.e (g2 y z) e0 S = .ok (f y z) S) → compL2 q σ own2 t t2 it2 e0 (ys.map m) S = .ok (ys.flatMap fun y => (ys2 y).map (f y)) S
  | [], _ => rfl
  | y :: ys, h => by
    have ih := compL2_g (fun z hz => h z (List.mem_cons_of_mem _ hz))
    obtain ⟨h1, h2, h3⟩ := h y List.mem_cons_self
    show (match asgT 9 t (m y) σ with | none => Res.bad | some σ1 => (evI q σ1 it2 S).bind fun zs S1 => (compL q (wipeE σ1 own2) t2 none e0 zs S1).bind fun ws S2 => (compL2 q σ own2 t t2 it2 e0 (ys.map m) S2).bind fun vs S3 => .ok (ws ++ vs) S3) = _
    rw [h1]
    dsimp only
    rw [h2]
    show (compL q (wipeE (g y) own2) t2 none e0 ((ys2 y).map m2) S).bind _ = _
    rw [compL_g0 h3]
    show (compL2 q σ own2 t t2 it2 e0 (ys.map m) S).bind _ = _
    rw [ih]
    rfl
end
section
variable {C : Call} {L : Fs} {G : Cfg} {σ : Pf.Env} {S : Store} {r : Fs}
theorem e_comp2 {own own2 : List Nat} {t : Tg} {it : It} {t2 : Tg} {it2 : It} {a : E} : stepE r L C G σ (.comp2 own own2 t it t2 it2 a) S = (evI r σ it S).bind fun xs S1 => (calm (compL2 r (wipeE σ own) own2 t t2 it2 a xs S1)).bind fun ys S2 => if ys.length ≤ line then .ok (.lst ys) S2 else .bad := rfl
theorem cell_at {i n : Nat} {xs : List D} (h0 : σ[i]? = some (some (.ref n))) (h1 : S[n]? = some (.lst xs)) : cellOf σ i S = some (n, xs) := by
  unfold cellOf
  rw [h0]
  dsimp only
  rw [h1]
theorem s_app {i n : Nat} {xs xs0 : List D} {d : D} {e : E} {S1 : Store} (h0 : σ[i]? = some (some (.ref n))) (hS : S[n]? = some (.lst xs0)) (he : r.e σ e S = .ok d S1) (h1 : S1[n]? = some (.lst xs)) (hd : pl d = true) (hl : xs.length < line) : stepS r σ (.app i e) S = .ok (.nx σ) (S1.set n (.lst (xs ++ [d]))) := by
  show (match (cellOf σ i S).isSome with
    | false => Res.bad
    | true => (r.e σ e S).bind fun d S1 => match cellOf σ i S1, pl d with
      | some (n, xs), true => if xs.length < line then Res.ok (Flow.nx σ) (S1.set n (.lst (xs ++ [d]))) else .bad
      | _, _ => .bad) = _
  rw [cell_at h0 hS, he]
  show (match cellOf σ i S1, pl d with
      | some (n, xs), true => if xs.length < line then Res.ok (Flow.nx σ) (S1.set n (.lst (xs ++ [d]))) else .bad
      | _, _ => .bad) = _
  rw [cell_at h0 h1, hd]
  dsimp only
  rw [if_pos hl]
theorem e_pop {i n : Nat} {xs : List D} {y : D} (h0 : σ[i]? = some (some (.ref n))) (h1 : S[n]? = some (.lst (xs ++ [y]))) : stepE r L C G σ (.pop i) S = .ok y (S.set n (.lst xs)) := by
  unfold stepE
  simp [cell_at h0 h1]
theorem d_ref {n : Nat} {xs : List D} (h : S[n]? = some (.lst xs)) (hp : pl (.lst xs) = true) : dataOf S (.ref n) = some (.lst xs) := by
  have e : rd S (.ref n) = .lst xs := by unfold rd; dsimp only; rw [h]
  unfold dataOf
  rw [e, if_pos hp]
theorem s_frz {i n : Nat} {xs : List D} (h0 : σ[i]? = some (some (.ref n))) (h1 : S[n]? = some (.lst xs)) : stepS r σ (.frz i) S = .ok (.nx (σ.set i (some (.lst xs)))) (S.set n .dead) := by
  unfold stepS
  simp only [cell_at h0 h1]
theorem newL_pl {xs : List D} (h : xs.all pl = true) : newL true xs S = .ok (.ref S.length) (S ++ [.lst xs]) := if_pos h
@[simp] theorem e_lstL {es : List E} : stepE r L C G σ (.lst true es) S = (evA r σ es S).bind fun xs S1 => newL true xs S1 := rfl
@[simp] theorem newL_nil : newL true [] S = .ok (.ref S.length) (S ++ [.lst []]) := rfl
@[simp] theorem s_whl {c : E} {body : List Pf.St} : stepS r σ (.whl c body) S = whileL r c body whileMost σ S := rfl
end
section
variable {q : Fs} {c : E} {body : List Pf.St} {σ : Pf.Env} {S S1 : Store} {n : Nat}
theorem while_false (h : q.e σ c S = .ok (.bl false) S1) : whileL q c body (n + 1) σ S = .ok (.nx σ) S1 := by
  show (evT q σ c S).bind _ = _
  rw [e_T, h]
  rfl
theorem while_true (h : q.e σ c S = .ok (.bl true) S1) : whileL q c body (n + 1) σ S = (evB q σ body S1).bind (flowK fun σ2 S2 => whileL q c body n σ2 S2) := by
  show (evT q σ c S).bind _ = _
  rw [e_T, h]
  show (evB q σ body S1).bind _ = _
  refine bind_congr fun f S1 => ?_
  cases f <;> rfl
end
theorem bin_mul {i j : Int} (h : (bitsOk i || bitsOk j || wideOk i j) = true) : binD .mul (.int i) (.int j) = some (.int (i * j)) := if_pos h
theorem bin_mulL {i j : Int} (h : i.natAbs < 2 ^ 64) : binD .mul (.int i) (.int j) = some (.int (i * j)) := bin_mul (by unfold bitsOk; rw [decide_eq_true h]; rfl)
theorem bin_mulR {i j : Int} (h : j.natAbs < 2 ^ 64) : binD .mul (.int i) (.int j) = some (.int (i * j)) := bin_mul (by unfold bitsOk; rw [decide_eq_true h]; simp)
theorem bin_pow {i j r : Int} (h : 0 ≤ j) (h2 : j ≤ 1000 ∧ i.natAbs < 2 ^ 64) (h3 : i ^ j.toNat = r) : binD .pow (.int i) (.int j) = some (.int r) := by
  rw [← h3]
  exact if_pos (by unfold bitsOk; rw [decide_eq_true h, decide_eq_true h2.1, decide_eq_true h2.2]; rfl)
theorem bin_fdiv {i j : Int} (h : j ≠ 0) (h2 : j.natAbs.log2 < 9000) : binD .fdiv (.int i) (.int j) = some (.int (i.fdiv j)) := if_pos (by unfold divOk; rw [decide_eq_true h, decide_eq_true h2]; rfl)
section
variable {f : Bool → Store → Res D} {S : Store}
@[simp] theorem is_bl {i j : Bool} : cmpK f .is (.bl i) (.bl j) S = f (decide (i = j)) S := rfl
@[simp] theorem isnot_bl {i j : Bool} : cmpK f .isnot (.bl i) (.bl j) S = f (!decide (i = j)) S := rfl
def isNon : D → Bool
  | .non => true
  | _ => false
@[simp] theorem isNon_non : isNon .non = true := Eq.trans rfl rfl
@[simp] theorem isNon_bl {b : Bool} : isNon (.bl b) = false := Eq.trans rfl rfl
@[simp] theorem isNon_int {b : Int} : isNon (.int b) = false := Eq.trans rfl rfl
@[simp] theorem isNon_str {b : List Nat} : isNon (.str b) = false := Eq.trans rfl rfl
@[simp] theorem isNon_tup {b : List D} : isNon (.tup b) = false := Eq.trans rfl rfl
@[simp] theorem isNon_lst {b : List D} : isNon (.lst b) = false := Eq.trans rfl rfl
@[simp] theorem isNon_ref {b : Nat} : isNon (.ref b) = false := Eq.trans rfl rfl
@[simp] theorem is_non {d : D} : cmpK f .is d .non S = f (isNon d) S := by cases d <;> rfl
@[simp] theorem isnot_non {d : D} : cmpK f .isnot d .non S = f (!isNon d) S := by cases d <;> rfl
@[simp] theorem asg_tup2 {m i j : Nat} {x y : D} {σ : Pf.Env} (hi : i < σ.length) (hj : j < σ.length) : asgT (m + 2) (.tup [.nm i, .nm j]) (.tup [x, y]) σ = some ((σ.set i (some x)).set j (some y)) := by
  show (asgT (m + 1) (.nm i) x σ).bind (fun σ' => (asgT (m + 1) (.nm j) y σ').bind fun σ'' => some σ'') = _
  rw [asg_nm hi]
  show (asgT (m + 1) (.nm j) y (σ.set i (some x))).bind (fun σ'' => some σ'') = _
  rw [asg_nm (by rw [List.length_set]; exact hj)]
  rfl
end
@[simp] theorem abs_int {S : Store} {i : Int} : biD S .abs [.int i] = some (.int (i.natAbs : Int)) := by
  show some (D.int (if i < 0 then -i else i)) = _
  congr 2
  split <;> omega
end Pf.Dn

end
section
/-! Brd: boards as typed values. -/
namespace Pf.Dn
open Pf
abbrev uEnd : List Nat := [101, 110, 100]
abbrev uThrow : List Nat := [116, 104, 114, 111, 119]
abbrev uChoose : List Nat := [99, 104, 111, 111, 115, 101]
inductive Std where
  | fin (w : Int)
  | thr (c : Int) (h t : Nat)
  | cho (a b : Nat)
deriving DecidableEq, Inhabited
def Std.enc : Std → D
  | .fin w => .tup [.str uEnd, .int w]
  | .thr c h t => .tup [.str uThrow, .int c, .int h, .int t]
  | .cho a b => .tup [.str uChoose, .int a, .int b]
def Std.ok (n : Nat) : Std → Prop
  | .fin w => -9 ≤ w ∧ w ≤ 9
  | .thr c h t => 0 ≤ c ∧ c ≤ 9 ∧ h < n ∧ t < n
  | .cho a b => a < b ∧ b < n
def Std.isCho : Std → Bool
  | .cho _ _ => true
  | _ => false
def Std.isFin : Std → Bool
  | .fin _ => true
  | _ => false
abbrev Board := List Std
def encB (B : Board) : D := .tup (B.map Std.enc)
structure OkB (B : Board) (most : Nat) : Prop where
  lo : 2 ≤ B.length
  hi : B.length ≤ 6
  each : ∀ s ∈ B, s.ok B.length
  fin : ∃ s ∈ B, s.isFin = true
  cho : B.countP Std.isCho ≤ most
theorem pl_enc {s : Std} : plN 59 s.enc = true := by cases s <;> rfl
theorem pl_encB {B : Board} : pl (encB B) = true := List.all_eq_true.mpr fun y hy => by
  obtain ⟨s, _, rfl⟩ := List.mem_map.mp hy
  exact pl_enc
theorem pl_enc' {s : Std} : pl s.enc = true := plN_mono pl_enc
theorem plstr : pl (.str uEnd) = true ∧ pl (.str uThrow) = true ∧ pl (.str uChoose) = true := by decide
@[simp] theorem d_uEnd {S : Store} : dataOf S (.str [101, 110, 100]) = some (.str [101, 110, 100]) := d_str plstr.1
@[simp] theorem d_uThrow {S : Store} : dataOf S (.str [116, 104, 114, 111, 119]) = some (.str [116, 104, 114, 111, 119]) := d_str plstr.2.1
@[simp] theorem d_uChoose {S : Store} : dataOf S (.str [99, 104, 111, 111, 115, 101]) = some (.str [99, 104, 111, 111, 115, 101]) := d_str plstr.2.2
def Std.word : Std → List Nat
  | .fin _ => uEnd
  | .thr _ _ _ => uThrow
  | .cho _ _ => uChoose
def Std.isThr : Std → Bool
  | .thr _ _ _ => true
  | _ => false
@[simp] theorem ix_enc0 {s : Std} {S : Store} : ixD S s.enc (.int 0) = some (.str s.word) := by cases s <;> rfl
@[simp] theorem d_word {s : Std} {S : Store} : dataOf S (.str s.word) = some (.str s.word) := d_str (by cases s; exact plstr.1; exact plstr.2.1; exact plstr.2.2)
@[simp] theorem word_cho {s : Std} : (s.word == [99, 104, 111, 111, 115, 101]) = s.isCho := by cases s <;> rfl
@[simp] theorem word_fin {s : Std} : (s.word == [101, 110, 100]) = s.isFin := by cases s <;> rfl
@[simp] theorem word_thr {s : Std} : (s.word == [116, 104, 114, 111, 119]) = s.isThr := by cases s <;> rfl
theorem rngD_nat {n : Nat} (h : n ≤ 1000000) : rngD 0 (n : Int) = some ((List.range n).map fun (i : Nat) => .int (i : Int)) := by
  unfold rngD
  rw [if_pos (by simp; omega)]
  simp
/-! ### the store with a bag -/
/-- the cell m is a bag -/
def Bag (S : Store) (m : Nat) : Prop := ∃ xs : List Int, S[m]? = some (.lst (xs.map .int))
/-- the same store, but for the bag -/
def Same (S S' : Store) (m : Nat) : Prop := Bag S' m ∧ ∃ c, S' = S.set m c
theorem Bag.lt {S : Store} {m : Nat} (h : Bag S m) : m < S.length := by
  obtain ⟨xs, h⟩ := h
  rcases Nat.lt_or_ge m S.length with q | q
  · exact q
  · rw [List.getElem?_eq_none q] at h; cases h
theorem Same.refl {S : Store} {m : Nat} (h : Bag S m) : Same S S m := by
  obtain ⟨xs, hx⟩ := h
  refine ⟨⟨xs, hx⟩, .lst (xs.map .int), ?_⟩
  apply List.ext_getElem?
  intro j
  rw [List.getElem?_set]
  split
  · rename_i e
    subst e
    rw [hx]
    split
    · rfl
    · rename_i q; exact absurd (Bag.lt ⟨xs, hx⟩) q
  · rfl
theorem Same.trans {S S1 S2 : Store} {m : Nat} (h1 : Same S S1 m) (h2 : Same S1 S2 m) : Same S S2 m := by
  obtain ⟨_, c, rfl⟩ := h1
  obtain ⟨b, d, rfl⟩ := h2
  exact ⟨b, d, by rw [List.set_set]⟩
theorem Same.len {S S1 : Store} {m : Nat} (h1 : Same S S1 m) : S1.length = S.length := by
  obtain ⟨_, c, rfl⟩ := h1
  rw [List.length_set]
theorem Same.take {S S1 : Store} {m : Nat} (h1 : Same S S1 m) : S1.take S.length = S1 := by
  rw [← h1.len]; exact List.take_length
end Pf.Dn

end
section
/-! Wp: what holds behind a run that ends well. -/
namespace Pf.Dn
open Pf
def WP {α : Type} (r : Res α) (Q : α → Store → Prop) : Prop := ∃ a S, r = .ok a S ∧ Q a S
section
variable {α β : Type} {Q : α → Store → Prop} {S : Store}
@[simp] theorem wp_ok {a : α} : WP (.ok a S) Q ↔ Q a S := ⟨fun ⟨_, _, h, q⟩ => by cases h; exact q, fun q => ⟨a, S, rfl, q⟩⟩
@[simp] theorem wp_bad : WP (.bad : Res α) Q ↔ False := ⟨(fun ⟨_, _, h, _⟩ => by cases h), False.elim⟩
@[simp] theorem wp_exc {c : Nat} : WP (.exc c S : Res α) Q ↔ False := ⟨(fun ⟨_, _, h, _⟩ => by cases h), False.elim⟩
@[simp] theorem wp_bind {r : Res β} {f : β → Store → Res α} : WP (r.bind f) Q ↔ WP r (fun a S => WP (f a S) Q) := by
  cases r with
  | ok a S => simp
  | exc c S => simp
  | bad => simp
theorem wp_congr {r r' : Res α} {Q : α → Store → Prop} (h : r = r') : WP r Q = WP r' Q := by rw [h]
theorem WP.mono {r : Res α} {Q1 Q : α → Store → Prop} (h : WP r Q1) (hq : ∀ a S, Q1 a S → Q a S) : WP r Q := by
  obtain ⟨a, S, e, q⟩ := h
  exact ⟨a, S, e, hq a S q⟩
theorem WP.eq {r : Res α} {v : α} {S : Store} (h : WP r (fun a S' => a = v ∧ S' = S)) : r = .ok v S := by
  obtain ⟨a, S', e, rfl, rfl⟩ := h
  exact e
theorem WP.ex {r : Res α} {Q : α → Store → Prop} (h : WP r Q) : ∃ a S, r = .ok a S ∧ Q a S := h
theorem wp_ite {c : Prop} [Decidable c] {x y : Res α} (h1 : c → WP x Q) (h2 : ¬ c → WP y Q) : WP (if c then x else y) Q := by
  by_cases h : c
  · rw [if_pos h]; exact h1 h
  · rw [if_neg h]; exact h2 h
end
section
variable {q : Fs} {t : Tg} {body : List Pf.St} {Q : Flow → Store → Prop}
/-- what a flow leaves -/
def fwd (J : Pf.Env → Store → Prop) (Q : Flow → Store → Prop) (f : Flow) (S : Store) : Prop := match f with
  | .nx σ => J σ S
  | .ret d => Q (.ret d) S
@[simp] theorem fwd_nx {J : Pf.Env → Store → Prop} {σ : Pf.Env} {S : Store} : fwd J Q (.nx σ) S = J σ S := rfl
@[simp] theorem fwd_ret {J : Pf.Env → Store → Prop} {d : D} {S : Store} : fwd J Q (.ret d) S = Q (.ret d) S := rfl
theorem fwd_flowK {k : Pf.Env → Store → Res Flow} {f : Flow} {S : Store} : WP (flowK k f S) Q ↔ fwd (fun σ S => WP (k σ S) Q) Q f S := by
  cases f with
  | nx σ => rfl
  | ret d => simp
theorem wp_for (J : List D → Pf.Env → Store → Prop) {ys : List D} {σ : Pf.Env} {S : Store} (h0 : J ys σ S) (h : ∀ x xs σ S, J (x :: xs) σ S → ∃ σ1, asgT 9 t x σ = some σ1 ∧ WP (evB q σ1 body S) (fwd (J xs) Q)) (hQ : ∀ σ S, J [] σ S → Q (.nx σ) S) : WP (forL q t body ys σ S) Q := by
  induction ys generalizing σ S with
  | nil => exact ⟨_, _, rfl, hQ σ S h0⟩
  | cons y ys ih =>
    obtain ⟨σ1, h1, f, S1, e, hf⟩ := h y ys σ S h0
    rw [forL_cons h1, e]
    cases f with
    | nx σ2 => exact ih hf
    | ret d => exact ⟨_, _, rfl, hf⟩
/-- over typed items -/
theorem wp_forT {α : Type} {m : α → D} (J : List α → List α → Pf.Env → Store → Prop) {ys : List α} {σ : Pf.Env} {S : Store} (h0 : J [] ys σ S) (h : ∀ done x xs σ S, done ++ x :: xs = ys → J done (x :: xs) σ S → ∃ σ1, asgT 9 t (m x) σ = some σ1 ∧ WP (evB q σ1 body S) (fwd (J (done ++ [x]) xs) Q)) (hQ : ∀ σ S, J ys [] σ S → Q (.nx σ) S) : WP (forL q t body (ys.map m) σ S) Q := by
  refine wp_for (J := fun l σ S => ∃ done xs, l = xs.map m ∧ done ++ xs = ys ∧ J done xs σ S) ⟨[], ys, rfl, rfl, h0⟩ ?_ ?_
  · rintro x xs σ S ⟨done, l, e1, e2, hJ⟩
    cases l with
    | nil => cases e1
    | cons a l =>
      rw [List.map_cons] at e1
      cases e1
      obtain ⟨σ1, h1, h2⟩ := h done a l σ S e2 hJ
      refine ⟨σ1, h1, h2.mono fun f S hf => ?_⟩
      cases f with
      | nx σ => exact ⟨done ++ [a], l, rfl, by simp [e2], hf⟩
      | ret d => exact hf
  · rintro σ S ⟨done, l, e1, e2, hJ⟩
    cases l with
    | nil =>
      rw [List.append_nil] at e2
      subst e2
      exact hQ σ S hJ
    | cons a l => cases e1
/-- behind a test -/
def tst (A B : Store → Prop) (d : D) (S : Store) : Prop := match d with
  | .bl true => B S
  | .bl false => A S
  | _ => False
@[simp] theorem tst_true {A B : Store → Prop} {S : Store} : tst A B (.bl true) S = B S := rfl
@[simp] theorem tst_false {A B : Store → Prop} {S : Store} : tst A B (.bl false) S = A S := rfl
theorem wp_while {c : E} {fuel : Nat} (J : Nat → Pf.Env → Store → Prop) {n : Nat} {σ : Pf.Env} {S : Store} (h0 : J n σ S) (hn : n < fuel) (h : ∀ n σ S, J n σ S → WP (q.e σ c S) (tst (fun S1 => Q (.nx σ) S1) (fun S1 => WP (evB q σ body S1) (fwd (fun σ2 S2 => ∃ m, m < n ∧ J m σ2 S2) Q)))) : WP (whileL q c body fuel σ S) Q := by
  induction fuel generalizing σ S n with
  | zero => omega
  | succ f ih =>
    obtain ⟨d, S1, e, hb⟩ := h n σ S h0
    obtain ⟨b, rfl⟩ : ∃ b, d = .bl b := by
      cases d <;> first | exact ⟨_, rfl⟩ | exact hb.elim
    cases b with
    | false =>
      rw [while_false e]
      exact ⟨_, _, rfl, hb⟩
    | true =>
      rw [while_true e]
      obtain ⟨g, S2, e2, hg⟩ := hb
      rw [e2]
      cases g with
      | nx σ2 =>
        obtain ⟨m, hm, hJ⟩ := hg
        exact ih hJ (by omega)
      | ret d => exact ⟨_, _, rfl, hg⟩
end
section
variable {n : Nat} {Q : D → Store → Prop} {S : Store}
/-- what a call's end leaves -/
def fin (n : Nat) (Q : D → Store → Prop) (f : Flow) (S : Store) : Prop := match f with
  | .nx _ => Q .non (S.take n)
  | .ret d => WP (trim n d S) Q
@[simp] theorem fin_nx {σ : Pf.Env} : fin n Q (.nx σ) S = Q .non (S.take n) := rfl
@[simp] theorem fin_ret {d : D} : fin n Q (.ret d) S = WP (trim n d S) Q := rfl
@[simp] theorem wp_endR {r : Res Flow} : WP (endR n r) Q ↔ WP r (fin n Q) := by
  cases r with
  | ok f S => cases f <;> simp [fin]
  | exc c S => simp
  | bad => exact Iff.rfl.trans (by simp [endR])
theorem wp_trim {d : D} (h : pl d = true) : WP (trim n d S) Q ↔ Q d (S.take n) := by rw [trim_pl h]; simp
end
theorem lamN_eq {P : List Fn} {G : Cfg} {k : Nat} : lamN P G (k + 2) = fs (callN P G k) noL G 60 := rfl
theorem lam_ex {r L : Fs} {C : Call} {G : Cfg} {σ : Pf.Env} {S S1 : Store} {f c : Nat} {e : E} {s : List Nat} (h : L.e σ e S = .exc c S1) (hg : G.errs[c]? = some s) : stepE r L C G σ (.lam false f e) S = .ok (.str s) S1 := by
  unfold stepE
  simp only [h, hg]
theorem eqvN_self {n : Nat} : ∀ {d : D}, plN n d = true → eqvN n d d = true := by
  induction n with
  | zero => intro d h; cases h
  | succ n ih =>
    intro d h
    have hl : ∀ xs : List D, xs.all (plN n) = true → eqAll (eqvN n) xs xs = true := by
      intro xs
      induction xs with
      | nil => intro _; rfl
      | cons x xs ihx =>
        intro h
        rw [List.all_cons, Bool.and_eq_true] at h
        show (eqvN n x x && eqAll (eqvN n) xs xs) = true
        rw [ih h.1, ihx h.2]
        rfl
    cases d with
    | tup xs => exact hl xs h
    | lst xs => exact hl xs h
    | str s => exact beq_self_eq_true s
    | ref _ => cases h
    | scr _ => cases h
    | non => rfl
    | bl b => exact beq_self_eq_true b
    | int i => exact beq_self_eq_true i
theorem eqv_self {d : D} (h : pl d = true) : eqv d d = true := eqvN_self h
end Pf.Dn

end
section
namespace K21
open Pf Pf.Dn
theorem pl_is' {xs : List Int} : pl (.lst (xs.map .int)) = true := List.all_eq_true.mpr fun y hy => by
  obtain ⟨i, _, rfl⟩ := List.mem_map.mp hy
  rfl
theorem b_take {k : Nat} {m : Nat} {n : Int} {S : Store} (hB : Dn.Bag S m) (hn : 0 < n) : ∃ z S', callN prog cfg (k + 1) f_law_take [.ref m, .int n] S = .ok (.int z) S' ∧ Dn.Same S S' m ∧ 0 ≤ z ∧ z < n := by
  have hB0 := hB
  obtain ⟨xs, hx⟩ := hB
  have hd : Pf.dataOf S (.ref m) = some (.lst (xs.map .int)) := by
    have e : rd S (.ref m) = .lst (xs.map .int) := by unfold rd; dsimp only; rw [hx]
    unfold Pf.dataOf
    rw [e, if_pos pl_is']
  have hn0 : n ≠ 0 := by omega
  have hm := hB0.lt
  rw [call_eq (fn := ⟨2, 1, b_law_take⟩) rfl rfl]
  cases xs with
  | nil =>
    refine ⟨0, S, ?_, Same.refl hB0, by omega, hn⟩
    have e : (0 : Int).fmod n = 0 := Int.zero_fmod n
    have e2 : biD S .int [.int 0] = some (.int 0) := rfl
    simp [b_law_take, hd, bin_mod hn0, e, e2]
  | cons x xs =>
    refine ⟨x.fmod n, S.set m (.lst (xs.map .int)), ?_, ⟨⟨xs, by rw [List.getElem?_set, if_pos rfl, if_pos hm]⟩, _, rfl⟩, Int.fmod_nonneg_of_pos _ hn, Int.fmod_lt_of_pos _ hn⟩
    have e2 : ∀ S : Store, biD S .int [.int x] = some (.int x) := fun _ => rfl
    have e3 : ∀ (r : Fs) (L : Fs) (C : Call), stepE r L C cfg [some (.ref m), some (.int n), none] (.pop0 0) S = .ok (.int x) (S.set m (.lst (xs.map .int))) := fun r L C => by
      unfold stepE Pf.cellOf
      simp [hx]
    simp [b_law_take, hd, bin_mod hn0, e2, e3]
    exact List.take_of_length_le (by rw [List.length_set]; exact Nat.le_refl _)
theorem b_choice {k : Nat} {m : Nat} {xs : List D} {S : Store} (hB : Dn.Bag S m) (hx : xs ≠ []) (hp : ∀ x ∈ xs, pl x = true) : ∃ x S', callN prog cfg (k + 2) f_law_choice [.ref m, .lst xs] S = .ok x S' ∧ Dn.Same S S' m ∧ x ∈ xs := by
  have hl : 0 < xs.length := List.length_pos_iff.mpr hx
  obtain ⟨z, S', e, h1, h2, h3⟩ := b_take (k := k) (n := xs.length) hB (by omega)
  rw [call_eq (fn := ⟨2, 0, b_law_choice⟩) rfl rfl]
  obtain ⟨i, rfl⟩ : ∃ i : Nat, z = i := ⟨z.toNat, by omega⟩
  have hi : i < xs.length := by omega
  refine ⟨xs[i], S', ?_, h1, List.getElem_mem hi⟩
  have e2 : ixD S' (.lst xs) (.int (i : Int)) = some xs[i] := by rw [ixNl hi]; simp [hi]
  simp [b_law_choice, e, e2]
  rw [trim_pl (hp _ (List.getElem_mem hi)), h1.take]
theorem b_cell {k : Nat} {ns : List Int} {j : Nat} {S : Store} (hj : j < 1000) : ∃ z, callN prog cfg (k + 1) f_law_cell [.scr (ns.map .int), .int (j : Int)] S = .ok (.int z) S := by
  rw [call_eq (fn := ⟨2, 0, b_law_cell⟩) rfl rfl]
  have e1 : biD S .len [.scr (ns.map .int)] = some (.int ns.length) := by
    show lenV (.lst (ns.map .int)) = _
    unfold lenV
    simp
  have e2 : ∀ i : Nat, ixD S (.scr (ns.map .int)) (.int (i : Int)) = (ns.map D.int)[i]? := by
    intro i
    show ixD S (.lst (ns.map .int)) (.int (i : Int)) = _
    by_cases h : i < (ns.map D.int).length
    · rw [ixNl h]
    · show (place (ns.map D.int).length i).bind (fun j => (ns.map D.int)[j]?) = _
      have : place (ns.map D.int).length i = none := by unfold place; rw [if_pos (by omega), if_neg (by omega)]
      rw [this, List.getElem?_eq_none (by omega)]
      rfl
  have e3 : binD .mul (.int 7919) (.int (j : Int)) = some (.int (7919 * (j : Int))) := bin_mulL (by decide)
  by_cases h1 : j < ns.length
  · have h2 : (j : Int) < ns.length := by omega
    refine ⟨ns[j], ?_⟩
    simp [b_law_cell, e1, h2, e2, h1]
  · have h2 : ¬ ((j : Int) < ns.length) := by omega
    by_cases h3 : ns.length = 0
    · refine ⟨7919 * (j : Int) + 101, ?_⟩
      have h4 : (ns.length : Int) = 0 := by omega
      have h5 : ¬ ((j : Int) < 0) := by omega
      simp [b_law_cell, e1, h4, e3, h5]
    · have h4 : (ns.length : Int) ≠ 0 := by omega
      have h5 : (j : Int).fmod ns.length = ((j % ns.length : Nat) : Int) := by rw [Int.fmod_eq_emod_of_nonneg _ (by omega)]; rfl
      have h6 : j % ns.length < ns.length := Nat.mod_lt _ (by omega)
      refine ⟨(ns[j % ns.length]'h6).fmod 1000003 + 7919 * (j : Int), ?_⟩
      simp only [b_law_cell]
      have h7 : (ns.map D.int)[j % ns.length]? = some (.int ns[j % ns.length]) := by simp [h6]
      have h8 : ns ≠ [] := fun e => h3 (by rw [e]; rfl)
      simp [e1, h2, h4, h8, bin_mod h4, h5, -Int.natCast_emod]
      rw [e2, h7]
      have h9 : (1000003 : Int) ≠ 0 := by decide
      simp [bin_mod h9, e3]
def primes : List Int := [2147483647, 2147483629, 2147483587, 2147483579, 2147483563, 2147483549, 2147483543, 2147483497]
def prm (e : Int) : Int := primes.getD (e.fmod 8).toNat 0
theorem fmod8 (e : Int) : ∃ j : Nat, j < 8 ∧ e.fmod 8 = j := by
  have h1 := Int.fmod_nonneg_of_pos e (b := 8) (by decide)
  have h2 := Int.fmod_lt_of_pos e (b := 8) (by decide)
  exact ⟨(e.fmod 8).toNat, by omega, by omega⟩
theorem prm_ix {e : Int} {S : Store} : ixD S (.tup [.int 2147483647, .int 2147483629, .int 2147483587, .int 2147483579, .int 2147483563, .int 2147483549, .int 2147483543, .int 2147483497]) (.int (e.fmod 8)) = some (.int (prm e)) := by
  obtain ⟨j, h1, h2⟩ := fmod8 e
  unfold prm
  rw [h2, ixN (by simpa using h1)]
  have : j = 0 ∨ j = 1 ∨ j = 2 ∨ j = 3 ∨ j = 4 ∨ j = 5 ∨ j = 6 ∨ j = 7 := by omega
  rcases this with rfl | rfl | rfl | rfl | rfl | rfl | rfl | rfl <;> rfl
theorem prm_pos {e : Int} : 0 < prm e ∧ prm e < 2147483648 := by
  obtain ⟨j, h1, h2⟩ := fmod8 e
  unfold prm
  rw [h2]
  have : j = 0 ∨ j = 1 ∨ j = 2 ∨ j = 3 ∨ j = 4 ∨ j = 5 ∨ j = 6 ∨ j = 7 := by omega
  rcases this with rfl | rfl | rfl | rfl | rfl | rfl | rfl | rfl <;> decide
theorem rng150 : rngD 0 150 = some ((List.range 150).map fun (i : Nat) => .int (i : Int)) := by
  unfold rngD
  rw [if_pos (by decide)]
  simp
theorem b_draws {k : Nat} {ns : List Int} {j : Nat} {S : Store} (hj : j < 1000) : WP (callN prog cfg (k + 2) f_law_draws [.scr (ns.map .int), .int (j : Int), .int 150, .int 27720] S) fun d S' => d = .ref S.length ∧ ∃ xs : List Int, S' = S ++ [.lst (xs.map .int)] := by
  rw [call_eq (fn := ⟨4, 6, b_law_draws⟩) rfl rfl]
  obtain ⟨cell, ec⟩ := b_cell (k := k) (ns := ns) (S := S) hj
  have e0 : binD .pow (.int 10) (.int 18) = some (.int 1000000000000000000) := bin_pow (by decide) (by decide) (by decide)
  simp [b_law_draws, ec, e0]
  by_cases hc : (1000000000000000000 : Int) ≤ cell
  all_goals
    simp [hc, rng150]
    refine wp_forT (fun done ys σ S' => ∃ (rest : Int) (xs : List Int) (a b : Option D), xs.length = done.length ∧ S' = S ++ [.lst (xs.map .int)] ∧ σ = [some (.scr (ns.map .int)), some (.int (j : Int)), some (.int 150), some (.int 27720), some (.tup [.int 2147483647, .int 2147483629, .int 2147483587, .int 2147483579, .int 2147483563, .int 2147483549, .int 2147483543, .int 2147483497]), some (.int cell), some (.int rest), some (.ref S.length), a, b]) ⟨_, [], none, none, rfl, rfl, rfl⟩ ?_ ?_
    · rintro done i ys σ S' hd ⟨rest, xs, a, b, h3, rfl, rfl⟩
      have hi : i < 150 := List.mem_range.mp (by rw [← hd]; simp)
      have hdl : done.length < 150 := by
        have := congrArg List.length hd
        simp at this
        omega
      refine ⟨_, rfl, ?_⟩
      have m1 : ∀ x e y : Int, binD .mul (.int (x.fmod (prm e))) (.int y) = some (.int (x.fmod (prm e) * y)) := fun x e y => bin_mulL (by
        have h1 := Int.fmod_nonneg_of_pos x (prm_pos (e := e)).1
        have h2 := Int.fmod_lt_of_pos x (prm_pos (e := e)).1
        have h3 := (prm_pos (e := e)).2
        omega)
      have m2 : ∀ x e y : Int, binD .mul (.int y) (.int (x.fmod (prm e))) = some (.int (y * (x.fmod (prm e)))) := fun x e y => bin_mulR (by
        have h1 := Int.fmod_nonneg_of_pos x (prm_pos (e := e)).1
        have h2 := Int.fmod_lt_of_pos x (prm_pos (e := e)).1
        have h3 := (prm_pos (e := e)).2
        omega)
      have m3 : ∀ y : Int, binD .mul (.int 2) (.int y) = some (.int (2 * y)) := fun y => bin_mulL (by decide)
      have m4 : ∀ y : Int, binD .mul (.int 7919) (.int y) = some (.int (7919 * y)) := fun y => bin_mulL (by decide)
      have m5 : ∀ y : Int, binD .mul (.int 104729) (.int y) = some (.int (104729 * y)) := fun y => bin_mulL (by decide)
      have m6 : ∀ y : Int, binD .mul (.int 3) (.int y) = some (.int (3 * y)) := fun y => bin_mulL (by decide)
      have m7 : ∀ y : Int, binD .mul (.int y) (.int (i : Int)) = some (.int (y * i)) := fun y => bin_mulR (by omega)
      have m8 : ∀ y : Int, binD .mul (.int y) (.int ((i : Int) + 1)) = some (.int (y * (i + 1))) := fun y => bin_mulR (by omega)
      have m9 : ∀ x : Int, binD .mod (.int x) (.int 8) = some (.int (x.fmod 8)) := fun x => bin_mod (by decide)
      have m10 : ∀ x e : Int, binD .mod (.int x) (.int (prm e)) = some (.int (x.fmod (prm e))) := fun x e => bin_mod (by have := (prm_pos (e := e)).1; omega)
      have m11 : ∀ x : Int, binD .mod (.int x) (.int 27720) = some (.int (x.fmod 27720)) := fun x => bin_mod (by decide)
      have m12 : ∀ x : Int, binD .fdiv (.int x) (.int 27720) = some (.int (x.fdiv 27720)) := fun x => bin_fdiv (by decide) (by decide +kernel)
      have hS : (S ++ [Cell.lst (xs.map .int)])[S.length]? = some (.lst (xs.map .int)) := by simp
      have hset : ∀ z : Int, (S ++ [Cell.lst (xs.map .int)]).set S.length (.lst (xs.map .int ++ [.int z])) = S ++ [Cell.lst ((xs ++ [z]).map .int)] := by intro z; simp
      have hll : (xs.map D.int).length < line := by rw [List.length_map]; unfold line; omega
      have hS' : ∀ (q : Fs) (e : E) (z : Int) (σ : Pf.Env), σ[7]? = some (some (.ref S.length)) → q.e σ e (S ++ [.lst (xs.map .int)]) = .ok (.int z) (S ++ [.lst (xs.map .int)]) → stepS q σ (.app 7 e) (S ++ [.lst (xs.map .int)]) = .ok (.nx σ) (S ++ [Cell.lst ((xs ++ [z]).map .int)]) := by
        intro q e z σ hσ he
        rw [s_app hσ hS he hS (pl_int) hll, hset]
      by_cases hr : 0 < rest
      · simp [m1, m2, m3, m4, m5, m6, m7, m8, m9, m10, prm_ix, hr]
        rw [hS' _ _ _ _ rfl (by simp [m11]; rfl)]
        simp [m12]
        exact ⟨_, xs ++ [_], by simp [h3], by simp; rfl, rfl⟩
      · simp [m1, m2, m3, m4, m5, m6, m7, m8, m9, m10, prm_ix, hr]
        rw [hS' _ _ _ _ rfl (by simp [m11]; rfl)]
        simp [m12]
        exact ⟨_, xs ++ [_], by simp [h3], by simp; rfl, rfl⟩
    · rintro σ S' ⟨rest, xs, a, b, h3, rfl, rfl⟩
      simp
      exact ⟨xs, rfl⟩
theorem b_bag {k : Nat} {ns : List Int} {j : Nat} {S : Store} (hj : j < 1000) : WP (callN prog cfg (k + 3) f_law_bag [.scr (ns.map .int), .int (j : Int)] S) fun d S' => d = .ref S.length ∧ ∃ xs : List Int, S' = S ++ [.lst (xs.map .int)] := by
  rw [call_eq (fn := ⟨2, 0, b_law_bag⟩) rfl rfl]
  simp [b_law_bag]
  refine (b_draws hj).mono ?_
  rintro _ S1 ⟨rfl, xs, rfl⟩
  simp
  exact ⟨xs, rfl⟩
/-- a number drawn -/
theorem w_take {k : Nat} {m : Nat} {n : Int} {S : Store} (hB : Dn.Bag S m) (hn : 0 < n) : WP (callN prog cfg (k + 1) f_law_take [.ref m, .int n] S) fun d S' => ∃ z : Nat, d = .int (z : Int) ∧ Dn.Same S S' m ∧ (z : Int) < n := by
  obtain ⟨z, S', e, h1, h2, h3⟩ := b_take (k := k) hB hn
  exact ⟨_, S', e, z.toNat, by rw [Int.toNat_of_nonneg h2], h1, by omega⟩
theorem w_choice {k : Nat} {m : Nat} {xs : List D} {S : Store} (hB : Dn.Bag S m) (hx : xs ≠ []) (hp : ∀ x ∈ xs, pl x = true) : WP (callN prog cfg (k + 2) f_law_choice [.ref m, .lst xs] S) fun x S' => Dn.Same S S' m ∧ x ∈ xs := by
  obtain ⟨z, S', e, h1, h2⟩ := b_choice (k := k) hB hx hp
  exact ⟨_, S', e, h1, h2⟩
theorem w_stand {k : Nat} {m : Nat} {many : Nat} {most : Int} {S : Store} (hB : Dn.Bag S m) (h1 : 3 ≤ many) (h2 : many ≤ 6) : WP (callN prog cfg (k + 3) f_law_stand [.ref m, .int (many : Int), .int most] S) fun d S' => Dn.Same S S' m ∧ ∃ s : Std, d = s.enc ∧ s.ok many ∧ (s.isCho = true → 0 < most) := by
  rw [call_eq (fn := ⟨3, 3, b_law_stand⟩) rfl rfl]
  simp [b_law_stand]
  refine (w_take hB (by omega)).mono ?_
  rintro _ S1 ⟨way, rfl, hs1, hw⟩
  by_cases c1 : (way : Int) < 2
  · simp [c1]
    refine (w_take hs1.1 (by omega)).mono ?_
    rintro _ S2 ⟨w, rfl, hs2, hw2⟩
    simp
    have hs := hs1.trans hs2
    refine (wp_trim (pl_enc' (s := .fin ((w : Int) - 9)))).mpr ?_
    rw [hs.take]
    exact ⟨hs, .fin ((w : Int) - 9), rfl, ⟨by omega, by omega⟩, fun h => by cases h⟩
  · by_cases c2 : (way : Int) < 4 ∧ 0 < most
    · simp [c1, c2]
      refine (w_take hs1.1 (by omega)).mono ?_
      rintro _ S2 ⟨one, rfl, hs2, hw2⟩
      simp
      refine (w_take hs2.1 (by omega)).mono ?_
      rintro _ S3 ⟨two, rfl, hs3, hw3⟩
      simp
      have hs := (hs1.trans hs2).trans hs3
      have e : ((one : Int) + 1 + two) = ((one + 1 + two : Nat) : Int) := by omega
      rw [e]
      refine (wp_trim (pl_enc' (s := .cho one (one + 1 + two)))).mpr ?_
      rw [hs.take]
      exact ⟨hs, .cho one (one + 1 + two), rfl, ⟨by omega, by omega⟩⟩
    · have fin : WP (callN prog cfg (k + 2) f_law_choice [.ref m, .lst [.int 0, .int 0, .int 0, .int 1, .int 1, .int 2, .int 5]] S1) fun x S' => Dn.Same S1 S' m ∧ ∃ c : Int, x = .int c ∧ 0 ≤ c ∧ c ≤ 9 := by
        refine (w_choice hs1.1 (by simp) (by simp; decide)).mono ?_
        rintro x S2 ⟨hs, hx⟩
        refine ⟨hs, ?_⟩
        simp at hx
        rcases hx with rfl | rfl | rfl | rfl <;> exact ⟨_, rfl, by decide, by decide⟩
      have c3 : ¬ ((way : Int) < 4) ∨ ¬ (0 < most) := by
        rcases Decidable.em ((way : Int) < 4) with q | q
        · exact .inr fun h => c2 ⟨q, h⟩
        · exact .inl q
      rcases c3 with c3 | c3 <;> simp [c1, c3]
      all_goals
        first
        | refine fin.mono ?_
        | (by_cases c4 : (way : Int) < 4 <;> simp [c4] <;> refine fin.mono ?_)
      all_goals
        rintro _ S2 ⟨hs2, c, rfl, hc1, hc2⟩
        try simp
        refine (w_take hs2.1 (by omega)).mono ?_
        rintro _ S3 ⟨h, rfl, hs3, hh⟩
        try simp
        refine (w_take hs3.1 (by omega)).mono ?_
        rintro _ S4 ⟨t, rfl, hs4, ht⟩
        try simp
        have hs := ((hs1.trans hs2).trans hs3).trans hs4
        refine (wp_trim (pl_enc' (s := .thr c h t))).mpr ?_
        rw [hs.take]
        exact ⟨hs, .thr c h t, rfl, ⟨by omega, by omega, by omega, by omega⟩, by first | (intro h; cases h) | rfl⟩
end K21

end
section
namespace K21
open Pf Pf.Dn
theorem w_board {k : Nat} {m : Nat} {most : Nat} {S : Store} (hB : Dn.Bag S m) (hm : most ≤ 3) : WP (callN prog cfg (k + 4) f_law_board [.ref m, .int (most : Int)] S) fun d S' => Dn.Same S S' m ∧ ∃ B : Board, d = encB B ∧ OkB B most ∧ 3 ≤ B.length := by
  rw [call_eq (fn := ⟨2, 5, b_law_board⟩) rfl rfl]
  simp [b_law_board]
  refine (w_take hB (by omega)).mono ?_
  rintro _ S1 ⟨z, rfl, hs1, hz⟩
  have e1 : rngD 0 (3 + (z : Int) - 1) = some ((List.range (z + 2)).map fun (i : Nat) => .int (i : Int)) := by
    rw [show (3 + (z : Int) - 1) = ((z + 2 : Nat) : Int) by omega]
    exact rngD_nat (by omega)
  simp only [bin_add, bin_sub, isI_int, ofO_some, e1, wp_ok]
  refine wp_forT (fun done ys σ S' => Dn.Same S1 S' m ∧ ∃ B : Board, B.length = done.length ∧ (∀ s ∈ B, s.ok (z + 3)) ∧ B.countP Std.isCho ≤ most ∧ ∃ a b c, σ = [some (.ref m), some (.int (most : Int)), some (.int (3 + (z : Int))), some (encB B), a, b, c]) ⟨Same.refl hs1.1, [], rfl, by simp, by simp, none, none, none, rfl⟩ ?_ ?_
  · rintro done i ys σ S2 hd ⟨hs2, B, hl, hok, hc, a, b, c, rfl⟩
    refine ⟨_, rfl, ?_⟩
    have hdl : done.length < z + 2 := by
      have := congrArg List.length hd
      simp at this
      omega
    simp [encB]
    rw [compL_gc Std.isCho (fun s => [some (.ref m), some (.int (most : Int)), some (.int (3 + (z : Int))), some (encB B), some (.int (i : Int)), b, some s.enc]) (f := Std.enc) (by
      intro s hs
      refine ⟨rfl, by simp, fun _ => by simp⟩)]
    have hfl : (B.filter Std.isCho).length ≤ line := Nat.le_trans (List.length_filter_le _ _) (by unfold line; omega)
    simp [hfl]
    have e3 : (3 + (z : Int)) = ((z + 3 : Nat) : Int) := by omega
    rw [e3]
    refine (w_stand (many := z + 3) hs2.1 (by omega) (by omega)).mono ?_
    rintro _ S3 ⟨hs3, s, rfl, hsok, hsc⟩
    have e4 : binD .add (.tup (B.map Std.enc)) (.tup [s.enc]) = some (encB (B ++ [s])) := by
      rw [bin_tup (by simp; unfold line; omega)]
      simp [encB]
    simp [e4]
    refine ⟨hs2.trans hs3, B ++ [s], by simp [hl], ?_, ?_, rfl⟩
    · intro t ht
      rcases List.mem_append.mp ht with ht | ht
      · exact hok t ht
      · simp at ht; subst ht; exact hsok
    · rw [List.countP_append]
      rw [← List.countP_eq_length_filter] at hsc
      cases hq : s.isCho with
      | false => simp [hq]; exact hc
      | true =>
        have := hsc hq
        simp [hq]
        omega
  · rintro σ S2 ⟨hs2, B, hl, hok, hc, a, b, c, rfl⟩
    simp at hl
    have hlast : ∀ (B : Board) (a b c : Option D) (S3 : Store), Dn.Same S S3 m → B.length = z + 2 → (∀ s ∈ B, s.ok (z + 3)) → B.countP Std.isCho ≤ most → WP (callN prog cfg (k + 3) f_law_take [.ref m, .int 19] S3) fun d S' => ∃ w : Nat, d = .int (w : Int) ∧ ∃ r, binD .add (encB B) (.tup [.tup [.str uEnd, .int ((w : Int) - 9)]]) = some r ∧ WP (trim S.length r S') fun d S' => Dn.Same S S' m ∧ ∃ B : Board, d = encB B ∧ OkB B most ∧ 3 ≤ B.length := by
      intro B a b c S3 hs3 hl hok hc
      refine (w_take hs3.1 (by omega)).mono ?_
      rintro _ S4 ⟨w, rfl, hs4, hw⟩
      have hs := hs3.trans hs4
      refine ⟨w, rfl, encB (B ++ [.fin ((w : Int) - 9)]), ?_, ?_⟩
      · unfold encB
        rw [bin_tup (by simp; unfold line; omega)]
        simp [Std.enc]
      · rw [wp_trim pl_encB, hs.take]
        refine ⟨hs, _, rfl, ⟨by simp; omega, by simp; omega, ?_, ⟨_, by simp; exact .inr rfl, rfl⟩, ?_⟩, by simp; omega⟩
        · intro s hs
          have e : (B ++ [Std.fin ((w : Int) - 9)]).length = z + 3 := by simp [hl]
          rw [e]
          rcases List.mem_append.mp hs with hs | hs
          · exact hok s hs
          · simp at hs
            subst hs
            exact ⟨by omega, by omega⟩
        · rw [List.countP_append]
          simp [Std.isCho]
          exact hc
    obtain ⟨s, B', rfl⟩ : ∃ s B', B = s :: B' := by
      cases B with
      | nil => simp at hl
      | cons s B => exact ⟨s, B, rfl⟩
    simp
    refine (w_take hs2.1 (by omega)).mono ?_
    rintro _ S3 ⟨u, rfl, hs3, hu⟩
    have hs13 := (hs1.trans hs2).trans hs3
    by_cases h1 : 0 < u
    · simp [h1, encB]
      cases hf : s.isFin with
      | false =>
        simp
        refine (hlast (s :: B') a b c S3 hs13 (by simpa using hl) hok hc).mono ?_
        rintro _ S4 ⟨w, rfl, r, hr, hw⟩
        unfold encB at hr
        simp at hr
        simp [hr]
        exact hw
      | true =>
        simp
        refine (w_take hs3.1 (by omega)).mono ?_
        rintro _ S4 ⟨x, rfl, hs4, hx⟩
        try simp
        refine (w_take hs4.1 (by omega)).mono ?_
        rintro _ S5 ⟨y, rfl, hs5, hy⟩
        have e5 : (3 + (z : Int) - 1) = ((z + 2 : Nat) : Int) := by omega
        have e6 : binD .add (.tup [.tup [.str uThrow, .int (x : Int), .int (y : Int), .int ((z + 2 : Nat) : Int)]]) (.tup (B'.map Std.enc)) = some (encB (.thr x y (z + 2) :: B')) := by
          simp at hl
          rw [bin_tup (by simp; unfold line; omega)]
          simp [encB, Std.enc]
        simp only [uThrow] at e6
        simp [e5, e6, -Int.natCast_add]
        refine (hlast (.thr x y (z + 2) :: B') a b c S5 ((hs13.trans hs4).trans hs5) (by simpa using hl) ?_ ?_).mono ?_
        · intro t ht
          rcases List.mem_cons.mp ht with rfl | ht
          · exact ⟨by omega, by omega, by omega, by omega⟩
          · exact hok t (List.mem_cons_of_mem _ ht)
        · rw [List.countP_cons] at hc ⊢
          simp [Std.isCho]
          omega
        · rintro _ S6 ⟨w, rfl, r, hr, hw⟩
          simp [hr]
          exact hw
    · have h2 : u = 0 := by omega
      simp [h2]
      refine (hlast (s :: B') a b c S3 hs13 (by simpa using hl) hok hc).mono ?_
      rintro _ S4 ⟨w, rfl, r, hr, hw⟩
      simp [hr]
      exact hw
end K21

end
section
/-! PlanT: typed boards, plans and where they lead. -/
namespace Pf.Dn
open Pf
abbrev natsD (xs : List Nat) : List D := xs.map fun (i : Nat) => .int (i : Int)
def encP (p : List Nat) : D := .tup (natsD p)
def chsN (B : Board) : List Nat := (List.range B.length).filter fun i => (B[i]?.getD default).isCho
def goalsN (B : Board) (i : Nat) : List Nat := match B[i]? with
  | some (.cho a b) => [a, b]
  | _ => []
def stepN (B : Board) (ps : List (List Nat)) (i : Nat) : List (List Nat) := ps.flatMap fun p => (goalsN B i).map fun g => p ++ [g]
def plansN (B : Board) : List (List Nat) := (chsN B).foldl (stepN B) [[]]
structure PlanOk (B : Board) (p : List Nat) : Prop where
  len : p.length = (chsN B).length
  each : ∀ (j i g : Nat), (chsN B)[j]? = some i → p[j]? = some g → g ∈ goalsN B i
def goal (B : Board) (p : List Nat) (i : Nat) : Nat := p[(chsN B).idxOf i]?.getD 0
def nxt (B : Board) (p : List Nat) (i : Nat) : List Nat := match B[i]? with
  | some (.thr _ h t) => [h, t]
  | some (.cho _ _) => [goal B p i]
  | _ => []
theorem mem_chsN {B : Board} {i : Nat} : i ∈ chsN B ↔ ∃ a b, B[i]? = some (.cho a b) := by
  unfold chsN
  rw [List.mem_filter, List.mem_range]
  constructor
  · rintro ⟨h1, h2⟩
    rw [List.getElem?_eq_getElem h1] at h2 ⊢
    revert h2
    cases B[i] with
    | cho a b => exact fun _ => ⟨a, b, rfl⟩
    | fin _ => intro h; cases h
    | thr _ _ _ => intro h; cases h
  · rintro ⟨a, b, h⟩
    have h1 : i < B.length := by
      rcases Nat.lt_or_ge i B.length with q | q
      · exact q
      · rw [List.getElem?_eq_none q] at h; cases h
    exact ⟨h1, by rw [h]; rfl⟩
theorem stand_ok {B : Board} {m : Nat} (h : OkB B m) {i : Nat} {s : Std} (hs : B[i]? = some s) : i < B.length ∧ s.ok B.length := by
  have h1 : i < B.length := by
    rcases Nat.lt_or_ge i B.length with q | q
    · exact q
    · rw [List.getElem?_eq_none q] at hs; cases hs
  refine ⟨h1, h.each s ?_⟩
  rw [List.getElem?_eq_getElem h1] at hs
  cases hs
  exact List.getElem_mem h1
theorem goals_lt {B : Board} {m : Nat} (h : OkB B m) {i g : Nat} (hg : g ∈ goalsN B i) : g < B.length := by
  unfold goalsN at hg
  split at hg
  · rename_i a b e
    have := (stand_ok h e).2
    simp [Std.ok] at this
    simp at hg
    omega
  · cases hg
theorem goal_mem {B : Board} {p : List Nat} (hp : PlanOk B p) {i a b : Nat} (hi : B[i]? = some (.cho a b)) : (chsN B).idxOf i < p.length ∧ p[(chsN B).idxOf i]? = some (goal B p i) ∧ goal B p i ∈ [a, b] := by
  have h1 : i ∈ chsN B := mem_chsN.mpr ⟨a, b, hi⟩
  have h2 : (chsN B).idxOf i < (chsN B).length := List.idxOf_lt_length_iff.mpr h1
  have h3 : (chsN B).idxOf i < p.length := by rw [hp.len]; exact h2
  have h4 : p[(chsN B).idxOf i]? = some (goal B p i) := by
    unfold goal
    rw [List.getElem?_eq_getElem h3]
    rfl
  refine ⟨h3, h4, ?_⟩
  have h5 : (chsN B)[(chsN B).idxOf i]? = some i := by
    rw [List.getElem?_eq_getElem h2, List.getElem_idxOf]
  have := hp.each _ _ _ h5 h4
  unfold goalsN at this
  rw [hi] at this
  exact this
theorem nxt_lt {B : Board} {m : Nat} (h : OkB B m) {p : List Nat} (hp : PlanOk B p) {i j : Nat} (hj : j ∈ nxt B p i) : j < B.length := by
  unfold nxt at hj
  split at hj
  · rename_i c a b e
    have := (stand_ok h e).2
    simp [Std.ok] at this
    simp at hj
    omega
  · rename_i a b e
    have h1 := (goal_mem hp e).2.2
    simp at hj
    subst hj
    exact goals_lt h (i := i) (by unfold goalsN; rw [e]; exact h1)
  · cases hj
/-- to come from a stand to another one -/
inductive Reach (B : Board) (p : List Nat) : Nat → Nat → Prop where
  | refl (i : Nat) : Reach B p i i
  | step {i j k : Nat} : Reach B p i j → k ∈ nxt B p j → Reach B p i k
theorem Reach.trans {B : Board} {p : List Nat} {i j k : Nat} (h1 : Reach B p i j) (h2 : Reach B p j k) : Reach B p i k := by
  induction h2 with
  | refl => exact h1
  | step _ hk ih => exact .step ih hk
theorem Reach.lt {B : Board} {m : Nat} (h : OkB B m) {p : List Nat} (hp : PlanOk B p) {i j : Nat} (hr : Reach B p i j) (hi : i < B.length) : j < B.length := by
  cases hr with
  | refl => exact hi
  | step _ hk => exact nxt_lt h hp hk
def isFinAt (B : Board) (i : Nat) : Bool := (B[i]?.getD default).isFin
open Classical in
noncomputable def isTrap (B : Board) (p : List Nat) (i : Nat) : Bool := decide (∀ j, Reach B p i j → isFinAt B j = false)
open Classical in
noncomputable def isSure (B : Board) (p : List Nat) : Bool := decide (∀ j, Reach B p 0 j → isTrap B p j = false)
open Classical in
theorem isTrap_iff {B : Board} {p : List Nat} {i : Nat} : isTrap B p i = true ↔ ∀ j, Reach B p i j → isFinAt B j = false := by
  unfold isTrap
  exact decide_eq_true_iff
open Classical in
theorem isSure_iff {B : Board} {p : List Nat} : isSure B p = true ↔ ∀ j, Reach B p 0 j → isTrap B p j = false := by
  unfold isSure
  exact decide_eq_true_iff
noncomputable def sureN (B : Board) : List (List Nat) := (plansN B).filter (isSure B)
theorem stepN_ok {B : Board} {done rest : List Nat} {i : Nat} (he : chsN B = done ++ i :: rest) {ps : List (List Nat)} (h : ∀ p ∈ ps, p.length = done.length ∧ ∀ (j g k : Nat), done[j]? = some k → p[j]? = some g → g ∈ goalsN B k) : ∀ p ∈ stepN B ps i, p.length = (done ++ [i]).length ∧ ∀ (j g k : Nat), (done ++ [i])[j]? = some k → p[j]? = some g → g ∈ goalsN B k := by
  intro p hp
  obtain ⟨q, hq, hp⟩ := List.mem_flatMap.mp hp
  obtain ⟨g, hg, rfl⟩ := List.mem_map.mp hp
  obtain ⟨h1, h2⟩ := h q hq
  refine ⟨by simp [h1], fun j g' k hk hg' => ?_⟩
  rcases Nat.lt_trichotomy j done.length with q1 | q1 | q1
  · rw [List.getElem?_append_left q1] at hk
    rw [List.getElem?_append_left (by omega)] at hg'
    exact h2 j g' k hk hg'
  · subst q1
    rw [← h1] at hg'
    simp at hk hg'
    subst hk hg'
    exact hg
  · rw [List.getElem?_eq_none (by simp; omega)] at hk
    cases hk
theorem foldN_ok {B : Board} : ∀ {rest done : List Nat} {ps : List (List Nat)}, chsN B = done ++ rest → (∀ p ∈ ps, p.length = done.length ∧ ∀ (j g k : Nat), done[j]? = some k → p[j]? = some g → g ∈ goalsN B k) → ∀ p ∈ rest.foldl (stepN B) ps, PlanOk B p
  | [], done, ps, he, h => by
    intro p hp
    rw [List.append_nil] at he
    obtain ⟨h1, h2⟩ := h p hp
    rw [← he] at h1 h2
    exact ⟨h1, fun j i g => h2 j g i⟩
  | i :: rest, done, ps, he, h => foldN_ok (done := done ++ [i]) (ps := stepN B ps i) (by simp [he]) (stepN_ok he h)
theorem plan_ok {B : Board} {p : List Nat} (h : p ∈ plansN B) : PlanOk B p := by
  refine foldN_ok (done := []) rfl ?_ p h
  intro p hp
  simp at hp
  subst hp
  exact ⟨rfl, fun j g k h => by simp at h⟩
theorem pl_encP {p : List Nat} : plN 59 (encP p) = true := List.all_eq_true.mpr fun y hy => by
  obtain ⟨i, _, rfl⟩ := List.mem_map.mp hy
  rfl
theorem pl_encP' {p : List Nat} : pl (encP p) = true := plN_mono pl_encP
theorem pl_natsD' {ys : List Nat} : pl (.lst (natsD ys)) = true := List.all_eq_true.mpr fun y hy => by
  obtain ⟨i, _, rfl⟩ := List.mem_map.mp hy
  rfl
theorem pl_plansP {ps : List (List Nat)} : pl (.lst (ps.map encP)) = true := List.all_eq_true.mpr fun y hy => by
  obtain ⟨p, _, rfl⟩ := List.mem_map.mp hy
  exact pl_encP
theorem ix_board {B : Board} {i : Nat} {s : Std} (h : B[i]? = some s) (S : Store) : ixD S (encB B) (.int (i : Int)) = some s.enc := by
  have h1 : i < B.length := by
    rcases Nat.lt_or_ge i B.length with q | q
    · exact q
    · rw [List.getElem?_eq_none q] at h; cases h
  unfold encB
  rw [ixN (by simpa using h1)]
  simp [h]
theorem ix_plan {p : List Nat} {i g : Nat} (h : p[i]? = some g) (S : Store) : ixD S (encP p) (.int (i : Int)) = some (.int (g : Int)) := by
  have h1 : i < p.length := by
    rcases Nat.lt_or_ge i p.length with q | q
    · exact q
    · rw [List.getElem?_eq_none q] at h; cases h
  unfold encP natsD
  rw [ixN (by simpa using h1)]
  simp [h]
theorem ix_ints {p : List Nat} {i g : Nat} (h : p[i]? = some g) (S : Store) : ixD S (.lst (natsD p)) (.int (i : Int)) = some (.int (g : Int)) := by
  have h1 : i < p.length := by
    rcases Nat.lt_or_ge i p.length with q | q
    · exact q
    · rw [List.getElem?_eq_none q] at h; cases h
  unfold natsD
  rw [ixNl (by simpa using h1)]
  simp [h]
theorem idx_ints {x : Nat} : ∀ {xs : List Nat}, x ∈ xs → idxOf (.int (x : Int)) (natsD xs) = some (xs.idxOf x)
  | [], h => by cases h
  | y :: ys, h => by
    show (if eqv (.int (y : Int)) (.int (x : Int)) then some 0 else (idxOf (.int (x : Int)) (natsD ys)).map (· + 1)) = _
    by_cases e : y = x
    · subst e
      rw [if_pos (by simp)]
      simp
    · rw [if_neg (by simp; omega), idx_ints (by simpa [Ne.symm e] using h), List.idxOf_cons, cond_eq_ite]
      rw [if_neg (by simpa using e)]
      rfl
theorem any_ints {x : Nat} {xs : List Nat} : ((natsD xs).any fun z => eqv z (.int (x : Int))) = decide (x ∈ xs) := by
  induction xs with
  | nil => rfl
  | cons y ys ih =>
    show (eqv (.int (y : Int)) (.int (x : Int)) || (natsD ys).any fun z => eqv z (.int (x : Int))) = _
    rw [ih]
    by_cases e : y = x
    · subst e; simp
    · have e2 : ((y : Int) == (x : Int)) = false := by simp; omega
      simp [e2, Ne.symm e]
theorem in_ints {x : Nat} {xs : List Nat} : inD (.int (x : Int)) (.lst (natsD xs)) = some (decide (x ∈ xs)) := by
  show some ((natsD xs).any fun z => eqv z (.int (x : Int))) = _
  rw [any_ints]
theorem flat_ints {xs : List Nat} : (natsD xs).all isFlat = true := List.all_eq_true.mpr fun y hy => by
  obtain ⟨i, _, rfl⟩ := List.mem_map.mp hy
  rfl
end Pf.Dn

end
section
/-! TxtT: texts cut and joined. -/
namespace Pf.Dn
open Pf
theorem sp_cons {c x : Nat} {r : List Nat} : splitStr c (x :: r) = if x = c then [] :: splitStr c r else (match splitStr c r with
    | w :: ws => (x :: w) :: ws
    | [] => [[x]]) := rfl
theorem sp_ne {c : Nat} {r : List Nat} : splitStr c r ≠ [] := by
  cases r with
  | nil => intro h; cases h
  | cons x r =>
    rw [sp_cons]
    split
    · intro h; cases h
    · split <;> (intro h; cases h)
theorem sp_ex (c : Nat) (r : List Nat) : ∃ w ws, splitStr c r = w :: ws := by
  cases h : splitStr c r with
  | nil => exact absurd h sp_ne
  | cons w ws => exact ⟨w, ws, rfl⟩
theorem jn_cons {s x : List Nat} {ys : List (List Nat)} (h : ys ≠ []) : joinStr s (x :: ys) = x ++ s ++ joinStr s ys := by
  cases ys with
  | nil => exact absurd rfl h
  | cons y ys => rfl
/-- cut and joined again -/
theorem jn_sp {c : Nat} : ∀ (s : List Nat), joinStr [c] (splitStr c s) = s
  | [] => rfl
  | x :: r => by
    have ih := jn_sp (c := c) r
    obtain ⟨w, ws, h⟩ := sp_ex c r
    rw [sp_cons]
    by_cases e : x = c
    · subst e
      rw [if_pos rfl, jn_cons sp_ne, ih]
      rfl
    · rw [if_neg e, h]
      rw [h] at ih
      dsimp only
      cases ws with
      | nil =>
        show x :: w = _
        rw [← ih]
        rfl
      | cons v ws =>
        rw [jn_cons (by simp)] at ih ⊢
        rw [← ih]
        rfl
theorem sp_plain {c : Nat} : ∀ {w : List Nat}, c ∉ w → splitStr c w = [w]
  | [], _ => rfl
  | x :: w, h => by
    rw [sp_cons, if_neg (fun e : x = c => h (e ▸ List.mem_cons_self)), sp_plain fun q => h (List.mem_cons_of_mem _ q)]
theorem sp_app {c : Nat} {s : List Nat} : ∀ {w : List Nat}, c ∉ w → splitStr c (w ++ c :: s) = w :: splitStr c s
  | [], _ => by
    show splitStr c (c :: s) = _
    rw [sp_cons, if_pos rfl]
  | x :: w, h => by
    show splitStr c (x :: (w ++ c :: s)) = _
    rw [sp_cons, if_neg (fun e : x = c => h (e ▸ List.mem_cons_self)), sp_app fun q => h (List.mem_cons_of_mem _ q)]
/-- joined and cut again -/
theorem sp_jn {c : Nat} : ∀ {ss : List (List Nat)}, ss ≠ [] → (∀ w ∈ ss, c ∉ w) → splitStr c (joinStr [c] ss) = ss
  | [], h, _ => absurd rfl h
  | [x], _, h => sp_plain (h x (by simp))
  | x :: y :: r, _, h => by
    have ih := sp_jn (c := c) (ss := y :: r) (by simp) fun w hw => h w (List.mem_cons_of_mem _ hw)
    rw [jn_cons (by simp), List.append_assoc]
    show splitStr c (x ++ c :: joinStr [c] (y :: r)) = _
    rw [sp_app (h x (by simp)), ih]
/-- no longer, of the same signs -/
theorem sp_len {c : Nat} {P : Nat → Prop} : ∀ {s : List Nat}, (∀ x ∈ s, P x) → (splitStr c s).length ≤ s.length + 1 ∧ ∀ w ∈ splitStr c s, w.length ≤ s.length ∧ c ∉ w ∧ ∀ x ∈ w, P x
  | [], _ => by
    show ([[]] : List (List Nat)).length ≤ _ ∧ ∀ w ∈ ([[]] : List (List Nat)), _
    simp
  | y :: r, h => by
    obtain ⟨h1, h2⟩ := sp_len (c := c) (P := P) (s := r) fun x hx => h x (List.mem_cons_of_mem _ hx)
    obtain ⟨w, ws, e⟩ := sp_ex c r
    rw [sp_cons]
    by_cases q : y = c
    · rw [if_pos q]
      refine ⟨by simp; omega, fun w hw => ?_⟩
      rcases List.mem_cons.mp hw with rfl | hw
      · simp
      · obtain ⟨a, b, d⟩ := h2 w hw
        exact ⟨by simp; omega, b, d⟩
    · rw [if_neg q, e]
      rw [e] at h1 h2
      dsimp only
      refine ⟨by simp at h1 ⊢; omega, fun v hv => ?_⟩
      rcases List.mem_cons.mp hv with rfl | hv
      · obtain ⟨a, b, d⟩ := h2 w (by simp)
        refine ⟨by simp; omega, fun q2 => ?_, fun x hx => ?_⟩
        · rcases List.mem_cons.mp q2 with q2 | q2
          · exact q q2.symm
          · exact b q2
        · rcases List.mem_cons.mp hx with rfl | hx
          · exact h _ List.mem_cons_self
          · exact d x hx
      · obtain ⟨a, b, d⟩ := h2 v (List.mem_cons_of_mem _ hv)
        exact ⟨by simp; omega, b, d⟩
theorem jn_len {c : Nat} {P : Nat → Prop} {m : Nat} (hc : P c) : ∀ {ss : List (List Nat)}, (∀ w ∈ ss, w.length ≤ m ∧ ∀ x ∈ w, P x) → (joinStr [c] ss).length ≤ ss.length * (m + 1) ∧ ∀ x ∈ joinStr [c] ss, P x
  | [], _ => by
    show ([] : List Nat).length ≤ _ ∧ ∀ x ∈ ([] : List Nat), _
    simp
  | [w], h => by
    obtain ⟨a, b⟩ := h w (by simp)
    exact ⟨by show w.length ≤ _; simp; omega, b⟩
  | w :: y :: r, h => by
    obtain ⟨a, b⟩ := h w (by simp)
    obtain ⟨h1, h2⟩ := jn_len (P := P) (m := m) hc (ss := y :: r) fun v hv => h v (List.mem_cons_of_mem _ hv)
    rw [jn_cons (by simp)]
    refine ⟨?_, fun x hx => ?_⟩
    · have e : (w :: y :: r).length * (m + 1) = (y :: r).length * (m + 1) + (m + 1) := by rw [List.length_cons, Nat.succ_mul]
      rw [e, List.length_append, List.length_append]
      simp at h1 ⊢
      omega
    · rcases List.mem_append.mp hx with hx | hx
      · rcases List.mem_append.mp hx with hx | hx
        · exact b x hx
        · simp at hx; subst hx; exact hc
      · exact h2 x hx
theorem sum_le {m : Nat} : ∀ {ss : List (List Nat)}, (∀ w ∈ ss, w.length ≤ m) → (ss.map List.length).sum ≤ ss.length * m
  | [], _ => by simp
  | w :: ss, h => by
    have := sum_le (m := m) (ss := ss) fun v hv => h v (List.mem_cons_of_mem _ hv)
    have h2 := h w List.mem_cons_self
    rw [List.map_cons, List.sum_cons, List.length_cons, Nat.succ_mul]
    omega
theorem jn_total {c : Nat} : ∀ {ss : List (List Nat)}, ss ≠ [] → (joinStr [c] ss).length + 1 = (ss.map List.length).sum + ss.length
  | [], h => absurd rfl h
  | [x], _ => by show x.length + 1 = _; simp
  | x :: y :: r, _ => by
    have ih := jn_total (c := c) (ss := y :: r) (by simp)
    rw [jn_cons (by simp), List.length_append, List.length_append]
    simp at ih ⊢
    omega
theorem strAll_map : ∀ (ss : List (List Nat)), strAll (ss.map D.str) = some ss
  | [] => rfl
  | s :: ss => by
    show (strAll (ss.map D.str)).map (s :: ·) = _
    rw [strAll_map ss]
    rfl
theorem mt_jn {s : List Nat} {ss : List (List Nat)} {S : Store} (h : (ss.map List.length).sum + ss.length * s.length ≤ 16777216) : mtD S .join (.str s) [.lst (ss.map .str)] = some (.str (joinStr s ss)) := by
  show (strAll (ss.map .str)).bind (fun ss => if decide ((ss.map List.length).sum + ss.length * s.length ≤ 16777216) then some (D.str (joinStr s ss)) else none) = _
  rw [strAll_map]
  show (if decide ((ss.map List.length).sum + ss.length * s.length ≤ 16777216) then some (D.str (joinStr s ss)) else none) = _
  rw [if_pos (decide_eq_true h)]
theorem mt_sp {s : List Nat} {c : Nat} {S : Store} (h : s.length ≤ 100000) (hc : c < 256) : mtD S .split (.str s) [.str [c]] = some (.lst ((splitStr c s).map .str)) := by
  show (if decide (s.length ≤ 100000) && decide (c < 256) then some (D.lst ((splitStr c s).map .str)) else none) = _
  rw [decide_eq_true h, decide_eq_true hc]
  rfl
@[simp] theorem rcv_jn {s : List Nat} : rcv .join (.str s) = true := Eq.trans rfl rfl
@[simp] theorem rcv_sp {s : List Nat} : rcv .split (.str s) = true := Eq.trans rfl rfl
/-- what a word tells -/
def pw (w : List Nat) : D := match w with
  | [c] => if 48 ≤ c ∧ c ≤ 57 then .int ((c : Int) - 48) else .str [c]
  | [m, c] => if m = 45 ∧ 48 ≤ c ∧ c ≤ 57 then .int (-((c : Int) - 48)) else .str [m, c]
  | w => .str w
/-- how it is written -/
def sw (w : List Nat) : List Nat := if w = [45, 48] then [48] else w
theorem digit_of {c : Nat} (h : 48 ≤ c ∧ c ≤ 57) : c = 48 ∨ c = 49 ∨ c = 50 ∨ c = 51 ∨ c = 52 ∨ c = 53 ∨ c = 54 ∨ c = 55 ∨ c = 56 ∨ c = 57 := by omega
theorem read1 {c : Nat} (h : 48 ≤ c ∧ c ≤ 57) : readInt [c] = some ((c : Int) - 48) := by
  rcases digit_of h with rfl | rfl | rfl | rfl | rfl | rfl | rfl | rfl | rfl | rfl <;> decide +kernel
theorem read2 {c : Nat} (h : 48 ≤ c ∧ c ≤ 57) : readInt [45, c] = some (-((c : Int) - 48)) := by
  rcases digit_of h with rfl | rfl | rfl | rfl | rfl | rfl | rfl | rfl | rfl | rfl <;> decide +kernel
theorem show1 {c : Nat} (h : 48 ≤ c ∧ c ≤ 57) : showInt ((c : Int) - 48) = [c] := by
  rcases digit_of h with rfl | rfl | rfl | rfl | rfl | rfl | rfl | rfl | rfl | rfl <;> decide +kernel
theorem show2 {c : Nat} (h : 48 ≤ c ∧ c ≤ 57) : showInt (-((c : Int) - 48)) = sw [45, c] := by
  rcases digit_of h with rfl | rfl | rfl | rfl | rfl | rfl | rfl | rfl | rfl | rfl <;> decide +kernel
theorem str_pw {w : List Nat} {S : Store} : biD S .str [pw w] = some (.str (sw w)) := by
  have key : ∀ i : Int, i.natAbs < 100 → biD S .str [.int i] = some (.str (showInt i)) := by
    intro i hi
    show (if i.natAbs.log2 < 1920 then some (D.str (showInt i)) else none) = _
    rw [if_pos]
    have : i.natAbs.log2 ≤ i.natAbs := Nat.log2_le_self _
    omega
  rcases w with _ | ⟨a, _ | ⟨b, _ | ⟨c, r⟩⟩⟩
  · rfl
  · unfold pw
    dsimp only
    have e : sw [a] = [a] := by unfold sw; rw [if_neg (by simp)]
    by_cases h : 48 ≤ a ∧ a ≤ 57
    · rw [if_pos h, key _ (by omega), show1 h, e]
    · rw [if_neg h, e]
      rfl
  · unfold pw
    dsimp only
    by_cases h : a = 45 ∧ 48 ≤ b ∧ b ≤ 57
    · obtain ⟨rfl, h⟩ := h
      rw [if_pos ⟨rfl, h⟩, key _ (by omega), show2 h]
    · rw [if_neg h]
      have e : sw [a, b] = [a, b] := by
        unfold sw
        rw [if_neg]
        intro q
        simp at q
        omega
      rw [e]
      rfl
  · have e : sw (a :: b :: c :: r) = a :: b :: c :: r := by unfold sw; rw [if_neg (by simp)]
    rw [e]
    rfl
/-! ### a text's stands -/
theorem sum_map_le {α : Type} {f g : α → Nat} : ∀ {l : List α}, (∀ x ∈ l, f x ≤ g x) → (l.map f).sum ≤ (l.map g).sum
  | [], _ => by simp
  | x :: l, h => by
    have := sum_map_le (l := l) fun y hy => h y (List.mem_cons_of_mem _ hy)
    have := h x List.mem_cons_self
    simp
    omega
theorem sum_map_lt {α : Type} {f g : α → Nat} : ∀ {l : List α}, (∀ x ∈ l, f x ≤ g x) → (∃ x ∈ l, f x < g x) → (l.map f).sum < (l.map g).sum
  | [], _, h => by obtain ⟨x, hx, _⟩ := h; cases hx
  | x :: l, h, ⟨y, hy, hlt⟩ => by
    have h1 := sum_map_le (l := l) fun y hy => h y (List.mem_cons_of_mem _ hy)
    have h2 := h x List.mem_cons_self
    rcases List.mem_cons.mp hy with rfl | hy
    · simp; omega
    · have := sum_map_lt (fun y hy => h y (List.mem_cons_of_mem _ hy)) ⟨y, hy, hlt⟩
      simp
      omega
theorem sw_len {w : List Nat} : (sw w).length ≤ w.length := by
  unfold sw
  split
  · rename_i h; subst h; decide
  · exact Nat.le_refl _
def lnP (ln : List Nat) : List Nat := joinStr [32] ((splitStr 32 ln).map sw)
theorem lnP_len {ln : List Nat} : (lnP ln).length ≤ ln.length ∧ ([45, 48] ∈ splitStr 32 ln → (lnP ln).length < ln.length) := by
  have h1 := jn_total (c := 32) (ss := (splitStr 32 ln).map sw) (by simp [sp_ne])
  have h2 := jn_total (c := 32) (ss := splitStr 32 ln) sp_ne
  rw [jn_sp] at h2
  rw [List.map_map, List.length_map] at h1
  have h3 : ((splitStr 32 ln).map (List.length ∘ sw)).sum ≤ ((splitStr 32 ln).map List.length).sum := sum_map_le fun x _ => sw_len
  refine ⟨by unfold lnP; omega, fun hm => ?_⟩
  have h4 : ((splitStr 32 ln).map (List.length ∘ sw)).sum < ((splitStr 32 ln).map List.length).sum := sum_map_lt (fun x _ => sw_len) ⟨_, hm, by decide⟩
  unfold lnP
  omega
def textP (s : List Nat) : List Nat := joinStr [10] ((splitStr 10 s).map lnP)
/-- no word is -0 -/
def noM (s : List Nat) : Bool := (splitStr 10 s).all fun ln => !(splitStr 32 ln).contains [45, 48]
theorem textP_eq {s : List Nat} : (textP s == s) = noM s := by
  rw [Bool.eq_iff_iff]
  constructor
  · intro h
    have h : textP s = s := by simpa using h
    cases hn : noM s with
    | true => rfl
    | false =>
      exfalso
      unfold noM at hn
      rw [List.all_eq_false] at hn
      obtain ⟨ln, hln, hw⟩ := hn
      have hw : [45, 48] ∈ splitStr 32 ln := by simpa using hw
      have h1 := jn_total (c := 10) (ss := (splitStr 10 s).map lnP) (by simp [sp_ne])
      have h2 := jn_total (c := 10) (ss := splitStr 10 s) sp_ne
      rw [jn_sp] at h2
      rw [List.map_map, List.length_map] at h1
      have h4 : ((splitStr 10 s).map (List.length ∘ lnP)).sum < ((splitStr 10 s).map List.length).sum := sum_map_lt (fun x _ => lnP_len.1) ⟨_, hln, lnP_len.2 hw⟩
      have h5 : (textP s).length = s.length := by rw [h]
      unfold textP at h5
      omega
  · intro h
    have hl : (splitStr 10 s).map lnP = splitStr 10 s := by
      refine (List.map_congr_left fun ln hln => ?_).trans (List.map_id _)
      have hw := List.all_eq_true.mp h ln hln
      have hw : [45, 48] ∉ splitStr 32 ln := by simpa using hw
      have : (splitStr 32 ln).map sw = splitStr 32 ln := by
        refine (List.map_congr_left fun w hwm => ?_).trans (List.map_id _)
        unfold sw
        rw [if_neg (fun e : w = [45, 48] => hw (e ▸ hwm))]
        rfl
      unfold lnP
      rw [this, jn_sp]
      rfl
    unfold textP
    rw [hl, jn_sp]
    simp
def stP (ln : List Nat) : D := .tup ((splitStr 32 ln).map pw)
def foundP (s : List Nat) : D := .tup ((splitStr 10 s).map stP)
/-- as the law reads a word -/
def lw (w : List Nat) : D := if w = [45, 48] then .str [45, 48] else pw w
def stL (ln : List Nat) : D := match splitStr 32 ln with
  | w :: ws => .tup (.str w :: ws.map lw)
  | [] => .non
def foundL (s : List Nat) : D := .tup ((splitStr 10 s).map stL)
theorem pw_cases (w : List Nat) : pw w = .str w ∨ ∃ i, pw w = .int i := by
  rcases w with _ | ⟨a, _ | ⟨b, _ | ⟨c, r⟩⟩⟩
  · exact .inl rfl
  · unfold pw
    dsimp only
    split
    · exact .inr ⟨_, rfl⟩
    · exact .inl rfl
  · unfold pw
    dsimp only
    split
    · exact .inr ⟨_, rfl⟩
    · exact .inl rfl
  · exact .inl rfl
/-! ### the text of a board -/
def Std.parts : Std → List (List Nat)
  | .fin w => [uEnd, showInt w]
  | .thr c h t => [uThrow, showInt c, showInt (h : Int), showInt (t : Int)]
  | .cho a b => [uChoose, showInt (a : Int), showInt (b : Int)]
def stT (s : Std) : List Nat := joinStr [32] s.parts
def textB (B : Board) : List Nat := joinStr [10] (B.map stT)
theorem small_of {i : Int} (h : -9 ≤ i ∧ i ≤ 9) : i ∈ ([-9, -8, -7, -6, -5, -4, -3, -2, -1, 0, 1, 2, 3, 4, 5, 6, 7, 8, 9] : List Int) := by
  simp
  omega
theorem show_ok {i : Int} (h : -9 ≤ i ∧ i ≤ 9) : pw (showInt i) = .int i ∧ showInt i ≠ [45, 48] ∧ (showInt i).length ≤ 2 ∧ (∀ x ∈ showInt i, x < 128 ∧ x ≠ 32 ∧ x ≠ 10) := by
  have := small_of h
  simp only [List.mem_cons, List.not_mem_nil, or_false] at this
  have key : ∀ j ∈ ([-9, -8, -7, -6, -5, -4, -3, -2, -1, 0, 1, 2, 3, 4, 5, 6, 7, 8, 9] : List Int), showInt j = (if j < 0 then [45, 48 + j.natAbs] else [48 + j.natAbs]) := by decide +kernel
  have e := key i (small_of h)
  rw [e]
  rcases this with rfl | rfl | rfl | rfl | rfl | rfl | rfl | rfl | rfl | rfl | rfl | rfl | rfl | rfl | rfl | rfl | rfl | rfl | rfl <;> exact ⟨rfl, by decide, by decide, by decide⟩
theorem std_ok {n : Nat} {s : Std} (hn : n ≤ 6) (h : s.ok n) : (s.parts.map pw = match s.enc with | .tup xs => xs | _ => []) ∧ (∀ w ∈ s.parts, w ≠ [45, 48] ∧ w.length ≤ 6 ∧ ∀ x ∈ w, x < 128 ∧ x ≠ 32 ∧ x ≠ 10) ∧ s.parts.length ≤ 4 ∧ s.parts ≠ [] := by
  cases s with
  | fin w =>
    obtain ⟨a, b, c, d⟩ := show_ok h
    refine ⟨?_, ?_, by simp [Std.parts], by simp [Std.parts]⟩
    · show [pw uEnd, pw (showInt w)] = _
      rw [a]; rfl
    · intro x hx
      simp [Std.parts] at hx
      rcases hx with rfl | rfl
      · decide
      · exact ⟨b, by omega, d⟩
  | thr c i j =>
    obtain ⟨h1, h2, h3, h4⟩ := h
    obtain ⟨a, b, e, d⟩ := show_ok (i := c) ⟨by omega, by omega⟩
    obtain ⟨a2, b2, e2, d2⟩ := show_ok (i := (i : Int)) ⟨by omega, by omega⟩
    obtain ⟨a3, b3, e3, d3⟩ := show_ok (i := (j : Int)) ⟨by omega, by omega⟩
    refine ⟨?_, ?_, by simp [Std.parts], by simp [Std.parts]⟩
    · show [pw uThrow, pw (showInt c), pw (showInt (i : Int)), pw (showInt (j : Int))] = _
      rw [a, a2, a3]; rfl
    · intro x hx
      simp [Std.parts] at hx
      rcases hx with rfl | rfl | rfl | rfl
      · decide
      · exact ⟨b, by omega, d⟩
      · exact ⟨b2, by omega, d2⟩
      · exact ⟨b3, by omega, d3⟩
  | cho i j =>
    obtain ⟨h3, h4⟩ := h
    obtain ⟨a2, b2, e2, d2⟩ := show_ok (i := (i : Int)) ⟨by omega, by omega⟩
    obtain ⟨a3, b3, e3, d3⟩ := show_ok (i := (j : Int)) ⟨by omega, by omega⟩
    refine ⟨?_, ?_, by simp [Std.parts], by simp [Std.parts]⟩
    · show [pw uChoose, pw (showInt (i : Int)), pw (showInt (j : Int))] = _
      rw [a2, a3]; rfl
    · intro x hx
      simp [Std.parts] at hx
      rcases hx with rfl | rfl | rfl
      · decide
      · exact ⟨b2, by omega, d2⟩
      · exact ⟨b3, by omega, d3⟩
theorem stT_ok {n : Nat} {s : Std} (hn : n ≤ 6) (h : s.ok n) : splitStr 32 (stT s) = s.parts ∧ stP (stT s) = s.enc ∧ 10 ∉ stT s ∧ (stT s).length ≤ 28 ∧ ∀ x ∈ stT s, x < 128 := by
  obtain ⟨h1, h2, h3, h4⟩ := std_ok hn h
  have hs : splitStr 32 (stT s) = s.parts := sp_jn h4 fun w hw q => (h2 w hw).2.2 32 q |>.2.1 rfl
  have hl := jn_len (c := 32) (P := fun x => x < 128 ∧ x ≠ 10) (m := 6) (by decide) (ss := s.parts) fun w hw => ⟨(h2 w hw).2.1, fun x hx => ⟨((h2 w hw).2.2 x hx).1, ((h2 w hw).2.2 x hx).2.2⟩⟩
  refine ⟨hs, ?_, fun q => (hl.2 10 q).2 rfl, ?_, fun x hx => (hl.2 x hx).1⟩
  · unfold stP
    rw [hs, h1]
    cases s <;> rfl
  · have : s.parts.length * 7 ≤ 4 * 7 := Nat.mul_le_mul_right _ h3
    have := hl.1
    unfold stT
    omega
theorem textB_ok {B : Board} {m : Nat} (h : OkB B m) : splitStr 10 (textB B) = B.map stT ∧ foundP (textB B) = encB B ∧ noM (textB B) = true ∧ (textB B).length ≤ 174 ∧ ∀ x ∈ textB B, x < 128 := by
  have h6 := h.hi
  have h2 := h.lo
  have hs : splitStr 10 (textB B) = B.map stT := sp_jn (by intro e; rw [List.map_eq_nil_iff] at e; rw [e] at h2; simp at h2) fun w hw => by
    obtain ⟨s, hs, rfl⟩ := List.mem_map.mp hw
    exact (stT_ok h6 (h.each s hs)).2.2.1
  have hl := jn_len (c := 10) (P := fun x => x < 128) (m := 28) (by decide) (ss := B.map stT) fun w hw => by
    obtain ⟨s, hs, rfl⟩ := List.mem_map.mp hw
    exact (stT_ok h6 (h.each s hs)).2.2.2
  refine ⟨hs, ?_, ?_, ?_, hl.2⟩
  · unfold foundP encB
    rw [hs, List.map_map]
    exact congrArg D.tup (List.map_congr_left fun s hs => (stT_ok h6 (h.each s hs)).2.1)
  · unfold noM
    rw [hs, List.all_map]
    refine List.all_eq_true.mpr fun s hs => ?_
    show (!(splitStr 32 (stT s)).contains [45, 48]) = true
    rw [(stT_ok h6 (h.each s hs)).1]
    simp
    intro q
    exact ((std_ok h6 (h.each s hs)).2.1 _ q).1 rfl
  · have h1 := hl.1
    rw [List.length_map] at h1
    have : B.length * 29 ≤ 6 * 29 := Nat.mul_le_mul_right _ h6
    unfold textB
    omega
end Pf.Dn

end
section
/-! TrapT: ways, by length. -/
namespace Pf.Dn
open Pf
def Lv (B : Board) (p : List Nat) : Nat → Nat → Prop
  | 0, v => v = 0
  | k + 1, v => Lv B p k v ∨ ∃ u, Lv B p k u ∧ v ∈ nxt B p u
inductive Wy (B : Board) (p : List Nat) : List Nat → Nat → Prop where
  | one : Wy B p [0] 0
  | snoc {w : List Nat} {u v : Nat} : Wy B p w u → v ∈ nxt B p u → Wy B p (w ++ [v]) v
theorem Lv.reach {B : Board} {p : List Nat} : ∀ {k v : Nat}, Lv B p k v → Reach B p 0 v
  | 0, v, h => by cases h; exact .refl _
  | k + 1, v, h => by
    rcases h with h | ⟨u, h, hv⟩
    · exact h.reach
    · exact .step h.reach hv
theorem Wy.lv {B : Board} {p w : List Nat} {v : Nat} (h : Wy B p w v) : ∀ {k : Nat}, w.length = k + 1 → Lv B p k v := by
  induction h with
  | one => intro k hk; simp at hk; subst hk; rfl
  | @snoc w u v hw hv ih =>
    intro k hk
    rw [List.length_append, List.length_singleton] at hk
    cases k with
    | zero =>
      obtain ⟨w', rfl⟩ : ∃ w', w = w' ++ [u] := by
        cases hw with
        | one => exact ⟨[], rfl⟩
        | snoc _ _ => exact ⟨_, rfl⟩
      simp at hk
    | succ k => exact .inr ⟨u, ih (by omega), hv⟩
theorem Wy.last {B : Board} {p w : List Nat} {v : Nat} (h : Wy B p w v) : ∃ w', w = w' ++ [v] := by
  cases h with
  | one => exact ⟨[], rfl⟩
  | snoc _ _ => exact ⟨_, rfl⟩
theorem Wy.head {B : Board} {p w : List Nat} {v : Nat} (h : Wy B p w v) : ∃ r, w = 0 :: r := by
  induction h with
  | one => exact ⟨[], rfl⟩
  | snoc _ _ ih =>
    obtain ⟨r, rfl⟩ := ih
    exact ⟨_, rfl⟩
theorem Wy.reach {B : Board} {p w : List Nat} {v : Nat} (h : Wy B p w v) : Reach B p 0 v := by
  induction h with
  | one => exact .refl _
  | snoc _ hv ih => exact .step ih hv
theorem Wy.next {B : Board} {p w : List Nat} {v : Nat} (h : Wy B p w v) : ∀ {t a b : Nat}, w[t]? = some a → w[t + 1]? = some b → b ∈ nxt B p a := by
  induction h with
  | one => intro t a b _ hb; simp at hb
  | @snoc w u v hw hv ih =>
    intro t a b ha hb
    rcases Nat.lt_trichotomy (t + 1) w.length with q | q | q
    · rw [List.getElem?_append_left (by omega)] at ha
      rw [List.getElem?_append_left q] at hb
      exact ih ha hb
    · obtain ⟨w', rfl⟩ := hw.last
      rw [q] at hb
      simp at hb q
      subst hb
      rw [List.getElem?_append_left (by simp; omega), q] at ha
      simp at ha
      subst ha
      exact hv
    · rw [List.getElem?_eq_none (by simp; omega)] at hb
      cases hb
theorem Wy.lt {B : Board} {m : Nat} (h : OkB B m) {p : List Nat} (hp : PlanOk B p) {w : List Nat} {v : Nat} (hw : Wy B p w v) : v < B.length := hw.reach.lt h hp (by have := h.lo; omega)
@[simp] theorem ix0l {a : D} {r : List D} {S : Store} : ixD S (.lst (a :: r)) (.int 0) = some a := by
  rw [show (0 : Int) = ((0 : Nat) : Int) from rfl, ixNl (by simp)]
  rfl
@[simp] theorem sl1l {xs : List D} {S : Store} : slD S (.lst xs) (some 1) none = some (.lst (xs.drop 1)) := congrArg (fun z => some (D.lst z)) (cut_from (n := 1))
theorem ix_last {w : List Nat} {v : Nat} {S : Store} : ixD S (encP (w ++ [v])) (.int (-1)) = some (.int (v : Int)) := by
  show (place (natsD (w ++ [v])).length (-1)).bind (fun j => (natsD (w ++ [v]))[j]?) = _
  have : place (natsD (w ++ [v])).length (-1) = some w.length := by
    unfold place
    rw [if_neg (by decide), if_pos (by simp; omega)]
    simp
    omega
  rw [this]
  show (natsD (w ++ [v]))[w.length]? = _
  simp
@[simp] theorem asg_tup3 {m i j l : Nat} {x y z : D} {σ : Pf.Env} (hi : i < σ.length) (hj : j < σ.length) (hl : l < σ.length) : asgT (m + 2) (.tup [.nm i, .nm j, .nm l]) (.tup [x, y, z]) σ = some (((σ.set i (some x)).set j (some y)).set l (some z)) := by
  show (asgT (m + 1) (.nm i) x σ).bind (fun σ' => (asgT (m + 1) (.nm j) y σ').bind fun σ'' => (asgT (m + 1) (.nm l) z σ'').bind fun σ'' => some σ'') = _
  rw [asg_nm hi]
  show (asgT (m + 1) (.nm j) y (σ.set i (some x))).bind (fun σ'' => (asgT (m + 1) (.nm l) z σ'').bind fun σ'' => some σ'') = _
  rw [asg_nm (by rw [List.length_set]; exact hj)]
  show (asgT (m + 1) (.nm l) z ((σ.set i (some x)).set j (some y))).bind (fun σ'' => some σ'') = _
  rw [asg_nm (by rw [List.length_set, List.length_set]; exact hl)]
  rfl
theorem nxt_two {B : Board} {p : List Nat} {i : Nat} : (nxt B p i).length ≤ 2 := by
  unfold nxt
  split <;> simp
def valOf : Res D → Option D
  | .ok d _ => some d
  | _ => none
theorem wp_val {r : Res D} {d : D} (h : valOf r = some d) : WP r (fun d' _ => d' = d) := by
  cases r with
  | ok a S => cases h; exact ⟨_, _, rfl, rfl⟩
  | exc _ _ => cases h
  | bad => cases h
end Pf.Dn

end
section
namespace K21
open Pf Pf.Dn
abbrev digs : List Nat := [48, 49, 50, 51, 52, 53, 54, 55, 56, 57]
theorem has_digit {c : Nat} : digs.contains c = decide (48 ≤ c ∧ c ≤ 57) := by
  by_cases h : 48 ≤ c ∧ c ≤ 57
  · rw [decide_eq_true h]
    rcases digit_of h with rfl | rfl | rfl | rfl | rfl | rfl | rfl | rfl | rfl | rfl <;> decide
  · rw [decide_eq_false h]
    simp
    omega
/-- signs of a text -/
def Cp (s : List Nat) : Prop := s.length ≤ 100000 ∧ ∀ x ∈ s, x < 1114112
theorem Cp.pl {s : List Nat} (h : Cp s) : plN 1 (.str s) = true := by
  show (s.all (fun c => decide (c < 1114112)) && decide (s.length ≤ 1000000)) = true
  rw [decide_eq_true (Nat.le_trans h.1 (by omega)), Bool.and_true]
  exact List.all_eq_true.mpr fun x hx => decide_eq_true (h.2 x hx)
theorem plN_up {n : Nat} {d : D} (h : plN n d = true) : ∀ {m : Nat}, n ≤ m → plN m d = true := by
  intro m hm
  induction hm with
  | refl => exact h
  | step _ ih => exact plN_mono ih
theorem Cp.pl' {s : List Nat} (h : Cp s) : Pf.pl (.str s) = true := plN_up h.pl (by omega)
theorem sl_str {s : List Nat} {S : Store} {lo hi : Option Int} (h : s.length ≤ 100000) : slD S (.str s) lo hi = some (.str (cut s lo hi)) := by
  show (if s.length ≤ line then some (D.str (cut s lo hi)) else none) = _
  rw [if_pos (by unfold line; omega)]
theorem c_partin {k : Nat} {w : List Nat} {S : Store} (h : Cp w) : callN prog cfg (k + 1) f_part_in [.str w] S = .ok (pw w) S := by
  rw [call_eq (fn := ⟨1, 1, b_part_in⟩) rfl rfl]
  have d1 : ∀ S, Pf.dataOf S (.str [45]) = some (.str [45]) := fun S => d_str (by decide)
  have d2 : ∀ S, Pf.dataOf S (.str digs) = some (.str digs) := fun S => d_str (by decide)
  have cpx : ∀ {c : Nat}, c ∈ w → ∀ S, Pf.dataOf S (.str [c]) = some (.str [c]) := fun {c} hc S => d_str (Cp.pl' ⟨by simp, fun x hx => by simp at hx; subst hx; exact h.2 _ hc⟩)
  have hin : ∀ c : Nat, inD (.str [c]) (.str digs) = some (decide (48 ≤ c ∧ c ≤ 57)) := fun c => by
    show some (digs.contains c) = _
    rw [has_digit]
  have to1 : ∀ S, slD S (.str w) none (some 1) = some (.str (w.take 1)) := fun S => by rw [sl_str h.1]; exact congrArg (fun z => some (D.str z)) (cut_to (n := 1))
  have fr1 : ∀ S, slD S (.str w) (some 1) none = some (.str (w.drop 1)) := fun S => by rw [sl_str h.1]; exact congrArg (fun z => some (D.str z)) (cut_from (n := 1))
  have len1 : ∀ (S : Store) (s : List Nat), s.length ≤ w.length → biD S .len [.str s] = some (.int s.length) := fun S s hs => by
    show (if s.length ≤ line then some (D.int s.length) else none) = _
    rw [if_pos (by have := h.1; unfold line; omega)]
  have hwp : pl (.str w) = true := h.pl'
  have fin : ∀ {d : D}, pl d = true → trim S.length d S = .ok d S := fun hd => (trim_pl hd).trans (by simp)
  rcases w with _ | ⟨a, _ | ⟨b, _ | ⟨c, r⟩⟩⟩
  · have d0 : ∀ S, Pf.dataOf S (.str []) = some (.str []) := fun S => d_str (by decide)
    have l0 := fun S => len1 S [] (by simp)
    simp at to1 fr1 l0
    simp [b_part_in, to1, d0, d1, l0]
    exact fin hwp
  · have da := fun S => cpx (c := a) (by simp) S
    have l1 := fun S => len1 S [a] (by simp)
    have l0 := fun S => len1 S [] (by simp)
    simp at to1 fr1 l1 l0
    by_cases h1 : a = 45
    · subst h1
      simp [b_part_in, to1, fr1, da, d1, l0]
      exact fin hwp
    · have hk := fun (f : Bool → Store → Res D) S => cmpK_in (f := f) (da S) (d2 S) (hin a)
      by_cases h2 : 48 ≤ a ∧ a ≤ 57
      · have hr : biD S .int [.str [a]] = some (.int ((a : Int) - 48)) := by
          show (readInt [a]).map D.int = _
          rw [read1 h2]
          rfl
        simp [b_part_in, to1, fr1, da, d1, l1, h1, hk, h2, hr]
        unfold pw
        simp [h2]
      · simp [b_part_in, to1, fr1, da, d1, l1, h1, hk, h2]
        unfold pw
        simp [h2]
        exact fin hwp
  · have da := fun S => cpx (c := a) (by simp) S
    have db := fun S => cpx (c := b) (by simp) S
    have l1 := fun S => len1 S [b] (by simp)
    have l2 := fun S => len1 S [a, b] (by simp)
    simp at to1 fr1 l1 l2
    by_cases h1 : a = 45
    · subst h1
      have hk := fun (f : Bool → Store → Res D) S => cmpK_in (f := f) (db S) (d2 S) (hin b)
      by_cases h2 : 48 ≤ b ∧ b ≤ 57
      · have hr : biD S .int [.str [45, b]] = some (.int (-((b : Int) - 48))) := by
          show (readInt [45, b]).map D.int = _
          rw [read2 h2]
          rfl
        simp [b_part_in, to1, fr1, da, d1, l1, hk, h2, hr]
        unfold pw
        simp [h2]
      · simp [b_part_in, to1, fr1, da, d1, l1, hk, h2]
        unfold pw
        simp [h2]
        exact fin hwp
    · simp [b_part_in, to1, fr1, da, d1, l2, h1]
      unfold pw
      simp [h1]
      exact fin hwp
  · have da := fun S => cpx (c := a) (by simp) S
    have l1 := fun S => len1 S (b :: c :: r) (by simp)
    have l2 := fun S => len1 S (a :: b :: c :: r) (by simp)
    simp at to1 fr1 l1 l2
    have q1 : ¬ ((r.length : Int) + 1 + 1 = 1) := by omega
    have q2 : ¬ ((r.length : Int) + 1 + 1 + 1 = 1) := by omega
    by_cases h1 : a = 45
    · subst h1
      simp [b_part_in, to1, fr1, da, d1, l1, q1]
      exact fin hwp
    · simp [b_part_in, to1, fr1, da, d1, l2, h1, q2]
      exact fin hwp
theorem c_linteger {k : Nat} {w : List Nat} {S : Store} (h : Cp w) : callN prog cfg (k + 1) f_law_integer [.str w] S = .ok (lw w) S := by
  rw [call_eq (fn := ⟨1, 1, b_law_integer⟩) rfl rfl]
  have d1 : ∀ S, Pf.dataOf S (.str [45]) = some (.str [45]) := fun S => d_str (by decide)
  have d3 : ∀ S, Pf.dataOf S (.str [45, 48]) = some (.str [45, 48]) := fun S => d_str (by decide)
  have d2 : ∀ S, Pf.dataOf S (.str digs) = some (.str digs) := fun S => d_str (by decide)
  have cpx : ∀ {c : Nat}, c ∈ w → ∀ S, Pf.dataOf S (.str [c]) = some (.str [c]) := fun {c} hc S => d_str (Cp.pl' ⟨by simp, fun x hx => by simp at hx; subst hx; exact h.2 _ hc⟩)
  have dw : ∀ S, Pf.dataOf S (.str w) = some (.str w) := fun S => d_str h.pl'
  have hin : ∀ c : Nat, inD (.str [c]) (.str digs) = some (decide (48 ≤ c ∧ c ≤ 57)) := fun c => by
    show some (digs.contains c) = _
    rw [has_digit]
  have to1 : ∀ S, slD S (.str w) none (some 1) = some (.str (w.take 1)) := fun S => by rw [sl_str h.1]; exact congrArg (fun z => some (D.str z)) (cut_to (n := 1))
  have fr1 : ∀ S, slD S (.str w) (some 1) none = some (.str (w.drop 1)) := fun S => by rw [sl_str h.1]; exact congrArg (fun z => some (D.str z)) (cut_from (n := 1))
  have len1 : ∀ (S : Store) (s : List Nat), s.length ≤ w.length → biD S .len [.str s] = some (.int s.length) := fun S s hs => by
    show (if s.length ≤ line then some (D.int s.length) else none) = _
    rw [if_pos (by have := h.1; unfold line; omega)]
  have hwp : pl (.str w) = true := h.pl'
  have fin : ∀ {d : D}, pl d = true → trim S.length d S = .ok d S := fun hd => (trim_pl hd).trans (by simp)
  rcases w with _ | ⟨a, _ | ⟨b, _ | ⟨c, r⟩⟩⟩
  · have d0 : ∀ S, Pf.dataOf S (.str []) = some (.str []) := fun S => d_str (by decide)
    have l0 := fun S => len1 S [] (by simp)
    simp at to1 fr1 l0
    simp [b_law_integer, to1, d0, d1, l0]
    exact fin hwp
  · have da := fun S => cpx (c := a) (by simp) S
    have l1 := fun S => len1 S [a] (by simp)
    have l0 := fun S => len1 S [] (by simp)
    simp at to1 fr1 l1 l0
    by_cases h1 : a = 45
    · subst h1
      simp [b_law_integer, to1, fr1, da, d1, l0, d3]
      exact fin hwp
    · have hk := fun (f : Bool → Store → Res D) S => cmpK_in (f := f) (da S) (d2 S) (hin a)
      by_cases h2 : 48 ≤ a ∧ a ≤ 57
      · have hr : biD S .int [.str [a]] = some (.int ((a : Int) - 48)) := by
          show (readInt [a]).map D.int = _
          rw [read1 h2]
          rfl
        simp [b_law_integer, to1, fr1, da, d1, l1, h1, hk, h2, hr]
        unfold lw pw
        simp [h2]
      · simp [b_law_integer, to1, fr1, da, d1, l1, h1, hk, h2]
        unfold lw pw
        simp [h2]
        exact fin hwp
  · have da := fun S => cpx (c := a) (by simp) S
    have db := fun S => cpx (c := b) (by simp) S
    have l1 := fun S => len1 S [b] (by simp)
    have l2 := fun S => len1 S [a, b] (by simp)
    simp at to1 fr1 l1 l2
    by_cases h1 : a = 45
    · subst h1
      by_cases h0 : b = 48
      · subst h0
        simp [b_law_integer, to1, fr1, da, d1, d3, l2]
        exact fin hwp
      have hk := fun (f : Bool → Store → Res D) S => cmpK_in (f := f) (db S) (d2 S) (hin b)
      by_cases h2 : 48 ≤ b ∧ b ≤ 57
      · have hr : biD S .int [.str [45, b]] = some (.int (-((b : Int) - 48))) := by
          show (readInt [45, b]).map D.int = _
          rw [read2 h2]
          rfl
        simp [b_law_integer, to1, fr1, da, d1, l1, hk, h2, hr, dw, d3, h0]
        unfold lw pw
        simp [h2, h0]
      · simp [b_law_integer, to1, fr1, da, d1, l1, hk, h2, dw, d3, h0]
        unfold lw pw
        simp [h2, h0]
        exact fin hwp
    · simp [b_law_integer, to1, fr1, da, d1, l2, h1]
      unfold lw pw
      simp [h1]
      exact fin hwp
  · have da := fun S => cpx (c := a) (by simp) S
    have l1 := fun S => len1 S (b :: c :: r) (by simp)
    have l2 := fun S => len1 S (a :: b :: c :: r) (by simp)
    simp at to1 fr1 l1 l2
    have q1 : ¬ ((r.length : Int) + 1 + 1 = 1) := by omega
    have q2 : ¬ ((r.length : Int) + 1 + 1 + 1 = 1) := by omega
    by_cases h1 : a = 45
    · subst h1
      have e : lw (45 :: b :: c :: r) = .str (45 :: b :: c :: r) := by unfold lw; rw [if_neg (by simp)]; rfl
      simp [b_law_integer, to1, fr1, da, d1, l1, q1, dw, d3]
      rw [e]
      exact fin hwp
    · have e : lw (a :: b :: c :: r) = .str (a :: b :: c :: r) := by unfold lw; rw [if_neg (by simp)]; rfl
      simp [b_law_integer, to1, fr1, da, d1, l2, h1, q2]
      rw [e]
      exact fin hwp
theorem Cp.sub {s : List Nat} (h : Cp s) {c : Nat} : ∀ w ∈ splitStr c s, Cp w := fun w hw => by
  obtain ⟨a, _, b⟩ := (sp_len (c := c) (P := fun x => x < 1114112) h.2).2 w hw
  exact ⟨Nat.le_trans a h.1, b⟩
theorem plN_pw {w : List Nat} (h : Cp w) : plN 1 (pw w) = true := by
  rcases pw_cases w with e | ⟨i, e⟩
  · rw [e]; exact h.pl
  · rw [e]; rfl
theorem pl_foundP {s : List Nat} (h : Cp s) : pl (foundP s) = true := by
  have : plN 3 (foundP s) = true := List.all_eq_true.mpr fun y hy => by
    obtain ⟨ln, hln, rfl⟩ := List.mem_map.mp hy
    exact List.all_eq_true.mpr fun z hz => by
      obtain ⟨w, hw, rfl⟩ := List.mem_map.mp hz
      exact plN_pw ((h.sub ln hln).sub w hw)
  exact plN_up this (by omega)
theorem plN_lw {w : List Nat} (h : Cp w) : plN 1 (lw w) = true := by
  unfold lw
  split
  · decide
  · exact plN_pw h
theorem pl_stL {ln : List Nat} (h : Cp ln) : plN 2 (stL ln) = true := by
  unfold stL
  obtain ⟨w, ws, e⟩ := sp_ex 32 ln
  have hs := h.sub (c := 32)
  rw [e] at hs ⊢
  refine List.all_eq_true.mpr fun z hz => ?_
  rcases List.mem_cons.mp hz with rfl | hz
  · exact (hs w (by simp)).pl
  · obtain ⟨v, hv, rfl⟩ := List.mem_map.mp hz
    exact plN_lw (hs v (List.mem_cons_of_mem _ hv))
theorem pl_foundL {s : List Nat} (h : Cp s) : pl (foundL s) = true := by
  have : plN 3 (foundL s) = true := List.all_eq_true.mpr fun y hy => by
    obtain ⟨ln, hln, rfl⟩ := List.mem_map.mp hy
    exact pl_stL (h.sub ln hln)
  exact plN_up this (by omega)
theorem join_room {c : Nat} {s : List Nat} {f : List Nat → List Nat} (h : Cp s) (hf : ∀ w, (f w).length ≤ w.length) : (((splitStr c s).map f).map List.length).sum + ((splitStr c s).map f).length * 1 ≤ 16777216 := by
  have h2 := jn_total (c := c) (ss := splitStr c s) sp_ne
  rw [jn_sp] at h2
  have h3 : ((splitStr c s).map (List.length ∘ f)).sum ≤ ((splitStr c s).map List.length).sum := sum_map_le fun x _ => hf x
  rw [List.map_map, List.length_map]
  have := h.1
  omega
theorem split_many {c : Nat} {s : List Nat} (h : Cp s) : (splitStr c s).length ≤ 100001 := by
  have := (sp_len (c := c) (P := fun x => x < 1114112) h.2).1
  have := h.1
  omega
theorem c_astext {k : Nat} {s : List Nat} {S : Store} (h : Cp s) (hp : Cp (textP s)) : callN prog cfg (k + 1) f_as_text [foundP s] S = .ok (.str (textP s)) S := by
  rw [call_eq (fn := ⟨1, 2, b_as_text⟩) rfl rfl]
  have hm := split_many (c := 10) h
  have l1 : (splitStr 10 s).length ≤ line := by unfold line; omega
  have e1 : ∀ S, isSeq (fun xs S1 => Res.ok xs S1) (foundP s) S = .ok ((splitStr 10 s).map stP) S := fun S => rfl
  simp [b_as_text, e1]
  rw [compL_g0 (f := fun ln => .str (lnP ln)) (g := fun ln => [some (foundP s), some (stP ln), none]) (fun ln hln => by
    refine ⟨rfl, ?_⟩
    have hl := h.sub ln hln
    have hm2 := split_many (c := 32) hl
    have l2 : (splitStr 32 ln).length ≤ line := by unfold line; omega
    have e2 : ∀ S, isSeq (fun xs S1 => Res.ok xs S1) (stP ln) S = .ok ((splitStr 32 ln).map pw) S := fun S => rfl
    have e3 : ∀ S, mtD S .join (.str [32]) [.lst (((splitStr 32 ln).map sw).map .str)] = some (.str (lnP ln)) := fun S => mt_jn (join_room hl fun w => sw_len)
    rw [List.map_map] at e3
    simp [e2]
    rw [compL_g0 (f := D.str ∘ sw) (g := fun w => [some (foundP s), some (stP ln), some (pw w)]) (fun w hw => by
      refine ⟨rfl, ?_⟩
      simp [str_pw])]
    simp [l2]
    exact congrArg (fun o => Res.ofO o S) (e3 S))]
  have e4 : ∀ S, mtD S .join (.str [10]) [.lst (((splitStr 10 s).map lnP).map .str)] = some (.str (textP s)) := fun S => mt_jn (join_room h fun w => lnP_len.1)
  rw [List.map_map] at e4
  have e5 : (fun ln => D.str (lnP ln)) = D.str ∘ lnP := rfl
  simp [l1, e5, e4]
  exact (trim_pl hp.pl').trans (by simp)
def goodP (s : List Nat) : Bool := isBoard (foundP s) && noM s
theorem textP_cp {s : List Nat} (h : Cp s) : Cp (textP s) := by
  have h2 := jn_total (c := 10) (ss := splitStr 10 s) sp_ne
  have h1 := jn_total (c := 10) (ss := (splitStr 10 s).map lnP) (by simp [sp_ne])
  rw [jn_sp] at h2
  rw [List.map_map, List.length_map] at h1
  have h3 : ((splitStr 10 s).map (List.length ∘ lnP)).sum ≤ ((splitStr 10 s).map List.length).sum := sum_map_le fun x _ => lnP_len.1
  have h4 := h.1
  have hc := jn_len (c := 10) (P := fun x => x < 1114112) (m := 100000) (by decide) (ss := (splitStr 10 s).map lnP) fun w hw => by
    obtain ⟨ln, hln, rfl⟩ := List.mem_map.mp hw
    have hl := h.sub ln hln
    refine ⟨Nat.le_trans lnP_len.1 hl.1, ?_⟩
    have := jn_len (c := 32) (P := fun x => x < 1114112) (m := 100000) (by decide) (ss := (splitStr 32 ln).map sw) fun v hv => by
      obtain ⟨u, hu, rfl⟩ := List.mem_map.mp hv
      have hul := hl.sub u hu
      refine ⟨Nat.le_trans sw_len hul.1, fun x hx => ?_⟩
      unfold sw at hx
      split at hx
      · simp at hx; omega
      · exact hul.2 x hx
    exact this.2
  exact ⟨by unfold textP; omega, hc.2⟩
theorem c_read {k : Nat} {s : List Nat} {S : Store} (h : Cp s) : callN prog cfg (k + 5) f_read_board [.str s] S = if goodP s = true then .ok (foundP s) S else .exc 8 S := by
  rw [call_eq (fn := ⟨1, 3, b_read_board⟩) rfl rfl]
  have hm := split_many (c := 10) h
  have l1 : (splitStr 10 s).length ≤ line := by unfold line; omega
  have e1 : ∀ S, mtD S .split (.str s) [.str [10]] = some (.lst ((splitStr 10 s).map .str)) := fun S => mt_sp h.1 (by decide)
  have e0 : ∀ (S : Store) xs, biD S .tuple [.lst xs] = some (.tup xs) := fun _ _ => rfl
  simp [b_read_board, e1]
  rw [compL_g0 (f := stP) (g := fun ln => [some (.str s), none, some (.str ln), none]) (fun ln hln => by
    refine ⟨rfl, ?_⟩
    have hl := h.sub ln hln
    have hm2 := split_many (c := 32) hl
    have l2 : (splitStr 32 ln).length ≤ line := by unfold line; omega
    have e2 : ∀ S, mtD S .split (.str ln) [.str [32]] = some (.lst ((splitStr 32 ln).map .str)) := fun S => mt_sp hl.1 (by decide)
    simp [e2]
    rw [compL_g0 (f := pw) (g := fun w => [some (.str s), none, some (.str ln), some (.str w)]) (fun w hw => by
      refine ⟨rfl, ?_⟩
      simp [c_partin (hl.sub w hw)])]
    simp [l2, e0]
    rfl)]
  simp [l1, e0]
  have hfp := pl_foundP h
  have hcb : ∀ S, callN prog cfg (k + 4) 4 [.tup ((splitStr 10 s).map stP)] S = .ok (.bl (isBoard (foundP s))) S := fun S => c_board hfp
  have hct : ∀ S, callN prog cfg (k + 4) 6 [.tup ((splitStr 10 s).map stP)] S = .ok (.str (textP s)) S := fun S => c_astext h (textP_cp h)
  have dt : ∀ S, Pf.dataOf S (.str (textP s)) = some (.str (textP s)) := fun S => d_str (textP_cp h).pl'
  have ds : ∀ S, Pf.dataOf S (.str s) = some (.str s) := fun S => d_str h.pl'
  unfold goodP
  cases hb : isBoard (foundP s) with
  | false => simp [hcb, hb]
  | true =>
    cases hn : noM s with
    | false =>
      have ht : (textP s == s) = false := by rw [textP_eq, hn]
      simp [hcb, hb, hct, dt, ds, ht, -beq_eq_false_iff_ne]
    | true =>
      have ht : (textP s == s) = true := by rw [textP_eq, hn]
      simp [hcb, hb, hct, dt, ds, ht, -beq_iff_eq]
      exact (trim_pl hfp).trans (by simp [foundP])
theorem c_lread {k : Nat} {s : List Nat} {S : Store} (h : Cp s) : callN prog cfg (k + 5) f_law_read [.str s] S = .ok (if isBoard (foundL s) = true then foundL s else .non) S := by
  rw [call_eq (fn := ⟨1, 4, b_law_read⟩) rfl rfl]
  have hm := split_many (c := 10) h
  have l1 : (splitStr 10 s).length ≤ line := by unfold line; omega
  have e1 : ∀ S, mtD S .split (.str s) [.str [10]] = some (.lst ((splitStr 10 s).map .str)) := fun S => mt_sp h.1 (by decide)
  have e0 : ∀ (S : Store) xs, biD S .tuple [.lst xs] = some (.tup xs) := fun _ _ => rfl
  refine WP.eq ?_
  simp [b_law_read, e1]
  refine wp_forT (fun done rest σ S' => S' = S ∧ ∃ a b c, σ = [some (.str s), some (.tup (done.map stL)), a, b, c]) ⟨rfl, none, none, none, rfl⟩ ?_ ?_
  · rintro done ln rest σ S' hdr ⟨rfl, a, b, c, rfl⟩
    refine ⟨_, rfl, ?_⟩
    have hln : ln ∈ splitStr 10 s := by rw [← hdr]; simp
    have hdl : done.length + 1 ≤ (splitStr 10 s).length := by rw [← hdr]; simp
    have hl := h.sub ln hln
    have hm2 := split_many (c := 32) hl
    have e2 : ∀ S, mtD S .split (.str ln) [.str [32]] = some (.lst ((splitStr 32 ln).map .str)) := fun S => mt_sp hl.1 (by decide)
    obtain ⟨w, ws, ew⟩ := sp_ex 32 ln
    rw [ew] at hm2
    have hsub := hl.sub (c := 32)
    rw [ew] at hsub
    have e3 : stL ln = .tup (.str w :: ws.map lw) := by unfold stL; rw [ew]
    simp [e2, ew]
    rw [compL_g0 (f := lw) (g := fun v => [some (.str s), some (.tup (done.map stL)), some (.str ln), some (.lst (.str w :: ws.map .str)), some (.str v)]) (fun v hv => by
      refine ⟨rfl, ?_⟩
      simp [c_linteger (hsub v (List.mem_cons_of_mem _ hv))])]
    have l2 : ws.length ≤ line := by simp at hm2; unfold line; omega
    have e4 : binD .add (.tup [.str w]) (.tup (ws.map lw)) = some (stL ln) := by
      rw [bin_tup (by simp at hm2 ⊢; unfold line; omega), e3]
      rfl
    have e5 : binD .add (.tup (done.map stL)) (.tup [stL ln]) = some (.tup ((done ++ [ln]).map stL)) := by
      rw [bin_tup (by simp; unfold line; omega), List.map_append]
      rfl
    simp [l2, e0, e4, e5, -List.map_append]
    simp
  · rintro σ S' ⟨rfl, a, b, c, rfl⟩
    have hfp := pl_foundL h
    have hcb : ∀ S, callN prog cfg (k + 4) 4 [.tup ((splitStr 10 s).map stL)] S = .ok (.bl (isBoard (foundL s))) S := fun S => c_board hfp
    cases hb : isBoard (foundL s) with
    | false => simp [hcb, hb]
    | true =>
      simp [hcb, hb]
      refine (wp_trim hfp).mpr ?_
      simp [foundL]
/-! ### both readings tell the same boards -/
theorem isStand_str {v : D} {m : Int} (h : isStand v m = true) : ∃ w r, v = .tup (.str w :: r) ∧ (w = wEnd ∨ w = wThrow ∨ w = wChoose) ∧ ∀ x ∈ r, ∃ i, x = .int i := by
  unfold isStand at h
  split at h
  · simp at h
    obtain ⟨i, rfl⟩ := whole_int h.2
    exact ⟨_, _, rfl, .inl h.1, by simp⟩
  · simp at h
    obtain ⟨h1, h2, h3, _⟩ := h
    obtain ⟨i, rfl⟩ := whole_int h2
    obtain ⟨j, rfl⟩ := whole_int h3
    exact ⟨_, _, rfl, .inr (.inr h1), by simp⟩
  · simp at h
    obtain ⟨h1, h2, h3, h4⟩ := h
    obtain ⟨i, rfl⟩ := whole_int h2
    obtain ⟨j, rfl⟩ := whole_int h3
    obtain ⟨l, rfl⟩ := whole_int h4
    exact ⟨_, _, rfl, .inr (.inl h1), by simp⟩
  · cases h
theorem st_same {ln : List Nat} {m : Int} (hP : isStand (stP ln) m = true) (hn : [45, 48] ∉ splitStr 32 ln) : stL ln = stP ln := by
  obtain ⟨w, r, e, _, _⟩ := isStand_str hP
  unfold stP at e ⊢
  unfold stL
  obtain ⟨v, vs, ev⟩ := sp_ex 32 ln
  rw [ev] at e hn ⊢
  simp at e
  have e1 : pw v = .str v := by
    rcases pw_cases v with q | ⟨i, q⟩
    · exact q
    · rw [q] at e; cases e.1
  show D.tup (.str v :: vs.map lw) = .tup (pw v :: vs.map pw)
  rw [e1]
  congr 2
  refine List.map_congr_left fun x hx => ?_
  unfold lw
  rw [if_neg (fun q : x = [45, 48] => hn (q ▸ List.mem_cons_of_mem _ hx))]
theorem st_same2 {ln : List Nat} {m : Int} (hL : isStand (stL ln) m = true) : stL ln = stP ln ∧ [45, 48] ∉ splitStr 32 ln := by
  obtain ⟨w, r, e, hw, hr⟩ := isStand_str hL
  unfold stL at e ⊢
  unfold stP
  obtain ⟨v, vs, ev⟩ := sp_ex 32 ln
  rw [ev] at e ⊢
  dsimp only at e ⊢
  simp at e
  obtain ⟨e1, e2⟩ := e
  subst e1 e2
  have hno : ∀ x ∈ vs, x ≠ [45, 48] := by
    intro x hx q
    obtain ⟨i, e⟩ := hr (lw x) (List.mem_map_of_mem hx)
    unfold lw at e
    rw [if_pos q] at e
    cases e
  refine ⟨?_, ?_⟩
  · have e1 : pw v = .str v := by rcases hw with rfl | rfl | rfl <;> rfl
    rw [List.map_cons, e1]
    congr 2
    refine List.map_congr_left fun x hx => ?_
    unfold lw
    rw [if_neg (hno x hx)]
  · intro q
    rcases List.mem_cons.mp q with q | q
    · subst q
      rcases hw with q | q | q <;> cases q
    · exact hno _ q rfl
theorem board_stands {xs : List D} (h : isBoard (.tup xs) = true) : ∀ x ∈ xs, isStand x xs.length = true := by
  unfold isBoard at h
  simp at h
  exact h.2.1
theorem read_same {s : List Nat} : isBoard (foundL s) = goodP s ∧ (goodP s = true → foundL s = foundP s) := by
  have a1 : goodP s = true → foundL s = foundP s := fun hg => by
    unfold goodP at hg
    rw [Bool.and_eq_true] at hg
    have hs := board_stands (show isBoard (.tup ((splitStr 10 s).map stP)) = true from hg.1)
    refine congrArg D.tup (List.map_congr_left fun ln hln => ?_)
    have hn := List.all_eq_true.mp hg.2 ln hln
    exact st_same (hs (stP ln) (List.mem_map_of_mem hln)) (by simpa using hn)
  refine ⟨?_, a1⟩
  rw [Bool.eq_iff_iff]
  constructor
  · intro hL
    have hs := board_stands (show isBoard (.tup ((splitStr 10 s).map stL)) = true from hL)
    have he : foundL s = foundP s := congrArg D.tup (List.map_congr_left fun ln hln => (st_same2 (hs (stL ln) (List.mem_map_of_mem hln))).1)
    unfold goodP
    rw [← he, hL, Bool.true_and]
    exact List.all_eq_true.mpr fun ln hln => by
      have := (st_same2 (hs (stL ln) (List.mem_map_of_mem hln))).2
      simpa using this
  · intro hg
    rw [a1 hg]
    unfold goodP at hg
    rw [Bool.and_eq_true] at hg
    exact hg.1
/-! ### the text of a board -/
theorem wcp {s : List Nat} {n : Nat} (h : s.length ≤ n) (hn : n ≤ 100000) (hc : ∀ x ∈ s, x < 128) : Cp s := ⟨by omega, fun x hx => by have := hc x hx; omega⟩
theorem c_text {k : Nat} {B : Board} {S : Store} (h : OkB B 3) : callN prog cfg (k + 1) f_as_text [encB B] S = .ok (.str (textB B)) S ∧ callN prog cfg (k + 1) f_law_text [encB B] S = .ok (.str (textB B)) S := by
  have ht := textB_ok h
  have hcp := wcp ht.2.2.2.1 (by omega) ht.2.2.2.2
  have e1 : textP (textB B) = textB B := by
    have := (textP_eq (s := textB B)).trans ht.2.2.1
    simpa using this
  have e2 := c_astext (k := k) (S := S) hcp (textP_cp hcp)
  rw [e1, ht.2.1] at e2
  refine ⟨e2, ?_⟩
  rw [← e2]
  rfl
theorem good_board {B : Board} {m : Nat} (h : OkB B m) (hm : m ≤ 3) : isBoard (encB B) = true := by
  have e1 : ∀ s : Std, ∀ n : Nat, s.ok n → isStand s.enc n = true := by
    intro s n h
    cases s with
    | fin w => simp [Std.enc, isStand, isWhole, Std.ok] at *; exact h
    | thr c a b => simp [Std.enc, isStand, isWhole, Std.ok] at *; omega
    | cho a b => simp [Std.enc, isStand, isWhole, Std.ok] at *; omega
  have e2 : ∀ s : Std, eqv (hd s.enc) (.str wEnd) = s.isFin := by intro s; cases s <;> rfl
  have e3 : ∀ s : Std, eqv (hd s.enc) (.str wChoose) = s.isCho := by intro s; cases s <;> rfl
  unfold isBoard encB
  dsimp only
  rw [List.length_map, decide_eq_true h.lo, decide_eq_true h.hi, Bool.true_and, Bool.true_and, Bool.and_eq_true, Bool.and_eq_true]
  refine ⟨?_, ?_, ?_⟩
  · rw [List.all_map]
    exact List.all_eq_true.mpr fun s hs => e1 s _ (h.each s hs)
  · rw [List.any_map]
    obtain ⟨s, hs, hf⟩ := h.fin
    exact List.any_eq_true.mpr ⟨s, hs, (e2 s).trans hf⟩
  · rw [List.countP_map]
    have : ((fun x => eqv (hd x) (.str wChoose)) ∘ Std.enc) = Std.isCho := funext e3
    rw [this]
    exact decide_eq_true (Nat.le_trans h.cho hm)
theorem good_text {B : Board} (h : OkB B 3) : goodP (textB B) = true := by
  have ht := textB_ok h
  unfold goodP
  rw [ht.2.1, ht.2.2.1, good_board h (by omega)]
  rfl
/-- a text with an odd line is none of a board -/
theorem bad_line {s ln : List Nat} (h : ln ∈ splitStr 10 s) (hb : ∀ m, isStand (stP ln) m = false) : goodP s = false := by
  cases hg : goodP s with
  | false => rfl
  | true =>
    unfold goodP at hg
    rw [Bool.and_eq_true] at hg
    have := board_stands (show isBoard (.tup ((splitStr 10 s).map stP)) = true from hg.1) (stP ln) (List.mem_map_of_mem h)
    rw [hb] at this
    cases this
theorem sp_end {c : Nat} : ∀ {s : List Nat}, ∃ ws, splitStr c (s ++ [c]) = ws ++ [[]]
  | [] => ⟨[[]], by show splitStr c [c] = _; rw [sp_cons, if_pos rfl]; rfl⟩
  | x :: s => by
    obtain ⟨ws, e⟩ := sp_end (c := c) (s := s)
    show ∃ ws, splitStr c (x :: (s ++ [c])) = ws ++ [[]]
    rw [sp_cons]
    by_cases q : x = c
    · rw [if_pos q, e]
      exact ⟨[] :: ws, rfl⟩
    · rw [if_neg q, e]
      cases ws with
      | nil => exact absurd (congrArg List.length e) (by
          have : ∀ s : List Nat, 2 ≤ (splitStr c (s ++ [c])).length := by
            intro s
            induction s with
            | nil => show 2 ≤ (splitStr c [c]).length; rw [sp_cons, if_pos rfl]; exact Nat.le_refl 2
            | cons y s ih =>
              show 2 ≤ (splitStr c (y :: (s ++ [c]))).length
              rw [sp_cons]
              split
              · simp; omega
              · obtain ⟨w, ws, e⟩ := sp_ex c (s ++ [c])
                rw [e] at ih ⊢
                simpa using ih
          have := this s
          simp
          omega)
      | cons w ws => exact ⟨(x :: w) :: ws, rfl⟩
theorem empty_bad : ∀ m, isStand (stP []) m = false := fun m => rfl
theorem blank_bad {w : List Nat} : ∀ m, isStand (stP (32 :: w)) m = false := fun m => by
  cases h : isStand (stP (32 :: w)) m with
  | false => rfl
  | true =>
    obtain ⟨u, r, e, hu, _⟩ := isStand_str h
    unfold stP at e
    rw [sp_cons, if_pos rfl, List.map_cons] at e
    simp at e
    have e1 : pw [] = .str [] := rfl
    rw [e1] at e
    have := e.1
    simp at this
    subst this
    rcases hu with q | q | q <;> cases q
/-- short rows -/
def Rw (n : Nat) (L : List (List Nat)) : Prop := L.length ≤ n ∧ ∀ w ∈ L, w.length ≤ 174 ∧ ∀ x ∈ w, x < 128
theorem Rw.join {n : Nat} {L : List (List Nat)} (h : Rw n L) (hn : n ≤ 400) {c : Nat} (hc : c < 128) : Cp (joinStr [c] L) ∧ ∀ S, mtD S .join (.str [c]) [.lst (L.map .str)] = some (.str (joinStr [c] L)) := by
  have h1 := jn_len (c := c) (P := fun x => x < 128) (m := 174) hc h.2
  have h2 := sum_le (m := 174) (ss := L) fun w hw => (h.2 w hw).1
  have h3 : L.length * 174 ≤ 400 * 174 := Nat.mul_le_mul_right _ (Nat.le_trans h.1 hn)
  have h4 : L.length * (174 + 1) ≤ 400 * 175 := Nat.mul_le_mul_right _ (Nat.le_trans h.1 hn)
  refine ⟨⟨by have := h1.1; omega, fun x hx => by have := h1.2 x hx; omega⟩, fun S => mt_jn (by have := h.1; simp; omega)⟩
theorem Rw.app {n m : Nat} {A B : List (List Nat)} (h1 : Rw n A) (h2 : Rw m B) : Rw (n + m) (A ++ B) := ⟨by rw [List.length_append]; exact Nat.add_le_add h1.1 h2.1, fun w hw => by
  rcases List.mem_append.mp hw with hw | hw
  · exact h1.2 w hw
  · exact h2.2 w hw⟩
theorem Rw.take {n i : Nat} {A : List (List Nat)} (h : Rw n A) : Rw n (A.take i) := ⟨by rw [List.length_take]; have := h.1; omega, fun w hw => h.2 w (List.mem_of_mem_take hw)⟩
theorem Rw.drop {n i : Nat} {A : List (List Nat)} (h : Rw n A) : Rw n (A.drop i) := ⟨by rw [List.length_drop]; have := h.1; omega, fun w hw => h.2 w (List.mem_of_mem_drop hw)⟩
theorem add_rows {A B : List (List Nat)} (h : A.length + B.length ≤ 1000) : binD .add (.lst (A.map .str)) (.lst (B.map .str)) = some (.lst ((A ++ B).map .str)) := by
  rw [bin_lst (by simp; unfold line; omega), List.map_append]
theorem to_rows {A : List (List Nat)} {i : Nat} {S : Store} : slD S (.lst (A.map .str)) none (some (i : Int)) = some (.lst ((A.take i).map .str)) := by
  rw [List.map_take]
  exact congrArg (fun z => some (D.lst z)) cut_to
theorem fr_rows {A : List (List Nat)} {i : Nat} {S : Store} : slD S (.lst (A.map .str)) (some (i : Int)) none = some (.lst ((A.drop i).map .str)) := by
  rw [List.map_drop]
  exact congrArg (fun z => some (D.lst z)) cut_from
theorem add_txt {s t : List Nat} (h : s.length + t.length ≤ 1000) : binD .add (.str s) (.str t) = some (.str (s ++ t)) := if_pos (by unfold line; omega)
theorem rw_sp {s : List Nat} {c : Nat} (h : s.length ≤ 174) (hc : ∀ x ∈ s, x < 128) : Rw 175 (splitStr c s) := by
  obtain ⟨h1, h2⟩ := sp_len (c := c) (P := fun x => x < 128) hc
  exact ⟨by omega, fun w hw => ⟨Nat.le_trans (h2 w hw).1 h, (h2 w hw).2.2⟩⟩
theorem w_bent {k m : Nat} {s : List Nat} {S : Store} (hB : Dn.Bag S m) (h : s.length ≤ 174) (hc : ∀ x ∈ s, x < 128) : WP (callN prog cfg (k + 3) f_law_bent [.ref m, .str s] S) fun d S' => Dn.Same S S' m ∧ ∃ t, d = .str t ∧ Cp t := by
  rw [call_eq (fn := ⟨2, 6, b_law_bent⟩) rfl rfl]
  have hcp := wcp h (by omega) hc
  have l1 : ∀ S, biD S .len [.str s] = some (.int s.length) := fun S => if_pos (by unfold line; omega)
  simp [b_law_bent, l1]
  refine (w_take hB (by omega)).mono ?_
  rintro _ S1 ⟨at', rfl, hs1, hat⟩
  refine (w_take hs1.1 (by omega)).mono ?_
  rintro _ S2 ⟨way, rfl, hs2, hway⟩
  have hR := rw_sp (c := 10) h hc
  have hRne := sp_ne (c := 10) (r := s)
  have e1 : ∀ S, mtD S .split (.str s) [.str [10]] = some (.lst ((splitStr 10 s).map .str)) := fun S => mt_sp hcp.1 (by decide)
  generalize splitStr 10 s = R at *
  have hRl : 0 < R.length := List.length_pos_iff.mpr hRne
  simp [setAll, e1]
  refine (w_take hs2.1 (by omega)).mono ?_
  rintro _ S3 ⟨ln, rfl, hs3, hln⟩
  have hs := (hs1.trans hs2).trans hs3
  have fini : ∀ {t : List Nat} {S' : Store}, Dn.Same S S' m → Cp t → WP (trim S.length (.str t) S') fun d S' => Dn.Same S S' m ∧ ∃ t, d = .str t ∧ Cp t := by
    intro t S' hs ht
    refine (wp_trim ht.pl').mpr ?_
    rw [hs.take]
    exact ⟨hs, t, rfl, ht⟩
  have t1 : ∀ S, slD S (.str s) none (some (at' : Int)) = some (.str (s.take at')) := fun S => by rw [sl_str hcp.1]; exact congrArg (fun z => some (D.str z)) cut_to
  have t2 : ∀ S, slD S (.str s) (some (at' : Int)) none = some (.str (s.drop at')) := fun S => by rw [sl_str hcp.1]; exact congrArg (fun z => some (D.str z)) cut_from
  have t3 : ∀ S, slD S (.str s) (some ((at' : Int) + 1)) none = some (.str (s.drop (at' + 1))) := fun S => by rw [sl_str hcp.1]; exact congrArg (fun z => some (D.str z)) (cut_from (n := at' + 1))
  have lt : (s.take at').length ≤ 174 := by rw [List.length_take]; omega
  have ld : (s.drop at').length ≤ 174 := by rw [List.length_drop]; omega
  have ld1 : (s.drop (at' + 1)).length ≤ 174 := by rw [List.length_drop]; omega
  have ct : ∀ x ∈ s.take at', x < 1114112 := fun x hx => by have := hc x (List.mem_of_mem_take hx); omega
  have cd : ∀ x ∈ s.drop at', x < 1114112 := fun x hx => by have := hc x (List.mem_of_mem_drop hx); omega
  have cd1 : ∀ x ∈ s.drop (at' + 1), x < 1114112 := fun x hx => by have := hc x (List.mem_of_mem_drop hx); omega
  have r1 : ∀ S, slD S (.lst (R.map .str)) none (some (ln : Int)) = some (.lst ((R.take ln).map .str)) := fun S => to_rows
  have r2 : ∀ S, slD S (.lst (R.map .str)) (some (ln : Int)) none = some (.lst ((R.drop ln).map .str)) := fun S => fr_rows
  have r3 : ∀ S, slD S (.lst (R.map .str)) none (some ((ln : Int) + 1)) = some (.lst ((R.take (ln + 1)).map .str)) := fun S => to_rows (i := ln + 1)
  have r4 : ∀ S, slD S (.lst (R.map .str)) (some ((ln : Int) + 1)) none = some (.lst ((R.drop (ln + 1)).map .str)) := fun S => fr_rows (i := ln + 1)
  have ad : ∀ {A B : List (List Nat)}, Rw 175 A → Rw 175 B → binD .add (.lst (A.map .str)) (.lst (B.map .str)) = some (.lst ((A ++ B).map .str)) := fun {A B} h1 h2 => add_rows (by have := h1.1; have := h2.1; omega)
  have c6 : way = 0 ∨ way = 1 ∨ way = 2 ∨ way = 3 ∨ way = 4 ∨ way = 5 := by omega
  rcases c6 with rfl | rfl | rfl | rfl | rfl | rfl
  · simp
    refine (w_choice hs3.1 (by simp) (by decide)).mono ?_
    rintro d S4 ⟨hs4, hd⟩
    obtain ⟨t, rfl, ht1, ht2⟩ : ∃ t, d = .str t ∧ t.length ≤ 20 ∧ ∀ x ∈ t, x < 1114112 := by
      simp only [List.mem_cons, List.not_mem_nil, or_false] at hd
      rcases hd with rfl | rfl | rfl | rfl | rfl | rfl | rfl | rfl | rfl | rfl <;> exact ⟨_, rfl, by decide, by decide⟩
    simp only [t1, t2, ofO_some, wp_ok]
    rw [add_txt (by omega)]
    simp only [ofO_some, wp_ok]
    rw [add_txt (by simp at lt ld ⊢; omega)]
    simp only [ofO_some, wp_ok]
    refine fini (hs.trans hs4) ⟨by simp at lt ld ⊢; omega, fun x hx => ?_⟩
    rcases List.mem_append.mp hx with hx | hx
    · rcases List.mem_append.mp hx with hx | hx
      · exact ct x hx
      · exact ht2 x hx
    · exact cd x hx
  · simp [t1, t3]
    rw [add_txt (by omega)]
    simp
    refine fini hs ⟨by simp at lt ld1 ⊢; omega, fun x hx => ?_⟩
    rcases List.mem_append.mp hx with hx | hx
    · exact ct x hx
    · exact cd1 x hx
  · obtain ⟨j1, j2⟩ := (Rw.app hR.take hR.drop (A := R.take ln) (B := R.drop (ln + 1))).join (by omega) (c := 10) (by omega)
    simp [r1, r4, ad hR.take hR.drop, j2, -List.map_append, -List.map_take, -List.map_drop]
    exact fini hs j1
  · obtain ⟨j1, j2⟩ := (Rw.app hR.take hR.drop (A := R.take (ln + 1)) (B := R.drop ln)).join (by omega) (c := 10) (by omega)
    simp [r3, r2, ad hR.take hR.drop, j2, -List.map_append, -List.map_take, -List.map_drop]
    exact fini hs j1
  · obtain ⟨j1, j2⟩ := (Rw.app hR.drop hR.take (A := R.drop ln) (B := R.take ln)).join (by omega) (c := 10) (by omega)
    simp [r1, r2, ad hR.drop hR.take, j2, -List.map_append, -List.map_take, -List.map_drop]
    exact fini hs j1
  · have hlnR : ln < R.length := by omega
    have hrow := hR.2 R[ln] (List.getElem_mem hlnR)
    have e2 : ∀ S, ixD S (.lst (R.map .str)) (.int (ln : Int)) = some (.str R[ln]) := fun S => by rw [ixNl (by simpa using hlnR)]; simp [hlnR]
    have hcr := wcp hrow.1 (by omega) hrow.2
    have e3 : ∀ S, mtD S .split (.str R[ln]) [.str [32]] = some (.lst ((splitStr 32 R[ln]).map .str)) := fun S => mt_sp hcr.1 (by decide)
    have hW := rw_sp (c := 32) hrow.1 hrow.2
    have htot := jn_total (c := 32) (ss := splitStr 32 R[ln]) sp_ne
    rw [jn_sp] at htot
    obtain ⟨w, ws, ew⟩ := sp_ex 32 R[ln]
    rw [ew] at e3 hW htot
    have e4 : ∀ S, slD S (.lst ((w :: ws).map .str)) none (some 1) = some (.lst ([w].map .str)) := fun S => to_rows (i := 1)
    have e5 : rev1D (.lst ((w :: ws).map .str)) = some (.lst (ws.reverse.map .str)) := by
      show some (D.lst (((w :: ws).map D.str).drop 1).reverse) = _
      rw [List.map_cons, List.drop_one, List.tail_cons, List.map_reverse]
    have hWr : Rw 175 (w :: ws.reverse) := ⟨by have := hW.1; simp at this ⊢; exact this, fun v hv => hW.2 v (by
      rcases List.mem_cons.mp hv with rfl | hv
      · simp
      · exact List.mem_cons_of_mem _ (List.mem_reverse.mp hv))⟩
    have e6 : binD .add (.lst ([w].map .str)) (.lst (ws.reverse.map .str)) = some (.lst ((w :: ws.reverse).map .str)) := add_rows (A := [w]) (by have := hWr.1; simp at this ⊢; omega)
    obtain ⟨j1, j2⟩ := hWr.join (by omega) (c := 32) (by omega)
    have hin : Rw 1 [joinStr [32] (w :: ws.reverse)] := ⟨by simp, fun v hv => by
      simp at hv
      subst hv
      have h1 := jn_total (c := 32) (ss := w :: ws.reverse) (by simp)
      have h2 := jn_len (c := 32) (P := fun x => x < 128) (m := 174) (by decide) hWr.2
      refine ⟨?_, h2.2⟩
      simp at h1 htot
      have := hrow.1
      omega⟩
    obtain ⟨q1, q2⟩ := ((hR.take (i := ln)).app hin |>.app (hR.drop (i := ln + 1))).join (by omega) (c := 10) (by omega)
    have e7 : binD .add (.lst ((R.take ln).map .str)) (.lst [.str (joinStr [32] (w :: ws.reverse))]) = some (.lst ((R.take ln ++ [joinStr [32] (w :: ws.reverse)]).map .str)) := add_rows (B := [joinStr [32] (w :: ws.reverse)]) (by have := (hR.take (i := ln)).1; simp at this ⊢; omega)
    have e8 : binD .add (.lst ((R.take ln ++ [joinStr [32] (w :: ws.reverse)]).map .str)) (.lst ((R.drop (ln + 1)).map .str)) = some (.lst ((R.take ln ++ [joinStr [32] (w :: ws.reverse)] ++ R.drop (ln + 1)).map .str)) := add_rows (by have := (hR.take (i := ln)).1; have := (hR.drop (i := ln + 1)).1; simp at *; omega)
    simp only [List.map_cons, List.map_nil] at e3 e4 e5 e6 j2
    have hh : R.take ln ++ [joinStr [32] (w :: ws.reverse)] ++ R.drop (ln + 1) = R.take ln ++ joinStr [32] (w :: ws.reverse) :: R.drop (ln + 1) := by simp
    rw [hh] at e8 q1 q2
    simp [e2, e3, e4, e5, e6, j2, r1, r4, e7, e8, q2, -List.map_append, -List.map_take, -List.map_drop, -List.map_reverse]
    exact fini hs q1
theorem c_btext {k : Nat} {B : Board} {S : Store} (h : OkB B 3) : callN prog cfg (k + 6) f_board_text [encB B] S = .ok (.str (textB B)) S := by
  rw [call_eq (fn := ⟨1, 0, b_board_text⟩) rfl rfl]
  have hn : ∀ S, callN prog cfg (k + 5) 5 [encB B] S = .ok .non S := fun S => by
    rw [call_eq (fn := ⟨1, 0, b_need_board⟩) rfl rfl]
    simp [b_need_board, c_board pl_encB, good_board h (by omega)]
  have ht := textB_ok h
  simp [b_board_text, hn, (c_text h).1]
  exact (trim_pl (wcp ht.2.2.2.1 (by omega) ht.2.2.2.2).pl').trans (by simp)
theorem c_btext_bad {k : Nat} {v : D} {S : Store} (h : pl v = true) (hb : isBoard v = false) : callN prog cfg (k + 6) f_board_text [v] S = .exc 1 S := by
  rw [call_eq (fn := ⟨1, 0, b_board_text⟩) rfl rfl]
  have hn : ∀ S, callN prog cfg (k + 5) 5 [v] S = .exc 1 S := fun S => by
    rw [call_eq (fn := ⟨1, 0, b_need_board⟩) rfl rfl]
    simp [b_need_board, c_board h, hb]
  simp [b_board_text, hn]
theorem c_read_no {k : Nat} {v : D} {S : Store} (hf : fl v = true) (h : tyD .str v = false) : callN prog cfg (k + 5) f_read_board [v] S = .exc 8 S := by
  rw [call_eq (fn := ⟨1, 3, b_read_board⟩) rfl rfl]
  simp [b_read_board, hf, h]
theorem lamT_ex {r L : Fs} {C : Call} {G : Cfg} {σ : Pf.Env} {S S1 : Store} {f c : Nat} {e : E} {s : List Nat} (h : L.e σ e S = .exc c S1) (hg : G.errs[c]? = some s) : stepE r L C G σ (.lam true f e) S = .ok (.tup [.non, .str s]) S1 := by
  unfold stepE
  simp only [h, hg]
theorem lamT_ok {r L : Fs} {C : Call} {G : Cfg} {σ : Pf.Env} {S S1 : Store} {f : Nat} {e : E} {d : D} (h : L.e σ e S = .ok d S1) : stepE r L C G σ (.lam true f e) S = .ok (.tup [d, .str []]) S1 := by
  unfold stepE
  simp only [h]
abbrev tv : List Nat := [116, 101, 120, 116, 32, 118, 97, 108, 117, 101]
abbrev bv : List Nat := [98, 111, 97, 114, 100, 32, 118, 97, 108, 117, 101]
/-- what a lambda over read_board tells -/
theorem lam_read {v : D} {j : Nat} (r : Fs) (C : Call) (σ : Pf.Env) (S : Store) (hσ : σ[j]? = some (some v)) (h : ∀ S, callN prog cfg 98 9 [v] S = .exc 8 S) : stepE r (lamN prog cfg 100) C cfg σ (.lam true 0 (.call 9 [.var j])) S = .ok (.tup [.non, .str tv]) S :=
  lamT_ex (c := 8) (S1 := S) (by rw [lamN_eq]; simp [hσ, h]) rfl
theorem lam_btext {v : D} {j : Nat} (r : Fs) (C : Call) (σ : Pf.Env) (S : Store) (hσ : σ[j]? = some (some v)) (h : ∀ S, callN prog cfg 98 7 [v] S = .exc 1 S) : stepE r (lamN prog cfg 100) C cfg σ (.lam true 0 (.call 7 [.var j])) S = .ok (.tup [.non, .str bv]) S :=
  lamT_ex (c := 1) (S1 := S) (by rw [lamN_eq]; simp [hσ, h]) rfl
theorem law_says (ns : List Int) : WP (callN prog cfg 101 f_law [.scr (ns.map .int)] []) fun d _ => d = .bl true := by
  rw [call_eq (fn := ⟨1, 10, b_law⟩) rfl rfl]
  have r10 : rngD 0 10 = some ((List.range 10).map fun (i : Nat) => .int (i : Int)) := rngD_nat (n := 10) (by omega)
  have r14 : rngD 0 14 = some ((List.range 14).map fun (i : Nat) => .int (i : Int)) := rngD_nat (n := 14) (by omega)
  have dtv : ∀ S, Pf.dataOf S (.tup [.non, .str tv]) = some (.tup [.non, .str tv]) := fun S => dataOf_pl (Eq.trans rfl rfl) (by decide)
  have dbv : ∀ S, Pf.dataOf S (.tup [.non, .str bv]) = some (.tup [.non, .str bv]) := fun S => dataOf_pl (Eq.trans rfl rfl) (by decide)
  have etv : eqv (.tup [.non, .str tv]) (.tup [.non, .str tv]) = true := by decide
  have ebv : eqv (.tup [.non, .str bv]) (.tup [.non, .str bv]) = true := by decide
  simp [b_law, r10]
  refine wp_forT (fun done ys σ S => ∃ a1 a2 a3 a4 a5 a6 a7 a8 a9 a10, σ = [some (.scr (ns.map .int)), a1, a2, a3, a4, a5, a6, a7, a8, a9, a10]) ⟨_, _, _, _, _, _, _, _, _, _, rfl⟩ ?_ ?_
  · rintro done j ys σ S hd ⟨a1, a2, a3, a4, a5, a6, a7, a8, a9, a10, rfl⟩
    refine ⟨_, rfl, ?_⟩
    have hj : j < 10 := List.mem_range.mp (by rw [← hd]; simp)
    simp
    refine (b_bag (by omega)).mono ?_
    rintro _ S1 ⟨rfl, bs, rfl⟩
    have hB : Dn.Bag (S ++ [Cell.lst (bs.map .int)]) S.length := ⟨bs, by simp⟩
    generalize S ++ [Cell.lst (bs.map .int)] = S1 at hB ⊢
    generalize S.length = m at hB ⊢
    refine (w_board (most := 3) hB (by omega)).mono ?_
    rintro _ S2 ⟨hs2, B, rfl, h, hl3⟩
    have ht := textB_ok h
    have hcp := wcp ht.2.2.2.1 (by omega) ht.2.2.2.2
    have dtx : ∀ S, Pf.dataOf S (.str (textB B)) = some (.str (textB B)) := fun S => d_str hcp.pl'
    have dB : ∀ S, Pf.dataOf S (encB B) = some (encB B) := fun S => dataOf_pl (Eq.trans rfl rfl) pl_encB
    have eB : eqv (encB B) (encB B) = true := eqv_self pl_encB
    have hrd : ∀ S, callN prog cfg 100 9 [.str (textB B)] S = .ok (encB B) S := fun S => by rw [c_read hcp, good_text h, ht.2.1]; rfl
    simp [(c_text h).2, c_btext h, dtx, hrd, dB, eB, r14]
    refine wp_forT (fun done ys σ S => Dn.Same S2 S m ∧ ∃ a1 a2 a6 a7 a8 a9 a10, σ = [some (.scr (ns.map .int)), a1, a2, some (.str (textB B)), some (.ref m), some (encB B), a6, a7, a8, a9, a10]) ⟨Same.refl hs2.1, _, _, _, _, _, _, _, rfl⟩ ?_ ?_
    · rintro done i ys σ S3 hd3 ⟨hs3, a1, a2, a6, a7, a8, a9, a10, rfl⟩
      refine ⟨_, rfl, ?_⟩
      simp
      refine (w_bent hs3.1 ht.2.2.2.1 ht.2.2.2.2).mono ?_
      rintro _ S4 ⟨hs4, t, rfl, htc⟩
      obtain ⟨hb1, hb2⟩ := read_same (s := t)
      have hlr : ∀ S, callN prog cfg 100 19 [.str t] S = .ok (if goodP t = true then foundL t else .non) S := fun S => by rw [c_lread htc, hb1]
      cases hg : goodP t with
      | false =>
        have hx : ∀ S, callN prog cfg 98 9 [.str t] S = .exc 8 S := fun S => by rw [c_read htc, hg]; rfl
        rw [hg] at hlr
        simp at hlr
        simp [hlr, lam_read (v := .str t) (j := 8) (h := hx), dtv, etv]
        exact hs3.trans hs4
      | true =>
        have hx : ∀ S, callN prog cfg 98 9 [.str t] S = .ok (foundP t) S := fun S => by rw [c_read htc, hg]; rfl
        have hL : ∀ (r : Fs) (C : Call) (σ : Pf.Env) (S : Store), σ[8]? = some (some (.str t)) → stepE r (lamN prog cfg 100) C cfg σ (.lam true 0 (.call 9 [.var 8])) S = .ok (.tup [foundP t, .str []]) S := fun r C σ S hσ => lamT_ok (by rw [lamN_eq]; simp [hσ, hx])
        rw [hg, hb2 hg] at hlr
        simp at hlr
        have hni : isNon (foundP t) = false := Eq.trans rfl rfl
        have hplt : pl (.tup [foundP t, .str []]) = true := by
          have h1 := pl_foundP htc
          have h2 : plN 4 (.tup [foundP t, .str []]) = true := by
            have : plN 3 (foundP t) = true := List.all_eq_true.mpr fun y hy => by
              obtain ⟨ln, hln, rfl⟩ := List.mem_map.mp hy
              exact List.all_eq_true.mpr fun z hz => by
                obtain ⟨w, hw, rfl⟩ := List.mem_map.mp hz
                exact plN_pw ((htc.sub ln hln).sub w hw)
            show ([foundP t, .str []].all (plN 3)) = true
            rw [List.all_cons, this]
            rfl
          exact plN_up h2 (by omega)
        have dd : ∀ S, Pf.dataOf S (.tup [foundP t, .str []]) = some (.tup [foundP t, .str []]) := fun S => dataOf_pl (Eq.trans rfl rfl) hplt
        simp [hlr, hL, hni, dd, eqv_self hplt]
        exact hs3.trans hs4
    · rintro σ S3 ⟨hs3, a1, a2, a6, a7, a8, a9, a10, rfl⟩
      have b1 : binD .add (.str (textB B)) (.str [10]) = some (.str (textB B ++ [10])) := add_txt (by have := ht.2.2.2.1; simp; omega)
      have b2 : binD .add (.str [10]) (.str (textB B)) = some (.str ([10] ++ textB B)) := add_txt (by have := ht.2.2.2.1; simp; omega)
      have b3 : binD .add (.str [32]) (.str (textB B)) = some (.str ([32] ++ textB B)) := add_txt (by have := ht.2.2.2.1; simp; omega)
      have ccat : ∀ c, c < 128 → Cp (textB B ++ [c]) ∧ Cp (c :: textB B) := fun c hc => ⟨⟨by have := ht.2.2.2.1; simp; omega, fun x hx => by
        rcases List.mem_append.mp hx with hx | hx
        · have := ht.2.2.2.2 x hx; omega
        · simp at hx; omega⟩, ⟨by have := ht.2.2.2.1; simp; omega, fun x hx => by
        rcases List.mem_cons.mp hx with hx | hx
        · omega
        · have := ht.2.2.2.2 x hx; omega⟩⟩
      have no : ∀ {t : List Nat}, Cp t → goodP t = false → ∀ S, callN prog cfg 98 9 [.str t] S = .exc 8 S := fun h1 h2 S => by rw [c_read h1, h2]; rfl
      simp [b1, b2, b3]
      refine wp_for (fun ys σ S => (∀ y ∈ ys, ∀ S, callN prog cfg 98 9 [y] S = .exc 8 S) ∧ ∃ a1 a2 a6 a7 a8 a9 a10, σ = [some (.scr (ns.map .int)), a1, a2, some (.str (textB B)), some (.ref m), some (encB B), a6, a7, a8, a9, a10]) ⟨?_, _, _, _, _, _, _, _, rfl⟩ ?_ ?_
      · intro y hy
        simp only [List.mem_cons, List.not_mem_nil, or_false] at hy
        rcases hy with rfl | rfl | rfl | rfl | rfl | rfl | rfl | rfl
        · exact fun S => c_read_no (Eq.trans rfl rfl) rfl
        · exact fun S => c_read_no (Eq.trans rfl rfl) rfl
        · exact no ⟨by simp, by simp⟩ (by decide +kernel)
        · exact no ⟨by simp, by decide⟩ (by decide +kernel)
        · exact fun S => c_read_no (Eq.trans rfl rfl) rfl
        · refine no (ccat 10 (by omega)).1 ?_
          obtain ⟨ws, e⟩ := sp_end (c := 10) (s := textB B)
          exact bad_line (ln := []) (by rw [e]; simp) empty_bad
        · refine no (ccat 10 (by omega)).2 ?_
          exact bad_line (ln := []) (by rw [sp_cons, if_pos rfl]; simp) empty_bad
        · refine no (ccat 32 (by omega)).2 ?_
          obtain ⟨w, ws, e⟩ := sp_ex 10 (textB B)
          exact bad_line (ln := 32 :: w) (by rw [sp_cons, if_neg (by decide), e]; simp) blank_bad
      · rintro y ys σ S4 ⟨hy, a1, a2, a6, a7, a8, a9, a10, rfl⟩
        refine ⟨_, rfl, ?_⟩
        simp [lam_read (v := y) (j := 7) (h := hy y List.mem_cons_self), dtv, etv]
        exact fun z hz => hy z (List.mem_cons_of_mem _ hz)
      · rintro σ S4 ⟨hy, a1, a2, a6, a7, a8, a9, a10, rfl⟩
        have z4 : ∀ S, slD S (encB B) none (some 1) = some (.tup ((B.map Std.enc).take 1)) := fun S => congrArg (fun z => some (D.tup z)) (cut_to (n := 1))
        have z2 : pl (.tup ((B.map Std.enc).take 1)) = true := pl_tsub (pl_encB (B := B)) fun y hy => List.mem_of_mem_take hy
        have z3 : isBoard (.tup ((B.map Std.enc).take 1)) = false := by
          unfold isBoard
          dsimp only
          rw [decide_eq_false (by simp; omega), Bool.false_and, Bool.false_and]
        simp [z4, -List.map_take]
        refine wp_for (fun ys σ S => (∀ y ∈ ys, ∀ S, callN prog cfg 98 7 [y] S = .exc 1 S) ∧ ∃ a1 a2 a3 a4 a5 a6 a7 a8 a9 a10, σ = [some (.scr (ns.map .int)), a1, a2, a3, a4, a5, a6, a7, a8, a9, a10]) ⟨?_, _, _, _, _, _, _, _, _, _, _, rfl⟩ ?_ ?_
        · intro y hy
          simp only [List.mem_cons, List.not_mem_nil, or_false] at hy
          rcases hy with rfl | rfl | rfl
          · exact fun S => c_btext_bad (by decide) rfl
          · exact fun S => c_btext_bad hcp.pl' rfl
          · exact fun S => c_btext_bad z2 z3
        · rintro y ys σ S5 ⟨hy, a1, a2, a3, a4, a5, a6, a7, a8, a9, a10, rfl⟩
          refine ⟨_, rfl, ?_⟩
          simp [lam_btext (v := y) (j := 7) (h := hy y List.mem_cons_self), dbv, ebv]
          exact fun z hz => hy z (List.mem_cons_of_mem _ hz)
        · rintro σ S5 ⟨hy, a1, a2, a3, a4, a5, a6, a7, a8, a9, a10, rfl⟩
          simp
  · rintro σ S ⟨a1, a2, a3, a4, a5, a6, a7, a8, a9, a10, rfl⟩
    have no : ∀ {t : List Nat}, Cp t → goodP t = false → ∀ S, callN prog cfg 98 9 [.str t] S = .exc 8 S := fun h1 h2 S => by rw [c_read h1, h2]; rfl
    have al : binD .add (.lst [.str [101, 110, 100, 32, 48, 49, 10, 101, 110, 100, 32, 49], .str [101, 110, 100, 32, 45, 48, 10, 101, 110, 100, 32, 49], .str [101, 110, 100, 32, 32, 49, 10, 101, 110, 100, 32, 49], .str [69, 110, 100, 32, 49, 10, 101, 110, 100, 32, 49], .str [116, 104, 114, 111, 119, 32, 49, 32, 48, 10, 101, 110, 100, 32, 49]]) (.lst [.str [101, 110, 100, 32, 49, 10, 101, 110, 100, 32, 49, 48]]) = some (.lst [.str [101, 110, 100, 32, 48, 49, 10, 101, 110, 100, 32, 49], .str [101, 110, 100, 32, 45, 48, 10, 101, 110, 100, 32, 49], .str [101, 110, 100, 32, 32, 49, 10, 101, 110, 100, 32, 49], .str [69, 110, 100, 32, 49, 10, 101, 110, 100, 32, 49], .str [116, 104, 114, 111, 119, 32, 49, 32, 48, 10, 101, 110, 100, 32, 49], .str [101, 110, 100, 32, 49, 10, 101, 110, 100, 32, 49, 48]]) := bin_lst (by unfold line; simp)
    simp [al]
    refine wp_for (fun ys σ S => (∀ y ∈ ys, ∀ S, callN prog cfg 98 9 [y] S = .exc 8 S) ∧ ∃ a1 a2 a3 a4 a5 a6 a7 a8 a9 a10, σ = [some (.scr (ns.map .int)), a1, a2, a3, a4, a5, a6, a7, a8, a9, a10]) ⟨?_, _, _, _, _, _, _, _, _, _, _, rfl⟩ ?_ ?_
    · intro y hy
      simp only [List.mem_cons, List.not_mem_nil, or_false] at hy
      rcases hy with rfl | rfl | rfl | rfl | rfl | rfl
      all_goals exact no ⟨by simp, by decide⟩ (by decide +kernel)
    · rintro y ys σ S5 ⟨hy, a1, a2, a3, a4, a5, a6, a7, a8, a9, a10, rfl⟩
      refine ⟨_, rfl, ?_⟩
      simp [lam_read (v := y) (j := 3) (h := hy y List.mem_cons_self), dtv, etv]
      exact fun z hz => hy z (List.mem_cons_of_mem _ hz)
    · rintro σ S5 ⟨hy, a1, a2, a3, a4, a5, a6, a7, a8, a9, a10, rfl⟩
      have v1 : ∀ S, valOf (callN prog cfg 100 9 [.str [99, 104, 111, 111, 115, 101, 32, 48, 32, 49, 10, 101, 110, 100, 32, 45, 57]] S) = some (.tup [.tup [.str [99, 104, 111, 111, 115, 101], .int 0, .int 1], .tup [.str [101, 110, 100], .int (-9)]]) := fun S => by kernel_rfl
      have v2 : ∀ S, valOf (callN prog cfg 100 7 [.tup [.tup [.str [101, 110, 100], .int (-3)], .tup [.str [101, 110, 100], .int 0]]] S) = some (.str [101, 110, 100, 32, 45, 51, 10, 101, 110, 100, 32, 48]) := fun S => by kernel_rfl
      have q1 : ∀ S, Pf.dataOf S (.tup [.tup [.str [99, 104, 111, 111, 115, 101], .int 0, .int 1], .tup [.str [101, 110, 100], .int (-9)]]) = some (.tup [.tup [.str [99, 104, 111, 111, 115, 101], .int 0, .int 1], .tup [.str [101, 110, 100], .int (-9)]]) := fun S => dataOf_pl (Eq.trans rfl rfl) (by decide)
      have q2 : ∀ S, Pf.dataOf S (.str [101, 110, 100, 32, 45, 51, 10, 101, 110, 100, 32, 48]) = some (.str [101, 110, 100, 32, 45, 51, 10, 101, 110, 100, 32, 48]) := fun S => d_str (by decide)
      have t1 : eqv (.tup [.tup [.str [99, 104, 111, 111, 115, 101], .int 0, .int 1], .tup [.str [101, 110, 100], .int (-9)]]) (.tup [.tup [.str [99, 104, 111, 111, 115, 101], .int 0, .int 1], .tup [.str [101, 110, 100], .int (-9)]]) = true := by decide
      simp
      refine (wp_val (v1 _)).mono ?_
      rintro _ S6 rfl
      simp [q1, t1]
      refine (wp_val (v2 _)).mono ?_
      rintro _ S7 rfl
      simp [q2]
end K21

end
section
open Pf PySem PySem.W PySem.Calls PyProof.Rows
theorem K21.run (w : World) : HandSHeadRun.RunEq K21.R (PySem.W.view K21.R.prog [K21.lawTop]) K21.hk K21.ob 6000 K21.loose w := by
  intro os
  kernel_rfl
theorem K21.chk : chkW K21.nm K21.defs K21.xs K21.prog K21.cfg.errs = true := by decide +kernel
theorem K21.says : ∀ ns : List Int, ns.length ≤ 63 → ∃ S', callN K21.prog K21.cfg 101 K21.f_law [.scr (ns.map .int)] [] = .ok (.bl true) S' := fun ns _ => by
  obtain ⟨d, S', e, rfl⟩ := K21.law_says ns
  exact ⟨S', e⟩
theorem PySem.Challenge.cw_anybias_k21_texts_of_boards_holds : PySem.Challenge.rw_anybias_k21_texts_of_boards.Holds := by
  w_on; o_law
  refine HandSHeadRun.head_any (r := K21.R) (q := view K21.R.prog [K21.lawTop]) (H := K21.hk) (ob := K21.ob) (M := 6000) (loose := K21.loose) (d := HandSHeadRun.topDef K21.R.prog K21.lawTop) (kwd := []) K21.ob_eq
    (by kernel_rfl) (fun s => by kernel_rfl) K21.run (by kernel_rfl) (by kernel_rfl) (by kernel_rfl) (by rfl) (by first | assumption | decide +kernel) (by decide +kernel) ⟨rfl, rfl, rfl, rfl, rfl, by decide +kernel⟩ ?hw ?hc
  case hw => w_witness2
  case hc =>
    refine LamX.walk_ofTsE (l := K21.lawRow) (n := 63) (k := 101) (x := "script") (CX := fun w => L2N.CX K21.lawRow.prog w) rfl (by decide) (by kernel_rfl) ⟨rfl, by decide, by decide⟩ ?F fun w H s e s' z => cx_calm H s e s' z
    intro w mg fa h Y G hmg0
    have hmg : mg ("law" : PySem.Str) = some (.ref fa) := by
      have e : (HandSHeadRun.topDef K21.R.prog K21.lawTop).name = ("law" : PySem.Str) := by kernel_rfl
      rw [← e]
      exact hmg0
    exact law_end (k := 100) (i := K21.ixLaw) (G := K21.cfg) (N := (K21.defs.getD K21.ixLaw ([], K21.d_law)).1) (d := K21.d_law) K21.chk rfl rfl (by decide +kernel) K21.says w mg fa h Y G hmg

end
