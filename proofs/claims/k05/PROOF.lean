import PyProof.Rows.All
import Wide.All
import OpenK.AllK
import Wide.FinOn
import HandS.ForMost
import HandS.Flow
import HandS.Style
import HandS.TupAny
import HandS.TupLe
import HandS.Deep
import HandS.Conv
import HandS.FStr
import HandS.SortInts
import HandS.Strs
import HandS.Small
import KE.KDictKeyed
import HandS.IsInst
import HandS.More
import HandS.TryOnly
import PySem.Challenge.RW_pagewake_k05_values_of_expressions
set_option Elab.async false
set_option linter.all false
set_option maxRecDepth 100000
section

/-! Ev: values as trees, memory of cells, the syntax tree of the fragment, its evaluator. -/
namespace Pw

abbrev LIM : Nat := 16777216

inductive D where
  | non | bl (b : Bool) | int (i : Int) | str (s : String) | tup (xs : List D) | ref (n : Nat) | scr
  deriving Inhabited

mutual
def D.beq : D → D → Bool
  | .non, .non => true
  | .bl a, .bl b => a == b
  | .int a, .int b => decide (a = b)
  | .str a, .str b => decide (a = b)
  | .tup xs, .tup ys => D.beqs xs ys
  | .ref a, .ref b => decide (a = b)
  | .scr, .scr => true
  | _, _ => false
def D.beqs : List D → List D → Bool
  | [], [] => true
  | x :: xs, y :: ys => D.beq x y && D.beqs xs ys
  | _, _ => false
end
mutual
theorem D.eq_of_beq : ∀ {a b : D}, D.beq a b = true → a = b
  | .non, b, h => by cases b <;> simp_all [D.beq]
  | .bl a, b, h => by cases b <;> simp_all [D.beq]
  | .int a, b, h => by cases b <;> simp_all [D.beq]
  | .str a, b, h => by cases b <;> simp_all [D.beq]
  | .ref a, b, h => by cases b <;> simp_all [D.beq]
  | .scr, b, h => by cases b <;> simp_all [D.beq]
  | .tup xs, b, h => by
    cases b with
    | tup ys => exact congrArg D.tup (D.eqs_of_beqs (by simpa [D.beq] using h))
    | _ => simp [D.beq] at h
theorem D.eqs_of_beqs : ∀ {xs ys : List D}, D.beqs xs ys = true → xs = ys
  | [], ys, h => by cases ys <;> simp_all [D.beqs]
  | x :: xs, ys, h => by
    cases ys with
    | nil => simp [D.beqs] at h
    | cons y ys =>
      simp only [D.beqs, Bool.and_eq_true] at h
      rw [D.eq_of_beq h.1, D.eqs_of_beqs h.2]
end
mutual
theorem D.beq_self : ∀ a : D, D.beq a a = true
  | .non => rfl
  | .bl a => by simp [D.beq]
  | .int a => by simp [D.beq]
  | .str a => by simp [D.beq]
  | .ref a => by simp [D.beq]
  | .scr => rfl
  | .tup xs => by simpa [D.beq] using D.beqs_self xs
theorem D.beqs_self : ∀ xs : List D, D.beqs xs xs = true
  | [] => rfl
  | x :: xs => by simp [D.beqs, D.beq_self x, D.beqs_self xs]
end
instance : DecidableEq D := fun a b =>
  if h : D.beq a b = true then .isTrue (D.eq_of_beq h) else .isFalse fun e => h (e ▸ D.beq_self a)

inductive MO where
  | lst (xs : List D) | dic (kvs : List (D × D)) | ins (c : String) (fs : List (String × D))
  deriving Inhabited, DecidableEq

abbrev Mem := List MO
abbrev VEnv := List (Option D)

/-! ### plain data, equality -/
mutual
/-- no cell in it, nested at most n deep -/
def D.plain : Nat → D → Bool
  | _, .ref _ => false
  | _, .scr => false
  | 0, .tup _ => false
  | n + 1, .tup xs => D.plains n xs
  | _, _ => true
def D.plains : Nat → List D → Bool
  | _, [] => true
  | n, x :: xs => D.plain n x && D.plains n xs
end
def b2i (b : Bool) : Int := if b then 1 else 0
mutual
/-- == of plain data -/
def D.eqv : D → D → Bool
  | .non, .non => true
  | .bl a, .bl b => a == b
  | .bl a, .int b => decide (b2i a = b)
  | .int a, .bl b => decide (a = b2i b)
  | .int a, .int b => decide (a = b)
  | .str a, .str b => decide (a = b)
  | .tup xs, .tup ys => D.eqvs xs ys
  | _, _ => false
def D.eqvs : List D → List D → Bool
  | [], [] => true
  | x :: xs, y :: ys => D.eqv x y && D.eqvs xs ys
  | _, _ => false
end
/-- data with lists in it -/
inductive PV where
  | non | bl (b : Bool) | int (i : Int) | str (s : String) | tup (xs : List PV) | lst (xs : List PV)
mutual
def PV.eqv : PV → PV → Bool
  | .non, .non => true
  | .bl a, .bl b => a == b
  | .bl a, .int b => decide (b2i a = b)
  | .int a, .bl b => decide (a = b2i b)
  | .int a, .int b => decide (a = b)
  | .str a, .str b => decide (a = b)
  | .tup xs, .tup ys => PV.eqvs xs ys
  | .lst xs, .lst ys => PV.eqvs xs ys
  | _, _ => false
def PV.eqvs : List PV → List PV → Bool
  | [], [] => true
  | x :: xs, y :: ys => PV.eqv x y && PV.eqvs xs ys
  | _, _ => false
end
def mapO {α β : Type} (f : α → Option β) : List α → Option (List β)
  | [] => some []
  | x :: xs => match f x with
    | none => none
    | some y => match mapO f xs with
      | none => none
      | some ys => some (y :: ys)
/-- the data that a value stands for, at most n deep -/
def reify : Nat → Mem → D → Option PV
  | _, _, .non => some .non
  | _, _, .bl b => some (.bl b)
  | _, _, .int i => some (.int i)
  | _, _, .str s => some (.str s)
  | n + 1, M, .tup xs => (mapO (reify n M) xs).map .tup
  | n + 1, M, .ref p => match M[p]? with
    | some (.lst xs) => (mapO (reify n M) xs).map .lst
    | _ => none
  | _, _, _ => none
def eqD (M : Mem) (a b : D) : Option Bool :=
  if a.plain 60 = true ∧ b.plain 60 = true then some (a.eqv b) else
  match reify 60 M a, reify 60 M b with
  | some x, some y => some (x.eqv y)
  | _, _ => none
/-- is x among xs -/
def inD (M : Mem) (x : D) : List D → Option Bool
  | [] => if x.plain 60 = true then some false else (reify 60 M x).map fun _ => false
  | y :: ys => match eqD M y x, inD M x ys with
    | some a, some b => some (a || b)
    | _, _ => none
/-- the first place of x -/
def indexD (M : Mem) (x : D) : List D → Option Nat
  | [] => none
  | y :: ys => match eqD M y x with
    | some true => some 0
    | some false => (indexD M x ys).map (· + 1)
    | none => none

/-! ### dicts -/
mutual
def D.key : Nat → D → Bool
  | _, .non => true
  | _, .int _ => true
  | _, .str _ => true
  | n + 1, .tup xs => D.keys n xs
  | _, _ => false
def D.keys : Nat → List D → Bool
  | _, [] => true
  | n, x :: xs => D.key n x && D.keys n xs
end
def D.isTup : D → Bool
  | .tup _ => true
  | _ => false
/-- k may be asked of, or put into, a dict with these entries: all keys are tuples, or none is -/
def keyOk (kvs : List (D × D)) (k : D) : Bool := k.key 8 && match kvs with
  | [] => true
  | p :: _ => p.1.isTup == k.isTup
def dget (k : D) : List (D × D) → Option D
  | [] => none
  | (a, v) :: r => if a = k then some v else dget k r
def dput (k v : D) : List (D × D) → List (D × D)
  | [] => [(k, v)]
  | (a, w) :: r => if a = k then (a, v) :: r else (a, w) :: dput k v r
def fget (f : String) : List (String × D) → Option D
  | [] => none
  | (a, v) :: r => if a = f then some v else fget f r
def fput (f : String) (v : D) : List (String × D) → List (String × D)
  | [] => [(f, v)]
  | (a, w) :: r => if a = f then (a, v) :: r else (a, w) :: fput f v r

/-! ### places and slices -/
def pyIx (n : Nat) (i : Int) : Option Nat :=
  if 0 ≤ i then (if i < n then some i.toNat else none) else if 0 ≤ i + n then some (i + n).toNat else none
def clampIx (n : Nat) (i : Int) : Nat := if i < 0 then (i + n).toNat else min i.toNat n
def loIx (n : Nat) : Option Int → Nat
  | none => 0
  | some i => clampIx n i
def hiIx (n : Nat) : Option Int → Nat
  | none => n
  | some i => clampIx n i
def cutL {α : Type} (xs : List α) (lo hi : Option Int) : List α := (xs.drop (loIx xs.length lo)).take (hiIx xs.length hi - loIx xs.length lo)

/-! ### texts -/
def splitC (c : Char) : List Char → List (List Char)
  | [] => [[]]
  | x :: r => if x = c then [] :: splitC c r else match splitC c r with
    | [] => [[x]]
    | w :: ws => (x :: w) :: ws
def isDig (c : Char) : Bool := decide ('0' ≤ c) && decide (c ≤ '9')
def digVal (c : Char) : Nat := c.toNat - '0'.toNat
def numOf (cs : List Char) : Nat := cs.foldl (fun n c => n * 10 + digVal c) 0
def intOfS (s : String) : Option Int :=
  let cs := s.toList
  if cs.length = 0 ∨ 600 < cs.length then none else if cs.all isDig = true then some (numOf cs : Int) else none
def joinS (sep : String) : List String → String
  | [] => ""
  | [x] => x
  | x :: xs => x ++ sep ++ joinS sep xs
def strsD : List D → Option (List String)
  | [] => some []
  | .str s :: r => (strsD r).map (s :: ·)
  | _ => none
def lenS (s : String) : Nat := s.toList.length
def strN (i : Int) : Option String := if i.natAbs < 2 ^ 1000 ∧ lenS (toString i) ≤ LIM then some (toString i) else none

/-! ### sorting -/
def D.lt : D → D → Option Bool
  | .int a, .int b => some (decide (a < b))
  | .tup [.int a, .int b], .tup [.int c, .int d] => some (decide (a < c) || (decide (a = c) && decide (b < d)))
  | _, _ => none
def insI (x : Int) : List Int → List Int
  | [] => [x]
  | y :: ys => if x ≤ y then x :: y :: ys else y :: insI x ys
def sortI : List Int → List Int
  | [] => []
  | x :: xs => insI x (sortI xs)
def leP (a b : Int × Int) : Bool := decide (a.1 < b.1) || (decide (a.1 = b.1) && decide (a.2 ≤ b.2))
def insP (x : Int × Int) : List (Int × Int) → List (Int × Int)
  | [] => [x]
  | y :: ys => if leP x y = true then x :: y :: ys else y :: insP x ys
def sortP : List (Int × Int) → List (Int × Int)
  | [] => []
  | x :: xs => insP x (sortP xs)
def dedup : List Int → List Int
  | [] => []
  | x :: xs => if x ∈ dedup xs then dedup xs else x :: dedup xs
def intsD : List D → Option (List Int)
  | [] => some []
  | .int i :: r => (intsD r).map (i :: ·)
  | _ => none
def prs : List D → Option (List (Int × Int))
  | [] => some []
  | .tup [.int a, .int b] :: r => (prs r).map ((a, b) :: ·)
  | _ => none
def sortD (xs : List D) : Option (List D) :=
  match intsD xs with
  | some ns => some ((sortI ns).map .int)
  | none => match prs xs with
    | some ps => some ((sortP ps).map fun p => .tup [.int p.1, .int p.2])
    | none => none
def maxI : List Int → Option Int
  | [] => none
  | x :: xs => some (xs.foldl (fun m y => if y > m then y else m) x)
def minI : List Int → Option Int
  | [] => none
  | x :: xs => some (xs.foldl (fun m y => if y < m then y else m) x)

/-! ### the syntax -/
inductive BOp where
  | add | sub | mul | mod | fdiv | pow
  deriving DecidableEq
inductive COp where
  | eq | ne | lt | le | gt | ge | isin | notin | ltl
  deriving DecidableEq
inductive Ty where
  | int | bool | str | tuple | list
  deriving DecidableEq
inductive Bi where
  | len | str | int | bool | max2 | min2
  deriving DecidableEq
inductive CK where
  | tuple | list | sorted | sset | sum | max | min | maxd | dict
  deriving DecidableEq
inductive BM where
  | append | extend | pop | popAt | insert | remove | index | get1 | get2 | split | join
  deriving DecidableEq
inductive Pat where
  | name (i : Nat) | tup (is : List Nat)

inductive E where
  | var (i : Nat) | int (i : Int) | str (s : String) | bl (b : Bool) | non
  | nil | cons (a r : E)
  | tup (es : E) | lst (es : E) | dic (kvs : E)
  | bin (op : BOp) (a b : E) | neg (a : E) | no (a : E) | and (a b : E) | or (a b : E)
  | cmp (op : COp) (a b : E) | isN (a : E) | notN (a : E) | isT (a : E) | notT (a : E)
  | chain (a : E) (l : E) | lnk (op : COp) (b r : E)
  | ite (c a b : E)
  | idx (a i : E) | slice (a lo hi : E) | rev (a : E)
  | attr (a : E) (f : String) | call (f : String) (es : E) | new (c : String) (es : E) | meth (a : E) (m : String) (es : E) | glob (x : String)
  | bi (b : Bi) (es : E) | isi (a : E) (t : Ty) | bm (m : BM) (a : E) (es : E)
  | coll (k : CK) (it : E)
  | range (es : E) | enum (a : E) | zip (a b : E) | values (a : E) | keys (a : E)
  | for1 (vs : List Nat) (p : Pat) (it c body : E)
  | lcomp (p : E) | dcomp (p : E) | gtup (p : E) | gany (p : E) | gall (p : E) | gsum (p : E) | gjoin (sep p : E)
  | fstr (es : E)
inductive S where
  | skip | seq (a b : S) | expr (e : E) | asg (p : Pat) (e : E) | setattr (o : E) (f : String) (e : E) | setidx (o i e : E)
  | aug (i : Nat) (op : BOp) (e : E) | augattr (o : E) (f : String) (op : BOp) (e : E)
  | ite (c : E) (a b : S) | while (c : E) (b : S) | for (p : Pat) (it : E) (b : S) | ret (e : E) | brk | cont

/-! ### the evaluator -/
inductive FK where
  | fn (f : String) | mth (c m : String)
  deriving DecidableEq
structure FDef where
  params : Nat
  slots : Nat
  body : S
structure Prog where
  fdef : FK → Option FDef
  glob : String → Option D
  script : List Int
abbrev R (α : Type) := Option (α × Mem)
def bnd {α β : Type} (x : R α) (f : α → Mem → Option β) : Option β := match x with
  | none => none
  | some (a, m) => f a m
@[simp] theorem bnd_some {α β : Type} (a : α) (m : Mem) (f : α → Mem → Option β) : bnd (some (a, m)) f = f a m := rfl
@[simp] theorem bnd_none {α β : Type} (f : α → Mem → Option β) : bnd none f = none := rfl

/-- the truth of a value -/
def truth (M : Mem) : D → Option Bool
  | .non => some false
  | .bl b => some b
  | .int i => some (decide (i ≠ 0))
  | .str s => some (decide (s ≠ ""))
  | .tup xs => some (!xs.isEmpty)
  | .ref p => match M[p]? with
    | some (.lst xs) => some (!xs.isEmpty)
    | _ => none
  | .scr => none
def binD (M : Mem) : BOp → D → D → R D
  | .add, .int a, .int b => some (.int (a + b), M)
  | .add, .str a, .str b => if lenS a + lenS b ≤ LIM then some (.str (a ++ b), M) else none
  | .add, .tup a, .tup b => if a.length + b.length ≤ LIM then some (.tup (a ++ b), M) else none
  | .add, .ref p, .ref q => match M[p]?, M[q]? with
    | some (.lst a), some (.lst b) => if a.length + b.length ≤ LIM then some (.ref M.length, M ++ [.lst (a ++ b)]) else none
    | _, _ => none
  | .sub, .int a, .int b => some (.int (a - b), M)
  | .mul, .int a, .int b => if (-(2 ^ 64) < a ∧ a < 2 ^ 64) ∨ (-(2 ^ 64) < b ∧ b < 2 ^ 64) then some (.int (a * b), M) else none
  | .mul, .ref p, .int k => match M[p]? with
    | some (.lst a) => if 0 ≤ k ∧ k < 2 ^ 62 ∧ a.length * k.toNat ≤ LIM then some (.ref M.length, M ++ [.lst (List.replicate k.toNat a).flatten]) else none
    | _ => none
  | .mod, .int a, .int b => if 0 < b then some (.int (a % b), M) else none
  | .fdiv, .int a, .int b => if 0 < b ∧ b < 1073741824 then some (.int (a / b), M) else none
  | .pow, .int a, .int b => if 0 ≤ b ∧ b ≤ 1000000 ∧ a.natAbs < 2 ^ 64 then some (.int (a ^ b.toNat), M) else none
  | _, _, _ => none
/-- x op= y, x no list -/
def augD (M : Mem) (op : BOp) (x y : D) : R D := match op, x with
  | .add, .int _ => binD M .add x y
  | .add, .str _ => binD M .add x y
  | .add, .tup _ => binD M .add x y
  | .sub, .int _ => binD M .sub x y
  | _, _ => none
/-- x in o -/
def memD (M : Mem) (x : D) : D → Option Bool
  | .tup ys => inD M x ys
  | .str t => match x with
    | .str s => match s.toList with
      | [c] => some (decide (c ∈ t.toList))
      | _ => none
    | _ => none
  | .ref p => match M[p]? with
    | some (.lst ys) => inD M x ys
    | some (.dic kvs) => if keyOk kvs x = true then some (dget x kvs).isSome else none
    | _ => none
  | _ => none
def lexI : List Int → List Int → Bool
  | [], [] => false
  | [], _ :: _ => true
  | _ :: _, [] => false
  | x :: xs, y :: ys => if x = y then lexI xs ys else decide (x < y)
def cmpD (M : Mem) : COp → D → D → Option Bool
  | .eq, a, b => eqD M a b
  | .ne, a, b => (eqD M a b).map (!·)
  | .lt, .int a, .int b => some (decide (a < b))
  | .le, .int a, .int b => some (decide (a ≤ b))
  | .gt, .int a, .int b => some (decide (b < a))
  | .ge, .int a, .int b => some (decide (b ≤ a))
  | .ltl, .ref p, .ref q => match M[p]?, M[q]? with
    | some (.lst xs), some (.lst ys) => match intsD xs, intsD ys with
      | some ns, some ms => some (lexI ns ms)
      | _, _ => none
    | _, _ => none
  | .isin, a, b => memD M a b
  | .notin, a, b => (memD M a b).map (!·)
  | _, _, _ => none
def idxD (P : Prog) (M : Mem) : D → D → Option D
  | .tup xs, .int i => match pyIx xs.length i with
    | some k => xs[k]?
    | none => none
  | .str s, .int i => if 0 ≤ i then (s.toList[i.toNat]?).map fun c => .str (String.ofList [c]) else none
  | .ref p, k => match M[p]? with
    | some (.lst xs) => match k with
      | .int i => match pyIx xs.length i with
        | some k => xs[k]?
        | none => none
      | _ => none
    | some (.dic kvs) => if keyOk kvs k = true then dget k kvs else none
    | _ => none
  | .scr, .int i => if 0 ≤ i then (P.script[i.toNat]?).map .int else none
  | _, _ => none
def sliceD (M : Mem) : D → Option Int → Option Int → R D
  | .tup xs, l, h => some (.tup (cutL xs l h), M)
  | .str s, l, h => some (.str (String.ofList (cutL s.toList l h)), M)
  | .ref p, l, h => match M[p]? with
    | some (.lst xs) => some (.ref M.length, M ++ [.lst (cutL xs l h)])
    | _ => none
  | _, _, _ => none
/-- a part of a slice: left out, or an int -/
def partE (e : E) (x : D) : Option (Option Int) := match e with
  | .non => some none
  | _ => match x with
    | .int i => some (some i)
    | _ => none
def isiD (M : Mem) : D → Ty → Option Bool
  | .non, _ => some false
  | .bl _, t => some (t = .bool || t = .int)
  | .int _, t => some (t = .int)
  | .str _, t => some (t = .str)
  | .tup _, t => some (t = .tuple)
  | .ref p, t => match M[p]? with
    | some (.lst _) => some (t = .list)
    | _ => none
  | .scr, _ => none
def lenD (P : Prog) (M : Mem) : D → Option Nat
  | .tup xs => some xs.length
  | .str s => some (lenS s)
  | .ref p => match M[p]? with
    | some (.lst xs) => some xs.length
    | _ => none
  | .scr => some P.script.length
  | _ => none
def biD (P : Prog) (M : Mem) : Bi → List D → Option D
  | .len, [x] => (lenD P M x).map fun n : Nat => .int (n : Int)
  | .str, [.int i] => (strN i).map .str
  | .int, [.int i] => some (.int i)
  | .int, [.bl b] => some (.int (b2i b))
  | .int, [.str s] => (intOfS s).map .int
  | .bool, [.int i] => some (.bl (decide (i ≠ 0)))
  | .bool, [.bl b] => some (.bl b)
  | .max2, [.int a, .int b] => some (.int (if b > a then b else a))
  | .min2, [.int a, .int b] => some (.int (if b < a then b else a))
  | _, _ => none
def bmD (M : Mem) : BM → D → List D → R D
  | .append, .ref p, [x] => match M[p]? with
    | some (.lst xs) => if xs.length < LIM then some (.non, M.set p (.lst (xs ++ [x]))) else none
    | _ => none
  | .extend, .ref p, [.ref q] => match M[p]?, M[q]? with
    | some (.lst xs), some (.lst ys) => if p ≠ q ∧ xs.length + ys.length ≤ LIM then some (.non, M.set p (.lst (xs ++ ys))) else none
    | _, _ => none
  | .extend, .ref p, [.tup ys] => match M[p]? with
    | some (.lst xs) => if xs.length + ys.length ≤ LIM then some (.non, M.set p (.lst (xs ++ ys))) else none
    | _ => none
  | .pop, .ref p, [] => match M[p]? with
    | some (.lst xs) => match xs.getLast? with
      | some x => some (x, M.set p (.lst xs.dropLast))
      | none => none
    | _ => none
  | .popAt, .ref p, [.int i] => match M[p]? with
    | some (.lst xs) => match pyIx xs.length i with
      | some k => match xs[k]? with
        | some x => some (x, M.set p (.lst (xs.eraseIdx k)))
        | none => none
      | none => none
    | _ => none
  | .insert, .ref p, [.int i, x] => match M[p]? with
    | some (.lst xs) => if 0 ≤ i ∧ i ≤ xs.length ∧ xs.length < LIM then some (.non, M.set p (.lst (xs.insertIdx i.toNat x))) else none
    | _ => none
  | .remove, .ref p, [x] => match M[p]? with
    | some (.lst xs) => match indexD M x xs with
      | some k => some (.non, M.set p (.lst (xs.eraseIdx k)))
      | none => none
    | _ => none
  | .index, .ref p, [x] => match M[p]? with
    | some (.lst xs) => if (mapO (reify 60 M) xs).isSome = true then (indexD M x xs).map fun k : Nat => (.int (k : Int), M) else none
    | _ => none
  | .get1, .ref p, [k] => match M[p]? with
    | some (.dic kvs) => if keyOk kvs k = true then some ((dget k kvs).getD .non, M) else none
    | _ => none
  | .get2, .ref p, [k, x] => match M[p]? with
    | some (.dic kvs) => if keyOk kvs k = true then some ((dget k kvs).getD x, M) else none
    | _ => none
  | .split, .str s, [.str t] => match t.toList with
    | [c] => if lenS s + 2 ≤ LIM then some (.ref M.length, M ++ [.lst ((splitC c s.toList).map fun w => .str (String.ofList w))]) else none
    | _ => none
  | .join, .str s, [x] => match (match x with
      | .tup xs => strsD xs
      | .ref p => match M[p]? with
        | some (.lst xs) => strsD xs
        | _ => none
      | _ => none) with
    | some ws => if (ws.map lenS).sum + ws.length * lenS s ≤ LIM then some (.str (joinS s ws), M) else none
    | none => none
  | _, _, _ => none
/-- o[k] = v -/
def setD (M : Mem) : D → D → D → Option Mem
  | .ref p, k, v => match M[p]? with
    | some (.lst xs) => match k with
      | .int i => match pyIx xs.length i with
        | some j => some (M.set p (.lst (xs.set j v)))
        | none => none
      | _ => none
    | some (.dic kvs) => if keyOk kvs k = true ∧ kvs.length < LIM then some (M.set p (.dic (dput k v kvs))) else none
    | _ => none
  | _, _, _ => none
/-- the receiver is what the method is of -/
def recvOk (M : Mem) (m : BM) (d : D) : Bool := match m, d with
  | .split, .str _ => true
  | .join, .str _ => true
  | .get1, .ref p => match M[p]? with
    | some (.dic _) => true
    | _ => false
  | .get2, .ref p => match M[p]? with
    | some (.dic _) => true
    | _ => false
  | .split, _ => false
  | .join, _ => false
  | _, .ref p => match M[p]? with
    | some (.lst _) => true
    | _ => false
  | _, _ => false
/-- pairs (key, value), for dict(..) -/
def dictOf : List D → List (D × D) → Option (List (D × D))
  | [], acc => some acc
  | .tup [k, v] :: r, acc => if keyOk acc k = true then dictOf r (dput k v acc) else none
  | _, _ => none
def collD (M : Mem) : CK → List D → R D
  | .tuple, xs => some (.tup xs, M)
  | .list, xs => some (.ref M.length, M ++ [.lst xs])
  | .sorted, xs => match sortD xs with
    | some ys => some (.ref M.length, M ++ [.lst ys])
    | none => none
  | .sset, xs => match intsD xs with
    | some ns => some (.ref M.length, M ++ [.lst ((sortI (dedup ns)).map .int)])
    | none => none
  | .sum, xs => match intsD xs with
    | some ns => some (.int ns.sum, M)
    | none => none
  | .max, xs => match intsD xs with
    | some ns => (maxI ns).map fun m => (.int m, M)
    | none => none
  | .min, xs => match intsD xs with
    | some ns => (minI ns).map fun m => (.int m, M)
    | none => none
  | .maxd, xs => match intsD xs with
    | some ns => some (.int ((maxI ns).getD 0), M)
    | none => none
  | .dict, xs => match dictOf xs [] with
    | some kvs => some (.ref M.length, M ++ [.dic kvs])
    | none => none
def rangeL (lo hi step : Int) : Option (List D) :=
  if -(2 ^ 61) < lo ∧ lo < 2 ^ 61 ∧ -(2 ^ 61) < hi ∧ hi < 2 ^ 61 then
    if step = 1 then some ((List.range (hi - lo).toNat).map fun k : Nat => .int (lo + (k : Int)))
    else if step = -1 then some ((List.range (lo - hi).toNat).map fun k : Nat => .int (lo - (k : Int)))
    else none
  else none
def rangeD : List D → Option (List D)
  | [.int a] => rangeL 0 a 1
  | [.int a, .int b] => rangeL a b 1
  | [.int a, .int b, .int c] => rangeL a b c
  | _ => none
/-- what is walked: its items, and what must stand still meanwhile -/
abbrev Items := List D × List (Nat × MO)
def itemsD (M : Mem) : D → Option Items
  | .tup xs => some (xs, [])
  | .ref p => match M[p]? with
    | some (.lst xs) => some (xs, [(p, .lst xs)])
    | _ => none
  | _ => none
def still (g : List (Nat × MO)) (M : Mem) : Bool := g.all fun p => decide (M[p.1]? = some p.2)
def bindPat : Pat → D → VEnv → Option VEnv
  | .name i, d, ρ => some (ρ.set i (some d))
  | .tup is, .tup xs, ρ => if is.length = xs.length then some ((is.zip xs).foldl (fun ρ p => ρ.set p.1 (some p.2)) ρ) else none
  | .tup _, _, _ => none
def wipeE (ρ : VEnv) : List Nat → VEnv
  | [] => ρ
  | v :: vs => (wipeE ρ vs).set v none
def textOf : D → Option String
  | .str s => some s
  | .int i => strN i
  | _ => none

/-! calls -/
structure FT where
  P : Prog
  call : FK → List D → Mem → R D
  wl : Nat

/-- the turns of a comprehension -/
def turns (g : List (Nat × MO)) (p : Pat) (c : VEnv → Mem → R Bool) (b : VEnv → Mem → R (List D)) (ρ : VEnv) : List D → Mem → R (List D)
  | [], M => if still g M = true then some ([], M) else none
  | x :: xs, M => if still g M = true then match bindPat p x ρ with
    | none => none
    | some ρ1 => bnd (c ρ1 M) fun ok M1 =>
        if ok = true then bnd (b ρ1 M1) fun ys M2 => bnd (turns g p c b ρ xs M2) fun zs M3 => some (ys ++ zs, M3)
        else turns g p c b ρ xs M1
    else none
/-- until one is as wanted -/
def seek (want : Bool) (g : List (Nat × MO)) (p : Pat) (c : VEnv → Mem → R Bool) (b : VEnv → Mem → R Bool) (ρ : VEnv) : List D → Mem → R Bool
  | [], M => if still g M = true then some (!want, M) else none
  | x :: xs, M => if still g M = true then match bindPat p x ρ with
    | none => none
    | some ρ1 => bnd (c ρ1 M) fun ok M1 =>
        if ok = true then bnd (b ρ1 M1) fun y M2 => if y = want then some (want, M2) else seek want g p c b ρ xs M2
        else seek want g p c b ρ xs M1
    else none
def truthR (x : R D) : R Bool := bnd x fun d M => (truth M d).map fun b => (b, M)
def pairsOf : List D → Option (List (D × D))
  | [] => some []
  | k :: v :: r => (pairsOf r).map ((k, v) :: ·)
  | _ => none
def dputs (kvs : List (D × D)) (acc : List (D × D)) : List (D × D) := kvs.foldl (fun a p => dput p.1 p.2 a) acc

mutual
def evE (F : FT) : E → VEnv → Mem → R D
  | .var i, ρ, M => match ρ[i]? with
    | some (some d) => some (d, M)
    | _ => none
  | .int i, _, M => some (.int i, M)
  | .str s, _, M => some (.str s, M)
  | .bl b, _, M => some (.bl b, M)
  | .non, _, M => some (.non, M)
  | .tup es, ρ, M => bnd (evEs F es ρ M) fun xs M => some (.tup xs, M)
  | .lst es, ρ, M => bnd (evEs F es ρ M) fun xs M => some (.ref M.length, M ++ [.lst xs])
  | .dic es, ρ, M => bnd (evEs F es ρ M) fun xs M => match pairsOf xs with
    | some kvs => if kvs.all (fun p => keyOk kvs p.1) = true then some (.ref M.length, M ++ [.dic (dputs kvs [])]) else none
    | none => none
  | .bin op a b, ρ, M => bnd (evE F a ρ M) fun x M => bnd (evE F b ρ M) fun y M => binD M op x y
  | .neg a, ρ, M => bnd (evE F a ρ M) fun x M => match x with
    | .int i => some (.int (-i), M)
    | _ => none
  | .no a, ρ, M => bnd (evE F a ρ M) fun x M => (truth M x).map fun b => (.bl (!b), M)
  | .and a b, ρ, M => bnd (evE F a ρ M) fun x M => match truth M x with
    | some true => evE F b ρ M
    | some false => some (x, M)
    | none => none
  | .or a b, ρ, M => bnd (evE F a ρ M) fun x M => match truth M x with
    | some true => some (x, M)
    | some false => evE F b ρ M
    | none => none
  | .cmp op a b, ρ, M => bnd (evE F a ρ M) fun x M => bnd (evE F b ρ M) fun y M => (cmpD M op x y).map fun r => (.bl r, M)
  | .isN a, ρ, M => bnd (evE F a ρ M) fun x M => some (.bl (decide (x = .non)), M)
  | .notN a, ρ, M => bnd (evE F a ρ M) fun x M => some (.bl (!decide (x = .non)), M)
  | .isT a, ρ, M => bnd (evE F a ρ M) fun x M => some (.bl (decide (x = .bl true)), M)
  | .notT a, ρ, M => bnd (evE F a ρ M) fun x M => some (.bl (!decide (x = .bl true)), M)
  | .chain a l, ρ, M => bnd (evE F a ρ M) fun x M => evCh F l x ρ M
  | .ite c a b, ρ, M => bnd (evE F c ρ M) fun x M => match truth M x with
    | some true => evE F a ρ M
    | some false => evE F b ρ M
    | none => none
  | .idx a i, ρ, M => bnd (evE F a ρ M) fun x M => bnd (evE F i ρ M) fun y M => (idxD F.P M x y).map fun r => (r, M)
  | .slice a lo hi, ρ, M => bnd (evE F a ρ M) fun x M => bnd (evE F lo ρ M) fun l M => bnd (evE F hi ρ M) fun h M => match partE lo l, partE hi h with
    | some l, some h => sliceD M x l h
    | _, _ => none
  | .rev a, ρ, M => bnd (evE F a ρ M) fun x M => match x with
    | .tup xs => some (.tup xs.reverse, M)
    | .ref p => match M[p]? with
      | some (.lst xs) => some (.ref M.length, M ++ [.lst xs.reverse])
      | _ => none
    | _ => none
  | .attr a f, ρ, M => bnd (evE F a ρ M) fun x M => match x with
    | .ref p => match M[p]? with
      | some (.ins _ fs) => (fget f fs).map fun v => (v, M)
      | _ => none
    | _ => none
  | .call f es, ρ, M => bnd (evEs F es ρ M) fun xs M => F.call (.fn f) xs M
  | .new c es, ρ, M => bnd (evEs F es ρ M) fun xs M => bnd (F.call (.mth c "__init__") (.ref M.length :: xs) (M ++ [.ins c []])) fun r M1 =>
      if r = .non then some (.ref M.length, M1) else none
  | .meth a m es, ρ, M => bnd (evE F a ρ M) fun x M => match x with
    | .ref p => match M[p]? with
      | some (.ins c fs) => if fget m fs = none then bnd (evEs F es ρ M) fun xs M => F.call (.mth c m) (.ref p :: xs) M else none
      | _ => none
    | _ => none
  | .glob x, _, M => (F.P.glob x).map fun d => (d, M)
  | .bi b es, ρ, M => bnd (evEs F es ρ M) fun xs M => (biD F.P M b xs).map fun r => (r, M)
  | .isi a t, ρ, M => bnd (evE F a ρ M) fun x M => (isiD M x t).map fun r => (.bl r, M)
  | .bm m a es, ρ, M => bnd (evE F a ρ M) fun x M => if recvOk M m x = true then bnd (evEs F es ρ M) fun xs M => bmD M m x xs else none
  | .coll k it, ρ, M => bnd (evIt F it ρ M) fun xs M => collD M k xs.1
  | .lcomp p, ρ, M => bnd (evEs F p ρ M) fun xs M => if xs.length ≤ LIM then some (.ref M.length, M ++ [.lst xs]) else none
  | .dcomp p, ρ, M => bnd (evEs F p ρ M) fun xs M => match pairsOf xs with
    | some kvs => if kvs.all (fun p => keyOk kvs p.1) = true ∧ kvs.length ≤ LIM then some (.ref M.length, M ++ [.dic (dputs kvs [])]) else none
    | none => none
  | .gtup p, ρ, M => bnd (evEs F p ρ M) fun xs M => if xs.length < LIM then some (.tup xs, M) else none
  | .gany p, ρ, M => bnd (evSk F true p ρ M) fun b M => some (.bl b, M)
  | .gall p, ρ, M => bnd (evSk F false p ρ M) fun b M => some (.bl b, M)
  | .gsum p, ρ, M => bnd (evEs F p ρ M) fun xs M => match intsD xs with
    | some ns => if xs.length < LIM then some (.int ns.sum, M) else none
    | none => none
  | .gjoin s p, ρ, M => bnd (evE F s ρ M) fun x M => match x with
    | .str s => bnd (evEs F p ρ M) fun xs M => match strsD xs with
      | some ws => if (ws.map lenS).sum + ws.length * lenS s ≤ LIM ∧ ws.length < LIM then some (.str (joinS s ws), M) else none
      | none => none
    | _ => none
  | .fstr es, ρ, M => bnd (evEs F es ρ M) fun xs M => match mapO textOf xs with
    | some ws => if (ws.map lenS).sum ≤ LIM then some (.str (joinS "" ws), M) else none
    | none => none
  | _, _, _ => none
def evEs (F : FT) : E → VEnv → Mem → R (List D)
  | .nil, _, M => some ([], M)
  | .cons a r, ρ, M => bnd (evE F a ρ M) fun x M => bnd (evEs F r ρ M) fun xs M => some (x :: xs, M)
  | .for1 vs p it c b, ρ, M => bnd (evIt F it ρ M) fun xs M =>
      turns xs.2 p (fun ρ M => truthR (evE F c ρ M)) (fun ρ M => evEs F b ρ M) (wipeE ρ vs) xs.1 M
  | _, _, _ => none
/-- any, all of a generator's values -/
def evSk (F : FT) (want : Bool) : E → VEnv → Mem → R Bool
  | .cons a .nil, ρ, M => truthR (evE F a ρ M)
  | .for1 vs p it c b, ρ, M => bnd (evIt F it ρ M) fun xs M =>
      seek want xs.2 p (fun ρ M => truthR (evE F c ρ M)) (fun ρ M => evSk F want b ρ M) (wipeE ρ vs) xs.1 M
  | _, _, _ => none
def evIt (F : FT) : E → VEnv → Mem → R Items
  | .range es, ρ, M => bnd (evEs F es ρ M) fun xs M => (rangeD xs).map fun ys => ((ys, []), M)
  | .enum a, ρ, M => bnd (evE F a ρ M) fun x M => (itemsD M x).map fun ys => ((ys.1.zipIdx.map fun p => .tup [.int p.2, p.1], ys.2), M)
  | .zip a b, ρ, M => bnd (evE F a ρ M) fun x M => bnd (evE F b ρ M) fun y M => match itemsD M x, itemsD M y with
    | some xs, some ys => some (((xs.1.zip ys.1).map fun p => .tup [p.1, p.2], xs.2 ++ ys.2), M)
    | _, _ => none
  | .keys a, ρ, M => bnd (evE F a ρ M) fun x M => match x with
    | .ref p => match M[p]? with
      | some (.dic kvs) => some ((kvs.map (·.1), [(p, .dic kvs)]), M)
      | _ => none
    | _ => none
  | .values a, ρ, M => bnd (evE F a ρ M) fun x M => match x with
    | .ref p => match M[p]? with
      | some (.dic kvs) => some ((kvs.map (·.2), [(p, .dic kvs)]), M)
      | _ => none
    | _ => none
  | .cons a .nil, ρ, M => bnd (evE F a ρ M) fun x M => (itemsD M x).map fun ys => (ys, M)
  | _, _, _ => none
def evCh (F : FT) : E → D → VEnv → Mem → R D
  | .lnk op b .nil, x, ρ, M => bnd (evE F b ρ M) fun y M => (cmpD M op x y).map fun r => (.bl r, M)
  | .lnk op b r, x, ρ, M => bnd (evE F b ρ M) fun y M => match cmpD M op x y with
    | some true => evCh F r y ρ M
    | some false => some (.bl false, M)
    | none => none
  | _, _, _, _ => none
end

inductive Out where
  | nx (ρ : VEnv) | rt (d : D) | bk (ρ : VEnv) | ct (ρ : VEnv)

def forL (g : List (Nat × MO)) (p : Pat) (b : VEnv → Mem → R Out) : List D → VEnv → Mem → R Out
  | [], ρ, M => if still g M = true then some (.nx ρ, M) else none
  | x :: xs, ρ, M => if still g M = true then match bindPat p x ρ with
    | none => none
    | some ρ1 => bnd (b ρ1 M) fun o M1 => match o with
      | .nx ρ2 => forL g p b xs ρ2 M1
      | .ct ρ2 => forL g p b xs ρ2 M1
      | .bk ρ2 => some (.nx ρ2, M1)
      | .rt d => some (.rt d, M1)
    else none
def whileL (c : VEnv → Mem → R Bool) (b : VEnv → Mem → R Out) : Nat → VEnv → Mem → R Out
  | 0, _, _ => none
  | n + 1, ρ, M => bnd (c ρ M) fun t M1 => if t = true then bnd (b ρ M1) fun o M2 => match o with
      | .nx ρ2 => whileL c b n ρ2 M2
      | .ct ρ2 => whileL c b n ρ2 M2
      | .bk ρ2 => some (.nx ρ2, M2)
      | .rt d => some (.rt d, M2)
    else some (.nx ρ, M1)

def evS (F : FT) : S → VEnv → Mem → R Out
  | .skip, ρ, M => some (.nx ρ, M)
  | .seq a b, ρ, M => bnd (evS F a ρ M) fun o M => match o with
    | .nx ρ => evS F b ρ M
    | o => some (o, M)
  | .expr e, ρ, M => bnd (evE F e ρ M) fun _ M => some (.nx ρ, M)
  | .asg p e, ρ, M => bnd (evE F e ρ M) fun x M => match p, x with
    | .tup is, .ref q => match M[q]? with
      | some (.lst xs) => (bindPat (.tup is) (.tup xs) ρ).map fun ρ => (.nx ρ, M)
      | _ => none
    | p, x => (bindPat p x ρ).map fun ρ => (.nx ρ, M)
  | .setattr o f e, ρ, M => bnd (evE F e ρ M) fun v M => bnd (evE F o ρ M) fun x M => match x with
    | .ref p => match M[p]? with
      | some (.ins c fs) => if fs.length < 1000 then some (.nx ρ, M.set p (.ins c (fput f v fs))) else none
      | _ => none
    | _ => none
  | .setidx o i e, ρ, M => bnd (evE F e ρ M) fun v M => bnd (evE F o ρ M) fun x M => bnd (evE F i ρ M) fun k M => (setD M x k v).map fun M => (.nx ρ, M)
  | .aug i op e, ρ, M => match ρ[i]? with
    | some (some x) => bnd (evE F e ρ M) fun y M => bnd (augD M op x y) fun z M => some (.nx (ρ.set i (some z)), M)
    | _ => none
  | .augattr o f op e, ρ, M => bnd (evE F o ρ M) fun x M => match x with
    | .ref p => match M[p]? with
      | some (.ins c0 fs) => match fget f fs with
        | some old => bnd (evE F e ρ M) fun y M => bnd (augD M op old y) fun z M => match M[p]? with
            | some (.ins c fs) => if c = c0 ∧ fs.length < 1000 then some (.nx ρ, M.set p (.ins c (fput f z fs))) else none
            | _ => none
        | none => none
      | _ => none
    | _ => none
  | .ite c a b, ρ, M => bnd (truthR (evE F c ρ M)) fun t M => if t = true then evS F a ρ M else evS F b ρ M
  | .while c b, ρ, M => whileL (fun ρ M => truthR (evE F c ρ M)) (fun ρ M => evS F b ρ M) F.wl ρ M
  | .for p it b, ρ, M => bnd (evIt F it ρ M) fun xs M => forL xs.2 p (fun ρ M => evS F b ρ M) xs.1 ρ M
  | .ret e, ρ, M => bnd (evE F e ρ M) fun x M => some (.rt x, M)
  | .brk, ρ, M => some (.bk ρ, M)
  | .cont, ρ, M => some (.ct ρ, M)

/-! ### what a call leaves behind -/
mutual
/-- no cell from n on is named -/
def D.bel (n : Nat) : D → Bool
  | .ref p => decide (p < n)
  | .tup xs => D.bels n xs
  | _ => true
def D.bels (n : Nat) : List D → Bool
  | [] => true
  | x :: xs => D.bel n x && D.bels n xs
end
def MO.bel (n : Nat) : MO → Bool
  | .lst xs => D.bels n xs
  | .dic kvs => kvs.all fun p => p.1.bel n && p.2.bel n
  | .ins _ fs => fs.all fun p => p.2.bel n
/-- the old cells name no new ones -/
def oldOk (n : Nat) : Mem → Mem → Bool
  | [], _ => true
  | _ :: _, [] => false
  | o :: M, o' :: M' => (decide (o = o') || o'.bel n) && oldOk n M M'
/-- cells that can't be reached any more are dropped -/
def gc (M : Mem) (d : D) (M' : Mem) : D × Mem :=
  if oldOk M.length M M' = true then
    if d.bel M.length = true then (d, M'.take M.length)
    else match d with
      | .ref r => match M'[r]? with
        | some o => if o.bel M.length = true then (.ref M.length, M'.take M.length ++ [o]) else (d, M')
        | none => (d, M')
      | _ => (d, M')
  else (d, M')
def retOf (M : Mem) : R Out → R D
  | some (.rt d, M') => some (gc M d M')
  | some (.nx _, M') => some (gc M .non M')
  | _ => none
def evF (P : Prog) (wl : Nat) : Nat → FK → List D → Mem → R D
  | 0, _, _, _ => none
  | n + 1, k, xs, M => match P.fdef k with
    | none => none
    | some fd => if xs.length = fd.params then retOf M (evS ⟨P, evF P wl n, wl⟩ fd.body (xs.map some ++ List.replicate (fd.slots - fd.params) none) M) else none
/-- the law's run -/
def run (P : Prog) (wl n : Nat) : Option D := (evF P wl n (.fn "law") [.scr] []).map (·.1)
end Pw

end
section
set_option maxHeartbeats 1000000
/-! Snd1: the evaluator's values and cells, related to the hand layer's; the readings. -/
namespace Pw
open PySem PySem.Spec PyProof.Rows L2

/-- what is fixed through a law: the written part, the world, the script's address, the classes' addresses, the program -/
structure PC where
  prog : Program
  K : PySem.W.Frag
  w : World
  sa : Addr
  ca : String → Option Addr
  P : Prog
  mg : Str → Option Value
  base : Heap

mutual
inductive RD (sa : Addr) (α : List Addr) (H : Hp) : D → V → Prop where
  | non : RD sa α H .non .non
  | bl (b : Bool) : RD sa α H (.bl b) (.bl b)
  | int (i : Int) : RD sa α H (.int i) (.int i)
  | str {s : String} : lenS s ≤ LIM → RD sa α H (.str s) (.str (Str.ofString s))
  | tup {a : Addr} {ds : List D} {vs : List V} : H a = some (.tup vs) → RDs sa α H ds vs → RD sa α H (.tup ds) (.ref a)
  | ref {n : Nat} {a : Addr} : α[n]? = some a → RD sa α H (.ref n) (.ref a)
  | scr : RD sa α H .scr (.ref sa)
inductive RDs (sa : Addr) (α : List Addr) (H : Hp) : List D → List V → Prop where
  | nil : RDs sa α H [] []
  | cons {d : D} {v : V} {ds : List D} {vs : List V} : RD sa α H d v → RDs sa α H ds vs → RDs sa α H (d :: ds) (v :: vs)
end

/-- an instance's attributes -/
inductive RF (sa : Addr) (α : List Addr) (H : Hp) : List (String × D) → List (Str × V) → Prop where
  | nil : RF sa α H [] []
  | cons {f : String} {d : D} {v : V} {r : List (String × D)} {q : List (Str × V)} : RD sa α H d v → RF sa α H r q → RF sa α H ((f, d) :: r) ((Str.ofString f, v) :: q)
/-- a dict's entries: the key as data, the key's value, the value -/
inductive RK (sa : Addr) (α : List Addr) (H : Hp) : List (D × D) → List (D × V × V) → Prop where
  | nil : RK sa α H [] []
  | cons {k d : D} {u v : V} {r : List (D × D)} {q : List (D × V × V)} : RD sa α H k u → RD sa α H d v → RK sa α H r q → RK sa α H ((k, d) :: r) ((k, u, v) :: q)

mutual
/-- a key as the library's nested kind has it -/
def nk : D → NestedKey
  | .int i => .num i
  | .str s => .text (Str.ofString s)
  | .tup xs => .tup (nks xs)
  | _ => .none
def nks : List D → List NestedKey
  | [] => []
  | x :: xs => nk x :: nks xs
end
/-- keys that are no tuples, exactly -/
def flatIs : Leaf → Value → Bool
  | .none, .none => true
  | .num i, .int j _ => decide (j = i)
  | .text x, v => Value.isStrOf x v
  | _, _ => false
theorem flatIs_leaf : ∀ {k : Leaf} {v : Value}, flatIs k v = true → Leaf.isOf k v = true
  | .none, v, h => by cases v <;> first | rfl | exact absurd h Bool.false_ne_true
  | .num i, v, h => by
    cases v with
    | int j t => exact h
    | _ => exact absurd h Bool.false_ne_true
  | .text x, v, h => h
def flatKind (prog : Program) (w : World) : KeyKind prog w Leaf where
  is := flatIs
  hash := fun k => k.key.hash w
  inj := fun v a b ha hb => (leafKind prog w).inj v a b (flatIs_leaf ha) (flatIs_leaf hb)
  byValue := fun k v h => (leafKind prog w).byValue k v (flatIs_leaf h)
  pyHash := fun hv h => pyHash_leaf (flatIs_leaf hv) h
  eqBool := fun hu hv h => eqAt_leaf (flatIs_leaf hu) (flatIs_leaf hv) _ _ _ _ h
  «strs» := fun k x t v h => by
    cases k with
    | none => exact absurd h Bool.false_ne_true
    | num i => exact absurd h Bool.false_ne_true
    | text y =>
      obtain ⟨u, hu⟩ := Value.isStrOf_shape (show Value.isStrOf y (.str x t) = true from h)
      injection hu with hx
      subst hx
      cases v <;> rfl
def leafK : D → Option Leaf
  | .non => some .none
  | .int i => some (.num i)
  | .str s => some (.text (Str.ofString s))
  | _ => none
/-- the dict's object, by its entries: no key is a tuple, or all are -/
def dictFlat (P : Program) (w : World) (a : Addr) (q : List (D × V × V)) (h : Heap) : Prop :=
  ∃ vs : List (Leaf × Value), Paired (fun (p : D × V × V) (r : Leaf × Value) => leafK p.1 = some r.1 ∧ RelV p.2.2 r.2) q vs ∧ h.DictOf (flatKind P w) a vs
def dictTup (P : Program) (w : World) (a : Addr) (q : List (D × V × V)) (h : Heap) : Prop :=
  ∃ xs : List (NestedKey × Addr × Value), Paired (fun (p : D × V × V) (r : NestedKey × Addr × Value) => p.1.isTup = true ∧ nk p.1 = r.1 ∧ p.2.1 = .ref r.2.1 ∧ RelV p.2.2 r.2.2) q xs ∧
    ∃ o es ep, h.get? a = some o ∧ o.ExactDict ∧ o.data = .dict es ep ∧ es.toList = xs.map (entryOfKey (nestedKind P w)) ∧ (xs.map (·.1)).Nodup
def dictAt (P : Program) (w : World) (a : Addr) (q : List (D × V × V)) (h : Heap) : Prop := dictFlat P w a q h ∨ dictTup P w a q h
def dictHO (P : Program) (w : World) (a : Addr) (q : List (D × V × V)) : HO := .ext (dictAt P w a q)
theorem dictAt.there {P : Program} {w : World} {a : Addr} {q : List (D × V × V)} {h : Heap} (x : dictAt P w a q h) : ∃ o, h.get? a = some o := by
  rcases x with ⟨_, _, o, _, _, e, _⟩ | ⟨_, _, o, _, _, e, _⟩ <;> exact ⟨o, e⟩
theorem dictAt.exact {P : Program} {w : World} {a : Addr} {q : List (D × V × V)} {h : Heap} (x : dictAt P w a q h) : ∃ o, h.get? a = some o ∧ o.ExactDict := by
  rcases x with ⟨_, _, o, _, _, e, c, _⟩ | ⟨_, _, o, _, _, e, c, _⟩ <;> exact ⟨o, e, c⟩
theorem dictAt.stay {P : Program} {w : World} {a : Addr} {q : List (D × V × V)} {h h' : Heap} (x : dictAt P w a q h) (k : ∀ o, h.get? a = some o → h'.get? a = some o) : dictAt P w a q h' := by
  rcases x with ⟨vs, r, o, es, ep, e, c⟩ | ⟨xs, r, o, es, ep, e, c⟩
  · exact .inl ⟨vs, r, o, es, ep, k _ e, c⟩
  · exact .inr ⟨xs, r, o, es, ep, k _ e, c⟩
theorem dictAt.ok {P : Program} {w : World} {H : Hp} {a : Addr} {q : List (D × V × V)} {h : Heap} (x : dictAt P w a q h) : ObjOk P w H h a (dictHO P w a q) :=
  ⟨x, x.there, fun _ _ y k => y.stay k⟩

inductive RO (C : PC) (α : List Addr) (H : Hp) (a : Addr) : MO → HO → Prop where
  | lst {ds : List D} {vs : List V} : RDs C.sa α H ds vs → RO C α H a (.lst ds) (.lst vs)
  | dic {kvs : List (D × D)} {q : List (D × V × V)} : RK C.sa α H kvs q → (kvs.map (·.1)).Nodup → kvs.all (fun p => keyOk kvs p.1) = true → kvs.length ≤ LIM → (a == sysModules) = false →
      RO C α H a (.dic kvs) (dictHO C.prog C.w a q)
  | ins {c : String} {Ca dx : Addr} {fs : List (String × D)} {vs : List (Str × V)} : C.ca c = some Ca → RF C.sa α H fs vs → RO C α H a (.ins c fs) (.ins Ca dx vs)

/-- the script is to be read: it is tracked and no cell, or an object of the module -/
def ScOk (C : PC) (α : List Addr) (H : Hp) : Prop := (Rd H C.sa (.lst (C.P.script.map V.int)) ∧ C.sa ∉ α) ∨
  ∃ (o : Obj) (its : Array Value) (n : Nat), C.K.lookup C.sa = some o ∧ o.cls = .type "list" ∧ o.dict = none ∧ o.data = .seq its n ∧ its.size ≤ sizeLine ∧ Vals (C.P.script.map V.int) its.toList
/-- the state: the cells M stand at the addresses α -/
structure RS (C : PC) (α : List Addr) (M : Mem) (H : Hp) : Prop where
  len : α.length = M.length
  nd : α.Nodup
  ob : ∀ (n : Nat) (o : MO), M[n]? = some o → ∃ a ho, α[n]? = some a ∧ H a = some ho ∧ RO C α H a o ho
  sc : ScOk C α H

/-- the names' values -/
structure RE (sa : Addr) (α : List Addr) (H : Hp) (ρ : VEnv) (σ : L2.St) : Prop where
  len : ρ.length = σ.length
  at_ : ∀ (i : Nat) (d : D), ρ[i]? = some (some d) → ∃ v, σ[i]? = some (some v) ∧ RD sa α H d v

/-- from one state to a later one: new cells are new, what is no cell stands -/
structure Step (α α' : List Addr) (H H' : Hp) : Prop where
  pre : ∃ r, α' = α ++ r
  new : ∀ a ∈ α', a ∈ α ∨ H a = none
  frame : ∀ a o, H a = some o → a ∉ α → H' a = some o

theorem Step.refl (α : List Addr) (H : Hp) : Step α α H H := ⟨⟨[], by simp⟩, fun _ h => .inl h, fun _ _ h _ => h⟩
theorem Step.trans {α α1 α2 : List Addr} {H H1 H2 : Hp} (a : Step α α1 H H1) (b : Step α1 α2 H1 H2) : Step α α2 H H2 := by
  obtain ⟨r, rfl⟩ := a.pre
  obtain ⟨r2, rfl⟩ := b.pre
  refine ⟨⟨r ++ r2, by simp⟩, fun x hx => ?_, fun x o e hx => ?_⟩
  · rcases b.new x hx with h | h
    · exact a.new x h
    · by_cases hxa : x ∈ α
      · exact .inl hxa
      · right
        cases q : H x with
        | none => rfl
        | some o => rw [a.frame x o q hxa] at h; cases h
  · have h1 := a.frame x o e hx
    refine b.frame x o h1 fun hm => ?_
    rcases a.new x hm with h | h
    · exact hx h
    · rw [e] at h; cases h
theorem Step.get {α α' : List Addr} {H H' : Hp} (s : Step α α' H H') {n : Nat} {a : Addr} (h : α[n]? = some a) : α'[n]? = some a := by
  obtain ⟨r, rfl⟩ := s.pre
  rw [List.getElem?_append_left (List.getElem?_eq_some_iff.mp h).1]
  exact h

section
variable {C : PC} {α α' : List Addr} {M : Mem} {H H' : Hp}
theorem RO.nottup {C : PC} {α : List Addr} {H : Hp} {a : Addr} {o : MO} {ho : HO} (r : RO C α H a o ho) : ∀ vs, ho ≠ .tup vs := by
  intro vs e
  cases r <;> cases e
theorem RS.at (s : RS C α M H) {a : Addr} (h : a ∈ α) : ∃ (n : Nat) (o : MO) (ho : HO), α[n]? = some a ∧ M[n]? = some o ∧ H a = some ho ∧ RO C α H a o ho := by
  obtain ⟨n, hn, e⟩ := List.getElem_of_mem h
  have hm : n < M.length := by have := s.len; omega
  obtain ⟨a', ho, e1, e2, r⟩ := s.ob n M[n] (List.getElem?_eq_getElem hm)
  have e3 : α[n]? = some a := by rw [List.getElem?_eq_getElem hn, e]
  rw [e3] at e1; cases e1
  exact ⟨n, _, ho, e3, List.getElem?_eq_getElem hm, e2, r⟩
theorem RS.tup_out (s : RS C α M H) {a : Addr} {vs : List V} (h : H a = some (.tup vs)) : a ∉ α := fun hm => by
  obtain ⟨_, _, ho, _, _, e, r⟩ := s.at hm
  rw [h] at e; cases e
  exact r.nottup vs rfl
theorem RS.tup_keep (s : RS C α M H) (t : Step α α' H H') {a : Addr} {vs : List V} (h : H a = some (.tup vs)) : H' a = some (.tup vs) := t.frame a _ h (s.tup_out h)
mutual
theorem RD.mono (s : RS C α M H) (t : Step α α' H H') : ∀ {d : D} {v : V}, RD C.sa α H d v → RD C.sa α' H' d v
  | _, _, .non => .non
  | _, _, .bl b => .bl b
  | _, _, .int i => .int i
  | _, _, .str h => .str h
  | _, _, .tup h r => .tup (s.tup_keep t h) (RDs.mono s t r)
  | _, _, .ref h => .ref (t.get h)
  | _, _, .scr => .scr
theorem RDs.mono (s : RS C α M H) (t : Step α α' H H') : ∀ {ds : List D} {vs : List V}, RDs C.sa α H ds vs → RDs C.sa α' H' ds vs
  | _, _, .nil => .nil
  | _, _, .cons h r => .cons (RD.mono s t h) (RDs.mono s t r)
end
theorem RF.mono (s : RS C α M H) (t : Step α α' H H') : ∀ {fs : List (String × D)} {vs : List (Str × V)}, RF C.sa α H fs vs → RF C.sa α' H' fs vs
  | _, _, .nil => .nil
  | _, _, .cons h r => .cons (h.mono s t) (RF.mono s t r)
theorem RK.mono (s : RS C α M H) (t : Step α α' H H') : ∀ {fs : List (D × D)} {vs : List (D × V × V)}, RK C.sa α H fs vs → RK C.sa α' H' fs vs
  | _, _, .nil => .nil
  | _, _, .cons h h2 r => .cons (h.mono s t) (h2.mono s t) (RK.mono s t r)
theorem RO.mono (s : RS C α M H) (t : Step α α' H H') {a : Addr} {o : MO} {ho : HO} (r : RO C α H a o ho) : RO C α' H' a o ho := by
  cases r with
  | lst h => exact .lst (h.mono s t)
  | dic h1 h2 h3 h4 h5 => exact .dic (h1.mono s t) h2 h3 h4 h5
  | ins h1 h2 => exact .ins h1 (h2.mono s t)
theorem RE.mono (s : RS C α M H) (t : Step α α' H H') {ρ : VEnv} {σ : L2.St} (r : RE C.sa α H ρ σ) : RE C.sa α' H' ρ σ :=
  ⟨r.len, fun i d e => let ⟨v, h1, h2⟩ := r.at_ i d e; ⟨v, h1, h2.mono s t⟩⟩
theorem RS.sc_keep (s : RS C α M H) (t : Step α α' H H') : ScOk C α' H' := by
  have out : ∀ {u : HO}, H C.sa = some u → C.sa ∉ α → C.sa ∉ α' := fun e n hm => by
    rcases t.new _ hm with h | h
    · exact n h
    · rw [e] at h; cases h
  rcases s.sc with ⟨h | ⟨o, h⟩, n⟩ | h
  · exact .inl ⟨.inl (t.frame _ _ h n), out h n⟩
  · exact .inl ⟨.inr ⟨o, t.frame _ _ h n⟩, out h n⟩
  · exact .inr h
theorem RS.script (s : RS C α M H) : SqL C.K H C.sa (C.P.script.map V.int) := by
  rcases s.sc with ⟨h, _⟩ | h
  · exact .inl h
  · exact .inr h

theorem RDs.length : ∀ {sa : Addr} {α : List Addr} {H : Hp} {ds : List D} {vs : List V}, RDs sa α H ds vs → ds.length = vs.length
  | _, _, _, _, _, .nil => rfl
  | _, _, _, _, _, .cons _ r => by simp [RDs.length r]
theorem RDs.get : ∀ {sa : Addr} {α : List Addr} {H : Hp} {ds : List D} {vs : List V} {i : Nat} {d : D}, RDs sa α H ds vs → ds[i]? = some d → ∃ v, vs[i]? = some v ∧ RD sa α H d v
  | _, _, _, _, _, _, _, .nil, e => by simp at e
  | _, _, _, _, _, 0, _, .cons h _, e => by simp at e; subst e; exact ⟨_, rfl, h⟩
  | _, _, _, _, _, i + 1, _, .cons _ r, e => by
    obtain ⟨v, h1, h2⟩ := RDs.get (i := i) r (by simpa using e)
    exact ⟨v, by simpa using h1, h2⟩
theorem RDs.append : ∀ {sa : Addr} {α : List Addr} {H : Hp} {ds es : List D} {vs us : List V}, RDs sa α H ds vs → RDs sa α H es us → RDs sa α H (ds ++ es) (vs ++ us)
  | _, _, _, _, _, _, _, .nil, q => q
  | _, _, _, _, _, _, _, .cons h r, q => .cons h (RDs.append r q)
theorem RDs.take : ∀ {sa : Addr} {α : List Addr} {H : Hp} {ds : List D} {vs : List V} (n : Nat), RDs sa α H ds vs → RDs sa α H (ds.take n) (vs.take n)
  | _, _, _, _, _, 0, _ => .nil
  | _, _, _, _, _, _ + 1, .nil => .nil
  | _, _, _, _, _, n + 1, .cons h r => .cons h (RDs.take n r)
theorem RDs.drop : ∀ {sa : Addr} {α : List Addr} {H : Hp} {ds : List D} {vs : List V} (n : Nat), RDs sa α H ds vs → RDs sa α H (ds.drop n) (vs.drop n)
  | _, _, _, _, _, 0, q => q
  | _, _, _, _, _, _ + 1, .nil => .nil
  | _, _, _, _, _, n + 1, .cons _ r => RDs.drop n r
theorem RDs.reverse {sa : Addr} {α : List Addr} {H : Hp} : ∀ {ds : List D} {vs : List V}, RDs sa α H ds vs → RDs sa α H ds.reverse vs.reverse
  | _, _, .nil => .nil
  | _, _, .cons h r => by
    rw [List.reverse_cons, List.reverse_cons]
    exact (RDs.reverse r).append (.cons h .nil)
theorem RDs.set {sa : Addr} {α : List Addr} {H : Hp} {d : D} {v : V} (h : RD sa α H d v) : ∀ {ds : List D} {vs : List V} (n : Nat), RDs sa α H ds vs → RDs sa α H (ds.set n d) (vs.set n v)
  | _, _, _, .nil => .nil
  | _, _, 0, .cons _ r => .cons h r
  | _, _, n + 1, .cons q r => .cons q (RDs.set h n r)
theorem RDs.eraseIdx {sa : Addr} {α : List Addr} {H : Hp} : ∀ {ds : List D} {vs : List V} (n : Nat), RDs sa α H ds vs → RDs sa α H (ds.eraseIdx n) (vs.eraseIdx n)
  | _, _, _, .nil => .nil
  | _, _, 0, .cons _ r => r
  | _, _, n + 1, .cons q r => .cons q (RDs.eraseIdx n r)
theorem RDs.insertIdx {sa : Addr} {α : List Addr} {H : Hp} {d : D} {v : V} (h : RD sa α H d v) : ∀ {ds : List D} {vs : List V} (n : Nat), RDs sa α H ds vs → RDs sa α H (ds.insertIdx n d) (vs.insertIdx n v)
  | _, _, 0, q => by simpa using .cons h q
  | _, _, n + 1, .nil => by simpa using .nil
  | _, _, n + 1, .cons q r => by simpa using .cons q (RDs.insertIdx h n r)
theorem RDs.ints {sa : Addr} {α : List Addr} {H : Hp} : ∀ {ds : List D} {vs : List V} {ns : List Int}, RDs sa α H ds vs → intsD ds = some ns → vs = ns.map V.int
  | _, _, ns, .nil, e => by cases e; rfl
  | _, _, ns, .cons (d := d) h r, e => by
    cases h <;> simp only [intsD] at e <;> try cases e
    rename_i ds vs i
    cases q : intsD ds with
    | none => rw [q] at e; cases e
    | some ms =>
      rw [q] at e
      cases e
      rw [RDs.ints r q]; rfl
theorem RDs.of_ints {sa : Addr} {α : List Addr} {H : Hp} : ∀ ns : List Int, RDs sa α H (ns.map D.int) (ns.map V.int)
  | [] => .nil
  | n :: ns => .cons (.int n) (RDs.of_ints ns)

/-! ### new cells, changed cells -/
theorem upd_step {p : Addr} {o : HO} (hp : H p = none) : Step α α H (upd H p o) := ⟨⟨[], by simp⟩, fun _ h => .inl h, fun a x e _ => by rw [upd_ne (ne_of_none e hp)]; exact e⟩
theorem new_step {p : Addr} {o : HO} (hp : H p = none) : Step α (α ++ [p]) H (upd H p o) := ⟨⟨[p], rfl⟩, fun a h => (List.mem_append.mp h).elim .inl fun h => .inr (by rw [List.mem_singleton.mp h]; exact hp), fun a x e _ => by rw [upd_ne (ne_of_none e hp)]; exact e⟩
/-- an object that is no cell is made -/
theorem RS.other (s : RS C α M H) {p : Addr} {o : HO} (hp : H p = none) : RS C α M (upd H p o) := by
  refine ⟨s.len, s.nd, fun n m e => ?_, s.sc_keep (upd_step hp)⟩
  obtain ⟨a, ho, h1, h2, r⟩ := s.ob n m e
  exact ⟨a, ho, h1, by rw [upd_ne (ne_of_none h2 hp)]; exact h2, r.mono s (upd_step hp)⟩
theorem RS.free (s : RS C α M H) {p : Addr} (hp : H p = none) : p ∉ α := fun hm => by
  obtain ⟨_, _, ho, _, _, e, _⟩ := s.at hm
  rw [hp] at e; cases e
/-- a new cell -/
theorem RS.new (s : RS C α M H) {p : Addr} {o : MO} {ho : HO} (hp : H p = none) (r : RO C (α ++ [p]) (upd H p ho) p o ho) : RS C (α ++ [p]) (M ++ [o]) (upd H p ho) := by
  have st : Step α (α ++ [p]) H (upd H p ho) := new_step hp
  refine ⟨by simp [s.len], ?_, fun n m e => ?_, s.sc_keep st⟩
  · rw [List.nodup_append]
    exact ⟨s.nd, by simp, fun a ha b hb e => by rw [List.mem_singleton.mp hb] at e; exact s.free hp (e ▸ ha)⟩
  · by_cases hn : n < M.length
    · rw [List.getElem?_append_left hn] at e
      obtain ⟨a, ho', h1, h2, r'⟩ := s.ob n m e
      exact ⟨a, ho', st.get h1, by rw [upd_ne (ne_of_none h2 hp)]; exact h2, r'.mono s st⟩
    · have hn' : n = M.length := by
        have := (List.getElem?_eq_some_iff.mp e).1
        simp at this
        omega
      subst hn'
      rw [List.getElem?_append_right (Nat.le_refl _)] at e
      simp at e
      subst e
      exact ⟨p, ho, by rw [List.getElem?_append_right (by rw [s.len]; exact Nat.le_refl _)]; simp [s.len], upd_same, r⟩
theorem set_step (s : RS C α M H) {n : Nat} {a : Addr} {ho : HO} (h : α[n]? = some a) : Step α α H (upd H a ho) :=
  ⟨⟨[], by simp⟩, fun _ h => .inl h, fun b o e hb => by
    have hne : b ≠ a := fun z => hb (by rw [z]; exact List.mem_of_getElem? h)
    rw [upd_ne hne]; exact e⟩
/-- a cell is changed -/
theorem RS.set (s : RS C α M H) {n : Nat} {a : Addr} {o : MO} {ho : HO} (h : α[n]? = some a) (r : RO C α (upd H a ho) a o ho) : RS C α (M.set n o) (upd H a ho) := by
  have st : Step α α H (upd H a ho) := set_step s h
  refine ⟨by simp [s.len], s.nd, fun m x e => ?_, s.sc_keep st⟩
  by_cases hm : m = n
  · subst hm
    have hl : m < M.length := by have := (List.getElem?_eq_some_iff.mp h).1; have := s.len; omega
    rw [List.getElem?_set_self hl] at e
    cases e
    exact ⟨a, ho, h, upd_same, r⟩
  · rw [List.getElem?_set_ne (Ne.symm hm)] at e
    obtain ⟨b, ho', h1, h2, r'⟩ := s.ob m x e
    have hb : b ≠ a := fun z => by
      subst z
      exact hm ((List.getElem?_inj (List.getElem?_eq_some_iff.mp h1).1 s.nd).mp (h1.trans h.symm))
    exact ⟨b, ho', h1, by rw [upd_ne hb]; exact h2, r'.mono s st⟩
/-- cells forgotten from the end -/
theorem RS.forget (s : RS C α M H) (n : Nat) (h : ∀ (m : Nat) (o : MO), m < n → M[m]? = some o → ∀ a ho, H a = some ho → RO C α H a o ho → RO C (α.take n) H a o ho) : RS C (α.take n) (M.take n) H := by
  refine ⟨by simp [s.len], s.nd.sublist (List.take_sublist _ _), fun m o e => ?_, ?_⟩
  rotate_left
  · rcases s.sc with ⟨h, k⟩ | h
    · exact .inl ⟨h, fun hm => k (List.mem_of_mem_take hm)⟩
    · exact .inr h
  have hm : m < n := by
    have := (List.getElem?_eq_some_iff.mp e).1
    rw [List.length_take] at this
    omega
  rw [List.getElem?_take_of_lt hm] at e
  obtain ⟨a, ho, h1, h2, r⟩ := s.ob m o e
  exact ⟨a, ho, by rw [List.getElem?_take_of_lt hm]; exact h1, h2, h m o hm e a ho h2 r⟩
end
end Pw

end
section
set_option maxHeartbeats 1000000
/-! Snd2: readings by the evaluator; truth; operators. -/
namespace Pw
open PySem PySem.Spec PyProof.Rows L2

theorem bnd_some_of {α β : Type} {x : R α} {f : α → Mem → Option β} {r : β} (h : bnd x f = some r) : ∃ a m, x = some (a, m) ∧ f a m = some r := by
  cases x with
  | none => cases h
  | some p => exact ⟨p.1, p.2, rfl, h⟩

def tV (C : PC) (f : VEnv → Mem → R D) : TE := fun σ H Q => ∃ α ρ M d M', RS C α M H ∧ RE C.sa α H ρ σ ∧ f ρ M = some (d, M') ∧ ∀ α' v H', Step α α' H H' → RS C α' M' H' → RD C.sa α' H' d v → Q v H'
def tL (C : PC) (f : VEnv → Mem → R (List D)) : TA := fun σ H Q => ∃ α ρ M d M', RS C α M H ∧ RE C.sa α H ρ σ ∧ f ρ M = some (d, M') ∧ ∀ α' v H', Step α α' H H' → RS C α' M' H' → RDs C.sa α' H' d v → Q v H'
def tBo (C : PC) (f : VEnv → Mem → R Bool) : TT := fun σ H Q => ∃ α ρ M b M', RS C α M H ∧ RE C.sa α H ρ σ ∧ f ρ M = some (b, M') ∧ ∀ α' H', Step α α' H H' → RS C α' M' H' → Q b H'
def OutR (C : PC) (α : List Addr) (H : Hp) (D : Ends) : Out → Prop
  | .nx ρ => ∀ σ, RE C.sa α H ρ σ → D.nx σ H
  | .rt d => ∀ v, RD C.sa α H d v → D.rt v H
  | .bk ρ => ∀ σ, RE C.sa α H ρ σ → D.bk σ H
  | .ct ρ => ∀ σ, RE C.sa α H ρ σ → D.ct σ H
def tX (C : PC) (f : VEnv → Mem → R Out) : TS := fun D σ H => ∃ α ρ M o M', RS C α M H ∧ RE C.sa α H ρ σ ∧ f ρ M = some (o, M') ∧ ∀ α' H', Step α α' H H' → RS C α' M' H' → OutR C α' H' D o

theorem PE.imp {X : Cx} {e : Expr} {t t' : TE} (h : PE X e t) (hi : ∀ σ H Q, t' σ H Q → t σ H Q) : PE X e t' := ⟨fun pins s σ H Q I q => h.run pins s σ H Q I (hi σ H Q q)⟩
theorem PT.imp {X : Cx} {e : Expr} {t t' : TT} (h : PT X e t) (hi : ∀ σ H Q, t' σ H Q → t σ H Q) : PT X e t' := ⟨fun pins s σ H Q I q => h.run pins s σ H Q I (hi σ H Q q)⟩
theorem PA.imp {X : Cx} {e : List Expr} {t t' : TA} (h : PA X e t) (hi : ∀ σ H Q, t' σ H Q → t σ H Q) : PA X e t' := ⟨fun pos pins s σ H Q I q => h.run pos pins s σ H Q I (hi σ H Q q)⟩
theorem PS.imp {X : Cx} {e : Stmt} {t t' : TS} (h : PS X e t) (hi : ∀ D σ H, t' D σ H → t D σ H) : PS X e t' := ⟨fun pins s σ H D I q => h.run pins s σ H D I (hi D σ H q)⟩
theorem PSs.imp {X : Cx} {e : List Stmt} {t t' : TS} (h : PSs X e t) (hi : ∀ D σ H, t' D σ H → t D σ H) : PSs X e t' := ⟨fun pins s σ H D I q => h.run pins s σ H D I (hi D σ H q)⟩

section
variable {C : PC} {X : Cx} {α : List Addr} {M M' : Mem} {H : Hp} {σ : L2.St} {ρ : VEnv}
/-- two values in a row -/
theorem bin_lift {fa fb : VEnv → Mem → R D} {k : D → D → Mem → R D} {r : R2}
    (hr : ∀ α M d e z M' x y H Q, RS C α M H → RD C.sa α H d x → RD C.sa α H e y → k d e M = some (z, M') → (∀ α' v H', Step α α' H H' → RS C α' M' H' → RD C.sa α' H' z v → Q v H') → r x y H Q) :
    ∀ σ H Q, tV C (fun ρ M => bnd (fa ρ M) fun x M => bnd (fb ρ M) fun y M => k x y M) σ H Q → tOp r (tV C fa) (tV C fb) σ H Q := by
  rintro σ H Q ⟨α, ρ, M, d, M', s, e, h, q⟩
  obtain ⟨x, M1, h1, h⟩ := bnd_some_of h
  obtain ⟨y, M2, h2, h⟩ := bnd_some_of h
  refine ⟨α, ρ, M, x, M1, s, e, h1, fun α1 v1 H1 t1 s1 r1 => ?_⟩
  refine ⟨α1, ρ, M1, y, M2, s1, e.mono s t1, h2, fun α2 v2 H2 t2 s2 r2 => ?_⟩
  exact hr _ _ _ _ _ _ _ _ _ _ s2 (r1.mono s1 t2) r2 h fun α3 v3 H3 t3 => q α3 v3 H3 ((t1.trans t2).trans t3)
theorem un_lift {fa : VEnv → Mem → R D} {k : D → Mem → R D} {r : V → Hp → VK → Prop}
    (hr : ∀ α M d z M' x H Q, RS C α M H → RD C.sa α H d x → k d M = some (z, M') → (∀ α' v H', Step α α' H H' → RS C α' M' H' → RD C.sa α' H' z v → Q v H') → r x H Q) :
    ∀ σ H Q, tV C (fun ρ M => bnd (fa ρ M) fun x M => k x M) σ H Q → tV C fa σ H fun x H1 => r x H1 Q := by
  rintro σ H Q ⟨α, ρ, M, d, M', s, e, h, q⟩
  obtain ⟨x, M1, h1, h⟩ := bnd_some_of h
  refine ⟨α, ρ, M, x, M1, s, e, h1, fun α1 v1 H1 t1 s1 r1 => ?_⟩
  exact hr _ _ _ _ _ _ _ _ s1 r1 h fun α3 v3 H3 t3 => q α3 v3 H3 (t1.trans t3)
/-- the value itself, the state as it is -/
theorem done {α : List Addr} {M : Mem} {H : Hp} {d : D} {v : V} {Q : VK} (s : RS C α M H) (r : RD C.sa α H d v) (q : ∀ α' v H', Step α α' H H' → RS C α' M H' → RD C.sa α' H' d v → Q v H') : Q v H := q α v H (Step.refl _ _) s r
/-- a new tuple -/
theorem done_tup {α : List Addr} {M : Mem} {H : Hp} {ds : List D} {vs : List V} {Q : VK} (s : RS C α M H) (r : RDs C.sa α H ds vs) {p : Addr} (hp : H p = none) (q : ∀ α' v H', Step α α' H H' → RS C α' M H' → RD C.sa α' H' (.tup ds) v → Q v H') : Q (.ref p) (upd H p (.tup vs)) :=
  q α _ _ (upd_step hp) (s.other hp) (.tup upd_same (r.mono s (upd_step hp)))
/-- a new list -/
theorem done_lst {α : List Addr} {M : Mem} {H : Hp} {ds : List D} {vs : List V} {Q : VK} (s : RS C α M H) (r : RDs C.sa α H ds vs) {p : Addr} (hp : H p = none) (q : ∀ α' v H', Step α α' H H' → RS C α' (M ++ [.lst ds]) H' → RD C.sa α' H' (.ref M.length) v → Q v H') : Q (.ref p) (upd H p (.lst vs)) :=
  q (α ++ [p]) _ _ (new_step hp) (s.new hp (.lst (r.mono s (new_step hp)))) (.ref (by rw [List.getElem?_append_right (by rw [s.len]; exact Nat.le_refl _)]; simp [s.len]))
/-- a changed list -/
theorem done_set {α : List Addr} {M : Mem} {H : Hp} {ds : List D} {vs : List V} {n : Nat} {a : Addr} {d : D} {v : V} {Q : VK} (s : RS C α M H) (h : α[n]? = some a) (r : RDs C.sa α H ds vs) (rv : RD C.sa α H d v)
    (q : ∀ α' v H', Step α α' H H' → RS C α' (M.set n (.lst ds)) H' → RD C.sa α' H' d v → Q v H') : Q v (upd H a (.lst vs)) :=
  q α _ _ (set_step s h) (s.set h (.lst (r.mono s (set_step s h)))) (rv.mono s (set_step s h))

/-! ### opening values -/
theorem RS.lst (s : RS C α M H) {n : Nat} {ds : List D} (h : M[n]? = some (.lst ds)) {v : V} (r : RD C.sa α H (.ref n) v) : ∃ a vs, v = .ref a ∧ α[n]? = some a ∧ H a = some (.lst vs) ∧ RDs C.sa α H ds vs := by
  cases r with
  | ref e =>
    obtain ⟨a, ho, h1, h2, r⟩ := s.ob n _ h
    rw [e] at h1; cases h1
    cases r with
    | lst r => exact ⟨_, _, rfl, e, h2, r⟩
theorem line_eq : sizeLine = LIM := sizeLine_eq
theorem RD.isint {sa : Addr} {i : Int} {v : V} (r : RD sa α H (.int i) v) : v = .int i := by cases r; rfl

/-! ### texts -/
theorem ofString_def (s : String) : Str.ofString s = ⟨(s.toList.map Char.toNat).toArray⟩ := Str.ofString_eq_toList s
theorem ofString_length (s : String) : (Str.ofString s).length = lenS s := by
  rw [ofString_def]; simp [Str.length, lenS]
theorem map_toNat_inj : ∀ {a b : List Char}, a.map Char.toNat = b.map Char.toNat → a = b
  | [], [], _ => rfl
  | [], _ :: _, h => by simp at h
  | _ :: _, [], h => by simp at h
  | x :: xs, y :: ys, h => by
    simp only [List.map_cons, List.cons.injEq] at h
    rw [map_toNat_inj h.2, Char.toNat_inj.mp h.1]
theorem ofString_inj {a b : String} (h : Str.ofString a = Str.ofString b) : a = b := by
  rw [ofString_def, ofString_def] at h
  have h2 : a.toList.map Char.toNat = b.toList.map Char.toNat := by
    have := congrArg (fun s : Str => s.cps.toList) h
    simpa using this
  have h3 := map_toNat_inj h2
  rw [← String.ofList_toList (s := a), h3, String.ofList_toList]
theorem ofString_append (a b : String) : Str.ofString (a ++ b) = Str.ofString a ++ Str.ofString b := by
  rw [ofString_def, ofString_def, ofString_def]
  show _ = Str.append _ _
  unfold Str.append
  simp
theorem ofString_ofList (l : List Char) : Str.ofString (String.ofList l) = ⟨(l.map Char.toNat).toArray⟩ := by
  rw [ofString_def]; simp
theorem lenS_append (a b : String) : lenS (a ++ b) = lenS a + lenS b := by simp [lenS]
theorem ofString_cps (s : String) : (Str.ofString s).cps.toList = s.toList.map Char.toNat := by rw [ofString_def]
end
end Pw

end
section
set_option maxHeartbeats 1000000
/-! Snd3: truth; the rules of expressions. -/
namespace Pw
open PySem PySem.Spec PyProof.Rows L2

section
variable {C : PC} {α : List Addr} {M M' : Mem} {H : Hp}
theorem RS.truth (s : RS C α M H) {d : D} {v : V} {k : Bool} (r : RD C.sa α H d v) (h : truth M d = some k) : TruV C.K v H k := by
  cases r with
  | non => cases h; rfl
  | bl b => cases h; rfl
  | int i =>
    cases h
    show decide (i ≠ 0) = (i != 0)
    by_cases e : i = 0
    · subst e; rfl
    · rw [decide_eq_true e]; exact (bne_iff_ne.mpr e).symm
  | @str x hl =>
    cases h
    refine ⟨by rw [ofString_length, line_eq]; exact hl, ?_⟩
    rw [ofString_length]
    show decide (x ≠ "") = (((lenS x : Nat) : Int) != 0)
    by_cases e : x = ""
    · subst e; simp [lenS]
    · have : lenS x ≠ 0 := fun q => e (by
        have q' : x.toList = [] := List.eq_nil_of_length_eq_zero q
        rw [← String.ofList_toList (s := x), q'])
      rw [decide_eq_true e]
      symm
      simp
      omega
  | @tup a ds vs ha r =>
    cases h
    refine .inr (.inl ⟨vs, .inl (.inl ha), ?_⟩)
    cases r <;> rfl
  | @ref n a e =>
    simp only [Pw.truth] at h
    cases q : M[n]? with
    | none => rw [q] at h; cases h
    | some o =>
      rw [q] at h
      cases o with
      | lst xs =>
        cases h
        obtain ⟨a', vs, e3, e4, e5, r⟩ := s.lst (v := .ref a) q (.ref e)
        cases e3
        refine .inl ⟨vs, .inl (.inl e5), ?_⟩
        cases r <;> rfl
      | dic _ => cases h
      | ins _ _ => cases h
  | scr => cases h
end

/-- what is fixed in a block's text: its slots' names, its scope, the cells that are its own -/
structure Sx where
  N : List Str
  sc : Scope
  fn : Str → Bool
/-- what is known of the context that runs -/
structure OkX (C : PC) (k : Nat) (S : Sx) (X : Cx) : Prop where
  hP : X.prog = C.prog
  hK : X.K = C.K
  hw : X.w = C.w
  hmg : X.mg = C.mg
  hbase : X.base = C.base
  hN : X.N = S.N
  nd : List.Nodup S.N
  hsc : X.env.scope = S.sc
  hfn : X.fn = S.fn
  calm : X.calm = true
  room : Room k X.A
  hxe : X.xe = fun _ _ => False

section
variable {C : PC} {k : Nat} {X : Cx} {F : FT} {a b c : Expr} {pos : Pos} {fa fb fc : VEnv → Mem → R D}
abbrev LE (C : PC) (X : Cx) (e : Expr) (f : VEnv → Mem → R D) : Prop := PE X e (tV C f)
abbrev LT (C : PC) (X : Cx) (e : Expr) (f : VEnv → Mem → R Bool) : Prop := PT X e (tBo C f)
abbrev LA (C : PC) (X : Cx) (e : List Expr) (f : VEnv → Mem → R (List D)) : Prop := PA X e (tL C f)

/-- an expression that is a test by its value's truth -/
def plainTest : Expr → Bool
  | .UnaryOp .Not _ _ => false
  | .BoolOp .. => false
  | .IfExp .. => false
  | .Compare .. => false
  | _ => true
theorem plainTest_is {e : Expr} (h : plainTest e = true) (env : Env) : ∀ whole, isTrue e env whole = (do let v ← whole; standAt e.pos; holding [v] (truthy v)) := by
  intro whole
  cases e <;> first
    | rfl
    | exact absurd h Bool.false_ne_true
    | (rename_i op _ _; cases op <;> first | rfl | exact absurd h Bool.false_ne_true)

theorem lt_truth (hK : X.K = C.K) (ha : LE C X a fa) (he : plainTest a = true) : LT C X a (fun ρ M => truthR (fa ρ M)) := by
  refine PT.imp (pt_truth ha (plainTest_is he X.env)) ?_
  rintro σ H Q ⟨α, ρ, M, k, M', s, e, h, q⟩
  obtain ⟨x, M1, h1, h⟩ := bnd_some_of h
  obtain ⟨b, hb, e2⟩ := Option.map_eq_some_iff.mp h
  cases e2
  refine ⟨α, ρ, M, x, _, s, e, h1, fun α1 v1 H1 t1 s1 r1 => ⟨k, ?_, q α1 H1 t1 s1⟩⟩
  rw [hK]
  exact s1.truth r1 hb

/-! ### names, constants -/
theorem le_var {i : Nat} {x : Str} (hN : X.N[i]? = some x) (hv : Vis X.env.scope x) (hd : (x == ("__debug__" : Str)) = false) (hcd : (x == ("__classdict__" : Str)) = false) : LE C X (.Name x pos) (evE F (.var i)) := by
  refine PE.imp (pe_var hN hv hd hcd) ?_
  rintro σ H Q ⟨α, ρ, M, d, M', s, e, h, q⟩
  simp only [evE] at h
  split at h
  · rename_i d' e1
    cases h
    obtain ⟨v, h1, h2⟩ := e.at_ i _ e1
    exact ⟨v, h1, done s h2 q⟩
  · cases h
theorem le_con {v : V} {d : D} {e : Expr} {f : VEnv → Mem → R D} (h : PE X e (tC v)) (hf : ∀ ρ M, f ρ M = some (d, M)) (hr : ∀ α H, RD C.sa α H d v) : LE C X e f := by
  refine PE.imp h ?_
  rintro σ H Q ⟨α, ρ, M, d', M', s, e, h, q⟩
  rw [hf] at h; cases h
  exact done s (hr α H) q
theorem le_int {i : Int} {j : Nat} : LE C X (.Constant (.int i) j pos) (evE F (.int i)) := le_con pe_int (fun _ _ => by simp [evE]) fun _ _ => .int i
theorem le_bl {i : Bool} {j : Nat} : LE C X (.Constant (.bool i) j pos) (evE F (.bl i)) := le_con pe_bl (fun _ _ => by simp [evE]) fun _ _ => .bl i
theorem le_non {j : Nat} : LE C X (.Constant .none j pos) (evE F .non) := le_con pe_non (fun _ _ => by simp [evE]) fun _ _ => .non
theorem le_str {s : String} {j : Nat} (h : lenS s ≤ LIM) : LE C X (.Constant (.str (Str.ofString s)) j pos) (evE F (.str s)) := le_con pe_str (fun _ _ => by simp [evE]) fun _ _ => .str h

/-! ### arguments, displays -/
theorem la_nil : LA C X [] (evEs F .nil) := by
  refine PA.imp pa_nil ?_
  rintro σ H Q ⟨α, ρ, M, d', M', s, e, h, q⟩
  simp only [evEs] at h; cases h
  exact q α [] H (Step.refl _ _) s .nil
def notStar : Expr → Bool
  | .Starred .. => false
  | _ => true
theorem star_cons {e : Expr} (h : notStar e = true) (es : List Expr) (env : Env) : starEach (e :: es) env = (false, eval e env) :: starEach es env := by
  cases e <;> first | rfl | exact absurd h Bool.false_ne_true
theorem la_cons {es : List Expr} {e r : E} (hn : notStar a = true) (ha : LE C X a (evE F e)) (hr : LA C X es (evEs F r)) : LA C X (a :: es) (evEs F (.cons e r)) := by
  refine PA.imp (pa_cons ha hr (star_cons hn es X.env)) ?_
  rintro σ H Q ⟨α, ρ, M, d', M', s, e, h, q⟩
  simp only [evEs] at h
  obtain ⟨x, M1, h1, h⟩ := bnd_some_of h
  obtain ⟨xs, M2, h2, h⟩ := bnd_some_of h
  cases h
  refine ⟨α, ρ, M, x, M1, s, e, h1, fun α1 v1 H1 t1 s1 r1 => ?_⟩
  refine ⟨α1, ρ, M1, xs, _, s1, e.mono s t1, h2, fun α2 v2 H2 t2 s2 r2 => ?_⟩
  exact q α2 _ H2 (t1.trans t2) s2 (.cons (r1.mono s1 t2) r2)
/-- how many expressions are written in a row -/
def rowLen : E → Option Nat
  | .nil => some 0
  | .cons _ r => (rowLen r).map (· + 1)
  | _ => none
theorem rowLen_ev : ∀ {r : E} {n : Nat} {ρ : VEnv} {M M' : Mem} {xs : List D}, rowLen r = some n → evEs F r ρ M = some (xs, M') → xs.length = n := by
  intro r
  induction r with
  | nil => intro n ρ M M' xs h1 h2; simp only [evEs] at h2; cases h2; cases h1; rfl
  | cons a r _ ih =>
    intro n ρ M M' xs h1 h2
    simp only [evEs] at h2
    obtain ⟨x, M1, e1, h2⟩ := bnd_some_of h2
    obtain ⟨ys, M2, e2, h2⟩ := bnd_some_of h2
    cases h2
    obtain ⟨m, hm, rfl⟩ := Option.map_eq_some_iff.mp h1
    simp [ih hm e2]
  | _ => intro n ρ M M' xs h1 h2; cases h1
theorem le_tup {es : List Expr} {r : E} {n m : Nat} (hr : rowLen r = some m) (hm : m ≤ LIM) (h : LA C X es (evEs F r)) : LE C X (.Tuple es n pos) (evE F (.tup r)) := by
  refine PE.imp (pe_tup h) ?_
  rintro σ H Q ⟨α, ρ, M, d', M', s, e, h, q⟩
  simp only [evE] at h
  obtain ⟨xs, M1, h1, h⟩ := bnd_some_of h
  cases h
  refine ⟨α, ρ, M, xs, _, s, e, h1, fun α1 v1 H1 t1 s1 r1 => ⟨?_, fun p hp => done_tup s1 r1 hp fun α' v H' t => q α' v H' (t1.trans t)⟩⟩
  rw [← r1.length, rowLen_ev hr h1, line_eq]; exact hm
theorem le_lst {es : List Expr} {r : E} {m : Nat} (hr : rowLen r = some m) (hm : m ≤ LIM) (h : LA C X es (evEs F r)) : LE C X (.List es pos) (evE F (.lst r)) := by
  refine PE.imp (pe_lst h) ?_
  rintro σ H Q ⟨α, ρ, M, d', M', s, e, h, q⟩
  simp only [evE] at h
  obtain ⟨xs, M1, h1, h⟩ := bnd_some_of h
  cases h
  refine ⟨α, ρ, M, xs, _, s, e, h1, fun α1 v1 H1 t1 s1 r1 => ⟨?_, fun p hp => done_lst s1 r1 hp fun α' v H' t => q α' v H' (t1.trans t)⟩⟩
  rw [← r1.length, rowLen_ev hr h1, line_eq]; exact hm

/-! ### operators -/
theorem OpR.imp {f : Value → Value → Sem Value} {r r' : R2} (h : OpR X f r) (hi : ∀ x y H Q, r' x y H Q → r x y H Q) : OpR X f r' := fun pins s σ H x y v u Q I rx ry q => h pins s σ H x y v u Q I rx ry (hi x y H Q q)
def bop : BOp → Operator
  | .add => .Add | .sub => .Sub | .mul => .Mult | .mod => .Mod | .fdiv => .FloorDiv | .pow => .Pow
/-- what an operation of the evaluator asks, by values -/
def rBin (C : PC) (op : BOp) : R2 := fun x y H Q => ∃ α M d e z M', RS C α M H ∧ RD C.sa α H d x ∧ RD C.sa α H e y ∧ binD M op d e = some (z, M') ∧ ∀ α' v H', Step α α' H H' → RS C α' M' H' → RD C.sa α' H' z v → Q v H'
theorem rep_rel {sa : Addr} {α : List Addr} {H : Hp} {ds : List D} {vs : List V} (r : RDs sa α H ds vs) : ∀ k : Nat, RDs sa α H (List.replicate k ds).flatten (List.replicate k vs).flatten
  | 0 => .nil
  | k + 1 => by
    rw [List.replicate_succ, List.replicate_succ, List.flatten_cons, List.flatten_cons]
    exact r.append (rep_rel r k)
theorem op_bin (hK : X.K = C.K) (op : BOp) : OpR X (binaryOp (bop op)) (rBin C op) := by
  intro pins s σ H x y v u Q I rx ry h
  obtain ⟨α, M, d, e, z, M', S, rd, re, h, q⟩ := h
  cases op with
  | add =>
    cases rd with
    | int i =>
      cases re with
      | int j => cases h; exact op_add pins s σ H _ _ v u Q I rx ry ⟨i, j, rfl, rfl, done S (.int _) q⟩
      | _ => cases h
    | @str x hx =>
      cases re with
      | @str y hy =>
        simp only [binD] at h
        split at h
        · rename_i hl
          cases h
          refine op_add_str pins s σ H _ _ v u Q I rx ry ⟨_, _, rfl, rfl, ?_, ?_⟩
          · rw [ofString_length, ofString_length, line_eq]; exact hl
          · rw [← ofString_append]
            exact done S (.str (by rw [lenS_append]; exact hl)) q
        · cases h
      | _ => cases h
    | @tup a ds vs ha r =>
      cases re with
      | @tup b es us hb r2 =>
        simp only [binD] at h
        split at h
        · rename_i hl
          cases h
          refine op_catA pins s σ H _ _ v u Q I rx ry ⟨a, b, vs, us, rfl, rfl, .inl (.inl ha), .inl (.inl hb), ?_, fun e0 => ?_, fun _ e0 => ?_, fun _ _ p hp => ?_⟩
          · rw [← r.length, ← r2.length, line_eq]; exact hl
          · subst e0
            cases r
            exact done S (.tup hb r2) q
          · subst e0
            cases r2
            exact done S (.tup ha r) (by simpa using q)
          · exact done_tup S (r.append r2) hp q
        · cases h
      | _ => cases h
    | @ref n a ha =>
      cases re with
      | @ref m b hb =>
        simp only [binD] at h
        cases e1 : M[n]? with
        | none => rw [e1] at h; cases h
        | some o1 =>
          cases e2 : M[m]? with
          | none => rw [e1, e2] at h; cases o1 <;> cases h
          | some o2 =>
            rw [e1, e2] at h
            cases o1 with
            | lst xs =>
              cases o2 with
              | lst ys =>
                simp only at h
                split at h
                · rename_i hl
                  cases h
                  obtain ⟨a', vs, q1, q2, q3, r⟩ := S.lst (v := .ref a) e1 (.ref ha)
                  cases q1
                  obtain ⟨b', us, q1, q2', q3', r2⟩ := S.lst (v := .ref b) e2 (.ref hb)
                  cases q1
                  refine op_cat pins s σ H _ _ v u Q I rx ry ⟨a, b, vs, us, rfl, rfl, q3, q3', ?_, fun p hp => done_lst S (r.append r2) hp q⟩
                  rw [← r.length, ← r2.length, line_eq]; exact hl
                · cases h
              | dic _ => cases h
              | ins _ _ => cases h
            | dic _ => cases h
            | ins _ _ => cases h
      | _ => cases h
    | _ => cases re <;> cases h
  | sub =>
    cases rd with
    | int i =>
      cases re with
      | int j => cases h; exact op_sub pins s σ H _ _ v u Q I rx ry ⟨i, j, rfl, rfl, done S (.int _) q⟩
      | _ => cases h
    | _ => cases re <;> cases h
  | mul =>
    cases rd with
    | int i =>
      cases re with
      | int j =>
        simp only [binD] at h
        split at h
        · rename_i hc
          cases h
          exact op_mul pins s σ H _ _ v u Q I rx ry ⟨i, j, rfl, rfl, hc, done S (.int _) q⟩
        · cases h
      | _ => cases h
    | @ref n a ha =>
      cases re with
      | int j =>
        simp only [binD] at h
        cases e1 : M[n]? with
        | none => rw [e1] at h; cases h
        | some o1 =>
          rw [e1] at h
          cases o1 with
          | lst xs =>
            simp only at h
            split at h
            · rename_i hc
              cases h
              obtain ⟨a', vs, q1, q2, q3, r⟩ := S.lst (v := .ref a) e1 (.ref ha)
              cases q1
              refine op_rep pins s σ H _ _ v u Q I rx ry ⟨a, j, vs, rfl, rfl, q3, by omega, by omega, ?_, fun p hp => done_lst S (rep_rel r _) hp q⟩
              rw [← r.length, line_eq]; exact hc.2.2
            · cases h
          | dic _ => cases h
          | ins _ _ => cases h
      | _ => cases h
    | _ => cases re <;> cases h
  | mod =>
    cases rd with
    | int i =>
      cases re with
      | int j =>
        simp only [binD] at h
        split at h
        · rename_i hc
          cases h
          exact op_mod pins s σ H _ _ v u Q I rx ry ⟨i, j, rfl, rfl, hc, done S (.int _) q⟩
        · cases h
      | _ => cases h
    | _ => cases re <;> cases h
  | fdiv =>
    cases rd with
    | int i =>
      cases re with
      | int j =>
        simp only [binD] at h
        split at h
        · rename_i hc
          cases h
          exact op_fdiv pins s σ H _ _ v u Q I rx ry ⟨i, j, rfl, rfl, hc, done S (.int _) q⟩
        · cases h
      | _ => cases h
    | _ => cases re <;> cases h
  | pow =>
    cases rd with
    | int i =>
      cases re with
      | int j =>
        simp only [binD] at h
        split at h
        · rename_i hc
          cases h
          exact op_pow pins s σ H _ _ v u Q I rx ry ⟨i, j, rfl, rfl, hc, done S (.int _) q⟩
        · cases h
      | _ => cases h
    | _ => cases re <;> cases h
theorem le_bin (hK : X.K = C.K) (op : BOp) {x y : E} (ha : LE C X a (evE F x)) (hb : LE C X b (evE F y)) : LE C X (.BinOp a (bop op) b pos) (evE F (.bin op x y)) := by
  refine PE.imp (pe_op (op_bin hK op) ha hb) ?_
  intro σ H Q h
  refine bin_lift (k := fun x y M => binD M op x y) (fun α M d e z M' x y H Q S rd re h q => ⟨α, M, d, e, z, M', S, rd, re, h, q⟩) σ H Q ?_
  simpa only [evE] using h
end
end Pw

end
section
set_option maxHeartbeats 1000000
/-! Snd4: equality, in, index: comparisons. -/
namespace Pw
open PySem PySem.Spec PyProof.Rows L2

mutual
def PV.py : PV → PyData
  | .non => .none
  | .bl b => .bool b
  | .int i => .int i
  | .str s => .str (Str.ofString s)
  | .tup xs => .tuple (PV.pys xs)
  | .lst xs => .list (PV.pys xs)
def PV.pys : List PV → List PyData
  | [] => []
  | x :: xs => PV.py x :: PV.pys xs
end
mutual
def PV.dep : PV → Nat
  | .tup xs => PV.deps xs + 1
  | .lst xs => PV.deps xs + 1
  | _ => 0
def PV.deps : List PV → Nat
  | [] => 0
  | x :: xs => max (PV.dep x) (PV.deps xs)
end
theorem b2i_l (b : Bool) (i : Int) : ((if b = true then 1 else 0) == i) = decide (b2i b = i) := by
  unfold b2i
  exact Bool.beq_eq_decide_eq ..
theorem b2i_r (b : Bool) (i : Int) : (i == (if b = true then 1 else 0)) = decide (i = b2i b) := by
  unfold b2i
  exact Bool.beq_eq_decide_eq ..
mutual
theorem PV.eqv_py : ∀ a b : PV, PyData.eqv a.py b.py = PV.eqv a b
  | .non, b => by cases b <;> simp [PV.py, PyData.eqv, PV.eqv]
  | .bl x, b => by
    cases b with
    | int j => simp only [PV.py, PyData.eqv, PV.eqv]; exact b2i_l x j
    | _ => simp [PV.py, PyData.eqv, PV.eqv]
  | .int i, b => by
    cases b with
    | bl x => simp only [PV.py, PyData.eqv, PV.eqv]; exact b2i_r x i
    | int j => simp only [PV.py, PyData.eqv, PV.eqv]; exact Bool.beq_eq_decide_eq ..
    | _ => simp [PV.py, PyData.eqv, PV.eqv]
  | .str s, b => by
    cases b with
    | str t =>
      simp only [PV.py, PyData.eqv, PV.eqv]
      rw [Bool.beq_eq_decide_eq]
      by_cases e : s = t
      · subst e; simp
      · rw [decide_eq_false e, decide_eq_false fun q => e (ofString_inj q)]
    | _ => simp [PV.py, PyData.eqv, PV.eqv]
  | .tup xs, b => by
    cases b with
    | tup ys => simp only [PV.py, PyData.eqv, PV.eqv]; exact PV.eqvs_pys xs ys
    | _ => simp [PV.py, PyData.eqv, PV.eqv]
  | .lst xs, b => by
    cases b with
    | lst ys => simp only [PV.py, PyData.eqv, PV.eqv]; exact PV.eqvs_pys xs ys
    | _ => simp [PV.py, PyData.eqv, PV.eqv]
theorem PV.eqvs_pys : ∀ xs ys : List PV, PyData.eqvAll (PV.pys xs) (PV.pys ys) = PV.eqvs xs ys
  | [], [] => by simp [PV.pys, PyData.eqvAll, PV.eqvs]
  | [], _ :: _ => by simp [PV.pys, PyData.eqvAll, PV.eqvs]
  | _ :: _, [] => by simp [PV.pys, PyData.eqvAll, PV.eqvs]
  | x :: xs, y :: ys => by simp only [PV.pys, PyData.eqvAll, PV.eqvs]; rw [PV.eqv_py x y, PV.eqvs_pys xs ys]
end
theorem strOk_of (s : String) : PyData.strOk (Str.ofString s) = true := by
  unfold PyData.strOk
  rw [ofString_def, List.all_toArray, List.all_map, List.all_eq_true]
  intro c _
  have h := c.valid
  have h2 : c.toNat < 0x110000 := by
    rcases h with h | ⟨_, h⟩
    · exact Nat.lt_trans h (by decide)
    · exact h
  exact decide_eq_true h2
mutual
theorem PV.canLay : ∀ a : PV, a.py.canLay0 = true
  | .non => by simp [PV.py, PyData.canLay0]
  | .bl _ => by simp [PV.py, PyData.canLay0]
  | .int _ => by simp [PV.py, PyData.canLay0]
  | .str s => by simp only [PV.py, PyData.canLay0]; exact strOk_of s
  | .tup xs => by simp only [PV.py, PyData.canLay0]; exact PV.canLays xs
  | .lst xs => by simp only [PV.py, PyData.canLay0]; exact PV.canLays xs
theorem PV.canLays : ∀ xs : List PV, PyData.canLayAll0 (PV.pys xs) = true
  | [] => by simp [PV.pys, PyData.canLayAll0]
  | x :: xs => by simp only [PV.pys, PyData.canLayAll0]; rw [PV.canLay x, PV.canLays xs]; rfl
end
mutual
theorem PV.depth_py : ∀ a : PV, a.py.depth = a.dep
  | .non => by simp [PV.py, PyData.depth, PV.dep]
  | .bl _ => by simp [PV.py, PyData.depth, PV.dep]
  | .int _ => by simp [PV.py, PyData.depth, PV.dep]
  | .str s => by simp [PV.py, PyData.depth, PV.dep]
  | .tup xs => by simp only [PV.py, PyData.depth, PV.dep]; rw [PV.depth_pys xs]
  | .lst xs => by simp only [PV.py, PyData.depth, PV.dep]; rw [PV.depth_pys xs]
theorem PV.depth_pys : ∀ xs : List PV, PyData.depthAll (PV.pys xs) = PV.deps xs
  | [] => by simp [PV.pys, PyData.depthAll, PV.deps]
  | x :: xs => by simp only [PV.pys, PyData.depthAll, PV.deps]; rw [PV.depth_py x, PV.depth_pys xs]
end
theorem PV.shaped {a : PV} (h : a.dep ≤ 64) : SeqAt.shaped a.py = true := by
  unfold SeqAt.shaped
  rw [PV.canLay, PV.depth_py, decide_eq_true h]; rfl

theorem mapO_nil {α β : Type} {f : α → Option β} {r : List β} (h : mapO f [] = some r) : r = [] := by cases h; rfl
theorem mapO_cons {α β : Type} {f : α → Option β} {x : α} {xs : List α} {r : List β} (h : mapO f (x :: xs) = some r) : ∃ y ys, f x = some y ∧ mapO f xs = some ys ∧ r = y :: ys := by
  unfold mapO at h
  cases e : f x with
  | none => rw [e] at h; cases h
  | some y =>
    rw [e] at h
    cases e2 : mapO f xs with
    | none => rw [e2] at h; cases h
    | some ys => rw [e2] at h; cases h; exact ⟨y, ys, rfl, rfl, rfl⟩

section
variable {C : PC} {α : List Addr} {M M' : Mem} {H : Hp}
theorem reify_all (n : Nat) (s : RS C α M H) (ih : ∀ (d : D) (v : V) (p : PV), reify n M d = some p → RD C.sa α H d v → Dp C.K H v p.py ∧ p.dep ≤ n) :
    ∀ (ds : List D) (vs : List V) (ps : List PV), mapO (reify n M) ds = some ps → RDs C.sa α H ds vs → DpAll C.K H vs (PV.pys ps) ∧ PV.deps ps ≤ n
  | [], _, _, h, r => by
    cases r
    cases mapO_nil h
    exact ⟨by simpa only [PV.pys] using DpAll.nil, by simp [PV.deps]⟩
  | d :: ds, _, _, h, r => by
    cases r with
    | cons r1 r2 =>
      obtain ⟨y, ys, h1, h2, rfl⟩ := mapO_cons h
      obtain ⟨a1, a2⟩ := ih d _ y h1 r1
      obtain ⟨b1, b2⟩ := reify_all n s ih ds _ ys h2 r2
      exact ⟨by simpa only [PV.pys] using DpAll.cons a1 b1, by simp only [PV.deps]; omega⟩
theorem reify_ok (s : RS C α M H) : ∀ (n : Nat) (d : D) (v : V) (p : PV), reify n M d = some p → RD C.sa α H d v → Dp C.K H v p.py ∧ p.dep ≤ n := by
  intro n
  induction n with
  | zero =>
    intro d v p h r
    cases r with
    | non => simp only [reify] at h; cases h; exact ⟨by simpa only [PV.py] using Dp.non, by simp [PV.dep]⟩
    | bl b => simp only [reify] at h; cases h; exact ⟨by simpa only [PV.py] using Dp.bl b, by simp [PV.dep]⟩
    | int i => simp only [reify] at h; cases h; exact ⟨by simpa only [PV.py] using Dp.int i, by simp [PV.dep]⟩
    | str hs => simp only [reify] at h; cases h; exact ⟨by simpa only [PV.py] using Dp.str _, by simp [PV.dep]⟩
    | tup _ _ => simp only [reify] at h; cases h
    | ref _ => simp only [reify] at h; cases h
    | scr => simp only [reify] at h; cases h
  | succ n ih =>
    intro d v p h r
    cases r with
    | non => simp only [reify] at h; cases h; exact ⟨by simpa only [PV.py] using Dp.non, by simp [PV.dep]⟩
    | bl b => simp only [reify] at h; cases h; exact ⟨by simpa only [PV.py] using Dp.bl b, by simp [PV.dep]⟩
    | int i => simp only [reify] at h; cases h; exact ⟨by simpa only [PV.py] using Dp.int i, by simp [PV.dep]⟩
    | str hs => simp only [reify] at h; cases h; exact ⟨by simpa only [PV.py] using Dp.str _, by simp [PV.dep]⟩
    | tup ha rs =>
      simp only [reify] at h
      obtain ⟨ps, hp, e⟩ := Option.map_eq_some_iff.mp h
      subst e
      obtain ⟨a1, a2⟩ := reify_all n s ih _ _ ps hp rs
      exact ⟨by simpa only [PV.py] using Dp.tup (.inl (.inl ha)) a1, by simp only [PV.dep]; omega⟩
    | @ref m a hm =>
      simp only [reify] at h
      cases e1 : M[m]? with
      | none => rw [e1] at h; cases h
      | some o =>
        rw [e1] at h
        cases o with
        | lst xs =>
          obtain ⟨ps, hp, e⟩ := Option.map_eq_some_iff.mp h
          subst e
          obtain ⟨a', vs, q1, q2, q3, rs⟩ := s.lst (v := .ref a) e1 (.ref hm)
          cases q1
          obtain ⟨a1, a2⟩ := reify_all n s ih _ _ ps hp rs
          exact ⟨by simpa only [PV.py] using Dp.lst (.inl (.inl q3)) a1, by simp only [PV.dep]; omega⟩
        | dic _ => cases h
        | ins _ _ => cases h
    | scr => simp only [reify] at h; cases h
end

/-! plain data -/
mutual
def D.pv : D → PV
  | .non => .non
  | .bl b => .bl b
  | .int i => .int i
  | .str s => .str s
  | .tup xs => .tup (D.pvs xs)
  | _ => .non
def D.pvs : List D → List PV
  | [] => []
  | x :: xs => D.pv x :: D.pvs xs
end
theorem reify_pure_all (M : Mem) (n : Nat) (ih : ∀ d : D, d.plain n = true → reify n M d = some d.pv) : ∀ ds : List D, D.plains n ds = true → mapO (reify n M) ds = some (D.pvs ds)
  | [], _ => by simp [mapO, D.pvs]
  | d :: ds, h => by
    simp only [D.plains, Bool.and_eq_true] at h
    simp only [mapO, ih d h.1, reify_pure_all M n ih ds h.2, D.pvs]
theorem reify_pure (M : Mem) : ∀ (n : Nat) (d : D), d.plain n = true → reify n M d = some d.pv := by
  intro n
  induction n with
  | zero => intro d h; cases d <;> simp_all [D.plain, reify, D.pv]
  | succ n ih =>
    intro d h
    cases d with
    | tup xs =>
      simp only [D.plain] at h
      simp only [reify, reify_pure_all M n ih xs h, D.pv, Option.map_some]
    | _ => simp_all [D.plain, reify, D.pv]
mutual
theorem D.eqv_pv : ∀ (n m : Nat) (a b : D), a.plain n = true → b.plain m = true → PV.eqv a.pv b.pv = a.eqv b
  | n, m, .non, b, _, hb => by cases b <;> simp_all [D.pv, PV.eqv, D.eqv, D.plain]
  | n, m, .bl _, b, _, hb => by cases b <;> simp_all [D.pv, PV.eqv, D.eqv, D.plain]
  | n, m, .int _, b, _, hb => by cases b <;> simp_all [D.pv, PV.eqv, D.eqv, D.plain]
  | n, m, .str _, b, _, hb => by cases b <;> simp_all [D.pv, PV.eqv, D.eqv, D.plain]
  | n, m, .ref _, b, ha, hb => by cases n <;> simp [D.plain] at ha
  | n, m, .scr, b, ha, hb => by cases n <;> simp [D.plain] at ha
  | n, m, .tup xs, b, ha, hb => by
    cases n with
    | zero => simp [D.plain] at ha
    | succ n =>
      cases b with
      | tup ys =>
        cases m with
        | zero => simp [D.plain] at hb
        | succ m =>
          simp only [D.plain] at ha hb
          simp only [D.pv, PV.eqv, D.eqv]
          exact D.eqvs_pvs n m xs ys ha hb
      | _ => simp_all [D.pv, PV.eqv, D.eqv, D.plain]
theorem D.eqvs_pvs : ∀ (n m : Nat) (xs ys : List D), D.plains n xs = true → D.plains m ys = true → PV.eqvs (D.pvs xs) (D.pvs ys) = D.eqvs xs ys
  | n, m, [], [], _, _ => by simp [D.pvs, PV.eqvs, D.eqvs]
  | n, m, [], _ :: _, _, _ => by simp [D.pvs, PV.eqvs, D.eqvs]
  | n, m, _ :: _, [], _, _ => by simp [D.pvs, PV.eqvs, D.eqvs]
  | n, m, x :: xs, y :: ys, ha, hb => by
    simp only [D.plains, Bool.and_eq_true] at ha hb
    simp only [D.pvs, PV.eqvs, D.eqvs]
    rw [D.eqv_pv n m x y ha.1 hb.1, D.eqvs_pvs n m xs ys ha.2 hb.2]
end
/-- equality by reading both -/
theorem eqD_reify {M : Mem} {a b : D} {k : Bool} (h : eqD M a b = some k) : ∃ x y, reify 60 M a = some x ∧ reify 60 M b = some y ∧ k = PV.eqv x y := by
  unfold eqD at h
  split at h
  · rename_i hp
    cases h
    exact ⟨_, _, reify_pure M 60 a hp.1, reify_pure M 60 b hp.2, (D.eqv_pv 60 60 a b hp.1 hp.2).symm⟩
  · cases e1 : reify 60 M a with
    | none => rw [e1] at h; cases h
    | some x =>
      cases e2 : reify 60 M b with
      | none => rw [e1, e2] at h; cases h
      | some y => rw [e1, e2] at h; cases h; exact ⟨x, y, rfl, rfl, rfl⟩
theorem inD_reify {M : Mem} {x : D} : ∀ {ys : List D} {k : Bool}, inD M x ys = some k → ∃ px ps, reify 60 M x = some px ∧ mapO (reify 60 M) ys = some ps ∧ k = ps.any fun z => PV.eqv z px
  | [], k, h => by
    unfold inD at h
    split at h
    · rename_i hp
      cases h
      exact ⟨_, [], reify_pure M 60 x hp, rfl, rfl⟩
    · obtain ⟨px, hx, e⟩ := Option.map_eq_some_iff.mp h
      cases e
      exact ⟨px, [], hx, rfl, rfl⟩
  | y :: ys, k, h => by
    unfold inD at h
    cases e1 : eqD M y x with
    | none => rw [e1] at h; cases h
    | some a =>
      cases e2 : inD M x ys with
      | none => rw [e1, e2] at h; cases h
      | some b =>
        rw [e1, e2] at h
        cases h
        obtain ⟨py, px', h1, h2, h3⟩ := eqD_reify e1
        obtain ⟨px, ps, h0, h4, h5⟩ := inD_reify e2
        rw [h2] at h0; cases h0
        exact ⟨px', py :: ps, h2, by simp only [mapO, h1, h4], by simp [h3, h5]⟩
theorem any_py (px : PV) : ∀ ps : List PV, ((PV.pys ps).any fun z => PyData.eqv z px.py) = ps.any fun z => PV.eqv z px
  | [] => by simp [PV.pys]
  | p :: ps => by simp only [PV.pys, List.any_cons]; rw [PV.eqv_py, any_py px ps]

/-! ### comparisons -/
def cop : COp → CmpOp
  | .eq => .Eq | .ne => .NotEq | .lt => .Lt | .le => .LtE | .gt => .Gt | .ge => .GtE | .isin => .In | .notin => .NotIn | .ltl => .Lt
def rCmp (C : PC) (op : COp) : R2 := fun x y H Q => ∃ α M d e k, RS C α M H ∧ RD C.sa α H d x ∧ RD C.sa α H e y ∧ cmpD M op d e = some k ∧ Q (.bl k) H
section
variable {C : PC} {X : Cx}
theorem op_inT (hu : X.A.units + 65 < cLine) : OpR X (compareOp .In) (fun x y H Q => ∃ d ds, Dp X.K H x d ∧ Dp X.K H y (.tuple ds) ∧ SeqAt.shaped d = true ∧ SeqAt.shaped (.list ds) = true ∧ Q (.bl (ds.any fun z => PyData.eqv z d)) H) := by
  intro pins s σ H x y v u Q I rx ry h
  obtain ⟨d, ds, hd, he, sd, se, q⟩ := h
  obtain ⟨as, r1⟩ := Dp.reads I d x v hd rx
  obtain ⟨bs, r2⟩ := Dp.reads I (.tuple ds) y u he ry
  exact SeqAt.in_tuple_reads r2 r1 (SeqAt.canLay_of_shaped se) (SeqAt.canLay_of_shaped sd) (room_in_shaped sd hu) ⟨.bl _, H, I, rfl, q⟩
theorem op_notInT (hu : X.A.units + 65 < cLine) : OpR X (compareOp .NotIn) (fun x y H Q => ∃ d ds, Dp X.K H x d ∧ Dp X.K H y (.tuple ds) ∧ SeqAt.shaped d = true ∧ SeqAt.shaped (.list ds) = true ∧ Q (.bl (!ds.any fun z => PyData.eqv z d)) H) := by
  intro pins s σ H x y v u Q I rx ry h
  obtain ⟨d, ds, hd, he, sd, se, q⟩ := h
  obtain ⟨as, r1⟩ := Dp.reads I d x v hd rx
  obtain ⟨bs, r2⟩ := Dp.reads I (.tuple ds) y u he ry
  exact SeqAt.notIn_tuple_reads r2 r1 (SeqAt.canLay_of_shaped se) (SeqAt.canLay_of_shaped sd) (room_in_shaped sd hu) ⟨.bl _, H, I, rfl, q⟩
end
section
variable {C : PC} {α : List Addr} {M : Mem} {H : Hp}
theorem eq_rel (s : RS C α M H) {a b : D} {x y : V} {k : Bool} (ra : RD C.sa α H a x) (rb : RD C.sa α H b y) (h : eqD M a b = some k) :
    ∃ d e, Dp C.K H x d ∧ Dp C.K H y e ∧ SeqAt.shaped d = true ∧ SeqAt.shaped e = true ∧ PyData.eqv d e = k := by
  obtain ⟨p, q, h1, h2, rfl⟩ := eqD_reify h
  obtain ⟨a1, a2⟩ := reify_ok s 60 a x p h1 ra
  obtain ⟨b1, b2⟩ := reify_ok s 60 b y q h2 rb
  exact ⟨_, _, a1, b1, PV.shaped (by omega), PV.shaped (by omega), PV.eqv_py p q⟩
/-- x in a row of values -/
theorem in_rel (s : RS C α M H) {a : D} {x : V} {ds : List D} {vs : List V} {k : Bool} (ra : RD C.sa α H a x) (rs : RDs C.sa α H ds vs) (h : inD M a ds = some k) :
    ∃ d es, Dp C.K H x d ∧ DpAll C.K H vs es ∧ SeqAt.shaped d = true ∧ SeqAt.shaped (.list es) = true ∧ (es.any fun z => PyData.eqv z d) = k := by
  obtain ⟨px, ps, h1, h2, rfl⟩ := inD_reify h
  obtain ⟨a1, a2⟩ := reify_ok s 60 a x px h1 ra
  obtain ⟨b1, b2⟩ := reify_all 60 s (fun d v p h r => reify_ok s 60 d v p h r) ds vs ps h2 rs
  refine ⟨_, _, a1, b1, PV.shaped (by omega), ?_, any_py px ps⟩
  have := PV.shaped (a := .lst ps) (by simp only [PV.dep]; omega)
  simpa only [PV.py] using this
theorem toNat_mem {c : Char} {l : List Char} : c.toNat ∈ l.map Char.toNat ↔ c ∈ l := by
  constructor
  · intro h
    obtain ⟨d, hd, e⟩ := List.mem_map.mp h
    rw [← Char.toNat_inj.mp e]; exact hd
  · exact fun h => List.mem_map_of_mem h
end
section
variable {C : PC} {X : Cx} {k : Nat}
/-- x in y, by the evaluator -/
theorem mem_cases {α : List Addr} {M : Mem} {H : Hp} {d e : D} {x y : V} {b : Bool} (S : RS C α M H) (rd : RD C.sa α H d x) (re : RD C.sa α H e y) (h : memD M d e = some b) (nd : ∀ (p : Nat) (kvs : List (D × D)), e = .ref p → M[p]? ≠ some (.dic kvs)) :
    (∃ d es, Dp C.K H x d ∧ (Dp C.K H y (.list es) ∨ Dp C.K H y (.tuple es)) ∧ SeqAt.shaped d = true ∧ SeqAt.shaped (.list es) = true ∧ (es.any fun z => PyData.eqv z d) = b) ∨
    (∃ (c : Nat) (z : Str), x = .str ⟨#[c]⟩ ∧ y = .str z ∧ decide (c ∈ z.cps.toList) = b) := by
  cases re with
  | tup ha r =>
    obtain ⟨d, es, h1, h2, h3, h4, h5⟩ := in_rel S rd r h
    exact .inl ⟨d, es, h1, .inr (.tup (.inl (.inl ha)) h2), h3, h4, h5⟩
  | @str t ht =>
    cases rd with
    | @str u hu =>
      simp only [memD] at h
      cases e1 : u.toList with
      | nil => rw [e1] at h; cases h
      | cons c r =>
        rw [e1] at h
        cases r with
        | nil =>
          cases h
          refine .inr ⟨c.toNat, _, ?_, rfl, ?_⟩
          · rw [ofString_def, e1]; rfl
          · rw [ofString_cps]
            exact decide_eq_decide.mpr toNat_mem
        | cons _ _ => cases h
    | _ => simp only [memD] at h; cases h
  | @ref n a ha =>
    simp only [memD] at h
    cases e1 : M[n]? with
    | none => rw [e1] at h; cases h
    | some o =>
      rw [e1] at h
      cases o with
      | lst xs =>
        obtain ⟨a', vs, q1, q2, q3, r⟩ := S.lst (v := .ref a) e1 (.ref ha)
        cases q1
        obtain ⟨d, es, h1, h2, h3, h4, h5⟩ := in_rel S rd r h
        exact .inl ⟨d, es, h1, .inl (.lst (.inl (.inl q3)) h2), h3, h4, h5⟩
      | dic kvs => exact absurd e1 (nd n kvs rfl)
      | ins _ _ => cases h
  | _ => simp only [memD] at h; cases h
end
end Pw

end
section
set_option maxHeartbeats 1000000
/-! Snd5: dicts. -/
namespace Pw
open PySem PySem.Spec PyProof.Rows L2

/-! ### keys -/
theorem leafK_inj {a b : D} {l : Leaf} (ha : leafK a = some l) (hb : leafK b = some l) : a = b := by
  cases a <;> cases b <;> simp only [leafK, Option.some.injEq, reduceCtorEq] at ha hb <;> subst ha <;> first
    | rfl
    | (injection hb with q; first | (rw [ofString_inj q]) | (rw [q]))
    | (cases hb)
theorem leafK_flat {k : D} {l : Leaf} (h : leafK k = some l) : k.isTup = false := by
  cases k <;> first | rfl | cases h
theorem leafK_of {k : D} {n : Nat} (h : k.key n = true) (ht : k.isTup = false) : ∃ l, leafK k = some l := by
  cases k with
  | tup xs => simp [D.isTup] at ht
  | non => exact ⟨_, rfl⟩
  | int i => exact ⟨_, rfl⟩
  | str x => exact ⟨_, rfl⟩
  | _ => cases n <;> simp [D.key] at h
mutual
theorem nk_inj : ∀ (n m : Nat) (a b : D), a.key n = true → b.key m = true → nk a = nk b → a = b
  | n, m, .non, b, _, hb, e => by cases b <;> simp_all [nk, D.key] <;> (cases m <;> simp_all [D.key])
  | n, m, .int _, b, _, hb, e => by cases b <;> simp_all [nk, D.key]
  | n, m, .str _, b, _, hb, e => by
    cases b <;> simp_all [nk, D.key]
    exact ofString_inj e
  | n, m, .tup xs, b, ha, hb, e => by
    cases n with
    | zero => simp [D.key] at ha
    | succ n =>
      cases b with
      | tup ys =>
        cases m with
        | zero => simp [D.key] at hb
        | succ m =>
          simp only [D.key] at ha hb
          simp only [nk, NestedKey.tup.injEq] at e
          rw [nks_inj n m xs ys ha hb e]
      | _ => simp_all [nk, D.key]
  | n, m, .bl _, _, ha, _, _ => by cases n <;> simp [D.key] at ha
  | n, m, .ref _, _, ha, _, _ => by cases n <;> simp [D.key] at ha
  | n, m, .scr, _, ha, _, _ => by cases n <;> simp [D.key] at ha
theorem nks_inj : ∀ (n m : Nat) (xs ys : List D), D.keys n xs = true → D.keys m ys = true → nks xs = nks ys → xs = ys
  | n, m, [], [], _, _, _ => rfl
  | n, m, [], _ :: _, _, _, e => by simp [nks] at e
  | n, m, _ :: _, [], _, _, e => by simp [nks] at e
  | n, m, x :: xs, y :: ys, ha, hb, e => by
    simp only [D.keys, Bool.and_eq_true] at ha hb
    simp only [nks, List.cons.injEq] at e
    rw [nk_inj n m x y ha.1 hb.1 e.1, nks_inj n m xs ys ha.2 hb.2 e.2]
end
mutual
theorem nk_depth : ∀ (n : Nat) (a : D), a.key n = true → (nk a).depth ≤ n
  | n, .non, _ => by simp [nk, NestedKey.depth]
  | n, .int _, _ => by simp [nk, NestedKey.depth]
  | n, .str _, _ => by simp [nk, NestedKey.depth]
  | n, .tup xs, h => by
    cases n with
    | zero => simp [D.key] at h
    | succ n =>
      simp only [D.key] at h
      simp only [nk, NestedKey.depth]
      exact Nat.succ_le_succ (nks_depth n xs h)
  | n, .bl _, h => by cases n <;> simp [D.key] at h
  | n, .ref _, h => by cases n <;> simp [D.key] at h
  | n, .scr, h => by cases n <;> simp [D.key] at h
theorem nks_depth : ∀ (n : Nat) (xs : List D), D.keys n xs = true → NestedKey.depthAll (nks xs) ≤ n
  | n, [], _ => by simp [nks, NestedKey.depthAll]
  | n, x :: xs, h => by
    simp only [D.keys, Bool.and_eq_true] at h
    simp only [nks, NestedKey.depthAll]
    have h1 := nk_depth n x h.1
    have h2 := nks_depth n xs h.2
    omega
end
section
variable {C : PC} {X : Cx} {pins : List (Addr × Obj)} {σ : L2.St} {α : List Addr} {M : Mem} {H : Hp} {s : Shared}
mutual
theorem nk_is (I : Inv X pins σ H s) : ∀ (n : Nat) (d : D) (v : V) (u : Value), d.key n = true → RD C.sa α H d v → RelV v u → NestedIs s.heap (nk d) u
  | n, .non, _, _, _, r, ru => by cases r; cases ru; simp only [nk]; exact .none
  | n, .int _, _, _, _, r, ru => by cases r; obtain ⟨t, rfl⟩ := ru; simp only [nk]; exact .int _ _
  | n, .str _, _, _, _, r, ru => by cases r; obtain ⟨t, rfl⟩ := ru; simp only [nk]; exact .text _ _
  | n, .tup xs, _, _, h, r, ru => by
    cases r with
    | tup ha rs =>
      cases ru
      cases n with
      | zero => simp [D.key] at h
      | succ n =>
        simp only [D.key] at h
        obtain ⟨_, its, rv, o, ho, hc, m, hd⟩ := I.hok _ _ ha
        simp only [nk]
        exact .tup ho hc hd (by simpa using nks_is I n xs _ _ h rs rv)
  | n, .bl _, _, _, h, _, _ => by cases n <;> simp [D.key] at h
  | n, .ref _, _, _, h, _, _ => by cases n <;> simp [D.key] at h
  | n, .scr, _, _, h, _, _ => by cases n <;> simp [D.key] at h
theorem nks_is (I : Inv X pins σ H s) : ∀ (n : Nat) (ds : List D) (vs : List V) (us : List Value), D.keys n ds = true → RDs C.sa α H ds vs → Vals vs us → NestedAll s.heap (nks ds) us
  | n, [], _, _, _, r, ru => by cases r; cases ru; simp only [nks]; exact .nil
  | n, d :: ds, _, _, h, r, ru => by
    simp only [D.keys, Bool.and_eq_true] at h
    cases r with
    | cons r1 r2 =>
      cases ru with
      | cons u1 u2 =>
        simp only [nks]
        exact .cons (nk_is I n d _ _ h.1 r1 u1) (nks_is I n ds _ _ h.2 r2 u2)
end
theorem flat_is {k : D} {l : Leaf} {v : V} {u : Value} (h : leafK k = some l) (r : RD C.sa α H k v) (ru : RelV v u) : flatIs l u = true := by
  cases r with
  | non => cases h; cases ru; rfl
  | int i => cases h; obtain ⟨t, rfl⟩ := ru; exact decide_eq_true rfl
  | @str x hx => cases h; obtain ⟨t, rfl⟩ := ru; simp [flatIs, Value.isStrOf]
  | _ => cases h
end

/-! ### entries side by side -/
section
variable {C : PC} {α : List Addr} {M : Mem} {H : Hp}
/-- a value and the machine's one -/
def RV (sa : Addr) (α : List Addr) (H : Hp) (d : D) (u : Value) : Prop := ∃ v, RD sa α H d v ∧ RelV v u
def FP (sa : Addr) (α : List Addr) (H : Hp) (p : D × D) (r : Leaf × Value) : Prop := leafK p.1 = some r.1 ∧ RV sa α H p.2 r.2
def TP' (sa : Addr) (α : List Addr) (H : Hp) (p : D × D) (r : NestedKey × Addr × Value) : Prop := p.1.isTup = true ∧ nk p.1 = r.1 ∧ RV sa α H p.2 r.2.2
theorem fp_of : ∀ {kvs : List (D × D)} {q : List (D × V × V)} {vs : List (Leaf × Value)}, RK C.sa α H kvs q → Paired (fun (p : D × V × V) (r : Leaf × Value) => leafK p.1 = some r.1 ∧ RelV p.2.2 r.2) q vs → Paired (FP C.sa α H) kvs vs
  | _, _, _, .nil, .nil => .nil
  | _, _, _, .cons h1 h2 h3, .cons g1 g2 => .cons ⟨g1.1, _, h2, g1.2⟩ (fp_of h3 g2)
theorem tp_of : ∀ {kvs : List (D × D)} {q : List (D × V × V)} {vs : List (NestedKey × Addr × Value)}, RK C.sa α H kvs q → Paired (fun (p : D × V × V) (r : NestedKey × Addr × Value) => p.1.isTup = true ∧ nk p.1 = r.1 ∧ p.2.1 = .ref r.2.1 ∧ RelV p.2.2 r.2.2) q vs → Paired (TP' C.sa α H) kvs vs
  | _, _, _, .nil, .nil => .nil
  | _, _, _, .cons h1 h2 h3, .cons g1 g2 => .cons ⟨g1.1, g1.2.1, _, h2, g1.2.2.2⟩ (tp_of h3 g2)
/-- what is looked up -/
def RelG (sa : Addr) (α : List Addr) (H : Hp) : Option D → Option Value → Prop
  | some d, some u => RV sa α H d u
  | none, none => True
  | _, _ => False
theorem fp_get {k : D} {l : Leaf} (hk : leafK k = some l) : ∀ {kvs : List (D × D)} {vs : List (Leaf × Value)}, Paired (FP C.sa α H) kvs vs → RelG C.sa α H (dget k kvs) (valueAt vs l)
  | _, _, .nil => by simp [dget, valueAt, RelG]
  | (a, d) :: kvs, (b, u) :: vs, .cons h r => by
    have ih := fp_get hk r
    by_cases e : a = k
    · subst e
      have e2 : b = l := Option.some.inj (h.1.symm.trans hk)
      subst e2
      simp only [dget, if_true, valueAt, List.find?_cons, decide_true, Option.map_some]
      exact h.2
    · have e2 : ¬ b = l := fun q => e (leafK_inj (q ▸ h.1) hk)
      simp only [dget, if_neg e, valueAt, List.find?_cons, decide_eq_false e2]
      exact ih
theorem tp_get {k : D} (hk : k.key 8 = true) : ∀ {kvs : List (D × D)} {vs : List (NestedKey × Addr × Value)}, kvs.all (fun p => p.1.key 8) = true → Paired (TP' C.sa α H) kvs vs → RelG C.sa α H (dget k kvs) ((atKey vs (nk k)).map (·.2))
  | _, _, _, .nil => by simp [dget, atKey, RelG]
  | (a, d) :: kvs, (b, u) :: vs, ha, .cons h r => by
    simp only [List.all_cons, Bool.and_eq_true] at ha
    have ih := tp_get hk ha.2 r
    by_cases e : a = k
    · subst e
      have e2 : b = nk a := h.2.1.symm
      simp only [dget, if_true, atKey, List.find?_cons, decide_eq_true e2, Option.map_some]
      exact h.2.2
    · have e2 : ¬ b = nk k := fun q => e (nk_inj 8 8 a k ha.1 hk (h.2.1.trans q))
      simp only [dget, if_neg e, atKey, List.find?_cons, decide_eq_false e2]
      exact ih
/-- the entries behind a store -/
def qput (k : D) (u v : V) : List (D × V × V) → List (D × V × V)
  | [] => [(k, u, v)]
  | (a, w, x) :: r => if a = k then (a, w, v) :: r else (a, w, x) :: qput k u v r
theorem RK.put {k d : D} {u v : V} (hk : RD C.sa α H k u) (hd : RD C.sa α H d v) : ∀ {kvs : List (D × D)} {q : List (D × V × V)}, RK C.sa α H kvs q → RK C.sa α H (dput k d kvs) (qput k u v q)
  | _, _, .nil => .cons hk hd .nil
  | _, _, .cons (k := a) h1 h2 r => by
    by_cases e : a = k
    · simp only [dput, qput, if_pos e]; exact .cons h1 hd r
    · simp only [dput, qput, if_neg e]; exact .cons h1 h2 (RK.put hk hd r)
theorem RK.keys : ∀ {kvs : List (D × D)} {q : List (D × V × V)}, RK C.sa α H kvs q → q.map (·.1) = kvs.map (·.1)
  | _, _, .nil => rfl
  | _, _, .cons _ _ r => by simp [RK.keys r]
theorem dput_keys (k d : D) : ∀ kvs : List (D × D), (dput k d kvs).map (·.1) = if k ∈ kvs.map (·.1) then kvs.map (·.1) else kvs.map (·.1) ++ [k]
  | [] => by simp [dput]
  | (a, w) :: r => by
    have ih := dput_keys k d r
    by_cases e : a = k
    · subst e; simp [dput]
    · simp only [dput, if_neg e, List.map_cons, ih]
      by_cases h : k ∈ r.map (·.1)
      · rw [if_pos h, if_pos (List.mem_cons_of_mem _ h)]
      · rw [if_neg h, if_neg (by simp only [List.mem_cons, not_or]; exact ⟨fun q => e q.symm, h⟩)]; rfl
theorem dput_length (k d : D) (kvs : List (D × D)) : (dput k d kvs).length ≤ kvs.length + 1 := by
  have := congrArg List.length (dput_keys k d kvs)
  rw [List.length_map] at this
  rw [this]
  split <;> simp
theorem dput_nodup {k d : D} {kvs : List (D × D)} (h : (kvs.map (·.1)).Nodup) : ((dput k d kvs).map (·.1)).Nodup := by
  rw [dput_keys]
  split
  · exact h
  · rename_i hn
    rw [List.nodup_append]
    exact ⟨h, by simp, fun a ha b hb e => by rw [List.mem_singleton.mp hb] at e; exact hn (e ▸ ha)⟩
theorem keyOk_iff (kvs : List (D × D)) (k : D) : keyOk kvs k = true ↔ k.key 8 = true ∧ ∀ p, kvs.head? = some p → p.1.isTup = k.isTup := by
  unfold keyOk
  cases kvs with
  | nil =>
    simp only [Bool.and_true]
    exact ⟨fun h => ⟨h, fun p q => nomatch q⟩, fun h => h.1⟩
  | cons p r =>
    simp only [Bool.and_eq_true, beq_iff_eq, List.head?_cons, Option.some.injEq]
    exact ⟨fun h => ⟨h.1, fun x q => q ▸ h.2⟩, fun h => ⟨h.1, h.2 p rfl⟩⟩
theorem dput_head (k d : D) : ∀ kvs : List (D × D), ∀ p, (dput k d kvs).head? = some p → (∃ p', kvs.head? = some p' ∧ p'.1 = p.1) ∨ (kvs = [] ∧ p.1 = k)
  | [], p, h => by simp [dput] at h; subst h; exact .inr ⟨rfl, rfl⟩
  | (a, w) :: r, p, h => by
    by_cases e : a = k
    · simp only [dput, if_pos e] at h; cases h; exact .inl ⟨_, rfl, rfl⟩
    · simp only [dput, if_neg e] at h; cases h; exact .inl ⟨_, rfl, rfl⟩
theorem dput_ok {k d : D} {kvs : List (D × D)} (hk : keyOk kvs k = true) (h : kvs.all (fun p => keyOk kvs p.1) = true) : (dput k d kvs).all (fun p => keyOk (dput k d kvs) p.1) = true := by
  rw [List.all_eq_true] at h ⊢
  rw [keyOk_iff] at hk
  intro p hp
  have hm : p.1 ∈ (dput k d kvs).map (·.1) := List.mem_map_of_mem hp
  rw [dput_keys] at hm
  have hin : p.1 ∈ kvs.map (·.1) ∨ p.1 = k := by
    split at hm
    · exact .inl hm
    · rcases List.mem_append.mp hm with q | q
      · exact .inl q
      · exact .inr (List.mem_singleton.mp q)
  rw [keyOk_iff]
  rcases hin with q | q
  · obtain ⟨r, hr, er⟩ := List.mem_map.mp q
    have h1 := h r hr
    rw [keyOk_iff] at h1
    rw [← er]
    refine ⟨h1.1, fun x hx => ?_⟩
    rcases dput_head k d kvs x hx with ⟨p', g1, g2⟩ | ⟨g1, _⟩
    · rw [← g2]; exact h1.2 p' g1
    · rw [g1] at hr; cases hr
  · rw [q]
    refine ⟨hk.1, fun x hx => ?_⟩
    rcases dput_head k d kvs x hx with ⟨p', g1, g2⟩ | ⟨_, g2⟩
    · rw [← g2]; exact hk.2 p' g1
    · rw [g2]
theorem fq_put {k : D} {l : Leaf} (hk : leafK k = some l) {u v : V} {x : Value} (rv : RelV v x) : ∀ {q : List (D × V × V)} {vs : List (Leaf × Value)}, (q.map (·.1)).Nodup → Paired (fun (p : D × V × V) (r : Leaf × Value) => leafK p.1 = some r.1 ∧ RelV p.2.2 r.2) q vs →
    Paired (fun (p : D × V × V) (r : Leaf × Value) => leafK p.1 = some r.1 ∧ RelV p.2.2 r.2) (qput k u v q) (stored vs l x)
  | _, _, _, .nil => by simp only [qput, stored, List.any_nil]; exact .cons ⟨hk, rv⟩ .nil
  | (a, w, y) :: q, (b, z) :: vs, hn, .cons h r => by
    rw [List.map_cons, List.nodup_cons] at hn
    by_cases e : a = k
    · subst e
      have e2 : b = l := Option.some.inj (h.1.symm.trans hk)
      subst e2
      have hn2 : b ∉ vs.map (·.1) := fun hm => by
        obtain ⟨j, hj, ej⟩ := List.mem_map.mp hm
        have : ∀ {q : List (D × V × V)} {vs : List (Leaf × Value)}, Paired (fun (p : D × V × V) (r : Leaf × Value) => leafK p.1 = some r.1 ∧ RelV p.2.2 r.2) q vs → j ∈ vs → ∃ p ∈ q, leafK p.1 = some j.1 := by
          intro q vs hp
          induction hp with
          | nil => intro hm; cases hm
          | cons g _ ih =>
            intro hm
            rcases List.mem_cons.mp hm with rfl | hm
            · exact ⟨_, List.mem_cons_self, g.1⟩
            · obtain ⟨p, h1, h2⟩ := ih hm
              exact ⟨p, List.mem_cons_of_mem _ h1, h2⟩
        obtain ⟨p, hp, ep⟩ := this r hj
        rw [ej] at ep
        exact hn.1 (List.mem_map.mpr ⟨p, hp, leafK_inj ep hk⟩)
      simp only [qput, if_true, stored, List.any_cons, decide_true, Bool.true_or, List.map_cons]
      rw [map_store_of_not_mem vs b x hn2]
      exact .cons ⟨h.1, rv⟩ r
    · have e2 : ¬ b = l := fun q => e (leafK_inj (q ▸ h.1) hk)
      have ih := fq_put hk rv (u := u) hn.2 r
      simp only [qput, if_neg e]
      have : stored ((b, z) :: vs) l x = (b, z) :: stored vs l x := by
        simp only [stored, List.any_cons, decide_eq_false e2, Bool.false_or, List.map_cons, if_neg e2]
        split <;> rfl
      rw [this]
      exact .cons h ih
theorem tq_put {k : D} (hk : k.key 8 = true) (ht : k.isTup = true) {ak : Addr} {v : V} {x : Value} (rv : RelV v x) : ∀ {q : List (D × V × V)} {vs : List (NestedKey × Addr × Value)}, q.all (fun p => p.1.key 8) = true → (q.map (·.1)).Nodup →
    Paired (fun (p : D × V × V) (r : NestedKey × Addr × Value) => p.1.isTup = true ∧ nk p.1 = r.1 ∧ p.2.1 = .ref r.2.1 ∧ RelV p.2.2 r.2.2) q vs →
    Paired (fun (p : D × V × V) (r : NestedKey × Addr × Value) => p.1.isTup = true ∧ nk p.1 = r.1 ∧ p.2.1 = .ref r.2.1 ∧ RelV p.2.2 r.2.2) (qput k (.ref ak) v q) (storedH vs (nk k) ak x)
  | _, _, _, _, .nil => by simp only [qput, storedH, atKey, List.find?_nil, Option.map_none, Option.isSome_none, Bool.false_eq_true, if_false, List.nil_append]; exact .cons ⟨ht, rfl, rfl, rv⟩ .nil
  | (a, w, y) :: q, (b, c, z) :: vs, ha, hn, .cons h r => by
    rw [List.map_cons, List.nodup_cons] at hn
    simp only [List.all_cons, Bool.and_eq_true] at ha
    by_cases e : a = k
    · subst e
      have e2 : b = nk a := h.2.1.symm
      subst e2
      have keep : ∀ {q : List (D × V × V)} {vs : List (NestedKey × Addr × Value)}, q.all (fun p => p.1.key 8) = true → a ∉ q.map (·.1) →
          Paired (fun (p : D × V × V) (r : NestedKey × Addr × Value) => p.1.isTup = true ∧ nk p.1 = r.1 ∧ p.2.1 = .ref r.2.1 ∧ RelV p.2.2 r.2.2) q vs → vs.map (putAt (nk a) x) = vs := by
        intro q vs h1 h2 hp
        induction hp with
        | nil => rfl
        | @cons p r q vs g _ ih =>
          simp only [List.all_cons, Bool.and_eq_true] at h1
          simp only [List.map_cons, List.mem_cons, not_or] at h2
          have : ¬ r.1 = nk a := fun e3 => h2.1 (nk_inj 8 8 a p.1 hk h1.1 (e3.symm.trans g.2.1.symm))
          rw [List.map_cons, ih h1.2 h2.2]
          simp only [putAt, if_neg this]
      simp only [qput, if_true, storedH, atKey, List.find?_cons, decide_true, Option.map_some, Option.isSome_some, List.map_cons]
      rw [keep ha.2 hn.1 r]
      simp only [putAt, if_true]
      exact .cons ⟨h.1, rfl, h.2.2.1, rv⟩ r
    · have e2 : ¬ b = nk k := fun q => e (nk_inj 8 8 a k ha.1 hk (h.2.1.trans q))
      have ih := tq_put hk ht rv (ak := ak) ha.2 hn.2 r
      simp only [qput, if_neg e]
      have : storedH ((b, c, z) :: vs) (nk k) ak x = (b, c, z) :: storedH vs (nk k) ak x := by
        have ea : atKey ((b, c, z) :: vs) (nk k) = atKey vs (nk k) := by simp only [atKey, List.find?_cons, decide_eq_false e2]
        unfold storedH
        rw [ea]
        split
        · simp only [List.map_cons, putAt, if_neg e2]
        · rfl
      rw [this]
      exact .cons h ih
end

section
variable {C : PC} {X : Cx} {pins : List (Addr × Obj)} {σ : L2.St} {α : List Addr} {M : Mem} {H : Hp} {s : Shared} {A : Around} {E : Value → Shared → Prop}
/-- a dict that is a cell -/
structure DCell (C : PC) (α : List Addr) (M : Mem) (H : Hp) (n : Nat) (a : Addr) (kvs : List (D × D)) (q : List (D × V × V)) : Prop where
  mem : M[n]? = some (.dic kvs)
  at_ : α[n]? = some a
  h : H a = some (dictHO C.prog C.w a q)
  rk : RK C.sa α H kvs q
  nd : (kvs.map (·.1)).Nodup
  ok : kvs.all (fun p => keyOk kvs p.1) = true
  len : kvs.length ≤ LIM
  sm : (a == sysModules) = false
theorem RS.dic (S : RS C α M H) {n : Nat} {kvs : List (D × D)} (h : M[n]? = some (.dic kvs)) {v : V} (r : RD C.sa α H (.ref n) v) : ∃ a q, v = .ref a ∧ DCell C α M H n a kvs q := by
  cases r with
  | ref e =>
    obtain ⟨a, ho, h1, h2, r⟩ := S.ob n _ h
    rw [e] at h1; cases h1
    cases r with
    | dic g1 g2 g3 g4 g5 => exact ⟨_, _, rfl, h, e, h2, g1, g2, g3, g4, g5⟩
variable {n : Nat} {a : Addr} {kvs : List (D × D)} {q : List (D × V × V)}
theorem DCell.at (I : Inv X pins σ H s) (hP : X.prog = C.prog) (d : DCell C α M H n a kvs q) : dictAt C.prog C.w a q s.heap := by
  have := I.hok a _ d.h
  exact this.1
theorem RK.length : ∀ {kvs : List (D × D)} {q : List (D × V × V)}, RK C.sa α H kvs q → q.length = kvs.length
  | _, _, .nil => rfl
  | _, _, .cons _ _ r => by simp [RK.length r]
theorem empty_flat {P : Program} {w : World} {h : Heap} (x : dictTup P w a [] h) : dictFlat P w a [] h := by
  obtain ⟨xs, r, o, es, ep, h1, h2, h3, h4, h5⟩ := x
  cases r
  have e : es = #[] := Array.toList_inj.mp (by simpa using h4)
  subst e
  exact ⟨[], .nil, o, #[], ep, h1, h2, h3, (fun e he => by cases he; contradiction), .nil, List.nodup_nil⟩
theorem empty_tup {P : Program} {w : World} {h : Heap} (x : dictFlat P w a [] h) : dictTup P w a [] h := by
  obtain ⟨xs, r, o, es, ep, h1, h2, h3, h4, h5, h6⟩ := x
  cases r
  have e : es.toList = [] := by cases q : es.toList with
    | nil => rfl
    | cons x y => rw [q] at h5; cases h5
  exact ⟨[], .nil, o, es, ep, h1, h2, h3, by simpa using e, List.nodup_nil⟩
/-- the dict as the kind of key wants it -/
theorem DCell.flat (I : Inv X pins σ H s) (hP : X.prog = C.prog) (d : DCell C α M H n a kvs q) {k : D} (hk : keyOk kvs k = true) (ht : k.isTup = false) : dictFlat C.prog C.w a q s.heap := by
  rcases d.at I hP with h | h
  · exact h
  · cases q with
    | nil => exact empty_flat h
    | cons p r =>
      obtain ⟨xs, rr, _⟩ := h
      cases rr with
      | cons g _ =>
        have hh := d.rk
        cases hh with
        | cons _ _ _ =>
          have := ((keyOk_iff _ _).mp hk).2 _ rfl
          rw [ht] at this
          simp only at this g
          rw [this] at g
          exact absurd g.1 Bool.false_ne_true
theorem DCell.tup (I : Inv X pins σ H s) (hP : X.prog = C.prog) (d : DCell C α M H n a kvs q) {k : D} (hk : keyOk kvs k = true) (ht : k.isTup = true) : dictTup C.prog C.w a q s.heap := by
  rcases d.at I hP with h | h
  · cases q with
    | nil => exact empty_tup h
    | cons p r =>
      obtain ⟨xs, rr, _⟩ := h
      cases rr with
      | cons g _ =>
        have hh := d.rk
        cases hh with
        | cons _ _ _ =>
          have := ((keyOk_iff _ _).mp hk).2 _ rfl
          rw [ht] at this
          simp only at this g
          have g1 := leafK_flat g.1
          exact absurd (g1.symm.trans this) Bool.false_ne_true
  · exact h
theorem DCell.keys (d : DCell C α M H n a kvs q) : kvs.all (fun p => p.1.key 8) = true := by
  have := d.ok
  rw [List.all_eq_true] at this ⊢
  exact fun p hp => ((keyOk_iff _ _).mp (this p hp)).1
/-- the tuples that are keys -/
theorem rk_is (I : Inv X pins σ H s) : ∀ {kvs : List (D × D)} {q : List (D × V × V)} {xs : List (NestedKey × Addr × Value)}, kvs.all (fun p => p.1.key 8) = true → RK C.sa α H kvs q →
    Paired (fun (p : D × V × V) (r : NestedKey × Addr × Value) => p.1.isTup = true ∧ nk p.1 = r.1 ∧ p.2.1 = .ref r.2.1 ∧ RelV p.2.2 r.2.2) q xs → ∀ x ∈ xs, (nestedKind C.prog C.w).is s.heap x.1 x.2.1
  | _, _, _, _, .nil, .nil => fun x hx => by cases hx
  | _, _, _, hk, .cons h1 h2 r, .cons g t => fun x hx => by
    simp only [List.all_cons, Bool.and_eq_true] at hk
    rcases List.mem_cons.mp hx with e | hx
    · subst e
      simp only at g
      refine ⟨?_, ?_⟩
      · rw [← g.2.1]
        exact nk_is I 8 _ _ _ hk.1 h1 (by rw [g.2.2.1]; rfl)
      · rw [← g.2.1]
        exact nk_depth 8 _ hk.1
    · exact rk_is I hk.2 r t x hx
theorem DCell.ofH (I : Inv X pins σ H s) (d : DCell C α M H n a kvs q) {xs : List (NestedKey × Addr × Value)}
    (r : Paired (fun (p : D × V × V) (r : NestedKey × Addr × Value) => p.1.isTup = true ∧ nk p.1 = r.1 ∧ p.2.1 = .ref r.2.1 ∧ RelV p.2.2 r.2.2) q xs)
    (h : ∃ o es ep, s.heap.get? a = some o ∧ o.ExactDict ∧ o.data = .dict es ep ∧ es.toList = xs.map (entryOfKey (nestedKind C.prog C.w)) ∧ (xs.map (·.1)).Nodup) : s.heap.DictOfH (nestedKind C.prog C.w) a xs := by
  obtain ⟨o, es, ep, h1, h2, h3, h4, h5⟩ := h
  exact ⟨o, es, ep, h1, h2, h3, h4, rk_is I d.keys d.rk r, h5⟩
theorem key_ref {k : D} {y : V} (ht : k.isTup = true) (r : RD C.sa α H k y) : ∃ b, y = .ref b := by
  cases r with
  | tup _ _ => exact ⟨_, rfl⟩
  | _ => simp [D.isTup] at ht

/-- k in d, k not in d -/
theorem dic_in {Q : Value → Shared → Prop} (I : Inv X pins σ H s) (hP : X.prog = C.prog) (hw : X.w = C.w) (hu : A.units + 16 < cLine) (d : DCell C α M H n a kvs q) {k : D} {y : V} {u : Value} (hk : keyOk kvs k = true) (rk : RD C.sa α H k y) (ru : RelV y u) :
    ((∀ s', Inv X pins σ H s' → Q (.bool (dget k kvs).isSome) s') → wpAny (model X.prog X.w) A (compareOp .In u (.ref a)) Q E s) ∧
    ((∀ s', Inv X pins σ H s' → Q (.bool (!(dget k kvs).isSome)) s') → wpAny (model X.prog X.w) A (compareOp .NotIn u (.ref a)) Q E s) := by
  rw [hP, hw]
  cases ht : k.isTup with
  | false =>
    obtain ⟨vs, r, dd⟩ := d.flat I hP hk ht
    obtain ⟨l, hl⟩ := leafK_of ((keyOk_iff _ _).mp hk).1 ht
    have g := fp_get hl (fp_of d.rk r)
    have e : (valueAt vs l).isSome = (dget k kvs).isSome := by
      cases e1 : dget k kvs <;> cases e2 : valueAt vs l <;> rw [e1, e2] at g <;> first | rfl | exact g.elim
    refine ⟨fun h => wpAny_in_of (knd := flatKind C.prog C.w) (k := l) (flat_is hl rk ru) d.sm dd.mapOf ?_, fun h => wpAny_notIn_of (knd := flatKind C.prog C.w) (k := l) (flat_is hl rk ru) d.sm dd.mapOf ?_⟩ <;> (rw [e]; exact h _ (I.tok _))
  | true =>
    obtain ⟨xs, r, dd⟩ := d.tup I hP hk ht
    have hk8 := ((keyOk_iff _ _).mp hk).1
    obtain ⟨b, rfl⟩ := key_ref ht rk
    cases ru
    have g := tp_get hk8 d.keys (tp_of d.rk r)
    have e : (atKey xs (nk k)).isSome = (dget k kvs).isSome := by
      cases e1 : dget k kvs <;> cases e2 : atKey xs (nk k) <;> rw [e1, e2] at g <;> first | rfl | exact g.elim
    have hr : (nestedKind C.prog C.w).room A.in1 := by show A.units + 1 + 8 < cLine; omega
    have hi : (nestedKind C.prog C.w).is s.heap (nk k) b := ⟨nk_is I 8 k _ _ hk8 rk rfl, nk_depth 8 k hk8⟩
    refine ⟨fun h => wpAny_in_heap (knd := nestedKind C.prog C.w) (k := nk k) hr hi d.sm (d.ofH I r dd) ?_, fun h => wpAny_notIn_heap (knd := nestedKind C.prog C.w) (k := nk k) hr hi d.sm (d.ofH I r dd) ?_⟩ <;> (rw [e]; exact h _ (I.tok _))
/-- d[k], there -/
theorem dic_item {Q : Value → Shared → Prop} (I : Inv X pins σ H s) (hP : X.prog = C.prog) (hw : X.w = C.w) (hu : A.units + 16 < cLine) (d : DCell C α M H n a kvs q) {k v : D} {y : V} {u : Value} (hk : keyOk kvs k = true) (rk : RD C.sa α H k y) (ru : RelV y u) (hv : dget k kvs = some v)
    (h : ∀ z w' s', Inv X pins σ H s' → RD C.sa α H v z → RelV z w' → Q w' s') : wpAny (model X.prog X.w) A (getItem (.ref a) u) Q E s := by
  rw [hP, hw]
  cases ht : k.isTup with
  | false =>
    obtain ⟨vs, r, dd⟩ := d.flat I hP hk ht
    obtain ⟨l, hl⟩ := leafK_of ((keyOk_iff _ _).mp hk).1 ht
    have g := fp_get hl (fp_of d.rk r)
    rw [hv] at g
    cases e2 : valueAt vs l with
    | none => rw [e2] at g; exact g.elim
    | some x =>
      rw [e2] at g
      obtain ⟨z, g1, g2⟩ := g
      exact wpAny_getItem_of (knd := flatKind C.prog C.w) (k := l) (flat_is hl rk ru) dd.mapOf e2 (h z x _ (I.tok _) g1 g2)
  | true =>
    obtain ⟨xs, r, dd⟩ := d.tup I hP hk ht
    have hk8 := ((keyOk_iff _ _).mp hk).1
    obtain ⟨b, rfl⟩ := key_ref ht rk
    cases ru
    have g := tp_get hk8 d.keys (tp_of d.rk r)
    rw [hv] at g
    have hr : (nestedKind C.prog C.w).room A.in1 := by show A.units + 1 + 8 < cLine; omega
    have hi : (nestedKind C.prog C.w).is s.heap (nk k) b := ⟨nk_is I 8 k _ _ hk8 rk rfl, nk_depth 8 k hk8⟩
    cases e2 : atKey xs (nk k) with
    | none => rw [e2] at g; exact g.elim
    | some x =>
      rw [e2] at g
      obtain ⟨z, g1, g2⟩ := g
      exact wpAny_getItem_heap (knd := nestedKind C.prog C.w) (k := nk k) hr hi (d.ofH I r dd) e2 (h z x.2 _ (I.tok _) g1 g2)
/-- d.get(k), d.get(k, x) -/
theorem dic_get2 {Q : Value → Shared → Prop} (I : Inv X pins σ H s) (hP : X.prog = C.prog) (hw : X.w = C.w) (hu : A.units + 16 < cLine) (d : DCell C α M H n a kvs q) {k x : D} {y yx : V} {u ux : Value} (hk : keyOk kvs k = true) (rk : RD C.sa α H k y) (ru : RelV y u) (rx : RD C.sa α H x yx) (rux : RelV yx ux)
    (h : ∀ z w' s', Inv X pins σ H s' → RD C.sa α H ((dget k kvs).getD x) z → RelV z w' → Q w' s') : wpAny (model X.prog X.w) A (call (.builtin "dict.get") [.ref a, u, ux]) Q E s := by
  rw [hP, hw]
  cases ht : k.isTup with
  | false =>
    obtain ⟨vs, r, dd⟩ := d.flat I hP hk ht
    obtain ⟨l, hl⟩ := leafK_of ((keyOk_iff _ _).mp hk).1 ht
    have g := fp_get hl (fp_of d.rk r)
    refine call_meetsIn PySem.F.slot_dict_get dd.typeIs PySem.F.entry_dict_get (PySem.F.args_dict_get_3 _ _ _) (meets_dict_get_default (flatKind C.prog C.w) a (k := l) (flat_is hl rk ru) d.sm ux) ⟨_, dd.mapOf, ?_⟩
    cases e1 : dget k kvs <;> cases e2 : valueAt vs l <;> rw [e1, e2] at g
    · rw [e1] at h; exact h yx ux _ (I.tok _) rx rux
    · exact g.elim
    · exact g.elim
    · rw [e1] at h
      obtain ⟨z, g1, g2⟩ := g
      exact h z _ _ (I.tok _) g1 g2
  | true =>
    obtain ⟨xs, r, dd⟩ := d.tup I hP hk ht
    have hk8 := ((keyOk_iff _ _).mp hk).1
    obtain ⟨b, rfl⟩ := key_ref ht rk
    cases ru
    have g := tp_get hk8 d.keys (tp_of d.rk r)
    have hr : (nestedKind C.prog C.w).room A.in1 := by show A.units + 1 + 8 < cLine; omega
    have hi : (nestedKind C.prog C.w).is s.heap (nk k) b := ⟨nk_is I 8 k _ _ hk8 rk rfl, nk_depth 8 k hk8⟩
    refine call_meetsIn PySem.F.slot_dict_get (d.ofH I r dd).typeIs PySem.F.entry_dict_get (PySem.F.args_dict_get_3 _ _ _) (meetsH_dict_get_default (nestedKind C.prog C.w) a b d.sm ux) ⟨hr, nk k, xs, hi, d.ofH I r dd, ?_⟩
    cases e1 : dget k kvs <;> cases e2 : (atKey xs (nk k)).map (·.2) <;> rw [e1, e2] at g
    · rw [e1] at h; exact h yx ux _ (I.tok _) rx rux
    · exact g.elim
    · exact g.elim
    · rw [e1] at h
      obtain ⟨z, g1, g2⟩ := g
      exact h z _ _ (I.tok _) g1 g2
theorem dic_get {Q : Value → Shared → Prop} (I : Inv X pins σ H s) (hP : X.prog = C.prog) (hw : X.w = C.w) (hu : A.units + 16 < cLine) (d : DCell C α M H n a kvs q) {k : D} {y : V} {u : Value} (hk : keyOk kvs k = true) (rk : RD C.sa α H k y) (ru : RelV y u) (x : D) (hx : x = .non)
    (h : ∀ z w' s', Inv X pins σ H s' → RD C.sa α H ((dget k kvs).getD x) z → RelV z w' → Q w' s') : wpAny (model X.prog X.w) A (call (.builtin "dict.get") [.ref a, u]) Q E s := by
  subst hx
  rw [hP, hw]
  cases ht : k.isTup with
  | false =>
    obtain ⟨vs, r, dd⟩ := d.flat I hP hk ht
    obtain ⟨l, hl⟩ := leafK_of ((keyOk_iff _ _).mp hk).1 ht
    have g := fp_get hl (fp_of d.rk r)
    refine call_meetsIn PySem.F.slot_dict_get dd.typeIs PySem.F.entry_dict_get (PySem.F.args_dict_get_2 _ _) (meets_dict_get (flatKind C.prog C.w) a (k := l) (flat_is hl rk ru) d.sm) ⟨_, dd.mapOf, ?_⟩
    cases e1 : dget k kvs <;> cases e2 : valueAt vs l <;> rw [e1, e2] at g
    · rw [e1] at h; exact h .non .none _ (I.tok _) .non rfl
    · exact g.elim
    · exact g.elim
    · rw [e1] at h
      obtain ⟨z, g1, g2⟩ := g
      exact h z _ _ (I.tok _) g1 g2
  | true =>
    obtain ⟨xs, r, dd⟩ := d.tup I hP hk ht
    have hk8 := ((keyOk_iff _ _).mp hk).1
    obtain ⟨b, rfl⟩ := key_ref ht rk
    cases ru
    have g := tp_get hk8 d.keys (tp_of d.rk r)
    have hr : (nestedKind C.prog C.w).room A.in1 := by show A.units + 1 + 8 < cLine; omega
    have hi : (nestedKind C.prog C.w).is s.heap (nk k) b := ⟨nk_is I 8 k _ _ hk8 rk rfl, nk_depth 8 k hk8⟩
    refine call_meetsIn PySem.F.slot_dict_get (d.ofH I r dd).typeIs PySem.F.entry_dict_get (PySem.F.args_dict_get_2 _ _) (meetsH_dict_get (nestedKind C.prog C.w) a b d.sm) ⟨hr, nk k, xs, hi, d.ofH I r dd, ?_⟩
    cases e1 : dget k kvs <;> cases e2 : (atKey xs (nk k)).map (·.2) <;> rw [e1, e2] at g
    · rw [e1] at h; exact h .non .none _ (I.tok _) .non rfl
    · exact g.elim
    · exact g.elim
    · rw [e1] at h
      obtain ⟨z, g1, g2⟩ := g
      exact h z _ _ (I.tok _) g1 g2
end
end Pw

end
section
set_option maxHeartbeats 1000000
/-! Snd6: comparisons, and/or/not, conditionals, subscripts, slices. -/
namespace Pw
open PySem PySem.Spec PyProof.Rows L2

section
variable {C : PC} {k : Nat} {X : Cx}
theorem cmp_int {op : COp} {i j : Int} {M : Mem} {b : Bool} (h : cmpD M op (.int i) (.int j) = some b) (hl : op ≠ .ltl) (he : op ≠ .eq) (hn : op ≠ .ne) :
    (op = .lt ∧ b = decide (i < j)) ∨ (op = .le ∧ b = decide (i ≤ j)) ∨ (op = .gt ∧ b = decide (j < i)) ∨ (op = .ge ∧ b = decide (j ≤ i)) := by
  cases op <;> simp_all [cmpD, memD]
theorem cmp_ord {op : COp} (ho : op = .lt ∨ op = .le ∨ op = .gt ∨ op = .ge) {M : Mem} {d e : D} {b : Bool} (h : cmpD M op d e = some b) : ∃ i j, d = .int i ∧ e = .int j := by
  rcases ho with rfl | rfl | rfl | rfl <;> (cases d <;> cases e <;> first | (simp only [cmpD] at h; cases h; done) | exact ⟨_, _, rfl, rfl⟩)
theorem op_cmp (hP : X.prog = C.prog) (hK : X.K = C.K) (hw : X.w = C.w) (hr : Room k X.A) (op : COp) (hop : op ≠ .ltl) : OpR X (compareOp (cop op)) (rCmp C op) := by
  intro pins s σ H x y v u Q I rx ry h
  obtain ⟨α, M, d, e, b, S, rd, re, h, q⟩ := h
  have hu64 := hr.units
  have hu65 : X.A.units + 65 < cLine := by have := hr.un; omega
  have isin : ∀ {b : Bool}, memD M d e = some b → (∀ p kvs, e = .ref p → M[p]? ≠ some (.dic kvs)) → (Q (.bl b) H → wpAny (model X.prog X.w) X.A (compareOp .In v u) (EP X pins σ Q) X.xe s) ∧ (Q (.bl (!b)) H → wpAny (model X.prog X.w) X.A (compareOp .NotIn v u) (EP X pins σ Q) X.xe s) := by
    intro b hb nd
    rcases mem_cases S rd re hb nd with ⟨dd, es, h1, h2, h3, h4, h5⟩ | ⟨c, z, h1, h2, h3⟩
    · rw [← hK] at h1 h2
      rcases h2 with h2 | h2
      · exact ⟨fun q => op_inD hu65 pins s σ H x y v u Q I rx ry ⟨dd, es, h1, h2, h3, h4, by rw [h5]; exact q⟩, fun q => op_notInD hu65 pins s σ H x y v u Q I rx ry ⟨dd, es, h1, h2, h3, h4, by rw [h5]; exact q⟩⟩
      · exact ⟨fun q => op_inT hu65 pins s σ H x y v u Q I rx ry ⟨dd, es, h1, h2, h3, h4, by rw [h5]; exact q⟩, fun q => op_notInT hu65 pins s σ H x y v u Q I rx ry ⟨dd, es, h1, h2, h3, h4, by rw [h5]; exact q⟩⟩
    · exact ⟨fun q => op_in_sign pins s σ H x y v u Q I rx ry ⟨c, z, h1, h2, by rw [h3]; exact q⟩, fun q => op_notIn_sign pins s σ H x y v u Q I rx ry ⟨c, z, h1, h2, by rw [h3]; exact q⟩⟩
  have isinD : ∀ {p kvs}, e = .ref p → M[p]? = some (.dic kvs) → ∀ {b : Bool}, memD M d e = some b → (Q (.bl b) H → wpAny (model X.prog X.w) X.A (compareOp .In v u) (EP X pins σ Q) X.xe s) ∧ (Q (.bl (!b)) H → wpAny (model X.prog X.w) X.A (compareOp .NotIn v u) (EP X pins σ Q) X.xe s) := by
    intro p kvs e1 e2 b hb
    subst e1
    simp only [memD, e2] at hb
    split at hb
    · rename_i hk
      cases hb
      obtain ⟨a, q0, rfl, dc⟩ := S.dic e2 re
      cases ry
      have hu16 : X.A.units + 16 < cLine := by have := hr.un; omega
      have z := dic_in (Q := EP X pins σ Q) (E := X.xe) I hP hw hu16 dc hk rd rx
      exact ⟨fun q => z.1 fun s' I' => ⟨.bl _, H, I', rfl, q⟩, fun q => z.2 fun s' I' => ⟨.bl _, H, I', rfl, q⟩⟩
    · cases hb
  have isin2 : ∀ {b : Bool}, memD M d e = some b → (Q (.bl b) H → wpAny (model X.prog X.w) X.A (compareOp .In v u) (EP X pins σ Q) X.xe s) ∧ (Q (.bl (!b)) H → wpAny (model X.prog X.w) X.A (compareOp .NotIn v u) (EP X pins σ Q) X.xe s) := by
    intro b hb
    by_cases nd : ∀ p kvs, e = .ref p → M[p]? ≠ some (.dic kvs)
    · exact isin hb nd
    · have : ∃ p kvs, e = .ref p ∧ M[p]? = some (.dic kvs) := Classical.byContradiction fun z => nd fun p kvs h1 h2 => z ⟨p, kvs, h1, h2⟩
      obtain ⟨p, kvs, e1, e2⟩ := this
      exact isinD e1 e2 hb
  cases op with
  | ltl => exact absurd rfl hop
  | eq =>
    obtain ⟨dd, ee, h1, h2, h3, h4, h5⟩ := eq_rel S rd re (show eqD M d e = some b from h)
    rw [← hK] at h1 h2
    exact op_eqD hu64 pins s σ H x y v u Q I rx ry ⟨dd, ee, h1, h2, h3, h4, by rw [h5]; exact q⟩
  | ne =>
    obtain ⟨b', hb, rfl⟩ := Option.map_eq_some_iff.mp (show (eqD M d e).map (!·) = some b from h)
    obtain ⟨dd, ee, h1, h2, h3, h4, h5⟩ := eq_rel S rd re hb
    rw [← hK] at h1 h2
    exact op_neD hu64 pins s σ H x y v u Q I rx ry ⟨dd, ee, h1, h2, h3, h4, by rw [h5]; exact q⟩
  | lt =>
    obtain ⟨i, j, rfl, rfl⟩ := cmp_ord (by simp) h
    cases rd; cases re; cases h
    exact op_lt pins s σ H _ _ v u Q I rx ry ⟨i, j, rfl, rfl, q⟩
  | le =>
    obtain ⟨i, j, rfl, rfl⟩ := cmp_ord (by simp) h
    cases rd; cases re; cases h
    exact op_le pins s σ H _ _ v u Q I rx ry ⟨i, j, rfl, rfl, q⟩
  | gt =>
    obtain ⟨i, j, rfl, rfl⟩ := cmp_ord (by simp) h
    cases rd; cases re; cases h
    exact op_gt pins s σ H _ _ v u Q I rx ry ⟨i, j, rfl, rfl, q⟩
  | ge =>
    obtain ⟨i, j, rfl, rfl⟩ := cmp_ord (by simp) h
    cases rd; cases re; cases h
    exact op_ge pins s σ H _ _ v u Q I rx ry ⟨i, j, rfl, rfl, q⟩
  | isin => exact (isin2 (show memD M d e = some b from h)).1 q
  | notin =>
    obtain ⟨b', hb, rfl⟩ := Option.map_eq_some_iff.mp (show (memD M d e).map (!·) = some b from h)
    exact (isin2 hb).2 q
end

section
variable {C : PC} {k : Nat} {X : Cx} {F : FT} {a b c : Expr} {pos p2 : Pos}
theorem noSet {op : CmpOp} {b : Expr} (h : (match b with | .Set .. => true | _ => false) = false) : behindInMarks op b = false := by
  cases b <;> first | rfl | (simp only at h; cases h)
def isSet : Expr → Bool
  | .Set .. => true
  | _ => false
theorem noMark {op : CmpOp} {b : Expr} (h : isSet b = false) : behindInMarks op b = false := by
  cases b <;> first | rfl | exact absurd h (by simp [isSet])
variable {x y z : E}
theorem cmp_lift (op : COp) : ∀ σ H Q, tV C (evE F (.cmp op x y)) σ H Q → tOp (rCmp C op) (tV C (evE F x)) (tV C (evE F y)) σ H Q := by
  intro σ H Q h
  refine bin_lift (k := fun x y M => (cmpD M op x y).map fun r => (.bl r, M)) (fun α M d e z M' x y H Q S rd re h q => ?_) σ H Q ?_
  · obtain ⟨b, hb, e⟩ := Option.map_eq_some_iff.mp h
    cases e
    exact ⟨α, M, d, e, b, S, rd, re, hb, done S (.bl b) q⟩
  · simpa only [evE] using h
theorem le_cmp (hP : X.prog = C.prog) (hK : X.K = C.K) (hw : X.w = C.w) (hr : Room k X.A) (op : COp) (hop : op ≠ .ltl) (hs : isSet b = false) (ha : LE C X a (evE F x)) (hb : LE C X b (evE F y)) : LE C X (.Compare a [cop op] [b] pos) (evE F (.cmp op x y)) :=
  PE.imp (pe_cmpR (op_cmp hP hK hw hr op hop) ha hb (noMark hs)) (cmp_lift op)
/-- a test whose value is a bool -/
theorem test_bool {t : TE} {f : VEnv → Mem → R D} (ht : ∀ σ H Q, tV C f σ H Q → t σ H Q) (hb : ∀ ρ M d M', f ρ M = some (d, M') → ∃ b, d = .bl b) : ∀ σ H Q, tBo C (fun ρ M => truthR (f ρ M)) σ H Q → tTest t σ H Q := by
  rintro σ H Q ⟨α, ρ, M, b, M', s, e, h, q⟩
  obtain ⟨d, M1, h1, h⟩ := bnd_some_of h
  obtain ⟨b', rfl⟩ := hb _ _ _ _ h1
  have e2 : b' = b ∧ M1 = M' := by simpa [truth] using h
  obtain ⟨rfl, rfl⟩ := e2
  refine ht σ H _ ⟨α, ρ, M, .bl b', M1, s, e, h1, fun α' v H' t' s' r => ?_⟩
  cases r
  exact ⟨b', rfl, q α' H' t' s'⟩
theorem cmp_bool {op : COp} {ρ : VEnv} {M M' : Mem} {d : D} (h : evE F (.cmp op x y) ρ M = some (d, M')) : ∃ b, d = .bl b := by
  simp only [evE] at h
  obtain ⟨_, _, _, h⟩ := bnd_some_of h
  obtain ⟨_, _, _, h⟩ := bnd_some_of h
  obtain ⟨b, _, e⟩ := Option.map_eq_some_iff.mp h
  cases e
  exact ⟨b, rfl⟩
theorem lt_cmp (hP : X.prog = C.prog) (hK : X.K = C.K) (hw : X.w = C.w) (hr : Room k X.A) (op : COp) (hop : op ≠ .ltl) (hs : isSet b = false) (ha : LE C X a (evE F x)) (hb : LE C X b (evE F y)) : LT C X (.Compare a [cop op] [b] pos) (fun ρ M => truthR (evE F (.cmp op x y) ρ M)) :=
  PT.imp (pt_cmpR (op_cmp hP hK hw hr op hop) ha hb (noMark hs)) (test_bool (cmp_lift op) fun _ _ _ _ h => cmp_bool h)

/-! ### is None, is True -/
theorem RD.isnon {sa : Addr} {α : List Addr} {H : Hp} {d : D} {v : V} (r : RD sa α H d v) : decide (v = .non) = decide (d = .non) := by
  cases r <;> simp
theorem isN_lift : ∀ σ H Q, tV C (evE F (.isN x)) σ H Q → tIsN (tV C (evE F x)) σ H Q := by
  intro σ H Q h
  refine un_lift (r := fun v H Q => Q (.bl (decide (v = .non))) H) (k := fun x M => some (.bl (decide (x = .non)), M)) (fun α M d z M' x H Q S rd h q => ?_) σ H Q ?_
  · cases h
    show Q (.bl (decide (x = .non))) H
    rw [rd.isnon]
    exact done S (.bl _) q
  · simpa only [evE] using h
theorem notN_lift : ∀ σ H Q, tV C (evE F (.notN x)) σ H Q → tNotN (tV C (evE F x)) σ H Q := by
  intro σ H Q h
  refine un_lift (r := fun v H Q => Q (.bl (!decide (v = .non))) H) (k := fun x M => some (.bl (!decide (x = .non)), M)) (fun α M d z M' x H Q S rd h q => ?_) σ H Q ?_
  · cases h
    show Q (.bl (!decide (x = .non))) H
    rw [rd.isnon]
    exact done S (.bl _) q
  · simpa only [evE] using h
theorem ev_bool1 {f : D → Mem → R D} {e : R D} {d : D} {M' : Mem} (hf : ∀ x M d M', f x M = some (d, M') → ∃ b, d = .bl b) (h : bnd e f = some (d, M')) : ∃ b, d = .bl b := by
  obtain ⟨_, _, _, h⟩ := bnd_some_of h
  exact hf _ _ _ _ h
theorem isN_bool {ρ : VEnv} {M M' : Mem} {d : D} (h : evE F (.isN x) ρ M = some (d, M')) : ∃ b, d = .bl b := by
  simp only [evE] at h; exact ev_bool1 (fun _ _ _ _ h => by cases h; exact ⟨_, rfl⟩) h
theorem notN_bool {ρ : VEnv} {M M' : Mem} {d : D} (h : evE F (.notN x) ρ M = some (d, M')) : ∃ b, d = .bl b := by
  simp only [evE] at h; exact ev_bool1 (fun _ _ _ _ h => by cases h; exact ⟨_, rfl⟩) h
theorem le_isN {j : Nat} (ha : LE C X a (evE F x)) : LE C X (.Compare a [.Is] [.Constant .none j p2] pos) (evE F (.isN x)) := PE.imp (pe_cmp (pc_isN ha)) isN_lift
theorem le_notN {j : Nat} (ha : LE C X a (evE F x)) : LE C X (.Compare a [.IsNot] [.Constant .none j p2] pos) (evE F (.notN x)) := PE.imp (pe_cmp (pc_notN ha)) notN_lift
theorem lt_isN {j : Nat} (ha : LE C X a (evE F x)) : LT C X (.Compare a [.Is] [.Constant .none j p2] pos) (fun ρ M => truthR (evE F (.isN x) ρ M)) := PT.imp (pt_cmp (pc_isN ha)) (test_bool isN_lift fun _ _ _ _ h => isN_bool h)
theorem lt_notN {j : Nat} (ha : LE C X a (evE F x)) : LT C X (.Compare a [.IsNot] [.Constant .none j p2] pos) (fun ρ M => truthR (evE F (.notN x) ρ M)) := PT.imp (pt_cmp (pc_notN ha)) (test_bool notN_lift fun _ _ _ _ h => notN_bool h)

/-! ### and, or, not, if-else -/
theorem pt_ifT {t : TT} {u v : TT} (hc : PT X c t) (ha : PT X a u) (hb : PT X b v) : PT X (.IfExp c a b pos) (fun σ H Q => t σ H fun k H1 => if k = true then u σ H1 Q else v σ H1 Q) := by
  refine ⟨fun pins s σ H Q I h => ?_⟩
  show wpAny _ _ (do if ← isTrue c X.env (eval c X.env) then isTrue a X.env (eval a X.env) else isTrue b X.env (eval b X.env)) _ _ _
  refine wpAny_bind (thn (hc.run pins s σ H _ I h) fun d s1 ⟨H1, I1, q1⟩ => ?_)
  cases d with
  | true => exact ha.run pins s1 σ H1 Q I1 q1
  | false => exact hb.run pins s1 σ H1 Q I1 q1
theorem le_no (hK : X.K = C.K) (ha : LE C X a (evE F x)) : LE C X (.UnaryOp .Not a pos) (evE F (.no x)) := by
  refine PE.imp (pe_notT ha) ?_
  intro σ H Q h
  refine un_lift (r := fun v H Q => ∃ k, TruV X.K v H k ∧ Q (.bl (!k)) H) (k := fun x M => (truth M x).map fun b => (.bl (!b), M)) (fun α M d z M' x H Q S rd h q => ?_) σ H Q ?_
  · obtain ⟨b, hb, e⟩ := Option.map_eq_some_iff.mp h
    cases e
    exact ⟨b, by rw [hK]; exact S.truth rd hb, done S (.bl _) q⟩
  · simpa only [evE] using h
theorem lt_no {fa : VEnv → Mem → R D} (ha : LT C X a (fun ρ M => truthR (fa ρ M))) : LT C X (.UnaryOp .Not a pos) (fun ρ M => truthR (bnd (fa ρ M) fun x M => (truth M x).map fun b => (.bl (!b), M))) := by
  refine PT.imp (pt_not ha) ?_
  rintro σ H Q ⟨α, ρ, M, k, M', s, e, h, q⟩
  obtain ⟨x, M1, h1, h⟩ := bnd_some_of h
  obtain ⟨y, M2, h2, h1⟩ := bnd_some_of h1
  obtain ⟨b, hb, e2⟩ := Option.map_eq_some_iff.mp h1
  cases e2
  have e3 : (!b) = k ∧ M1 = M' := by simpa [truth] using h
  obtain ⟨rfl, rfl⟩ := e3
  exact ⟨α, ρ, M, b, _, s, e, by show bnd (fa ρ M) _ = _; rw [h2]; show (truth M1 y).map _ = _; rw [hb]; rfl, q⟩
/-- the value of 'and', of 'or', by what is written on -/
def evAnd (fa fb : VEnv → Mem → R D) : VEnv → Mem → R D := fun ρ M => bnd (fa ρ M) fun x M => match truth M x with
  | some true => fb ρ M
  | some false => some (x, M)
  | none => none
def evOr (fa fb : VEnv → Mem → R D) : VEnv → Mem → R D := fun ρ M => bnd (fa ρ M) fun x M => match truth M x with
  | some true => some (x, M)
  | some false => fb ρ M
  | none => none
variable {fa fb fc : VEnv → Mem → R D} {rest : List Expr}
theorem le_and (hK : X.K = C.K) (ha : LE C X a fa) (hb : LE C X (.BoolOp .And (b :: rest) pos) fb) : LE C X (.BoolOp .And (a :: b :: rest) pos) (evAnd fa fb) := by
  refine PE.imp (pe_andT ha hb) ?_
  rintro σ H Q ⟨α, ρ, M, d, M', s, e, h, q⟩
  obtain ⟨x, M1, h1, h⟩ := bnd_some_of h
  refine ⟨α, ρ, M, x, M1, s, e, h1, fun α1 v1 H1 t1 s1 r1 => ?_⟩
  split at h
  · rename_i ht
    exact ⟨true, by rw [hK]; exact s1.truth r1 ht, by rw [if_pos rfl]; exact ⟨α1, ρ, M1, d, M', s1, e.mono s t1, h, fun α2 v2 H2 t2 => q α2 v2 H2 (t1.trans t2)⟩⟩
  · rename_i ht
    cases h
    exact ⟨false, by rw [hK]; exact s1.truth r1 ht, by rw [if_neg Bool.false_ne_true]; exact q _ _ _ t1 s1 r1⟩
  · cases h
theorem le_or (hK : X.K = C.K) (ha : LE C X a fa) (hb : LE C X (.BoolOp .Or (b :: rest) pos) fb) : LE C X (.BoolOp .Or (a :: b :: rest) pos) (evOr fa fb) := by
  refine PE.imp (pe_orT ha hb) ?_
  rintro σ H Q ⟨α, ρ, M, d, M', s, e, h, q⟩
  obtain ⟨x, M1, h1, h⟩ := bnd_some_of h
  refine ⟨α, ρ, M, x, M1, s, e, h1, fun α1 v1 H1 t1 s1 r1 => ?_⟩
  split at h
  · rename_i ht
    cases h
    exact ⟨true, by rw [hK]; exact s1.truth r1 ht, by rw [if_pos rfl]; exact q _ _ _ t1 s1 r1⟩
  · rename_i ht
    exact ⟨false, by rw [hK]; exact s1.truth r1 ht, by rw [if_neg Bool.false_ne_true]; exact ⟨α1, ρ, M1, d, M', s1, e.mono s t1, h, fun α2 v2 H2 t2 => q α2 v2 H2 (t1.trans t2)⟩⟩
  · cases h
abbrev LW (C : PC) (X : Cx) (e : Expr) (f : VEnv → Mem → R Bool) : Prop := PW X e (tBo C f)
theorem PW.imp {e : Expr} {t t' : TT} (h : PW X e t) (hi : ∀ σ H Q, t' σ H Q → t σ H Q) : PW X e t' := ⟨fun wh pins s σ H Q I q => h.run wh pins s σ H Q I (hi σ H Q q)⟩
theorem and_lift : ∀ σ H Q, tBo C (fun ρ M => truthR (evAnd fa fb ρ M)) σ H Q → tAnd (tBo C fun ρ M => truthR (fa ρ M)) (tBo C fun ρ M => truthR (fb ρ M)) σ H Q := by
  rintro σ H Q ⟨α, ρ, M, d, M', s, e, h, q⟩
  obtain ⟨x, M1, h1, h⟩ := bnd_some_of h
  obtain ⟨y, M2, h2, h1⟩ := bnd_some_of h1
  split at h1
  · rename_i ht
    refine ⟨α, ρ, M, true, M2, s, e, by show bnd (fa ρ M) _ = _; rw [h2]; show (truth M2 y).map _ = _; rw [ht]; rfl, fun α1 H1 t1 s1 => ?_⟩
    simp only [if_true]
    exact ⟨α1, ρ, M2, d, M', s1, e.mono s t1, by show bnd (fb ρ M2) _ = _; rw [h1]; exact h, fun α2 H2 t2 => q α2 H2 (t1.trans t2)⟩
  · rename_i ht
    cases h1
    have e3 : d = false ∧ M1 = M' := by rw [ht] at h; simpa [eq_comm] using h
    obtain ⟨rfl, rfl⟩ := e3
    refine ⟨α, ρ, M, false, M1, s, e, by show bnd (fa ρ M) _ = _; rw [h2]; show (truth M1 x).map _ = _; rw [ht]; rfl, fun α1 H1 t1 s1 => ?_⟩
    simp only [Bool.false_eq_true, if_false]
    exact q α1 H1 t1 s1
  · cases h1
theorem or_lift : ∀ σ H Q, tBo C (fun ρ M => truthR (evOr fa fb ρ M)) σ H Q → tOr (tBo C fun ρ M => truthR (fa ρ M)) (tBo C fun ρ M => truthR (fb ρ M)) σ H Q := by
  rintro σ H Q ⟨α, ρ, M, d, M', s, e, h, q⟩
  obtain ⟨x, M1, h1, h⟩ := bnd_some_of h
  obtain ⟨y, M2, h2, h1⟩ := bnd_some_of h1
  split at h1
  · rename_i ht
    cases h1
    have e3 : d = true ∧ M1 = M' := by rw [ht] at h; simpa [eq_comm] using h
    obtain ⟨rfl, rfl⟩ := e3
    refine ⟨α, ρ, M, true, M1, s, e, by show bnd (fa ρ M) _ = _; rw [h2]; show (truth M1 x).map _ = _; rw [ht]; rfl, fun α1 H1 t1 s1 => ?_⟩
    simp only [if_true]
    exact q α1 H1 t1 s1
  · rename_i ht
    refine ⟨α, ρ, M, false, M2, s, e, by show bnd (fa ρ M) _ = _; rw [h2]; show (truth M2 y).map _ = _; rw [ht]; rfl, fun α1 H1 t1 s1 => ?_⟩
    simp only [Bool.false_eq_true, if_false]
    exact ⟨α1, ρ, M2, d, M', s1, e.mono s t1, by show bnd (fb ρ M2) _ = _; rw [h1]; exact h, fun α2 H2 t2 => q α2 H2 (t1.trans t2)⟩
  · cases h1
theorem lw_one {op : BoolOp} (ha : LT C X a (fun ρ M => truthR (fa ρ M))) : LW C X (.BoolOp op [a] pos) (fun ρ M => truthR (fa ρ M)) := by
  cases op with
  | And => exact pw_and1 ha
  | Or => exact pw_or1 ha
theorem lw_and (ha : LT C X a (fun ρ M => truthR (fa ρ M))) (hb : LW C X (.BoolOp .And (b :: rest) pos) (fun ρ M => truthR (fb ρ M))) : LW C X (.BoolOp .And (a :: b :: rest) pos) (fun ρ M => truthR (evAnd fa fb ρ M)) := PW.imp (pw_and ha hb) and_lift
theorem lw_or (ha : LT C X a (fun ρ M => truthR (fa ρ M))) (hb : LW C X (.BoolOp .Or (b :: rest) pos) (fun ρ M => truthR (fb ρ M))) : LW C X (.BoolOp .Or (a :: b :: rest) pos) (fun ρ M => truthR (evOr fa fb ρ M)) := PW.imp (pw_or ha hb) or_lift
def evIf (fc fa fb : VEnv → Mem → R D) : VEnv → Mem → R D := fun ρ M => bnd (fc ρ M) fun x M => match truth M x with
  | some true => fa ρ M
  | some false => fb ρ M
  | none => none
theorem le_ite (hc : LT C X c (fun ρ M => truthR (fc ρ M))) (ha : LE C X a fa) (hb : LE C X b fb) : LE C X (.IfExp c a b pos) (evIf fc fa fb) := by
  refine PE.imp (pe_ifExp hc ha hb) ?_
  rintro σ H Q ⟨α, ρ, M, d, M', s, e, h, q⟩
  obtain ⟨x, M1, h1, h⟩ := bnd_some_of h
  split at h
  · rename_i ht
    refine ⟨α, ρ, M, true, M1, s, e, by show bnd (fc ρ M) _ = _; rw [h1]; show (truth M1 x).map _ = _; rw [ht]; rfl, fun α1 H1 t1 s1 => ?_⟩
    simp only [if_true]
    exact ⟨α1, ρ, M1, d, M', s1, e.mono s t1, h, fun α2 v2 H2 t2 => q α2 v2 H2 (t1.trans t2)⟩
  · rename_i ht
    refine ⟨α, ρ, M, false, M1, s, e, by show bnd (fc ρ M) _ = _; rw [h1]; show (truth M1 x).map _ = _; rw [ht]; rfl, fun α1 H1 t1 s1 => ?_⟩
    simp only [Bool.false_eq_true, if_false]
    exact ⟨α1, ρ, M1, d, M', s1, e.mono s t1, h, fun α2 v2 H2 t2 => q α2 v2 H2 (t1.trans t2)⟩
  · cases h
theorem lt_ite (hc : LT C X c (fun ρ M => truthR (fc ρ M))) (ha : LT C X a (fun ρ M => truthR (fa ρ M))) (hb : LT C X b (fun ρ M => truthR (fb ρ M))) : LT C X (.IfExp c a b pos) (fun ρ M => truthR (evIf fc fa fb ρ M)) := by
  refine PT.imp (pt_ifT hc ha hb) ?_
  rintro σ H Q ⟨α, ρ, M, d, M', s, e, h, q⟩
  obtain ⟨z, M2, h2, h⟩ := bnd_some_of h
  obtain ⟨x, M1, h1, h2⟩ := bnd_some_of h2
  split at h2
  · rename_i ht
    refine ⟨α, ρ, M, true, M1, s, e, by show bnd (fc ρ M) _ = _; rw [h1]; show (truth M1 x).map _ = _; rw [ht]; rfl, fun α1 H1 t1 s1 => ?_⟩
    simp only [if_true]
    exact ⟨α1, ρ, M1, d, M', s1, e.mono s t1, by show bnd (fa ρ M1) _ = _; rw [h2]; exact h, fun α2 H2 t2 => q α2 H2 (t1.trans t2)⟩
  · rename_i ht
    refine ⟨α, ρ, M, false, M1, s, e, by show bnd (fc ρ M) _ = _; rw [h1]; show (truth M1 x).map _ = _; rw [ht]; rfl, fun α1 H1 t1 s1 => ?_⟩
    simp only [Bool.false_eq_true, if_false]
    exact ⟨α1, ρ, M1, d, M', s1, e.mono s t1, by show bnd (fb ρ M1) _ = _; rw [h2]; exact h, fun α2 H2 t2 => q α2 H2 (t1.trans t2)⟩
  · cases h2
theorem le_neg (ha : LE C X a (evE F x)) : LE C X (.UnaryOp .USub a pos) (evE F (.neg x)) := by
  refine PE.imp (pe_un un_neg ha) ?_
  intro σ H Q h
  refine un_lift (r := rU fun i => .int (-i)) (k := fun x M => match x with | .int i => some (.int (-i), M) | _ => none) (fun α M d z M' x H Q S rd h q => ?_) σ H Q ?_
  · cases rd <;> try (cases h; done)
    cases h
    exact ⟨_, rfl, done S (.int _) q⟩
  · simp only [evE] at h
    exact h
end
end Pw

end
section
set_option maxHeartbeats 1000000
/-! Snd7: subscripts, slices, attributes. -/
namespace Pw
open PySem PySem.Spec PyProof.Rows L2

theorem pyIx_ixN (n : Nat) (i : Int) : pyIx n i = ixN n i := by
  unfold pyIx ixN
  by_cases h : 0 ≤ i
  · rw [if_pos h, if_pos h]
  · rw [if_neg h, if_neg h]
    by_cases h2 : 0 ≤ i + n
    · rw [if_pos h2, if_pos (by omega)]
    · rw [if_neg h2, if_neg (by omega)]
theorem atI_of {α : Type} {xs : List α} {i : Int} {k : Nat} {v : α} {n : Nat} (hn : n = xs.length) (h : pyIx n i = some k) (h2 : xs[k]? = some v) : atI xs i = some v := by
  subst hn
  unfold atI
  rw [← pyIx_ixN, h]
  exact h2
theorem clamp_sIx (n : Nat) (i : Int) (d : Nat) : clampIx n i = HT.sIx n d (some i) := rfl
theorem lo_sIx (n : Nat) (lo : Option Int) : loIx n lo = HT.sIx n 0 lo := by cases lo <;> rfl
theorem hi_sIx (n : Nat) (hi : Option Int) : hiIx n hi = HT.sIx n n hi := by cases hi <;> rfl
theorem RDs.cut {sa : Addr} {α : List Addr} {H : Hp} {ds : List D} {vs : List V} (r : RDs sa α H ds vs) (lo hi : Option Int) : RDs sa α H (cutL ds lo hi) (cutV vs lo hi) := by
  unfold cutL cutV
  rw [lo_sIx, hi_sIx, r.length]
  exact (r.drop _).take _

section
variable {C : PC} {k : Nat} {S : Sx} {X : Cx} {F : FT} {a b c : Expr} {pos p2 : Pos} {x y z : E}
/-- what a subscript of the evaluator asks, by values -/
def rIdx (C : PC) : R2 := fun x y H Q => ∃ α M d e r, RS C α M H ∧ RD C.sa α H d x ∧ RD C.sa α H e y ∧ idxD C.P M d e = some r ∧ ∀ v, RD C.sa α H r v → Q v H
theorem ix_any (hP : X.prog = C.prog) (hK : X.K = C.K) (hw : X.w = C.w) (hr : Room k X.A) : IxR X (rIdx C) := by
  intro value slice pins s σ H x y v u Q I rx ry h hs
  obtain ⟨α, M, d, e, r, S, rd, re, h, q⟩ := h
  cases rd with
  | @tup a ds vs ha rs =>
    simp only [idxD] at h
    cases e with
    | int i =>
      cases re
      simp only at h
      split at h
      · rename_i j hj
        obtain ⟨w, h1, h2⟩ := rs.get h
        exact ix_tup value slice pins s σ H _ _ v u Q I rx ry ⟨a, vs, i, w, rfl, rfl, .inl (.inl ha), atI_of rs.length hj h1, q w h2⟩ hs
      · cases h
    | _ => cases h
  | @str t ht =>
    simp only [idxD] at h
    cases e with
    | int i =>
      cases re
      simp only at h
      split at h
      · rename_i h0
        obtain ⟨c, hc, e⟩ := Option.map_eq_some_iff.mp h
        subst e
        refine ix_str value slice pins s σ H _ _ v u Q I rx ry ⟨_, i, c.toNat, rfl, rfl, by rw [ofString_length, line_eq]; exact ht, ?_, ?_⟩ hs
        · rw [ofString_cps]
          have hl : i.toNat < t.toList.length := (List.getElem?_eq_some_iff.mp hc).1
          refine atI_of (k := i.toNat) rfl ?_ (by rw [List.getElem?_map, hc]; rfl)
          unfold pyIx
          rw [if_pos h0, if_pos (by rw [List.length_map]; omega)]
        · have e2 : Str.ofString (String.ofList [c]) = ⟨#[c.toNat]⟩ := by rw [ofString_ofList]; rfl
          rw [← e2]
          exact q _ (.str (by simp [lenS, LIM]))
      · cases h
    | _ => cases h
  | @ref n a ha =>
    simp only [idxD] at h
    cases e1 : M[n]? with
    | none => rw [e1] at h; cases h
    | some o =>
      rw [e1] at h
      cases o with
      | lst xs =>
        obtain ⟨a', vs, q1, q2, q3, rs⟩ := S.lst (v := .ref a) e1 (.ref ha)
        cases q1
        cases e with
        | int i =>
          cases re
          simp only at h
          split at h
          · rename_i j hj
            obtain ⟨w, h1, h2⟩ := rs.get h
            exact ix_list value slice pins s σ H _ _ v u Q I rx ry ⟨a, vs, i, w, rfl, rfl, .inl (.inl q3), atI_of rs.length hj h1, q w h2⟩ hs
          · cases h
        | _ => cases h
      | dic kvs =>
        simp only at h
        split at h
        · rename_i hk
          obtain ⟨a', q0, q1, dc⟩ := S.dic (v := .ref a) e1 (.ref ha)
          cases q1
          cases rx
          have hu16 : X.A.units + 16 < cLine := by have := hr.un; omega
          refine tail_any (T := "dict") ?_ PySem.F.slot_dict_getitem.lookup (dic_item I hP hw hu16 dc hk re ry h fun z w' s' I' rz rw' => ⟨z, H, I', rw', q z rz⟩) hs
          obtain ⟨o, ho, hx⟩ := (dc.at I hP).exact
          exact ⟨o, ho, hx.1⟩
        · cases h
      | ins _ _ => cases h
  | scr =>
    simp only [idxD] at h
    cases e with
    | int i =>
      cases re
      simp only at h
      split at h
      · rename_i h0
        obtain ⟨j, hj, e⟩ := Option.map_eq_some_iff.mp h
        subst e
        have hl : i.toNat < C.P.script.length := (List.getElem?_eq_some_iff.mp hj).1
        refine ix_list value slice pins s σ H _ _ v u Q I rx ry ⟨C.sa, C.P.script.map V.int, i, .int j, rfl, rfl, by rw [hK]; exact S.script, ?_, q _ (.int j)⟩ hs
        refine atI_of (k := i.toNat) rfl ?_ (by rw [List.getElem?_map, hj]; rfl)
        unfold pyIx
        rw [if_pos h0, if_pos (by rw [List.length_map]; omega)]
      · cases h
    | _ => cases h
  | _ => simp only [idxD] at h; cases h
def notSlice : Expr → Bool
  | .Slice .. => false
  | _ => true
theorem plainIx {b : Expr} (h : notSlice b = true) : PlainIx b := by
  intro o i
  cases b <;> first | rfl | (rename_i st _; cases st <;> first | rfl | exact absurd h (by simp [notSlice])) | exact absurd h (by simp [notSlice])
theorem le_idx (hP : X.prog = C.prog) (hK : X.K = C.K) (hw : X.w = C.w) (hr : Room k X.A) (hs : notSlice b = true) (ha : LE C X a (evE F x)) (hb : LE C X b (evE F y)) (hF : F.P = C.P) : LE C X (.Subscript a b pos) (evE F (.idx x y)) := by
  refine PE.imp (pe_ix (ix_any hP hK hw hr) ha hb (plainIx hs)) ?_
  intro σ H Q h
  refine bin_lift (k := fun x y M => (idxD F.P M x y).map fun r => (r, M)) (fun α M d e z M' x y H Q S rd re h q => ?_) σ H Q ?_
  · obtain ⟨b, hb, e⟩ := Option.map_eq_some_iff.mp h
    cases e
    exact ⟨α, M, d, _, _, S, rd, re, by rw [← hF]; exact hb, fun v rv => done S rv q⟩
  · simp only [evE] at h
    exact h

/-! ### slices -/
def rSli (C : PC) : V → Option Int → Option Int → Hp → VK → Prop := fun x lo hi H Q => ∃ α M d z M', RS C α M H ∧ RD C.sa α H d x ∧ sliceD M d lo hi = some (z, M') ∧ ∀ α' v H', Step α α' H H' → RS C α' M' H' → RD C.sa α' H' z v → Q v H'
theorem cutS_of (s : String) (lo hi : Option Int) : Str.ofString (String.ofList (cutL s.toList lo hi)) = cutS (Str.ofString s) lo hi := by
  rw [ofString_ofList]
  unfold cutS cutL
  rw [lo_sIx, hi_sIx, ofString_cps, ofString_length]
  simp [List.map_take, List.map_drop, lenS]
theorem cutL_len {α : Type} (xs : List α) (lo hi : Option Int) : (cutL xs lo hi).length ≤ xs.length := by
  unfold cutL
  rw [List.length_take, List.length_drop]
  omega
theorem sl_any (hK : X.K = C.K) : SlR X (rSli C) := by
  intro pins s σ H x v vl vu lo hi sl Q I rx hs pl pu h
  obtain ⟨α, M, d, z, M', S, rd, h, q⟩ := h
  cases rd with
  | @tup a ds vs ha rs =>
    simp only [sliceD] at h
    cases h
    refine sl_tupA pins s σ H _ v vl vu lo hi sl Q I rx hs pl pu ⟨a, vs, rfl, .inl (.inl ha), fun hw => ?_, fun _ p hp => done_tup S (rs.cut lo hi) hp q⟩
    have e3 : cutL ds lo hi = ds := by
      unfold cutL
      rw [lo_sIx, hi_sIx, rs.length, hw.1, hw.2, ← rs.length]
      simp
    rw [e3] at q
    exact done S (.tup ha rs) q
  | @str t ht =>
    simp only [sliceD] at h
    cases h
    refine sl_str pins s σ H _ v vl vu lo hi sl Q I rx hs pl pu ⟨_, rfl, by rw [ofString_length, line_eq]; exact ht, ?_⟩
    rw [← cutS_of]
    refine done S (.str ?_) q
    refine Nat.le_trans ?_ ht
    simp only [lenS, String.toList_ofList]
    exact cutL_len _ _ _
  | @ref n a ha =>
    simp only [sliceD] at h
    cases e3 : M[n]? with
    | none => rw [e3] at h; cases h
    | some o =>
      rw [e3] at h
      cases o with
      | lst xs =>
        cases h
        obtain ⟨a', vs, q1, q2, q3, rs⟩ := S.lst (v := .ref a) e3 (.ref ha)
        cases q1
        exact sl_list pins s σ H _ v vl vu lo hi sl Q I rx hs pl pu ⟨a, vs, rfl, .inl (.inl q3), fun p hp => done_lst S (rs.cut lo hi) hp q⟩
      | dic _ => cases h
      | ins _ _ => cases h
  | _ => simp only [sliceD] at h; cases h
/-- a part of a slice: left out (the evaluator's None), or an expression -/
def LO (C : PC) (X : Cx) (F : FT) (o : Option Expr) (x : E) : Prop := ∃ t, PO X o t ∧ ∀ σ H Q, (∃ α ρ M d M' i, RS C α M H ∧ RE C.sa α H ρ σ ∧ evE F x ρ M = some (d, M') ∧ partE x d = some i ∧ ∀ α' H', Step α α' H H' → RS C α' M' H' → Q i H') → t σ H Q
theorem lo_none : LO C X F none .non := by
  refine ⟨_, po_none, ?_⟩
  rintro σ H Q ⟨α, ρ, M, d, M', i, s, e, h, ho, q⟩
  simp only [evE] at h
  cases h
  cases ho
  exact q α H (Step.refl _ _) s
theorem part_int {x : E} {d : D} {i : Option Int} (hx : x ≠ .non) (h : partE x d = some i) : ∃ j, d = .int j ∧ i = some j := by
  cases d with
  | int j =>
    refine ⟨j, rfl, ?_⟩
    cases x <;> first | exact absurd rfl hx | (simp [partE] at h; exact h.symm)
  | _ => cases x <;> first | exact absurd rfl hx | (simp [partE] at h; done)
theorem lo_some (ha : LE C X a (evE F x)) (hx : x ≠ .non) : LO C X F (some a) x := by
  refine ⟨_, po_some ha, ?_⟩
  rintro σ H Q ⟨α, ρ, M, d, M', i, s, e, h, ho, q⟩
  refine ⟨α, ρ, M, d, M', s, e, h, fun α' v H' t' s' r' => ?_⟩
  obtain ⟨j, rfl, rfl⟩ := part_int hx ho
  cases r'
  exact ⟨j, rfl, q α' H' t' s'⟩
theorem le_slice {lo hi : Option Expr} (hK : X.K = C.K) (ha : LE C X a (evE F x)) (hl : LO C X F lo y) (hh : LO C X F hi z) : LE C X (.Subscript a (.Slice lo hi none p2) pos) (evE F (.slice x y z)) := by
  obtain ⟨tl, h1, l1⟩ := hl
  obtain ⟨th, h2, l2⟩ := hh
  refine PE.imp (pe_slice (sl_any hK) ha h1 h2) ?_
  rintro σ H Q ⟨α, ρ, M, d, M', s, e, h, q⟩
  simp only [evE] at h
  obtain ⟨dx, M1, g1, h⟩ := bnd_some_of h
  obtain ⟨dl, M2, g2, h⟩ := bnd_some_of h
  obtain ⟨dh, M3, g3, h⟩ := bnd_some_of h
  split at h
  · rename_i i j e1 e2
    refine ⟨α, ρ, M, dx, M1, s, e, g1, fun α1 v1 H1 t1 s1 r1 => ?_⟩
    refine l1 _ _ _ ⟨α1, ρ, M1, dl, M2, i, s1, e.mono s t1, g2, e1, fun α2 H2 t2 s2 => ?_⟩
    refine l2 _ _ _ ⟨α2, ρ, M2, dh, M3, j, s2, (e.mono s t1).mono s1 t2, g3, e2, fun α3 H3 t3 s3 => ?_⟩
    exact ⟨α3, M3, dx, d, M', s3, (r1.mono s1 t2).mono s2 t3, h, fun α4 v4 H4 t4 => q α4 v4 H4 (((t1.trans t2).trans t3).trans t4)⟩
  · cases h

/-! ### attributes, globals, calls -/
theorem RF.look {sa : Addr} {α : List Addr} {H : Hp} {f : String} : ∀ {fs : List (String × D)} {vs : List (Str × V)}, RF sa α H fs vs → (∀ d, fget f fs = some d → ∃ v, vs.lookup (Str.ofString f) = some v ∧ RD sa α H d v) ∧ (fget f fs = none → vs.lookup (Str.ofString f) = none)
  | _, _, .nil => ⟨fun d h => by simp [fget] at h, fun _ => rfl⟩
  | _, _, .cons (f := g) (d := e) (v := w) h r => by
    have ih := RF.look (f := f) r
    by_cases hg : g = f
    · subst hg
      refine ⟨fun d hd => ⟨w, by simp [List.lookup_cons], ?_⟩, fun hn => by simp [fget] at hn⟩
      simp [fget] at hd
      exact hd ▸ h
    · have hne : (Str.ofString f == Str.ofString g) = false := by
        rw [beq_eq_false_iff_ne]
        exact fun e => hg (ofString_inj e).symm
      simp only [fget, if_neg hg, List.lookup_cons, hne]
      exact ih
def notSuper : Expr → Bool
  | .Call (.Name _ _) [] [] _ => false
  | _ => true
theorem attrBase {o : Expr} (h : notSuper o = true) (attr : Str) (env : Env) (whole : Sem Value) : attributeBase o attr env whole = whole := by
  cases o with
  | Call f es ks p => cases f <;> first | rfl | (cases es <;> first | rfl | (cases ks <;> first | rfl | exact absurd h (by simp [notSuper])))
  | _ => rfl
theorem RS.ins {α : List Addr} {M : Mem} {H : Hp} (s : RS C α M H) {n : Nat} {c : String} {fs : List (String × D)} (h : M[n]? = some (.ins c fs)) {v : V} (r : RD C.sa α H (.ref n) v) :
    ∃ a Ca dx vs, v = .ref a ∧ α[n]? = some a ∧ H a = some (.ins Ca dx vs) ∧ C.ca c = some Ca ∧ RF C.sa α H fs vs := by
  cases r with
  | ref e =>
    obtain ⟨a, ho, h1, h2, r⟩ := s.ob n _ h
    rw [e] at h1; cases h1
    cases r with
    | ins g1 g2 => exact ⟨_, _, _, _, rfl, e, h2, g1, g2⟩
/-- the classes: none of them has the attribute f -/
structure AtOk (C : PC) (f : String) : Prop where
  ok : ∀ c Ca, C.ca c = some Ca → Cls C.K Ca ∧ NoAttr C.K Ca (Str.ofString f)
theorem le_attr {f : String} (hK : X.K = C.K) (hs : notSuper a = true) (hf : AtOk C f) (ha : LE C X a (evE F x)) : LE C X (.Attribute a (Str.ofString f) pos) (evE F (.attr x f)) := by
  refine PE.imp (pe_fld ha (attrBase hs _ _ _)) ?_
  rintro σ H Q ⟨α, ρ, M, d, M', s, e, h, q⟩
  simp only [evE] at h
  obtain ⟨dx, M1, g1, h⟩ := bnd_some_of h
  refine ⟨α, ρ, M, dx, M1, s, e, g1, fun α1 v1 H1 t1 s1 r1 => ?_⟩
  cases dx with
  | ref p =>
    simp only at h
    cases e1 : M1[p]? with
    | none => rw [e1] at h; cases h
    | some o =>
      rw [e1] at h
      cases o with
      | ins c fs =>
        obtain ⟨v, hv, e2⟩ := Option.map_eq_some_iff.mp h
        cases e2
        obtain ⟨a', Ca, dx, vs, rfl, g2, g3, g4, g5⟩ := s1.ins e1 r1
        obtain ⟨w, g6, g7⟩ := (g5.look (f := f)).1 _ hv
        obtain ⟨k1, k2⟩ := hf.ok c Ca g4
        rw [hK]
        exact ⟨a', Ca, dx, vs, w, rfl, g3, k1, k2, g6, q _ _ _ t1 s1 g7⟩
      | _ => cases h
  | _ => cases h
/-- a constant of the module -/
structure GlOk (C : PC) (x : String) (d : D) : Prop where
  ok : ∃ u v, C.mg (Str.ofString x) = some u ∧ RelV v u ∧ ∀ α H, RD C.sa α H d v
theorem le_glob {n : String} (hm : X.mg = C.mg) (hg : Gl X (Str.ofString n)) (hd : (Str.ofString n == ("__debug__" : Str)) = false) (hF : F.P = C.P) (ok : ∀ d, C.P.glob n = some d → GlOk C n d) : LE C X (.Name (Str.ofString n) pos) (evE F (.glob n)) := by
  cases e : C.P.glob n with
  | none =>
    refine ⟨fun pins s σ H Q I h => ?_⟩
    obtain ⟨α, ρ, M, d, M', s, _, h, q⟩ := h
    simp only [evE, hF, e] at h
    cases h
  | some d =>
    obtain ⟨u, v, h1, h2, h3⟩ := (ok d e).ok
    refine PE.imp (pe_glob (v := v) (u := u) hg (by rw [hm]; exact h1) h2 hd) ?_
    rintro σ H Q ⟨α, ρ, M, d', M', s, _, h, q⟩
    simp only [evE, hF, e] at h
    cases h
    exact done s (h3 α H) q

/-! ### calls -/
/-- what the evaluator's call promises -/
def spF (C : PC) (call : List D → Mem → R D) (n : Nat) : Sp := fun vs H Q _ => vs.length = n ∧ ∃ α M xs d M', RS C α M H ∧ RDs C.sa α H xs vs ∧ call xs M = some (d, M') ∧ ∀ α' v H', Step α α' H H' → RS C α' M' H' → RD C.sa α' H' d v → Q v H'
def CXn : CXT := fun _ _ _ _ _ _ => False
theorem passn {X : Cx} {E : XK} : Passes CXn X E := fun _ _ _ _ _ _ _ h => h.elim
/-- the function at a keeps the evaluator's promise, for n arguments -/
structure FnC (C : PC) (k : Nat) (call : List D → Mem → R D) (n : Nat) (a : Addr) : Prop where
  ok : ∃ (fd : FuncData) (ps : List Str), FnOk C.prog C.w C.K C.mg C.base CXn k a fd ps (spF C call n) ∧ Binds C.K fd ps [] ∧ ∀ xs M r, call xs M = some r → xs.length = n
/-- a function of the module by its name -/
structure CalC (C : PC) (k : Nat) (F : FT) (f : String) : Prop where
  ok : (∀ xs M, F.call (.fn f) xs M = none) ∨ ∃ a n, C.mg (Str.ofString f) = some (.ref a) ∧ PySem.W.keepIn C.K (.ref a) = true ∧ FnC C k (F.call (.fn f)) n a
structure MetC (C : PC) (k : Nat) (F : FT) (c m : String) (Ca : Addr) : Prop where
  ok : (∀ xs M, F.call (.mth c m) xs M = none) ∨ ∃ a n, Meth C.K Ca (Str.ofString m) a ∧ FnC C k (F.call (.mth c m)) n a
structure NewC (C : PC) (k : Nat) (F : FT) (c : String) : Prop where
  ok : (∀ xs M, F.call (.mth c "__init__") xs M = none) ∨ ∃ Ca a n, C.ca c = some Ca ∧ C.mg (Str.ofString c) = some (.ref Ca) ∧ Mk C.K Ca a ∧ FnC C k (F.call (.mth c "__init__")) n a
def noStars : List Expr → Bool
  | [] => true
  | e :: r => notStar e && noStars r
theorem starPlain {env : Env} {p : Pos} : ∀ {es : List Expr}, noStars es = true → (backTo p (starEach es env)).any (·.1) = false
  | [], _ => rfl
  | e :: es, h => by
    simp only [noStars, Bool.and_eq_true] at h
    rw [star_cons h.1]
    show (false || _) = false
    rw [Bool.false_or]
    exact starPlain h.2
theorem call_lift {f : FK} {n : Nat} {r : E} {call : List D → Mem → R D} {E : XK} (hn : ∀ xs M r, call xs M = some r → xs.length = n) : ∀ σ H Q, tV C (fun ρ M => bnd (evEs F r ρ M) call) σ H Q → tCall (spF C call n) [] E (tL C (evEs F r)) σ H Q := by
  rintro σ H Q ⟨α, ρ, M, d, M', s, e, h, q⟩
  obtain ⟨xs, M1, g1, h⟩ := bnd_some_of h
  refine ⟨α, ρ, M, xs, M1, s, e, g1, fun α1 v1 H1 t1 s1 r1 => ?_⟩
  simp only [List.append_nil]
  exact ⟨by rw [← r1.length]; exact hn _ _ _ h, α1, M1, xs, d, M', s1, r1, h, fun α2 v2 H2 t2 => q α2 v2 H2 (t1.trans t2)⟩
theorem pa_tNil {t : TA} (h : PA X [] t) : PA X [] tNil := pa_nil
theorem le_call {es : List Expr} {r : E} {f : String} (ok : OkX C k S X) (hg : Gl X (Str.ofString f)) (hd : (Str.ofString f == ("__debug__" : Str)) = false) (hs : noStars es = true) (hr : LA C X es (evEs F r)) (hl : rowLen r = some es.length) (hc : CalC C k F f) :
    LE C X (.Call (.Name (Str.ofString f) p2) es [] pos) (evE F (.call f r)) := by
  rcases hc.ok with hno | ⟨a, n, h1, h2, ⟨fd, ps, h3, h4, h5⟩⟩
  · refine ⟨fun pins s σ H Q I h => ?_⟩
    obtain ⟨α, ρ, M, d, M', s, _, h, q⟩ := h
    simp only [evE] at h
    obtain ⟨xs, M1, _, h⟩ := bnd_some_of h
    rw [hno] at h
    cases h
  · rw [← ok.hP, ← ok.hw, ← ok.hK, ← ok.hmg, ← ok.hbase] at h3
    have lift := call_lift (C := C) (F := F) (r := r) (f := .fn f) (E := fun _ _ _ => False) h5
    cases es with
    | nil =>
      refine PE.imp (pe_call0 (E := fun _ _ _ => False) h3 ok.room hg (by rw [ok.hmg]; exact h1) (by rw [ok.hK]; exact h2) (by rw [ok.hK]; exact h4) .nil passn hd) ?_
      rintro σ H Q ⟨α, ρ, M, d, M', s, e, h, q⟩
      have hr0 : r = .nil := by
        cases r <;> first | rfl | (simp [rowLen] at hl; done)
      subst hr0
      simp only [evE, evEs, bnd_some] at h
      exact ⟨by rw [← h5 _ _ _ h]; rfl, α, M, [], d, M', s, .nil, h, q⟩
    | cons e es =>
      simp only [noStars, Bool.and_eq_true] at hs
      refine PE.imp (pe_call (E := fun _ _ _ => False) h3 ok.room hg (by rw [ok.hmg]; exact h1) (by rw [ok.hK]; exact h2) (by rw [ok.hK]; exact h4) .nil passn hr hd (star_cons hs.1 _ _) (starPlain hs.2)) ?_
      intro σ H Q h
      refine lift σ H Q ?_
      simp only [evE] at h
      exact h
end
end Pw

end
section
set_option maxHeartbeats 1000000
/-! Snd8: making instances, methods. -/
namespace Pw
open PySem PySem.Spec PyProof.Rows L2

theorem plainAll {env : Env} {p : Pos} : ∀ {es : List Expr}, noStars es = true → (backTo p (starEach es env)).all (fun x => !x.1) = true
  | [], _ => rfl
  | e :: es, h => by
    simp only [noStars, Bool.and_eq_true] at h
    rw [star_cons h.1]
    show (!false && _) = true
    exact plainAll h.2
theorem meth_tree {o : Expr} {m : Str} {es : List Expr} {env : Env} {apos pos : Pos} (h1 : notSuper o = true) (h2 : noStars es = true) (h3 : es.length < 30) (h4 : (apos.endLine == pos.line) = true) :
    eval (.Call (.Attribute o m apos) es [] pos) env = (do
      let ov ← eval o env
      standAt apos.atName
      let (f, first) ← holding [ov] (getMethod ov m (do return (← importBound o env).getD true))
      callWith pos f first (backTo pos (starEach es env)) (backToKw pos (keywordEach [] env))) := by
  have e1 : methodCallForm (es.length + 0) (backTo pos (starEach es env)) (backToKw pos (keywordEach [] env)) = true := by
    unfold methodCallForm
    rw [plainAll h2]
    show (true && true && decide (es.length + 0 + 0 < 30)) = true
    simp [h3]
  have e2 : ∀ ov, methodCall o m apos pos env ov (es.length + 0) (backTo pos (starEach es env)) (backToKw pos (keywordEach [] env)) = (do
      let (f, first) ← holding [ov] (getMethod ov m (do return (← importBound o env).getD true))
      callWith pos f first (backTo pos (starEach es env)) (backToKw pos (keywordEach [] env))) := by
    intro ov
    unfold methodCall
    rw [e1]
    unfold methodCallPos
    rw [if_pos (by rw [h4]; rfl)]
    rfl
  show (attributeBase o m env (eval o env) >>= fun ov => standAt apos.atName >>= fun _ => methodCall o m apos pos env ov (es.length + 0) (backTo pos (starEach es env)) (backToKw pos (keywordEach [] env))) = _
  rw [attrBase h1]
  simp only [e2]

section
variable {C : PC} {k : Nat} {S : Sx} {X : Cx} {F : FT} {a b c : Expr} {pos p2 : Pos} {x y z : E}
theorem RD.refM {α : List Addr} {H : Hp} {v : V} {n : Nat} (r : RD C.sa α H (.ref n) v) : ∃ a, v = .ref a ∧ α[n]? = some a := by
  cases r with
  | ref h => exact ⟨_, rfl, h⟩
/-- a new instance's state -/
theorem RS.made {α : List Addr} {M : Mem} {H : Hp} (s : RS C α M H) {c : String} {Ca x dx : Addr} (hc : C.ca c = some Ca) (hx : H x = none) (hd : H dx = none) (hne : dx ≠ x) :
    Step α (α ++ [x]) H (upd (upd H dx (.own x)) x (.ins Ca dx [])) ∧ RS C (α ++ [x]) (M ++ [.ins c []]) (upd (upd H dx (.own x)) x (.ins Ca dx [])) ∧ (α ++ [x])[M.length]? = some x := by
  have s1 : RS C α M (upd H dx (.own x)) := s.other hd
  have hx1 : upd H dx (.own x) x = none := by rw [upd_ne (Ne.symm hne)]; exact hx
  refine ⟨(upd_step hd).trans (new_step hx1), s1.new hx1 (.ins hc .nil), ?_⟩
  rw [List.getElem?_append_right (by rw [s.len]; exact Nat.le_refl _)]
  simp [s.len]
theorem new_lift {c : String} {Ca : Addr} {n : Nat} {r : E} {E : XK} (hc : C.ca c = some Ca) (hn : ∀ xs M r, F.call (.mth c "__init__") xs M = some r → xs.length = n) : ∀ σ H Q, tV C (evE F (.new c r)) σ H Q → tMake Ca (spF C (F.call (.mth c "__init__")) n) [] E (tL C (evEs F r)) σ H Q := by
  rintro σ H Q ⟨α, ρ, M, d, M', s, e, h, q⟩
  simp only [evE] at h
  obtain ⟨xs, M1, g1, h⟩ := bnd_some_of h
  obtain ⟨r0, M2, g2, h⟩ := bnd_some_of h
  split at h
  · rename_i hr
    cases h
    subst hr
    refine ⟨α, ρ, M, xs, M1, s, e, g1, fun α1 v1 H1 t1 s1 r1 x dx hx hd hne => ?_⟩
    obtain ⟨t2, s2, h2⟩ := s1.made hc hx hd hne
    simp only [List.append_nil]
    refine ⟨by rw [← hn _ _ _ g2]; simp [r1.length], α1 ++ [x], _, _, _, _, s2, .cons (.ref h2) (r1.mono s1 t2), g2, fun α3 v3 H3 t3 s3 r3 => ?_⟩
    cases r3
    exact ⟨rfl, q α3 _ H3 ((t1.trans t2).trans t3) s3 (.ref (t3.get h2))⟩
  · cases h
theorem le_new {es : List Expr} {r : E} {f : String} (ok : OkX C k S X) (hg : Gl X (Str.ofString f)) (hd : (Str.ofString f == ("__debug__" : Str)) = false) (hs : noStars es = true) (hr : LA C X es (evEs F r)) (hl : rowLen r = some es.length) {j : Nat} (hj : j + 1 ≤ k) (hc : NewC C j F f) :
    LE C X (.Call (.Name (Str.ofString f) p2) es [] pos) (evE F (.new f r)) := by
  rcases hc.ok with hno | ⟨Ca, a, n, h0, h1, h2, ⟨fd, ps, h3, h4, h5⟩⟩
  · refine ⟨fun pins s σ H Q I h => ?_⟩
    obtain ⟨α, ρ, M, d, M', s, _, h, q⟩ := h
    simp only [evE] at h
    obtain ⟨xs, M1, _, h⟩ := bnd_some_of h
    rw [hno] at h
    cases h
  · rw [← ok.hP, ← ok.hw, ← ok.hK, ← ok.hmg, ← ok.hbase] at h3
    rw [← ok.hK] at h2
    have lift := new_lift (C := C) (F := F) (r := r) (E := fun _ _ _ => False) h0 h5
    cases es with
    | nil =>
      refine PE.imp (pe_make0 (E := fun _ _ _ => False) h2 h3 (ok.room.mono hj) hg (by rw [ok.hmg]; exact h1) (by rw [ok.hK]; exact h4) .nil passn hd) ?_
      intro σ H Q h
      have hr0 : r = .nil := by
        cases r <;> first | rfl | (simp [rowLen] at hl; done)
      subst hr0
      obtain ⟨α, ρ, M, xs, M1, s, e, g1, q⟩ := lift σ H Q h
      simp only [evEs] at g1
      cases g1
      exact q α [] H (Step.refl _ _) s .nil
    | cons e es =>
      simp only [noStars, Bool.and_eq_true] at hs
      exact PE.imp (pe_make (E := fun _ _ _ => False) h2 h3 (ok.room.mono hj) hg (by rw [ok.hmg]; exact h1) (by rw [ok.hK]; exact h4) .nil passn hr hd (star_cons hs.1 _ _) (starPlain hs.2)) lift
/-- the classes' method m, by the class -/
structure MetOk (C : PC) (k : Nat) (F : FT) (m : String) : Prop where
  ok : ∀ c Ca, C.ca c = some Ca → (∀ xs M, F.call (.mth c m) xs M = none) ∨ (Cls C.K Ca ∧ ∃ a n, Meth C.K Ca (Str.ofString m) a ∧ FnC C k (F.call (.mth c m)) n a)
theorem le_meth {es : List Expr} {r : E} {m : String} {apos : Pos} (ok : OkX C k S X) (hn : notSuper a = true) (hs : noStars es = true) (h30 : es.length < 30) (hl : (apos.endLine == pos.line) = true) (ha : LE C X a (evE F x)) (hr : LA C X es (evEs F r)) (hw : rowLen r = some es.length) (hc : MetOk C k F m) :
    LE C X (.Call (.Attribute a (Str.ofString m) apos) es [] pos) (evE F (.meth x m r)) := by
  refine ⟨fun pins s σ H Q I h => ?_⟩
  obtain ⟨α, ρ, M, d, M', S, e, h, q⟩ := h
  simp only [evE] at h
  obtain ⟨dx, M1, g1, h⟩ := bnd_some_of h
  refine methcall_of ha I (h := ⟨α, ρ, M, dx, M1, S, e, g1, fun α1 v1 H1 t1 s1 r1 => ?_⟩) (meth_tree hn hs h30 hl)
  cases dx with
  | ref p =>
    simp only at h
    cases e1 : M1[p]? with
    | none => rw [e1] at h; cases h
    | some o =>
      rw [e1] at h
      cases o with
      | ins c fs =>
        simp only at h
        split at h
        · rename_i hf
          obtain ⟨xs, M2, g2, h⟩ := bnd_some_of h
          obtain ⟨a', Ca, dx, vs, rfl, g3, g4, g5, g6⟩ := s1.ins e1 r1
          rcases hc.ok c Ca g5 with hno | ⟨k1, f, n, k2, ⟨fd, ps, h3, h4, h5⟩⟩
          · rw [hno] at h; cases h
          · rw [← ok.hP, ← ok.hw, ← ok.hK, ← ok.hmg, ← ok.hbase] at h3
            rw [← ok.hK] at k1 k2 h4
            refine ⟨a', Ca, dx, vs, f, rfl, g4, k1, k2, (g6.look (f := m)).2 hf, fun s2 I2 => ?_⟩
            have fin : ∀ {us : List Value} {vs : List V} {s3 : Shared} {H3 : Hp} {α3 : List Addr}, Step α1 α3 H1 H3 → RS C α3 M2 H3 → RDs C.sa α3 H3 xs vs → Inv X pins σ H3 s3 → Vals vs us → wpAny (model X.prog X.w) X.A (call (.ref f) ([.ref a'] ++ us)) (EP X pins σ Q) X.xe s3 := by
              intro us vs s3 H3 α3 t3 S3 r3 I3 rv
              refine run_fn (us := .ref a' :: us) (vs := .ref a' :: vs) (E := fun _ _ _ => False) h3 ok.room h4 .nil passn I3 (.cons rfl rv) ?_
              refine ⟨by rw [← h5 _ _ _ h]; simp [r3.length], α3, M2, .ref p :: xs, d, M', S3, .cons (.ref (t3.get g3)) ?_, h, fun α4 v4 H4 t4 => q α4 v4 H4 ((t1.trans t3).trans t4)⟩
              simpa using r3
            cases es with
            | nil =>
              have hr0 : r = .nil := by
                cases r <;> first | rfl | (simp [rowLen] at hw; done)
              subst hr0
              simp only [evEs] at g2
              cases g2
              exact PySem.W.callWith_K0 (first := [.ref a']) I2.kIn k2.kp (fin (us := []) (vs := []) (Step.refl _ _) s1 .nil I2 .nil)
            | cons e0 es =>
              simp only [noStars, Bool.and_eq_true] at hs
              refine PySem.W.callWith_K (first := [.ref a']) (h₀ := X.base) I2.ok.mod.kin k2.kp (thn (hr.run pos pins s2 σ H1 (fun vs H3 => ∃ α3, Step α1 α3 H1 H3 ∧ RS C α3 M2 H3 ∧ RDs C.sa α3 H3 xs vs) I2 ?_) fun us s3 ⟨vs, H3, I3, rv, α3, t3, S3, r3⟩ => ⟨I3.kIn, fin t3 S3 r3 I3 rv⟩) (star_cons hs.1 _ _) (starPlain hs.2)
              exact ⟨α1, ρ, M1, xs, M2, s1, e.mono S t1, g2, fun α3 v3 H3 t3 s3 r3 => ⟨α3, t3, s3, r3⟩⟩
        · cases h
      | _ => cases h
  | _ => cases h
end
end Pw

end
section
set_option maxHeartbeats 1000000
/-! Snd9: built-in functions, isinstance, methods of lists, dicts, texts; tuple(..), list(..). -/
namespace Pw
open PySem PySem.Spec PyProof.Rows L2

section
variable {C : PC} {k : Nat} {S : Sx} {X : Cx} {F : FT} {a b c : Expr} {pos p2 : Pos} {x y z : E}
/-- a built-in name that nothing hides -/
structure BuOk (C : PC) (X : Cx) (x : Str) : Prop where
  gl : Gl X x
  mg : C.mg x = none
def rBi (C : PC) (b : Bi) : List V → Hp → VK → Prop := fun vs H Q => ∃ α M ds d, RS C α M H ∧ RDs C.sa α H ds vs ∧ biD C.P M b ds = some d ∧ ∀ v, RD C.sa α H d v → Q v H
theorem one_arg {sa : Addr} {α : List Addr} {H : Hp} {d : D} {vs : List V} (r : RDs sa α H [d] vs) : ∃ v, vs = [v] ∧ RD sa α H d v := by
  cases r with
  | cons r1 r2 => cases r2; exact ⟨_, rfl, r1⟩
theorem two_arg {sa : Addr} {α : List Addr} {H : Hp} {d e : D} {vs : List V} (r : RDs sa α H [d, e] vs) : ∃ v u, vs = [v, u] ∧ RD sa α H d v ∧ RD sa α H e u := by
  cases r with
  | cons r1 r2 => obtain ⟨u, rfl, r3⟩ := one_arg r2; exact ⟨_, _, rfl, r1, r3⟩
theorem call_lenE (hK : X.K = C.K) : CallR X (.builtin "len") (rBi C .len) := by
  intro pins s σ H xs us Q I r h
  obtain ⟨α, M, ds, d, S, rs, h, q⟩ := h
  cases ds with
  | nil => simp [biD] at h
  | cons d0 ds =>
    cases ds with
    | cons _ _ => simp [biD] at h
    | nil =>
      obtain ⟨v, rfl, rd⟩ := one_arg rs
      simp only [biD] at h
      obtain ⟨n', hn, e⟩ := Option.map_eq_some_iff.mp h
      subst e
      refine call_len pins s σ H _ us Q I r ⟨v, n', rfl, ?_, q _ (.int _)⟩
      rw [hK]
      cases rd with
      | @str t ht => cases hn; exact ⟨by rw [ofString_length, line_eq]; exact ht, (ofString_length t).symm⟩
      | tup ha rs2 => cases hn; exact .inr ⟨_, .inl (.inl ha), rs2.length⟩
      | @ref m a ha =>
        simp only [lenD] at hn
        cases e1 : M[m]? with
        | none => rw [e1] at hn; cases hn
        | some o =>
          rw [e1] at hn
          cases o with
          | lst xs =>
            cases hn
            obtain ⟨a', vs, q1, q2, q3, rs2⟩ := S.lst (v := .ref a) e1 (.ref ha)
            cases q1
            exact .inl ⟨_, .inl (.inl q3), rs2.length⟩
          | _ => cases hn
      | scr => cases hn; exact .inl ⟨_, S.script, by simp⟩
      | _ => cases hn
theorem bi_max2 {P : Prog} {M : Mem} {ds : List D} {d : D} (h : biD P M .max2 ds = some d) : ∃ i j, ds = [.int i, .int j] ∧ d = .int (if j > i then j else i) := by
  rcases ds with _ | ⟨d0, _ | ⟨d1, _ | ⟨d2, ds⟩⟩⟩
  · simp [biD] at h
  · simp [biD] at h
  · cases d0 <;> cases d1 <;> simp only [biD] at h <;> first | (cases h; done) | exact ⟨_, _, rfl, (Option.some.inj h).symm⟩
  · simp [biD] at h
theorem bi_min2 {P : Prog} {M : Mem} {ds : List D} {d : D} (h : biD P M .min2 ds = some d) : ∃ i j, ds = [.int i, .int j] ∧ d = .int (if j < i then j else i) := by
  rcases ds with _ | ⟨d0, _ | ⟨d1, _ | ⟨d2, ds⟩⟩⟩
  · simp [biD] at h
  · simp [biD] at h
  · cases d0 <;> cases d1 <;> simp only [biD] at h <;> first | (cases h; done) | exact ⟨_, _, rfl, (Option.some.inj h).symm⟩
  · simp [biD] at h
theorem call_max2E (hc : X.calm = true) : CallR X (.builtin "max") (rBi C .max2) := by
  intro pins s σ H xs us Q I r h
  obtain ⟨α, M, ds, d, S, rs, h, q⟩ := h
  obtain ⟨i, j, rfl, rfl⟩ := bi_max2 h
  obtain ⟨v, u, rfl, r1, r2⟩ := two_arg rs
  cases r1; cases r2
  exact call_max2 hc pins s σ H _ us Q I r ⟨_, _, rfl, q _ (.int _)⟩
theorem call_min2E (hc : X.calm = true) : CallR X (.builtin "min") (rBi C .min2) := by
  intro pins s σ H xs us Q I r h
  obtain ⟨α, M, ds, d, S, rs, h, q⟩ := h
  obtain ⟨i, j, rfl, rfl⟩ := bi_min2 h
  obtain ⟨v, u, rfl, r1, r2⟩ := two_arg rs
  cases r1; cases r2
  exact call_min2 hc pins s σ H _ us Q I r ⟨_, _, rfl, q _ (.int _)⟩
theorem intText_of (s : String) {i : Int} (h : intOfS s = some i) : PySem.intText? (Str.ofString s) = some i ∧ (Str.ofString s).length ≤ 640 := by
  unfold intOfS at h
  simp only at h
  split at h
  · cases h
  · rename_i hl
    split at h
    · rename_i hd
      cases h
      have hlen : s.toList.length ≤ 600 := by omega
      have hdig : ∀ c ∈ (Str.ofString s).cps.toList, 48 ≤ c ∧ c ≤ 57 := by
        intro c hc
        rw [ofString_cps] at hc
        obtain ⟨ch, h1, rfl⟩ := List.mem_map.mp hc
        have := List.all_eq_true.mp hd ch h1
        simp only [isDig, Bool.and_eq_true, decide_eq_true_eq] at this
        exact ⟨this.1, this.2⟩
      have hv : PySem.NumText.digitsVal (Str.ofString s).cps.toList = numOf s.toList := by
        rw [ofString_cps]
        unfold PySem.NumText.digitsVal numOf
        rw [List.foldl_map]
        rfl
      refine ⟨?_, by rw [ofString_length]; exact Nat.le_trans hlen (by decide)⟩
      rw [← hv]
      refine PySem.intText_digits hdig ?_ ?_
      · intro e
        have := congrArg List.length e
        rw [ofString_cps] at this
        simp at this
        simp [this] at hl
      · rw [ofString_length]; exact Nat.le_trans hlen (by decide)
    · cases h
theorem call_intE (hK : X.K = C.K) : CallR X (.type "int") (rBi C .int) := by
  intro pins s σ H xs us Q I r h
  obtain ⟨α, M, ds, d, S, rs, h, q⟩ := h
  rcases ds with _ | ⟨d0, _ | ⟨d1, ds⟩⟩
  · simp [biD] at h
  · obtain ⟨v, rfl, rd⟩ := one_arg rs
    cases rd with
    | int i => simp only [biD] at h; cases h; exact call_int1 pins s σ H _ us Q I r (.inl ⟨_, rfl, q _ (.int _)⟩)
    | bl b => simp only [biD] at h; cases h; exact call_int1 pins s σ H _ us Q I r (.inr ⟨_, rfl, q _ (.int _)⟩)
    | @str t ht =>
      simp only [biD] at h
      obtain ⟨n, hn, e⟩ := Option.map_eq_some_iff.mp h
      subst e
      obtain ⟨h1, h2⟩ := intText_of t hn
      exact call_int_str pins s σ H _ us Q I r ⟨_, n, rfl, h1, h2, q _ (.int _)⟩
    | _ => simp [biD] at h
  · simp [biD] at h
theorem call_boolE : CallR X (.type "bool") (rBi C .bool) := by
  intro pins s σ H xs us Q I r h
  obtain ⟨α, M, ds, d, S, rs, h, q⟩ := h
  rcases ds with _ | ⟨d0, _ | ⟨d1, ds⟩⟩
  · simp [biD] at h
  · obtain ⟨v, rfl, rd⟩ := one_arg rs
    cases rd with
    | int i =>
      simp only [biD] at h
      cases h
      refine call_bool1 pins s σ H _ us Q I r (.inl ⟨_, rfl, ?_⟩)
      have := q _ (.bl (decide (i ≠ 0)))
      by_cases e : i = 0
      · subst e; exact this
      · rw [decide_eq_true e] at this
        have e2 : (i != 0) = true := bne_iff_ne.mpr e
        rw [e2]; exact this
    | bl b => simp only [biD] at h; cases h; exact call_bool1 pins s σ H _ us Q I r (.inr ⟨_, rfl, q _ (.bl _)⟩)
    | _ => simp [biD] at h
  · simp [biD] at h
theorem call_strE : CallR X (.type "str") (rBi C .str) := by
  intro pins s σ H xs us Q I r h
  obtain ⟨α, M, ds, d, S, rs, h, q⟩ := h
  rcases ds with _ | ⟨d0, _ | ⟨d1, ds⟩⟩
  · simp [biD] at h
  · obtain ⟨v, rfl, rd⟩ := one_arg rs
    cases rd with
    | int i =>
      simp only [biD] at h
      obtain ⟨w, hw, e⟩ := Option.map_eq_some_iff.mp h
      subst e
      unfold strN at hw
      split at hw
      · rename_i hz
        cases hw
        refine call_str_int pins s σ H _ us Q I r ⟨_, rfl, ?_, q _ (.str hz.2)⟩
        by_cases e : i.natAbs = 0
        · rw [e]; decide
        · have := (Nat.log2_lt e).mpr hz.1
          omega
      · cases hw
    | _ => simp [biD] at h
  · cases d0 <;> simp [biD] at h
/-- the name of a built-in function of the evaluator, whether it is a type -/
def biName : Bi → String
  | .len => "len" | .str => "str" | .int => "int" | .bool => "bool" | .max2 => "max" | .min2 => "min"
theorem rBi_lift {r : E} {bi : Bi} (hF : F.P = C.P) : ∀ σ H Q, tV C (evE F (.bi bi r)) σ H Q → tCB (rBi C bi) (tL C (evEs F r)) σ H Q := by
  rintro σ H Q ⟨α, ρ, M, d, M', s, e, h, q⟩
  simp only [evE] at h
  obtain ⟨xs, M1, g1, h⟩ := bnd_some_of h
  obtain ⟨w, hw, e2⟩ := Option.map_eq_some_iff.mp h
  cases e2
  rw [hF] at hw
  exact ⟨α, ρ, M, xs, _, s, e, g1, fun α1 v1 H1 t1 s1 r1 => ⟨α1, _, xs, d, s1, r1, hw, fun v rv => q _ _ _ t1 s1 rv⟩⟩
theorem le_bi {es : List Expr} {e : Expr} {r : E} (bi : Bi) (ok : OkX C k S X) (hg : BuOk C X (Str.ofString (biName bi))) (hs : noStars (e :: es) = true) (hr : LA C X (e :: es) (evEs F r)) (hF : F.P = C.P) :
    LE C X (.Call (.Name (Str.ofString (biName bi)) p2) (e :: es) [] pos) (evE F (.bi bi r)) := by
  simp only [noStars, Bool.and_eq_true] at hs
  have hm := hg.mg
  rw [← ok.hmg] at hm
  have h1 := star_cons hs.1 es X.env
  have h2 : (backTo pos (starEach es X.env)).any (·.1) = false := starPlain hs.2
  refine PE.imp (t := tCB (rBi C bi) (tL C (evEs F r))) ?_ (rBi_lift hF)
  cases bi with
  | len => exact pe_callB (call_lenE ok.hK) hg.gl hm PySem.boot_len hr (he := h1) (hpl := h2)
  | str => exact pe_callTy call_strE hg.gl hm PyProof.Rows.boot_str hr (he := h1) (hpl := h2)
  | int => exact pe_callTy (call_intE ok.hK) hg.gl hm PyProof.Rows.boot_int hr (he := h1) (hpl := h2)
  | bool => exact pe_callTy call_boolE hg.gl hm PyProof.Rows.boot_bool hr (he := h1) (hpl := h2)
  | max2 => exact pe_callB (call_max2E ok.calm) hg.gl hm (by decide +kernel) hr (he := h1) (hpl := h2)
  | min2 => exact pe_callB (call_min2E ok.calm) hg.gl hm (by decide +kernel) hr (he := h1) (hpl := h2)

/-! ### isinstance -/
def tyName : Ty → String
  | .int => "int" | .bool => "bool" | .str => "str" | .tuple => "tuple" | .list => "list"
def rIsiE (C : PC) (t : Ty) : List V → Hp → VK → Prop := fun vs H Q => ∃ α M d v b, vs = [v, .ty (tyName t)] ∧ RS C α M H ∧ RD C.sa α H d v ∧ isiD M d t = some b ∧ Q (.bl b) H
theorem call_isiE (t : Ty) : CallR X (.builtin "isinstance") (rIsiE C t) := by
  intro pins s σ H xs us Q I r h
  obtain ⟨α, M, d, v, b, rfl, S, rd, h, q⟩ := h
  refine call_isi pins s σ H _ us Q I r ?_
  cases rd with
  | non => refine ⟨_, _, _, _, b, rfl, .ty _, .base .non, ?_, q⟩; cases t <;> (cases h; rfl)
  | bl x => refine ⟨_, _, _, _, b, rfl, .ty _, .base (.bl x), ?_, q⟩; cases t <;> (cases h; rfl)
  | int i => refine ⟨_, _, _, _, b, rfl, .ty _, .base (.int i), ?_, q⟩; cases t <;> (cases h; rfl)
  | str hs => refine ⟨_, _, _, _, b, rfl, .ty _, .base (.str _), ?_, q⟩; cases t <;> (cases h; rfl)
  | tup ha rs => refine ⟨_, _, _, _, b, rfl, .ty _, .base (.tup ha), ?_, q⟩; cases t <;> (cases h; rfl)
  | @ref n a ha =>
    simp only [isiD] at h
    cases e1 : M[n]? with
    | none => rw [e1] at h; cases h
    | some o =>
      rw [e1] at h
      cases o with
      | lst xs =>
        obtain ⟨a', vs, q1, q2, q3, rs⟩ := S.lst (v := .ref a) e1 (.ref ha)
        cases q1
        refine ⟨_, _, _, _, b, rfl, .ty _, .base (.lst q3), ?_, q⟩; cases t <;> (cases h; rfl)
      | _ => cases h
  | scr => cases h
theorem le_isi {t : Ty} {p3 : Pos} (ok : OkX C k S X) (hg : BuOk C X (Str.ofString "isinstance")) (ht : BuOk C X (Str.ofString (tyName t))) (hs : notStar a = true) (ha : LE C X a (evE F x)) :
    LE C X (.Call (.Name (Str.ofString "isinstance") p2) [a, .Name (Str.ofString (tyName t)) p3] [] pos) (evE F (.isi x t)) := by
  have hm := hg.mg
  have hmt := ht.mg
  rw [← ok.hmg] at hm hmt
  have h2 : PE X (.Name (Str.ofString (tyName t)) p3) (tC (.ty (tyName t))) := by
    cases t <;> exact pe_bltn ht.gl hmt (u := .type _) (by first | exact PyProof.Rows.boot_int | exact PyProof.Rows.boot_bool | exact PyProof.Rows.boot_str | exact PyProof.Rows.boot_tuple | exact PyProof.Rows.boot_list) rfl
  refine PE.imp (pe_callB (call_isiE (C := C) t) hg.gl hm PyProof.Rows.boot_isinstance (pa_cons ha (pa_cons h2 pa_nil) (star_cons hs _ _)) (he := star_cons hs _ _)) ?_
  rintro σ H Q ⟨α, ρ, M, d, M', s, e, h, q⟩
  simp only [evE] at h
  obtain ⟨dx, M1, g1, h⟩ := bnd_some_of h
  obtain ⟨b, hb, e2⟩ := Option.map_eq_some_iff.mp h
  cases e2
  exact ⟨α, ρ, M, dx, _, s, e, g1, fun α1 v1 H1 t1 s1 r1 => ⟨α1, _, dx, v1, b, rfl, s1, r1, hb, q _ _ _ t1 s1 (.bl b)⟩⟩
end
end Pw

end
section
set_option maxHeartbeats 1000000
/-! Snd10: methods of lists, dicts. -/
namespace Pw
open PySem PySem.Spec PyProof.Rows L2

/-- a list is extended by a tuple, whatever the tuple's object has beside its items -/
theorem extT (l b : Addr) (xs ys : Array Value) (n m : Nat) (dd : Option Addr) (sl : Array (Option Value)) (h0 : ¬(!xs.isEmpty && Builtin.List.listTooLong (xs.size + ys.size)) = true) (h1 : xs.size ≤ sizeLine) (h2 : xs.size + ys.size ≤ sizeLine + 1) :
    Meets (Builtin.«list.extend» ⟨[.ref l, .ref b], []⟩) (fun _ R s => s.heap.get? l = some { cls := .type "list", dict := none, data := .seq xs n, slots := #[] } ∧ s.heap.get? b = some ⟨.type "tuple", dd, .seq ys m, sl⟩ ∧
      R (.ok (.ret Value.none)) { s with heap := s.heap.update l (Obj.mapSeq fun x => x ++ ys), toks := s.toks }) := by
  refine .of_wp fun prog w A R s h => ?_
  rcases s with ⟨hp, g, d, tk, os⟩
  rcases h with ⟨hl, hb, hR⟩
  have k1 := AutoSeq1.sub_tuple_tuple
  have k2 := AutoSeq1.sub_list_list
  have k3 := AutoSeq1.sub_tuple_list
  have k4 := AutoSeq1.sub_list_tuple
  have kz : (xs ++ ys).size ≤ sizeLine + 1 := by
    rw [Array.size_append]
    exact h2
  wp_walk using (wpAny_updateSeq hl rfl (hz := h1) (_hz' := kz)), AutoSeq1.wpAny_loadPart' hl, AutoSeq1.wpAny_loadPart' hb
  exact ⟨_, rfl, hR⟩

section
variable {C : PC} {k : Nat} {S : Sx} {X : Cx} {F : FT} {a b c : Expr} {pos p2 : Pos} {x y z : E}
def rBm (C : PC) (m : BM) : V → List V → Hp → VK → Prop := fun v vs H Q => ∃ α M d ds z M', RS C α M H ∧ RD C.sa α H d v ∧ RDs C.sa α H ds vs ∧ bmD M m d ds = some (z, M') ∧ ∀ α' v H', Step α α' H H' → RS C α' M' H' → RD C.sa α' H' z v → Q v H'
theorem bm_list {M : Mem} {p : Nat} {f : List D → R D} {r : D × Mem} (h : (match M[p]? with | some (.lst xs) => f xs | _ => none) = some r) : ∃ xs, M[p]? = some (.lst xs) ∧ f xs = some r := by
  cases e : M[p]? with
  | none => rw [e] at h; cases h
  | some o =>
    rw [e] at h
    cases o with
    | lst xs => exact ⟨xs, rfl, h⟩
    | _ => cases h
theorem bm_dic {M : Mem} {p : Nat} {f : List (D × D) → R D} {r : D × Mem} (h : (match M[p]? with | some (.dic xs) => f xs | _ => none) = some r) : ∃ xs, M[p]? = some (.dic xs) ∧ f xs = some r := by
  cases e : M[p]? with
  | none => rw [e] at h; cases h
  | some o =>
    rw [e] at h
    cases o with
    | dic xs => exact ⟨xs, rfl, h⟩
    | _ => cases h
theorem mt_appendE : MtR X "list.append" (rBm C .append) := by
  intro pins s σ H v vs w us Q I rv rvs h
  obtain ⟨α, M, d, ds, z, M', S, rd, rs, h, q⟩ := h
  rcases ds with _ | ⟨d0, _ | ⟨d1, ds⟩⟩
  · cases d <;> simp [bmD] at h
  · obtain ⟨u, rfl, r0⟩ := one_arg rs
    cases rd with
    | @ref n a ha =>
      simp only [bmD] at h
      obtain ⟨xs, e1, h⟩ := bm_list (f := fun xs => if xs.length < LIM then some (.non, M.set n (.lst (xs ++ [d0]))) else none) h
      split at h
      · rename_i hl
        cases h
        obtain ⟨a', ws, q1, q2, q3, r⟩ := S.lst (v := .ref a) e1 (.ref ha)
        cases q1
        refine mt_append pins s σ H _ _ w us Q I rv rvs ⟨a, ws, u, rfl, rfl, q3, by rw [← r.length, line_eq]; exact hl, done_set S ha (r.append (.cons r0 .nil)) .non q⟩
      · cases h
    | _ => simp [bmD] at h
  · cases d <;> simp [bmD] at h
theorem mt_extendE : MtR X "list.extend" (rBm C .extend) := by
  intro pins s σ H v vs w us Q I rv rvs h
  obtain ⟨α, M, d, ds, z, M', S, rd, rs, h, q⟩ := h
  rcases ds with _ | ⟨d0, _ | ⟨d1, ds⟩⟩
  · cases d <;> simp [bmD] at h
  · obtain ⟨u, rfl, r0⟩ := one_arg rs
    cases rd with
    | @ref n a ha =>
      cases r0 with
      | @ref m b hb =>
        simp only [bmD] at h
        cases e1 : M[n]? with
        | none => rw [e1] at h; cases h
        | some o1 =>
          cases e2 : M[m]? with
          | none => rw [e1, e2] at h; cases o1 <;> cases h
          | some o2 =>
            rw [e1, e2] at h
            cases o1 with
            | lst xs =>
              cases o2 with
              | lst ys =>
                simp only at h
                split at h
                · rename_i hl
                  cases h
                  obtain ⟨a', ws, q1, q2, q3, r⟩ := S.lst (v := .ref a) e1 (.ref ha)
                  cases q1
                  obtain ⟨b', zs, q1, q2', q3', r2⟩ := S.lst (v := .ref b) e2 (.ref hb)
                  cases q1
                  exact mt_extend pins s σ H _ _ w us Q I rv rvs ⟨a, b, ws, zs, rfl, rfl, q3, q3', by rw [← r.length, ← r2.length, line_eq]; exact hl.2, done_set S ha (r.append r2) .non q⟩
                · cases h
              | _ => cases h
            | _ => cases o2 <;> cases h
      | @tup us' hb0 vs2 hb r2 =>
        simp only [bmD] at h
        obtain ⟨xs, e1, h⟩ := bm_list (f := fun xs => if xs.length + hb0.length ≤ LIM then some (.non, M.set n (.lst (xs ++ hb0))) else none) h
        split at h
        · rename_i hl
          cases h
          obtain ⟨a', ws, q1, q2, q3, r⟩ := S.lst (v := .ref a) e1 (.ref ha)
          cases q1
          cases rv
          obtain ⟨u0, rfl, ru⟩ := rvs.one
          cases ru
          obtain ⟨z, its, n0, r', hl', e⟩ := I.lstM q3
          obtain ⟨_, its2, rv2, o, ho, hc, m0, hd⟩ := I.hok _ _ hb
          have hl2 := rv2.length
          have e3 := r.length
          have e4 := r2.length
          have hsz : its.toArray.size + its2.toArray.size ≤ sizeLine := by rw [List.size_toArray, List.size_toArray, line_eq]; omega
          have hlong : ¬ (!its.toArray.isEmpty && Builtin.List.listTooLong (its.toArray.size + its2.toArray.size)) = true := by
            rw [notLongL hsz, Bool.and_false]
            exact Bool.false_ne_true
          obtain ⟨oc, od, dt, sl⟩ := o
          simp only at hc hd
          subst hc hd
          refine call_meets PySem.F.slot_list_extend ⟨_, e, rfl⟩ PySem.F.entry_list_extend (PySem.F.args_list_extend_2 _ _) (extT a us' its.toArray its2.toArray n0 m0 od sl hlong (by rw [List.size_toArray, line_eq]; omega) (by omega)) ⟨e, ho, ?_⟩
          have hd := done_set S ha (r.append r2) .non q
          refine ⟨.non, _, I.lset (its' := its ++ its2) q3 e (by simp) (r'.append rv2) ?_, rfl, hd⟩
          rw [List.length_append, line_eq]
          omega
        · cases h
      | _ => simp [bmD] at h
    | _ => cases d0 <;> simp [bmD] at h
  · cases d <;> simp [bmD] at h
theorem RDs.dropLast {sa : Addr} {α : List Addr} {H : Hp} {ds : List D} {vs : List V} (r : RDs sa α H ds vs) : RDs sa α H ds.dropLast vs.dropLast := by
  rw [List.dropLast_eq_take, List.dropLast_eq_take, r.length]
  exact r.take _
theorem mt_popE : MtR X "list.pop" (rBm C .pop) := by
  intro pins s σ H v vs w us Q I rv rvs h
  obtain ⟨α, M, d, ds, z, M', S, rd, rs, h, q⟩ := h
  rcases ds with _ | ⟨d0, ds⟩
  · cases rs
    cases rd with
    | @ref n a ha =>
      simp only [bmD] at h
      obtain ⟨xs, e1, h⟩ := bm_list (f := fun xs => match xs.getLast? with | some x => some (x, M.set n (.lst xs.dropLast)) | none => none) h
      split at h
      · rename_i x hx
        cases h
        obtain ⟨a', ws, q1, q2, q3, r⟩ := S.lst (v := .ref a) e1 (.ref ha)
        cases q1
        rw [List.getLast?_eq_getElem?] at hx
        obtain ⟨y, h1, h2⟩ := r.get hx
        refine mt_pop pins s σ H _ _ w us Q I rv rvs ⟨a, ws, y, rfl, rfl, q3, by rw [← r.length]; exact h1, done_set S ha r.dropLast h2 q⟩
      · cases h
    | _ => simp [bmD] at h
  · cases d <;> simp [bmD] at h
theorem mt_popAtE : MtR X "list.pop" (rBm C .popAt) := by
  intro pins s σ H v vs w us Q I rv rvs h
  obtain ⟨α, M, d, ds, z, M', S, rd, rs, h, q⟩ := h
  rcases ds with _ | ⟨d0, _ | ⟨d1, ds⟩⟩
  · cases d <;> simp [bmD] at h
  · obtain ⟨u, rfl, r0⟩ := one_arg rs
    cases rd with
    | @ref n a ha =>
      cases r0 with
      | int i =>
        simp only [bmD] at h
        obtain ⟨xs, e1, h⟩ := bm_list (f := fun xs => match pyIx xs.length i with
          | some k => match xs[k]? with
            | some x => some (x, M.set n (.lst (xs.eraseIdx k)))
            | none => none
          | none => none) h
        split at h
        · rename_i k hk
          split at h
          · rename_i x hx
            cases h
            obtain ⟨a', ws, q1, q2, q3, r⟩ := S.lst (v := .ref a) e1 (.ref ha)
            cases q1
            obtain ⟨y, h1, h2⟩ := r.get hx
            rw [pyIx_ixN, r.length] at hk
            obtain ⟨k1, k2, k3, k4⟩ := ixN_seq hk
            obtain ⟨z, its, n0, r', hl', e⟩ := I.lstM q3
            have hl := line63
            exact mt_popAt pins s σ H _ _ w us Q I rv rvs ⟨a, ws, i, k, y, rfl, rfl, q3, by omega, by omega, k1, h1, done_set S ha (r.eraseIdx k) h2 q⟩
          · cases h
        · cases h
      | _ => simp [bmD] at h
    | _ => cases d0 <;> simp [bmD] at h
  · cases d <;> simp [bmD] at h
theorem insertIdx_take {α : Type} (x : α) : ∀ (xs : List α) (n : Nat), n ≤ xs.length → xs.insertIdx n x = xs.take n ++ [x] ++ xs.drop n
  | xs, 0, _ => by simp
  | [], n + 1, h => by simp at h
  | y :: xs, n + 1, h => by simpa using insertIdx_take x xs n (by simpa using h)
theorem mt_insertE : MtR X "list.insert" (rBm C .insert) := by
  intro pins s σ H v vs w us Q I rv rvs h
  obtain ⟨α, M, d, ds, z, M', S, rd, rs, h, q⟩ := h
  rcases ds with _ | ⟨d0, _ | ⟨d1, _ | ⟨d2, ds⟩⟩⟩
  · cases d <;> simp [bmD] at h
  · cases d <;> cases d0 <;> simp [bmD] at h
  · obtain ⟨u0, u, rfl, r0, r1⟩ := two_arg rs
    cases rd with
    | @ref n a ha =>
      cases r0 with
      | int i =>
        simp only [bmD] at h
        obtain ⟨xs, e1, h⟩ := bm_list (f := fun xs => if 0 ≤ i ∧ i ≤ xs.length ∧ xs.length < LIM then some (.non, M.set n (.lst (xs.insertIdx i.toNat d1))) else none) h
        split at h
        · rename_i hl
          cases h
          obtain ⟨a', ws, q1, q2, q3, r⟩ := S.lst (v := .ref a) e1 (.ref ha)
          cases q1
          have hlen := r.length
          have hL : LIM = 16777216 := rfl
          refine mt_insert pins s σ H _ _ w us Q I rv rvs ⟨a, ws, i, u, rfl, rfl, q3, by rw [line_eq]; omega, hl.1, by omega, ?_⟩
          rw [← insertIdx_take u ws i.toNat (by omega)]
          exact done_set S ha (r.insertIdx r1 _) .non q
        · cases h
      | _ => simp [bmD] at h
    | _ => cases d0 <;> simp [bmD] at h
  · cases d <;> cases d0 <;> simp [bmD] at h
theorem indexD_spec {M : Mem} {x : D} {px : PV} (hx : reify 60 M x = some px) : ∀ {xs : List D} {k : Nat} {ps : List PV}, indexD M x xs = some k → mapO (reify 60 M) xs = some ps →
    ∃ z, ps[k]? = some z ∧ PV.eqv z px = true ∧ ∀ m z', m < k → ps[m]? = some z' → PV.eqv z' px = false
  | [], k, ps, h, _ => by simp [indexD] at h
  | y :: ys, k, ps, h, hp => by
    obtain ⟨py, qs, h1, h2, rfl⟩ := mapO_cons hp
    unfold indexD at h
    cases e : eqD M y x with
    | none => rw [e] at h; cases h
    | some b =>
      rw [e] at h
      obtain ⟨p1, p2, g1, g2, g3⟩ := eqD_reify e
      rw [h1] at g1; cases g1
      rw [hx] at g2; cases g2
      cases b with
      | true =>
        cases h
        exact ⟨py, rfl, g3.symm, fun m z' hm => absurd hm (Nat.not_lt_zero _)⟩
      | false =>
        obtain ⟨j, hj, rfl⟩ := Option.map_eq_some_iff.mp h
        obtain ⟨z, i1, i2, i3⟩ := indexD_spec hx hj h2
        refine ⟨z, by simpa using i1, i2, fun m z' hm hz => ?_⟩
        cases m with
        | zero => simp at hz; subst hz; exact g3.symm
        | succ m => exact i3 m z' (by omega) (by simpa using hz)
theorem pys_get : ∀ {ps : List PV} {k : Nat} {z : PV}, ps[k]? = some z → (PV.pys ps)[k]? = some z.py
  | [], k, z, h => by simp at h
  | p :: ps, 0, z, h => by simp at h; subst h; simp [PV.pys]
  | p :: ps, k + 1, z, h => by simp only [PV.pys, List.getElem?_cons_succ]; exact pys_get (by simpa using h)
theorem pys_get' : ∀ {ps : List PV} {k : Nat} {z : PyData}, (PV.pys ps)[k]? = some z → ∃ p, ps[k]? = some p ∧ z = p.py
  | [], k, z, h => by simp [PV.pys] at h
  | p :: ps, 0, z, h => by simp [PV.pys] at h; exact ⟨p, rfl, h.symm⟩
  | p :: ps, k + 1, z, h => by simp only [PV.pys, List.getElem?_cons_succ] at h; obtain ⟨p', h1, h2⟩ := pys_get' h; exact ⟨p', by simpa using h1, h2⟩
theorem eqD_some {M : Mem} {x y : D} {b : Bool} (h : eqD M y x = some b) : ∃ px, reify 60 M x = some px := by
  obtain ⟨_, p, _, h, _⟩ := eqD_reify h
  exact ⟨p, h⟩
theorem mt_indexE (hr : Room k X.A) (hK : X.K = C.K) : MtR X "list.index" (rBm C .index) := by
  intro pins s σ H v vs w us Q I rv rvs h
  obtain ⟨α, M, d, ds, z, M', S, rd, rs, h, q⟩ := h
  have hu65 : X.A.units + 65 < cLine := by have := hr.un; omega
  rcases ds with _ | ⟨d0, _ | ⟨d1, ds⟩⟩
  · cases d <;> simp [bmD] at h
  · obtain ⟨u, rfl, r0⟩ := one_arg rs
    cases rd with
    | @ref n a ha =>
      simp only [bmD] at h
      obtain ⟨xs, e1, h⟩ := bm_list (f := fun xs => if (mapO (reify 60 M) xs).isSome = true then (indexD M d0 xs).map fun k : Nat => (.int (k : Int), M) else none) h
      split at h
      · rename_i hm
        obtain ⟨ps, hps⟩ := Option.isSome_iff_exists.mp hm
        obtain ⟨j, hj, e2⟩ := Option.map_eq_some_iff.mp h
        cases e2
        obtain ⟨a', ws, q1, q2, q3, r⟩ := S.lst (v := .ref a) e1 (.ref ha)
        cases q1
        obtain ⟨px, hx⟩ : ∃ px, reify 60 M d0 = some px := by
          cases xs with
          | nil => simp [indexD] at hj
          | cons y ys =>
            unfold indexD at hj
            cases e : eqD M y d0 with
            | none => rw [e] at hj; cases hj
            | some b => exact eqD_some e
        obtain ⟨z, i1, i2, i3⟩ := indexD_spec hx hj hps
        obtain ⟨a1, a2⟩ := reify_ok S 60 d0 u px hx r0
        obtain ⟨b1, b2⟩ := reify_all 60 S (fun d v p h r => reify_ok S 60 d v p h r) xs ws ps hps r
        rw [← hK] at a1 b1
        refine mt_indexD hu65 pins s σ H _ _ w us Q I rv rvs ⟨a, u, px.py, PV.pys ps, j, z.py, rfl, rfl, .lst (.inl (.inl q3)) b1, a1, ?_, PV.shaped (by omega), pys_get i1, by rw [PV.eqv_py]; exact i2, fun m z' hm hz => ?_, done S (.int _) q⟩
        · have := PV.shaped (a := .lst ps) (by simp only [PV.dep]; omega)
          simpa only [PV.py] using this
        · obtain ⟨p, g1, rfl⟩ := pys_get' hz
          rw [PV.eqv_py]
          exact i3 m p hm g1
      · cases h
    | _ => simp [bmD] at h
  · cases d <;> simp [bmD] at h
theorem mt_get1E (hP : X.prog = C.prog) (hw : X.w = C.w) (hr : Room k X.A) : MtR X "dict.get" (rBm C .get1) := by
  intro pins s σ H v vs w us Q I rv rvs h
  obtain ⟨α, M, d, ds, z, M', S, rd, rs, h, q⟩ := h
  have hu16 : X.A.units + 16 < cLine := by have := hr.un; omega
  rcases ds with _ | ⟨d0, _ | ⟨d1, ds⟩⟩
  · cases d <;> simp [bmD] at h
  · obtain ⟨u, rfl, r0⟩ := one_arg rs
    cases rd with
    | @ref n a ha =>
      simp only [bmD] at h
      obtain ⟨xs, e1, h⟩ := bm_dic (f := fun kvs => if keyOk kvs d0 = true then some ((dget d0 kvs).getD .non, M) else none) h
      split at h
      · rename_i hk
        cases h
        obtain ⟨a', q0, q1, dc⟩ := S.dic (v := .ref a) e1 (.ref ha)
        cases q1
        cases rv
        obtain ⟨u0, rfl, ru⟩ := rvs.one
        exact dic_get I hP hw hu16 dc hk r0 ru .non rfl fun z w' s' I' rz rw' => ⟨z, H, I', rw', done S rz q⟩
      · cases h
    | _ => simp [bmD] at h
  · cases d <;> simp [bmD] at h
theorem mt_get2E (hP : X.prog = C.prog) (hw : X.w = C.w) (hr : Room k X.A) : MtR X "dict.get" (rBm C .get2) := by
  intro pins s σ H v vs w us Q I rv rvs h
  obtain ⟨α, M, d, ds, z, M', S, rd, rs, h, q⟩ := h
  have hu16 : X.A.units + 16 < cLine := by have := hr.un; omega
  rcases ds with _ | ⟨d0, _ | ⟨d1, _ | ⟨d2, ds⟩⟩⟩
  · cases d <;> simp [bmD] at h
  · cases d <;> simp [bmD] at h
  · obtain ⟨u, u2, rfl, r0, r1⟩ := two_arg rs
    cases rd with
    | @ref n a ha =>
      simp only [bmD] at h
      obtain ⟨xs, e1, h⟩ := bm_dic (f := fun kvs => if keyOk kvs d0 = true then some ((dget d0 kvs).getD d1, M) else none) h
      split at h
      · rename_i hk
        cases h
        obtain ⟨a', q0, q1, dc⟩ := S.dic (v := .ref a) e1 (.ref ha)
        cases q1
        cases rv
        obtain ⟨w0, w1, rfl, ru, ru2⟩ := rvs.two
        exact dic_get2 I hP hw hu16 dc hk r0 ru r1 ru2 fun z w' s' I' rz rw' => ⟨z, H, I', rw', done S rz q⟩
      · cases h
    | _ => simp [bmD] at h
  · cases d <;> simp [bmD] at h
end
end Pw

end
section
set_option maxHeartbeats 1000000
/-! Snd11: the rule of methods of built-in types; tuple(..), list(..). -/
namespace Pw
open PySem PySem.Spec PyProof.Rows L2

section
variable {C : PC} {k : Nat} {S : Sx} {X : Cx} {F : FT} {a b c : Expr} {pos p2 : Pos} {x y z : E}
def bmName : BM → String
  | .append => "append" | .extend => "extend" | .pop => "pop" | .popAt => "pop" | .insert => "insert" | .remove => "remove" | .index => "index" | .get1 => "get" | .get2 => "get" | .split => "split" | .join => "join"
def bmSup : BM → Bool
  | .remove => false | .split => false | .join => false | _ => true
structure BmIs (C : PC) (X : Cx) (m : BM) (T id : String) : Prop where
  pa : PlainAttrs T
  slot : Slot T (Str.ofString (bmName m)) id
  hty : typeOf (.builtin id) = pure (.type "method_descriptor")
  mt : MtR X id (rBm C m)
  rcv : ∀ {pins : List (Addr × Obj)} {s : Shared} {σ : L2.St} {H : Hp} {α : List Addr} {M : Mem} {d : D} {v : V} {u : Value}, Inv X pins σ H s → RS C α M H → RD C.sa α H d v → RelV v u → recvOk M m d = true →
    s.TypeIs u T ∧ ∀ a, u = .ref a → ∃ ob, s.heap.get? a = some ob ∧ ob.dict = none
theorem rcv_list {m : BM} (hm : ∀ M p, recvOk M m (.ref p) = true → ∃ xs, M[p]? = some (.lst xs)) (hr : ∀ M d, recvOk M m d = true → ∃ p, d = .ref p) {pins : List (Addr × Obj)} {s : Shared} {σ : L2.St} {H : Hp} {α : List Addr} {M : Mem} {d : D} {v : V} {u : Value} (I : Inv X pins σ H s) (S : RS C α M H) (rd : RD C.sa α H d v) (ru : RelV v u) (h : recvOk M m d = true) :
    s.TypeIs u "list" ∧ ∀ a, u = .ref a → ∃ ob, s.heap.get? a = some ob ∧ ob.dict = none := by
  obtain ⟨p, rfl⟩ := hr M d h
  obtain ⟨xs, e⟩ := hm M p h
  obtain ⟨a, vs, rfl, _, q3, _⟩ := S.lst e rd
  exact tyV_is I ru (.inl ⟨rfl, vs, .inl (.inl q3)⟩)
theorem rcv_dict (hP : X.prog = C.prog) {m : BM} (hm : ∀ M p, recvOk M m (.ref p) = true → ∃ xs, M[p]? = some (.dic xs)) (hr : ∀ M d, recvOk M m d = true → ∃ p, d = .ref p) {pins : List (Addr × Obj)} {s : Shared} {σ : L2.St} {H : Hp} {α : List Addr} {M : Mem} {d : D} {v : V} {u : Value} (I : Inv X pins σ H s) (S : RS C α M H) (rd : RD C.sa α H d v) (ru : RelV v u) (h : recvOk M m d = true) :
    s.TypeIs u "dict" ∧ ∀ a, u = .ref a → ∃ ob, s.heap.get? a = some ob ∧ ob.dict = none := by
  obtain ⟨p, rfl⟩ := hr M d h
  obtain ⟨xs, e⟩ := hm M p h
  obtain ⟨a, q, rfl, dc⟩ := S.dic e rd
  cases ru
  obtain ⟨o, ho, hx⟩ := (dc.at I hP).exact
  exact ⟨⟨o, ho, hx.1⟩, fun b e2 => by cases e2; exact ⟨o, ho, hx.2.1⟩⟩
theorem recv_list {M : Mem} {m : BM} {p : Nat} (hm : m ≠ .get1 ∧ m ≠ .get2 ∧ m ≠ .split ∧ m ≠ .join) (h : recvOk M m (.ref p) = true) : ∃ xs, M[p]? = some (.lst xs) := by
  cases e : M[p]? with
  | none => cases m <;> simp_all [recvOk]
  | some o => cases o <;> cases m <;> simp_all [recvOk]
theorem recv_ref {M : Mem} {m : BM} {d : D} (hm : m ≠ .split ∧ m ≠ .join) (h : recvOk M m d = true) : ∃ p, d = .ref p := by
  cases d <;> first | exact ⟨_, rfl⟩ | (cases m <;> simp_all [recvOk])
theorem recv_dict {M : Mem} {m : BM} {p : Nat} (hm : m = .get1 ∨ m = .get2) (h : recvOk M m (.ref p) = true) : ∃ xs, M[p]? = some (.dic xs) := by
  cases e : M[p]? with
  | none => rcases hm with rfl | rfl <;> simp_all [recvOk]
  | some o => cases o <;> rcases hm with rfl | rfl <;> simp_all [recvOk]
theorem bm_is (ok : OkX C k S X) (m : BM) (hm : bmSup m = true) : ∃ T id, BmIs C X m T id := by
  cases m with
  | append => exact ⟨"list", _, PySem.F.plainAttrs_list, PySem.F.slot_list_append, PySem.F.type_list_append, mt_appendE, rcv_list (fun M p h => recv_list (by simp) h) fun M d h => recv_ref (by simp) h⟩
  | extend => exact ⟨"list", _, PySem.F.plainAttrs_list, PySem.F.slot_list_extend, PySem.F.type_list_extend, mt_extendE, rcv_list (fun M p h => recv_list (by simp) h) fun M d h => recv_ref (by simp) h⟩
  | pop => exact ⟨"list", _, PySem.F.plainAttrs_list, PySem.F.slot_list_pop, PySem.F.type_list_pop, mt_popE, rcv_list (fun M p h => recv_list (by simp) h) fun M d h => recv_ref (by simp) h⟩
  | popAt => exact ⟨"list", _, PySem.F.plainAttrs_list, PySem.F.slot_list_pop, PySem.F.type_list_pop, mt_popAtE, rcv_list (fun M p h => recv_list (by simp) h) fun M d h => recv_ref (by simp) h⟩
  | insert => exact ⟨"list", _, PySem.F.plainAttrs_list, PySem.F.slot_list_insert, PySem.F.type_list_insert, mt_insertE, rcv_list (fun M p h => recv_list (by simp) h) fun M d h => recv_ref (by simp) h⟩
  | index => exact ⟨"list", _, PySem.F.plainAttrs_list, PySem.F.slot_list_index, PySem.F.type_list_index, mt_indexE ok.room ok.hK, rcv_list (fun M p h => recv_list (by simp) h) fun M d h => recv_ref (by simp) h⟩
  | get1 => exact ⟨"dict", _, PySem.F.plainAttrs_dict, PySem.F.slot_dict_get, PySem.F.type_dict_get, mt_get1E ok.hP ok.hw ok.room, rcv_dict ok.hP (fun M p h => recv_dict (by simp) h) fun M d h => recv_ref (by simp) h⟩
  | get2 => exact ⟨"dict", _, PySem.F.plainAttrs_dict, PySem.F.slot_dict_get, PySem.F.type_dict_get, mt_get2E ok.hP ok.hw ok.room, rcv_dict ok.hP (fun M p h => recv_dict (by simp) h) fun M d h => recv_ref (by simp) h⟩
  | remove => exact absurd hm (by decide)
  | split => exact absurd hm (by decide)
  | join => exact absurd hm (by decide)
theorem le_bm {es : List Expr} {r : E} {apos : Pos} (m : BM) (hm : bmSup m = true) (ok : OkX C k S X) (hn : notSuper a = true) (hs : noStars es = true) (h30 : es.length < 30) (hl : (apos.endLine == pos.line) = true) (ha : LE C X a (evE F x)) (hr : LA C X es (evEs F r)) (hw : rowLen r = some es.length) :
    LE C X (.Call (.Attribute a (Str.ofString (bmName m)) apos) es [] pos) (evE F (.bm m x r)) := by
  obtain ⟨T, id, B⟩ := bm_is ok m hm
  refine ⟨fun pins s σ H Q I h => ?_⟩
  obtain ⟨α, ρ, M, d, M', S, e, h, q⟩ := h
  simp only [evE] at h
  obtain ⟨dx, M1, g1, h⟩ := bnd_some_of h
  split at h
  · rename_i hrc
    obtain ⟨xs, M2, g2, h⟩ := bnd_some_of h
    have hfew : ((backTo pos (starEach es X.env)).all (fun x => !x.1) && (backToKw pos (keywordEach [] X.env)).all (fun x => x.1.isSome) && decide (es.length + ([] : List Keyword).length + (if ([] : List Keyword).isEmpty then 0 else 1) < 30)) = true := by
      rw [plainAll hs]
      show (true && true && decide (es.length + 0 + 0 < 30)) = true
      simp [h30]
    refine wpAny_Call_method_late (attrBase hn _ _ _) hfew hl rfl (thn (ha.run pins s σ H (fun v H1 => ∃ α1, Step α α1 H H1 ∧ RS C α1 M1 H1 ∧ RD C.sa α1 H1 dx v) I ⟨α, ρ, M, dx, M1, S, e, g1, fun α1 v H1 t1 s1 r1 => ⟨α1, t1, s1, r1⟩⟩) fun v s1 ⟨xv, H1, I1, rv, α1, t1, S1, r1⟩ => ?_)
    obtain ⟨h1, h2⟩ := B.rcv I1 S1 r1 rv hrc
    refine ⟨T, id, B.pa, B.slot, B.hty, h1, h2, ?_⟩
    have fin : ∀ {us : List Value} {vs : List V} {s3 : Shared} {H3 : Hp} {α3 : List Addr}, Step α1 α3 H1 H3 → RS C α3 M2 H3 → RDs C.sa α3 H3 xs vs → Inv X pins σ H3 s3 → Vals vs us → wpAny (model X.prog X.w) X.A (call (.builtin id) (v :: us)) (EP X pins σ Q) X.xe s3 := by
      intro us vs s3 H3 α3 t3 S3 r3 I3 rvs
      exact B.mt pins s3 σ H3 xv vs v us Q I3 rv rvs ⟨α3, M2, dx, xs, d, M', S3, r1.mono S1 t3, r3, h, fun α4 v4 H4 t4 => q α4 v4 H4 ((t1.trans t3).trans t4)⟩
    cases es with
    | nil =>
      have hr0 : r = .nil := by
        cases r <;> first | rfl | (simp [rowLen] at hw; done)
      subst hr0
      simp only [evEs] at g2
      cases g2
      exact Calls.callWith_builtin rfl (PySem.evalArgs_none (fin (us := []) (vs := []) (Step.refl _ _) S1 .nil I1 .nil))
    | cons e0 es =>
      have hs' := hs
      simp only [noStars, Bool.and_eq_true] at hs'
      have hst := star_cons hs'.1 es X.env
      have hA := hr.run pos pins s1 σ H1 (fun vs H3 => ∃ α3, Step α1 α3 H1 H3 ∧ RS C α3 M2 H3 ∧ RDs C.sa α3 H3 xs vs) I1 ⟨α1, ρ, M1, xs, M2, S1, e.mono S t1, g2, fun α3 v3 H3 t3 s3 r3 => ⟨α3, t3, s3, r3⟩⟩
      rw [hst] at hA ⊢
      refine Calls.callWith_builtin (by show (false || (backTo pos (starEach es X.env)).any (·.1)) = false; rw [starPlain hs'.2]; rfl) (Calls.evalArgs_plain ?_)
      exact thn hA fun us s2 ⟨vs, H2, I2, r2, α3, t3, S3, r3⟩ => fin t3 S3 r3 I2 r2
  · cases h

/-! ### tuple(x), list(x) of a list or tuple -/
theorem items_seq {α : List Addr} {M : Mem} {H : Hp} (s : RS C α M H) {d : D} {v : V} {it : Items} (r : RD C.sa α H d v) (h : itemsD M d = some it) :
    (∃ a vs, v = .ref a ∧ H a = some (.tup vs) ∧ RDs C.sa α H it.1 vs ∧ it.2 = [] ∧ d = .tup it.1) ∨
    (∃ n a vs, d = .ref n ∧ v = .ref a ∧ α[n]? = some a ∧ M[n]? = some (.lst it.1) ∧ H a = some (.lst vs) ∧ RDs C.sa α H it.1 vs ∧ it.2 = [(n, .lst it.1)]) := by
  cases r with
  | tup ha rs => cases h; exact .inl ⟨_, _, rfl, ha, rs, rfl, rfl⟩
  | @ref n a ha =>
    simp only [itemsD] at h
    cases e : M[n]? with
    | none => rw [e] at h; cases h
    | some o =>
      rw [e] at h
      cases o with
      | lst xs =>
        cases h
        obtain ⟨a', vs, q1, q2, q3, rs⟩ := s.lst (v := .ref a) e (.ref ha)
        cases q1
        exact .inr ⟨n, a, vs, rfl, rfl, ha, e, q3, rs, rfl⟩
      | _ => cases h
  | _ => simp [itemsD] at h
theorem le_tupOf (ok : OkX C k S X) (hg : BuOk C X (Str.ofString "tuple")) (hs : notStar a = true) (ha : LE C X a (evE F x)) :
    LE C X (.Call (.Name (Str.ofString "tuple") p2) [a] [] pos) (evE F (.coll .tuple (.cons x .nil))) := by
  have hm := hg.mg
  rw [← ok.hmg] at hm
  refine PE.imp (pe_tupleOf hg.gl hm ha (star_cons hs [] _)) ?_
  rintro σ H Q ⟨α, ρ, M, d, M', s, e, h, q⟩
  simp only [evE, evIt] at h
  obtain ⟨it, M1, g1, h⟩ := bnd_some_of h
  obtain ⟨dx, M2, g2, g1⟩ := bnd_some_of g1
  obtain ⟨it', hit, e2⟩ := Option.map_eq_some_iff.mp g1
  cases e2
  cases h
  refine ⟨α, ρ, M, dx, _, s, e, g2, fun α1 v1 H1 t1 s1 r1 => ?_⟩
  rcases items_seq s1 r1 hit with ⟨a', vs, rfl, h1, h2, h3, _⟩ | ⟨n, a', vs, rfl, rfl, h0, h1, h2, h3, h4⟩
  · exact .inr ⟨a', vs, rfl, .inl (.inl h1), q _ _ _ t1 s1 (.tup h1 h2)⟩
  · exact .inl ⟨a', vs, rfl, .inl (.inl h2), fun p hp => done_tup s1 h3 hp fun α' v H' t => q α' v H' (t1.trans t)⟩
end
end Pw

end
section
set_option maxHeartbeats 1000000
/-! Snd12: targets, iterables. -/
namespace Pw
open PySem PySem.Spec PyProof.Rows L2

section
variable {C : PC} {X : Cx} {α : List Addr} {M : Mem} {H : Hp} {σ : L2.St} {ρ : VEnv}
theorem RE.set {sa : Addr} (r : RE sa α H ρ σ) {d : D} {v : V} (h : RD sa α H d v) (i : Nat) : RE sa α H (ρ.set i (some d)) (σ.set i (some v)) := by
  refine ⟨by simp [r.len], fun j e hj => ?_⟩
  by_cases hij : i = j
  · subst hij
    have hl : i < ρ.length := by
      have := (List.getElem?_eq_some_iff.mp hj).1
      simpa using this
    rw [List.getElem?_set_self hl] at hj
    cases hj
    exact ⟨v, by rw [List.getElem?_set_self (by rw [← r.len]; exact hl)], h⟩
  · rw [List.getElem?_set_ne hij] at hj
    obtain ⟨w, h1, h2⟩ := r.at_ j e hj
    exact ⟨w, by rw [List.getElem?_set_ne hij]; exact h1, h2⟩
theorem RE.none {sa : Addr} (r : RE sa α H ρ σ) (i : Nat) : RE sa α H (ρ.set i none) (σ.set i none) := by
  refine ⟨by simp [r.len], fun j e hj => ?_⟩
  by_cases hij : i = j
  · subst hij
    have hl : i < ρ.length := by
      have := (List.getElem?_eq_some_iff.mp hj).1
      simpa using this
    rw [List.getElem?_set_self hl] at hj
    cases hj
  · rw [List.getElem?_set_ne hij] at hj
    obtain ⟨w, h1, h2⟩ := r.at_ j e hj
    exact ⟨w, by rw [List.getElem?_set_ne hij]; exact h1, h2⟩
theorem RE.wipe {sa : Addr} (r : RE sa α H ρ σ) : ∀ vs : List Nat, RE sa α H (wipeE ρ vs) (wipe σ vs)
  | [] => r
  | v :: vs => (RE.wipe r vs).none v
theorem wipe_set {σ : L2.St} {o : Option V} : ∀ {vs : List Nat} {i : Nat}, i ∈ vs → wipe (σ.set i o) vs = wipe σ vs
  | v :: vs, i, h => by
    unfold wipe
    by_cases hv : i = v
    · subst hv
      apply List.ext_getElem?
      intro j
      by_cases hj : i = j
      · subst hj
        rw [List.getElem?_set_self', List.getElem?_set_self']
        by_cases hl : i < σ.length
        · rw [List.getElem?_eq_getElem (by rw [wipe_length, List.length_set]; exact hl), List.getElem?_eq_getElem (by rw [wipe_length]; exact hl)]
          rfl
        · rw [List.getElem?_eq_none (by rw [wipe_length, List.length_set]; omega), List.getElem?_eq_none (by rw [wipe_length]; omega)]
      · rw [List.getElem?_set_ne hj, List.getElem?_set_ne hj]
        exact wipe_get_ne hj vs
    · have : i ∈ vs := by
        rcases List.mem_cons.mp h with h | h
        · exact absurd h hv
        · exact h
      rw [wipe_set this]
where
  wipe_get_ne {i j : Nat} (hj : ¬ i = j) : ∀ vs : List Nat, (wipe (σ.set i o) vs)[j]? = (wipe σ vs)[j]?
    | [] => by unfold wipe; rw [List.getElem?_set_ne hj]
    | v :: vs => by
      unfold wipe
      by_cases hv : v = j
      · subst hv
        rw [List.getElem?_set_self', List.getElem?_set_self', wipe_get_ne hj vs]
      · rw [List.getElem?_set_ne hv, List.getElem?_set_ne hv]
        exact wipe_get_ne hj vs
def patVars : Pat → List Nat
  | .name i => [i]
  | .tup is => is
/-- a name that may be stored -/
def Sto (X : Cx) (i : Nat) (x : Str) : Prop := X.N[i]? = some x ∧ Loc X.env.scope x ∧ (X.fn x = true ∨ X.env.scope.names.lookup x = some .local)
def gNames : List Nat → TGs
  | [] => gNil
  | i :: is => gCons (gName i) (gNames is)
inductive Stos (X : Cx) : List Nat → List Expr → Prop where
  | nil : Stos X [] []
  | cons {i : Nat} {is : List Nat} {x : Str} {p : Pos} {es : List Expr} : Sto X i x → Stos X is es → Stos X (i :: is) (.Name x p :: es)
theorem pgs_names (hN : X.N.Nodup) : ∀ {is : List Nat} {es : List Expr}, Stos X is es → PGs X es (gNames is) ∧ (assignEach es X.env).length = is.length ∧ (assignEach es X.env).findIdx? (·.1) = none
  | _, _, .nil => ⟨pgs_nil, rfl, rfl⟩
  | _, _, .cons (i := i) (is := is) (x := x) (p := p) (es := es) hs r => by
    obtain ⟨h1, h2, h3⟩ := pgs_names hN r
    refine ⟨pgs_cons (pg_name hN hs.1 hs.2.1 hs.2.2) h1, ?_, ?_⟩
    · show (_ :: assignEach es X.env).length = _
      simp [h2]
    · show ((false, assign (.Name x p) X.env) :: assignEach es X.env).findIdx? (·.1) = none
      rw [List.findIdx?_cons, h3]
      rfl
theorem names_ok {sa : Addr} : ∀ {is : List Nat} {ds : List D} {vs : List V} {ρ : VEnv} {σ : L2.St} {k : L2.St → Hp → Prop}, is.length = ds.length → RDs sa α H ds vs → RE sa α H ρ σ →
    (∀ σ1, RE sa α H ((is.zip ds).foldl (fun ρ p => ρ.set p.1 (some p.2)) ρ) σ1 → (∀ ws, (∀ i ∈ is, i ∈ ws) → wipe σ1 ws = wipe σ ws) → k σ1 H) → gNames is vs σ H k
  | [], [], _, ρ, σ, k, _, .nil, re, hk => ⟨rfl, hk σ re fun _ _ => rfl⟩
  | i :: is, d :: ds, _, ρ, σ, k, hl, .cons h r, re, hk => by
    refine ⟨_, _, rfl, ?_⟩
    refine names_ok (is := is) (by simpa using hl) r (re.set h i) fun σ1 r1 h1 => ?_
    refine hk σ1 r1 fun ws hw => ?_
    rw [h1 ws fun j hj => hw j (List.mem_cons_of_mem _ hj), wipe_set (hw i List.mem_cons_self)]
/-- what a target stores -/
def gOf (C : PC) : Pat → TG
  | .name i => gName i
  | .tup is => gTup C.K is.length (gNames is)
theorem pat_ok : ∀ (p : Pat) (d : D) (v : V) (ρ ρ1 : VEnv) (σ : L2.St) (k : L2.St → Hp → Prop), RS C α M H → RD C.sa α H d v → RE C.sa α H ρ σ → bindPat p d ρ = some ρ1 →
    (∀ σ1, RE C.sa α H ρ1 σ1 → (∀ vs, (∀ i ∈ patVars p, i ∈ vs) → wipe σ1 vs = wipe σ vs) → k σ1 H) → gOf C p v σ H k
  | .name i, d, v, ρ, ρ1, σ, k, S, rd, re, h, hk => by
    cases h
    exact hk _ (re.set rd i) fun vs hv => wipe_set (hv i (by simp [patVars]))
  | .tup is, d, v, ρ, ρ1, σ, k, S, rd, re, h, hk => by
    cases rd with
    | @tup a ds vs ha rs =>
      simp only [bindPat] at h
      split at h
      · rename_i hl
        cases h
        exact ⟨a, vs, rfl, .inl (.inl ha), by rw [← rs.length]; exact hl.symm, names_ok hl rs re hk⟩
      · cases h
    | _ => simp [bindPat] at h
theorem pg_nameP {i : Nat} {x : Str} {pos : Pos} (hN : X.N.Nodup) (hs : Sto X i x) : PG X (.Name x pos) (gOf C (.name i)) := pg_name hN hs.1 hs.2.1 hs.2.2
theorem pg_tupP {is : List Nat} {es : List Expr} {kk : Nat} {pos : Pos} (hN : X.N.Nodup) (hc : X.calm = true) (hK : X.K = C.K) (hs : Stos X is es) : PG X (.Tuple es kk pos) (gOf C (.tup is)) := by
  obtain ⟨h1, h2, h3⟩ := pgs_names hN hs
  have := pg_tup (pos := pos) (k := kk) hc h1 h2 h3
  rw [hK] at this
  exact this

/-! ### iterables -/
/-- the iterator J gives the items -/
def JOk (C : PC) (J : It) (α1 : List Addr) (H1 : Hp) (it : Items) : Prop := ∀ (i : Nat) (α2 : List Addr) (M2 : Mem) (H2 : Hp), Step α1 α2 H1 H2 → RS C α2 M2 H2 → still it.2 M2 = true →
  (∀ d, it.1[i]? = some d → J.go i H2 ∧ ∀ x H3, J.yld i H2 x H3 → Step α2 α2 H2 H3 ∧ RS C α2 M2 H3 ∧ RD C.sa α2 H3 d x) ∧ (it.1.length ≤ i → J.stop i H2)
structure LI (C : PC) (X : Cx) (F : FT) (tg iter : Expr) (x : E) : Prop where
  ok : ∃ wi, PI X tg iter wi ∧ ∀ σ H R, (∃ α ρ M its M', RS C α M H ∧ RE C.sa α H ρ σ ∧ evIt F x ρ M = some (its, M') ∧ ∀ α' H' J, Step α α' H H' → RS C α' M' H' → JOk C J α' H' its → R J H') → wi σ H R
theorem iter_list {tg : Expr} {pins : List (Addr × Obj)} {s : Shared} {a : Addr} {xs : List V} {R : It → Hp → Prop} (I : Inv X pins σ H s) (h : SqL X.K H a xs) (q : R (Itl X.K a) H) : wpAny (model X.prog X.w) X.A (pyIter (.ref a)) (PIE X pins σ tg R) X.xe s := by
  obtain ⟨its, rv, pl, _⟩ := I.list h
  exact wpAny_pyIter_list pl.isList (pi_one (tk := s.toks) I _ (turn_list a _) ⟨_, Heap.get?_push_size _ rfl, rfl, rfl⟩ q)
theorem iter_tup {tg : Expr} {pins : List (Addr × Obj)} {s : Shared} {a : Addr} {xs : List V} {R : It → Hp → Prop} (I : Inv X pins σ H s) (h : SqT X.K H a xs) (q : R (Itt X.K a) H) : wpAny (model X.prog X.w) X.A (pyIter (.ref a)) (PIE X pins σ tg R) X.xe s := by
  obtain ⟨its, rv, pl, _⟩ := I.tuple h
  exact wpAny_pyIter_tuple (show s.heap.IsTuple a its.toArray from pl) (pi_one (tk := s.toks) I _ (turn_tuple a _) ⟨_, Heap.get?_push_size _ rfl, rfl, rfl⟩ q)
/-- over a list or a tuple -/
def iSq (K : PySem.W.Frag) (t : TE) : TI := fun σ H R => t σ H fun x H1 => ∃ a, x = .ref a ∧ (((∃ xs, SqL K H1 a xs) ∧ R (Itl K a) H1) ∨ ((∃ xs, SqT K H1 a xs) ∧ R (Itt K a) H1))
theorem pi_sq {tg e : Expr} {t : TE} (h : PE X e t) : PI X tg e (iSq X.K t) := by
  refine ⟨fun pins s σ H R I hw => thn (h.run pins s σ H _ I hw) fun v s1 ⟨x, H1, I1, r1, a, ex, q⟩ => ?_⟩
  subst ex
  cases r1
  rcases q with ⟨⟨xs, hx⟩, q⟩ | ⟨⟨xs, hx⟩, q⟩
  · exact iter_list I1 hx q
  · exact iter_tup I1 hx q
theorem still_one {p : Nat} {o : MO} {M : Mem} (h : still [(p, o)] M = true) : M[p]? = some o := by simpa [still] using h
theorem jok_list {n : Nat} {a : Addr} {xs : List D} (S : RS C α M H) (hn : α[n]? = some a) : JOk C (Itl C.K a) α H (xs, [(n, .lst xs)]) := by
  intro i α2 M2 H2 t S2 st
  have e := still_one st
  obtain ⟨a', vs, q1, q2, q3, rs⟩ := S2.lst (v := .ref a) e (.ref (t.get hn))
  cases q1
  refine ⟨fun d hd => ?_, fun hl => ⟨vs, .inl (.inl q3), by rw [← rs.length]; exact hl⟩⟩
  obtain ⟨v, h1, h2⟩ := rs.get hd
  refine ⟨⟨vs, v, .inl (.inl q3), h1⟩, fun x H3 y => ?_⟩
  obtain ⟨rfl, y⟩ := y
  have e2 := y vs (.inl (.inl q3))
  rw [h1] at e2
  cases e2
  exact ⟨Step.refl _ _, S2, h2⟩
theorem jok_tup {a : Addr} {xs : List D} {vs : List V} (S : RS C α M H) (ha : H a = some (.tup vs)) (rs : RDs C.sa α H xs vs) : JOk C (Itt C.K a) α H (xs, []) := by
  intro i α2 M2 H2 t S2 st
  have ha2 := S.tup_keep t ha
  refine ⟨fun d hd => ?_, fun hl => ⟨vs, .inl (.inl ha2), by rw [← rs.length]; exact hl⟩⟩
  obtain ⟨v, h1, h2⟩ := rs.get hd
  refine ⟨⟨vs, v, .inl (.inl ha2), h1⟩, fun x H3 y => ?_⟩
  obtain ⟨rfl, y⟩ := y
  have e2 := y vs (.inl (.inl ha2))
  rw [h1] at e2
  cases e2
  exact ⟨Step.refl _ _, S2, h2.mono S t⟩
/-- an iterable by its value: no dict -/
theorem li_seq {F : FT} {tg e : Expr} {x : E} (hK : X.K = C.K) (h : LE C X e (evE F x)) : LI C X F tg e (.cons x .nil) := by
  refine ⟨_, pi_sq h, ?_⟩
  rintro σ H R ⟨α, ρ, M, its, M', s, e, h, q⟩
  simp only [evIt] at h
  obtain ⟨dx, M1, g1, h⟩ := bnd_some_of h
  obtain ⟨it, hit, e2⟩ := Option.map_eq_some_iff.mp h
  cases e2
  refine ⟨α, ρ, M, dx, M', s, e, g1, fun α1 v1 H1 t1 s1 r1 => ?_⟩
  rw [hK]
  rcases items_seq s1 r1 hit with ⟨a', vs, rfl, h1, h2, h3, _⟩ | ⟨n, a', vs, rfl, rfl, h0, h1, h2, h3, h4⟩
  · refine ⟨a', rfl, .inr ⟨⟨vs, .inl (.inl h1)⟩, q α1 H1 _ t1 s1 ?_⟩⟩
    have := jok_tup s1 h1 h2
    rw [← h3] at this
    exact this
  · refine ⟨a', rfl, .inl ⟨⟨vs, .inl (.inl h2)⟩, q α1 H1 _ t1 s1 ?_⟩⟩
    have := jok_list (xs := its.1) s1 h0
    rw [← h4] at this
    exact this
/-! ### ranges -/
theorem rangeL_case {lo hi st : Int} {l : List D} (h : rangeL lo hi st = some l) : -(2 ^ 61) < lo ∧ lo < 2 ^ 61 ∧ -(2 ^ 61) < hi ∧ hi < 2 ^ 61 ∧
    ((st = 1 ∧ l = (List.range (hi - lo).toNat).map fun k : Nat => .int (lo + (k : Int))) ∨ (st = -1 ∧ l = (List.range (lo - hi).toNat).map fun k : Nat => .int (lo - (k : Int)))) := by
  unfold rangeL at h
  split at h
  · rename_i hb
    refine ⟨hb.1, hb.2.1, hb.2.2.1, hb.2.2.2, ?_⟩
    split at h
    · rename_i e; cases h; exact .inl ⟨e, rfl⟩
    · split at h
      · rename_i e; cases h; exact .inr ⟨e, rfl⟩
      · cases h
  · cases h
theorem jok_range {lo : Int} {n : Nat} : JOk C (Itr lo n) α H ((List.range n).map fun k : Nat => .int (lo + (k : Int)), []) := by
  intro i α2 M2 H2 t S2 st
  refine ⟨fun d hd => ?_, fun hl => (show n ≤ i by simpa using hl)⟩
  rw [List.getElem?_map] at hd
  obtain ⟨k, hk, e⟩ := Option.map_eq_some_iff.mp hd
  subst e
  have hk2 := List.getElem?_eq_some_iff.mp hk
  obtain ⟨h1, h2⟩ := hk2
  rw [List.getElem_range] at h2
  subst h2
  refine ⟨(show i < n by simpa using h1), fun x H3 y => ?_⟩
  obtain ⟨rfl, rfl⟩ := y
  exact ⟨Step.refl _ _, S2, .int _⟩
theorem jok_down {lo : Int} {n : Nat} : JOk C (Itc lo (-1) n) α H ((List.range n).map fun k : Nat => .int (lo - (k : Int)), []) := by
  intro i α2 M2 H2 t S2 st
  refine ⟨fun d hd => ?_, fun hl => (show n ≤ i by simpa using hl)⟩
  rw [List.getElem?_map] at hd
  obtain ⟨k, hk, e⟩ := Option.map_eq_some_iff.mp hd
  subst e
  have hk2 := List.getElem?_eq_some_iff.mp hk
  obtain ⟨h1, h2⟩ := hk2
  rw [List.getElem_range] at h2
  subst h2
  refine ⟨(show i < n by simpa using h1), fun x H3 y => ?_⟩
  obtain ⟨rfl, rfl⟩ := y
  refine ⟨Step.refl _ _, S2, ?_⟩
  have : lo + ((i : Nat) : Int) * (-1) = lo - (i : Int) := by omega
  rw [this]
  exact .int _
theorem JOk.conv {lo : Int} {n : Nat} {it : Items} (h : JOk C (Itr lo n) α H it) : JOk C (Itc lo 1 n) α H it := by
  intro i α2 M2 H2 t S2 st
  obtain ⟨h1, h2⟩ := h i α2 M2 H2 t S2 st
  refine ⟨fun d hd => ⟨(h1 d hd).1, fun x H3 y => (h1 d hd).2 x H3 ⟨y.1, ?_⟩⟩, h2⟩
  have e := y.2
  rw [Int.mul_one] at e
  exact e
theorem three_arg {sa : Addr} {d e f : D} {vs : List V} (r : RDs sa α H [d, e, f] vs) : ∃ v u w, vs = [v, u, w] ∧ RD sa α H d v ∧ RD sa α H e u ∧ RD sa α H f w := by
  cases r with
  | cons r1 r2 => obtain ⟨u, w, rfl, r3, r4⟩ := two_arg r2; exact ⟨_, _, _, rfl, r1, r3, r4⟩
theorem rangeD_case {ds l : List D} (h : rangeD ds = some l) : (∃ a, ds = [.int a] ∧ rangeL 0 a 1 = some l) ∨ (∃ a b, ds = [.int a, .int b] ∧ rangeL a b 1 = some l) ∨ (∃ a b c, ds = [.int a, .int b, .int c] ∧ rangeL a b c = some l) := by
  unfold rangeD at h
  split at h
  · exact .inl ⟨_, rfl, h⟩
  · exact .inr (.inl ⟨_, _, rfl, h⟩)
  · exact .inr (.inr ⟨_, _, _, rfl, h⟩)
  · cases h
theorem li_range {k : Nat} {S : Sx} {F : FT} {tg : Expr} {es : List Expr} {r : E} {p pos : Pos} (ok : OkX C k S X) (hg : BuOk C X (Str.ofString "range")) (hs : noStars es = true) (hr : LA C X es (evEs F r)) (hw : rowLen r = some es.length) (hl : es.length = 1 ∨ es.length = 2 ∨ es.length = 3) :
    LI C X F tg (.Call (.Name (Str.ofString "range") p) es [] pos) (.range r) := by
  have hm := hg.mg
  rw [← ok.hmg] at hm
  have open' : ∀ {ρ M its M'}, evIt F (.range r) ρ M = some (its, M') → ∃ ds, evEs F r ρ M = some (ds, M') ∧ ds.length = es.length ∧ ∃ l, rangeD ds = some l ∧ its = (l, []) := by
    intro ρ M its M' h
    simp only [evIt] at h
    obtain ⟨ds, M1, g1, h⟩ := bnd_some_of h
    obtain ⟨l, hl, e⟩ := Option.map_eq_some_iff.mp h
    cases e
    exact ⟨ds, g1, rowLen_ev hw g1, l, hl, rfl⟩
  rcases hl with hl | hl | hl
  · match es, hl with
    | [a], _ =>
      simp only [noStars, Bool.and_eq_true] at hs
      refine ⟨_, pi_range1 hg.gl hm hr (star_cons hs.1 [] _), ?_⟩
      rintro σ H R ⟨α, ρ, M, its, M', s, e, h, q⟩
      obtain ⟨ds, g1, g2, l, g3, rfl⟩ := open' h
      refine ⟨α, ρ, M, ds, M', s, e, g1, fun α1 v1 H1 t1 s1 r1 => ?_⟩
      rcases rangeD_case g3 with ⟨i, rfl, g4⟩ | ⟨i, j, rfl, g4⟩ | ⟨i, j, c, rfl, g4⟩ <;> try (simp at g2; done)
      obtain ⟨v, rfl, rv⟩ := one_arg r1
      cases rv
      obtain ⟨b1, b2, b3, b4, ⟨_, rfl⟩ | ⟨b5, _⟩⟩ := rangeL_case g4
      · refine ⟨i, rfl, by omega, by omega, q α1 H1 _ t1 s1 ?_⟩
        have := jok_range (C := C) (α := α1) (H := H1) (lo := 0) (n := (i - 0).toNat)
        rw [show i - 0 = i by omega] at this ⊢
        exact this
      · exact absurd b5 (by decide)
  · match es, hl with
    | [a, b], _ =>
      simp only [noStars, Bool.and_eq_true] at hs
      refine ⟨_, pi_range2 hg.gl hm hr (by rw [star_cons hs.1, star_cons hs.2.1]; rfl) (by rw [star_cons hs.2.1]; rfl), ?_⟩
      rintro σ H R ⟨α, ρ, M, its, M', s, e, h, q⟩
      obtain ⟨ds, g1, g2, l, g3, rfl⟩ := open' h
      refine ⟨α, ρ, M, ds, M', s, e, g1, fun α1 v1 H1 t1 s1 r1 => ?_⟩
      rcases rangeD_case g3 with ⟨i, rfl, g4⟩ | ⟨i, j, rfl, g4⟩ | ⟨i, j, c, rfl, g4⟩ <;> try (simp at g2; done)
      obtain ⟨v, u, rfl, rv, ru⟩ := two_arg r1
      cases rv; cases ru
      obtain ⟨b1, b2, b3, b4, ⟨_, rfl⟩ | ⟨b5, _⟩⟩ := rangeL_case g4
      · exact ⟨i, j, rfl, ⟨by omega, by omega, by omega, by omega⟩, q α1 H1 _ t1 s1 jok_range⟩
      · exact absurd b5 (by decide)
  · match es, hl with
    | [a, b, c], _ =>
      simp only [noStars, Bool.and_eq_true] at hs
      refine ⟨_, pi_range3 hg.gl hm hr (star_cons hs.1 _ _) (starPlain (by simp only [noStars, Bool.and_eq_true]; exact hs.2)), ?_⟩
      rintro σ H R ⟨α, ρ, M, its, M', s, e, h, q⟩
      obtain ⟨ds, g1, g2, l, g3, rfl⟩ := open' h
      refine ⟨α, ρ, M, ds, M', s, e, g1, fun α1 v1 H1 t1 s1 r1 => ?_⟩
      rcases rangeD_case g3 with ⟨i, rfl, g4⟩ | ⟨i, j, rfl, g4⟩ | ⟨i, j, c, rfl, g4⟩ <;> try (simp at g2; done)
      obtain ⟨v, u, w, rfl, rv, ru, rw'⟩ := three_arg r1
      cases rv; cases ru; cases rw'
      obtain ⟨b1, b2, b3, b4, ⟨rfl, rfl⟩ | ⟨rfl, rfl⟩⟩ := rangeL_case g4
      · refine ⟨i, j, 1, (j - i).toNat, rfl, ⟨by decide, by decide, small_one (by omega) (by omega) (by omega) (by omega), rangeSize_nat i j⟩, q α1 H1 _ t1 s1 ?_⟩
        have := jok_range (C := C) (α := α1) (H := H1) (lo := i) (n := (j - i).toNat)
        exact this.conv
      · exact ⟨i, j, -1, (i - j).toNat, rfl, RgC.neg (by omega) (by omega) (by omega) (by omega), q α1 H1 _ t1 s1 jok_down⟩
end
end Pw

end
section
set_option maxHeartbeats 1000000
/-! Snd13: list comprehensions. -/
namespace Pw
open PySem PySem.Spec PyProof.Rows L2

section
variable {C : PC} {X : Cx} {α α' : List Addr} {M : Mem} {H H' : Hp} {σ : L2.St} {ρ : VEnv} {D : Addr}
theorem Step.out (t : Step α α' H H') {o : HO} (h : H D = some o) (hn : D ∉ α) : D ∉ α' ∧ H' D = some o := by
  refine ⟨fun hm => ?_, t.frame D o h hn⟩
  rcases t.new D hm with z | z
  · exact hn z
  · rw [h] at z; cases z
theorem Step.before (t : Step α α' H H') (s : RS C α M H) (h : H' D = none) {M' : Mem} (s' : RS C α' M' H') : H D = none := by
  cases e : H D with
  | none => rfl
  | some o =>
    by_cases hm : D ∈ α
    · have : D ∈ α' := by obtain ⟨r, rfl⟩ := t.pre; exact List.mem_append_left _ hm
      obtain ⟨_, _, _, _, _, z, _⟩ := s'.at this
      rw [h] at z; cases z
    · rw [t.frame D o e hm] at h; cases h
theorem Step.poke (t : Step α α' H H') (h : H D = none) (o : HO) : Step α α' H (upd H' D o) :=
  ⟨t.pre, t.new, fun a x e hn => by rw [upd_ne (ne_of_none e h)]; exact t.frame a x e hn⟩
theorem Step.adopt (t : Step α α' H H') (h : H D = none) : Step α (α' ++ [D]) H H' := by
  refine ⟨?_, fun a ha => ?_, t.frame⟩
  · obtain ⟨r, rfl⟩ := t.pre
    exact ⟨r ++ [D], by simp⟩
  · rcases List.mem_append.mp ha with ha | ha
    · exact t.new a ha
    · rw [List.mem_singleton.mp ha]; exact .inr h
/-- no tuple stands at D -/
def NoTup (H : Hp) (D : Addr) : Prop := ∀ vs, H D ≠ some (.tup vs)
mutual
theorem RD.poke (hD : NoTup H D) (o : HO) : ∀ {d : Pw.D} {v : V}, RD C.sa α H d v → RD C.sa α (upd H D o) d v
  | _, _, .non => .non
  | _, _, .bl b => .bl b
  | _, _, .int i => .int i
  | _, _, .str h => .str h
  | _, _, .tup h r => .tup (by rw [upd_ne (fun e => hD _ (e ▸ h))]; exact h) (RDs.poke hD o r)
  | _, _, .ref h => .ref h
  | _, _, .scr => .scr
theorem RDs.poke (hD : NoTup H D) (o : HO) : ∀ {d : List Pw.D} {v : List V}, RDs C.sa α H d v → RDs C.sa α (upd H D o) d v
  | _, _, .nil => .nil
  | _, _, .cons h r => .cons (RD.poke hD o h) (RDs.poke hD o r)
end
theorem RF.poke (hD : NoTup H D) (o : HO) : ∀ {fs : List (String × Pw.D)} {vs : List (Str × V)}, RF C.sa α H fs vs → RF C.sa α (upd H D o) fs vs
  | _, _, .nil => .nil
  | _, _, .cons h r => .cons (h.poke hD o) (RF.poke hD o r)
theorem RK.poke (hD : NoTup H D) (o : HO) : ∀ {fs : List (Pw.D × Pw.D)} {vs : List (Pw.D × V × V)}, RK C.sa α H fs vs → RK C.sa α (upd H D o) fs vs
  | _, _, .nil => .nil
  | _, _, .cons h h2 r => .cons (h.poke hD o) (h2.poke hD o) (RK.poke hD o r)
theorem RO.poke (hD : NoTup H D) (o : HO) {a : Addr} {m : MO} {ho : HO} (r : RO C α H a m ho) : RO C α (upd H D o) a m ho := by
  cases r with
  | lst h => exact .lst (h.poke hD o)
  | dic h1 h2 h3 h4 h5 => exact .dic (h1.poke hD o) h2 h3 h4 h5
  | ins h1 h2 => exact .ins h1 (h2.poke hD o)
/-- the script does not stand at D, or it is the module's -/
def ScD (C : PC) (D : Addr) : Prop := D ≠ C.sa ∨ ∃ (o : Obj) (its : Array Value) (n : Nat), C.K.lookup C.sa = some o ∧ o.cls = .type "list" ∧ o.dict = none ∧ o.data = .seq its n ∧ its.size ≤ sizeLine ∧ Vals (C.P.script.map V.int) its.toList
theorem RS.scD (s : RS C α M H) (h : H D = none) : ScD C D := by
  rcases s.sc with ⟨r | ⟨o, r⟩, _⟩ | r
  · exact .inl fun e => by rw [e, r] at h; cases h
  · exact .inl fun e => by rw [e, r] at h; cases h
  · exact .inr r
theorem RS.poke (s : RS C α M H) (hD : NoTup H D) (hn : D ∉ α) (hs : ScD C D) (o : HO) : RS C α M (upd H D o) := by
  refine ⟨s.len, s.nd, fun n m e => ?_, ?_⟩
  · obtain ⟨a, ho, h1, h2, r⟩ := s.ob n m e
    have : a ≠ D := fun z => hn (z ▸ List.mem_of_getElem? h1)
    exact ⟨a, ho, h1, by rw [upd_ne this]; exact h2, r.poke hD o⟩
  · rcases s.sc with ⟨r, hr⟩ | r
    · rcases hs with hs | hs
      · refine .inl ⟨?_, hr⟩
        rcases r with r | ⟨o', r⟩
        · exact .inl (by rw [upd_ne (Ne.symm hs)]; exact r)
        · exact .inr ⟨o', by rw [upd_ne (Ne.symm hs)]; exact r⟩
      · exact .inr hs
    · exact .inr r
mutual
theorem RD.wide : ∀ {d : Pw.D} {v : V}, RD C.sa α H d v → RD C.sa (α ++ [D]) H d v
  | _, _, .non => .non
  | _, _, .bl b => .bl b
  | _, _, .int i => .int i
  | _, _, .str h => .str h
  | _, _, .tup h r => .tup h (RDs.wide r)
  | _, _, .ref h => .ref (by rw [List.getElem?_append_left (List.getElem?_eq_some_iff.mp h).1]; exact h)
  | _, _, .scr => .scr
theorem RDs.wide : ∀ {d : List Pw.D} {v : List V}, RDs C.sa α H d v → RDs C.sa (α ++ [D]) H d v
  | _, _, .nil => .nil
  | _, _, .cons h r => .cons (RD.wide h) (RDs.wide r)
end
theorem RF.wide : ∀ {fs : List (String × Pw.D)} {vs : List (Str × V)}, RF C.sa α H fs vs → RF C.sa (α ++ [D]) H fs vs
  | _, _, .nil => .nil
  | _, _, .cons h r => .cons h.wide (RF.wide r)
theorem RK.wide : ∀ {fs : List (Pw.D × Pw.D)} {vs : List (Pw.D × V × V)}, RK C.sa α H fs vs → RK C.sa (α ++ [D]) H fs vs
  | _, _, .nil => .nil
  | _, _, .cons h h2 r => .cons h.wide h2.wide (RK.wide r)
theorem RS.adopt (s : RS C α M H) (hn : D ∉ α) (hs : ScD C D) {o : MO} {ho : HO} (h : H D = some ho) (r : RO C α H D o ho) : RS C (α ++ [D]) (M ++ [o]) H := by
  have up : ∀ {a : Addr} {m : MO} {ho : HO}, RO C α H a m ho → RO C (α ++ [D]) H a m ho := by
    intro a m ho r
    cases r with
    | lst h => exact .lst (RDs.wide h)
    | dic h1 h2 h3 h4 h5 => exact .dic (RK.wide h1) h2 h3 h4 h5
    | ins h1 h2 => exact .ins h1 (RF.wide h2)
  refine ⟨by simp [s.len], ?_, fun n m e => ?_, ?_⟩
  · rw [List.nodup_append]
    exact ⟨s.nd, by simp, fun a ha b hb e => by rw [List.mem_singleton.mp hb] at e; exact hn (e ▸ ha)⟩
  · by_cases hl : n < M.length
    · rw [List.getElem?_append_left hl] at e
      obtain ⟨a, ho', h1, h2, r'⟩ := s.ob n m e
      exact ⟨a, ho', by rw [List.getElem?_append_left (by rw [s.len]; exact hl)]; exact h1, h2, up r'⟩
    · have hn' : n = M.length := by
        have := (List.getElem?_eq_some_iff.mp e).1
        simp at this
        omega
      subst hn'
      rw [List.getElem?_append_right (Nat.le_refl _)] at e
      simp at e
      subst e
      exact ⟨D, ho, by rw [List.getElem?_append_right (by rw [s.len]; exact Nat.le_refl _)]; simp [s.len], h, up r⟩
  · rcases s.sc with ⟨r, hr⟩ | r
    · rcases hs with hs | hs
      · exact .inl ⟨r, fun hm => (List.mem_append.mp hm).elim hr fun z => hs (List.mem_singleton.mp z).symm⟩
      · exact .inr hs
    · exact .inr r
theorem wipe_none {σ : L2.St} {i : Nat} : ∀ {vs : List Nat}, i ∈ vs → (wipe σ vs).set i none = wipe σ vs
  | v :: vs, h => by
    unfold wipe
    by_cases e : v = i
    · subst e; rw [List.set_set]
    · have : i ∈ vs := by
        rcases List.mem_cons.mp h with h | h
        · exact absurd h.symm e
        · exact h
      rw [List.set_comm _ _ e, wipe_none this]
theorem wipe_wipe_sub (σ : L2.St) {vs : List Nat} : ∀ {ws : List Nat}, (∀ i ∈ ws, i ∈ vs) → wipe (wipe σ vs) ws = wipe σ vs
  | [], _ => rfl
  | w :: ws, h => by
    have h1 := wipe_wipe_sub σ (vs := vs) (ws := ws) fun i hi => h i (List.mem_cons_of_mem _ hi)
    show (wipe (wipe σ vs) ws).set w none = wipe σ vs
    rw [h1]
    exact wipe_none (h w List.mem_cons_self)
theorem wipe_wipe (σ : L2.St) (vs : List Nat) : wipe (wipe σ vs) vs = wipe σ vs := wipe_wipe_sub σ fun _ h => h
theorem RE.step {α0 : List Addr} {H0 : Hp} {M0 : Mem} (s : RS C α0 M0 H0) (t : Step α0 α H0 H) (e : RE C.sa α0 H0 ρ σ) : RE C.sa α H ρ σ := e.mono s t

/-! ### the block of a comprehension -/
def Sx.blk (S : Sx) (scope : Scope) : Sx := ⟨S.N, relS scope S.sc, fun x => scope.names.lookup x == some .cell⟩
theorem OkX.blk {k : Nat} {S : Sx} (ok : OkX C k S X) (scope : Scope) (s : Shared) (H : Hp) (cl : List (Str × Addr)) (L : Addr) (fp : List Addr) : OkX C k (S.blk scope) (X.blk s H scope (compEnvC scope cl L X.env) fp) :=
  ⟨ok.hP, ok.hK, ok.hw, ok.hmg, ok.hbase, ok.hN, ok.nd, by show relS scope X.env.scope = relS scope S.sc; rw [ok.hsc], rfl, ok.calm, ok.room, rfl⟩
abbrev LTs (C : PC) (X : Cx) (e : List Expr) (f : VEnv → Mem → R Bool) : Prop := PTs X e (tBo C f)
theorem lts_nil {F : FT} : LTs C X [] (fun ρ M => truthR (evE F (.bl true) ρ M)) := by
  refine ⟨fun pins s σ H Q I h => pts_nil.run pins s σ H Q I ?_⟩
  obtain ⟨α, ρ, M, b, M', s, e, h, q⟩ := h
  simp only [evE, truthR, bnd_some, truth, Option.map_some] at h
  cases h
  exact q α H (Step.refl _ _) s
theorem lts_one {F : FT} {c : Expr} {x : E} (h : LT C X c (fun ρ M => truthR (evE F x ρ M))) : LTs C X [c] (fun ρ M => truthR (evE F x ρ M)) := pts_one h
theorem noFold {iter : Expr} (h : isSet iter = false) (env : Env) (x : Value) : foldedSetIterable iter env x = pure x := by
  cases iter <;> first | rfl | exact absurd h (by simp [isSet])
/-- what is so before turn i: D the new list, acc what it has -/
structure LcI (C : PC) (g : List (Nat × MO)) (p : Pat) (c : VEnv → Mem → R Bool) (b : VEnv → Mem → R (List Pw.D)) (ρ : VEnv) (its : List Pw.D) (xs : List Pw.D) (M2 : Mem) (α1 : List Addr) (H1 : Hp) (D : Addr) (i : Nat) (H : Hp) : Prop where
  ok : ∃ α M acc accD zs, Step α1 α H1 H ∧ RS C α M H ∧ D ∉ α ∧ H D = some (.lst acc) ∧ RDs C.sa α H accD acc ∧ turns g p c b ρ (its.drop i) M = some (zs, M2) ∧ accD ++ zs = xs
theorem lc_lift {F : FT} {tg iter : Expr} {vs : List Nat} {p : Pat} {it c x : E} {wi : TI} (hp : ∀ i ∈ patVars p, i ∈ vs)
    (hwi : ∀ σ H R, (∃ α ρ M its M', RS C α M H ∧ RE C.sa α H ρ σ ∧ evIt F it ρ M = some (its, M') ∧ ∀ α' H' J, Step α α' H H' → RS C α' M' H' → JOk C J α' H' its → R J H') → wi σ H R) :
    ∀ σ H Q, tV C (evE F (.lcomp (.for1 vs p it c (.cons x .nil)))) σ H Q → tLc wi (gOf C p) (tBo C (fun ρ M => truthR (evE F c ρ M))) (tV C (evE F x)) vs σ H Q := by
  rintro σ H Q ⟨α, ρ, M, d, M', s, e, h, q⟩
  simp only [evE, evEs] at h
  obtain ⟨xs, M2, h1, h⟩ := bnd_some_of h
  obtain ⟨its, M1, hit, h1⟩ := bnd_some_of h1
  split at h
  · rename_i hlen
    cases h
    refine hwi σ H _ ⟨α, ρ, M, its, M1, s, e, hit, fun α1 H1 J t1 s1 jok D hD => ?_⟩
    have scd := s1.scD hD
    have hD0 : H D = none := t1.before s hD s1
    refine ⟨fun i m Hc => m = its.1.length - i ∧ i ≤ its.1.length ∧ LcI C its.2 p (fun ρ M => truthR (evE F c ρ M)) (fun ρ M => bnd (evE F x ρ M) fun y M => bnd (evEs F .nil ρ M) fun ys M => some (y :: ys, M)) (wipeE ρ vs) its.1 xs M2 α1 H1 D i Hc,
      ⟨its.1.length, by simp, Nat.zero_le _, ⟨α1, M1, [], [], xs, upd_step hD, s1.other hD, s1.free hD, upd_same, .nil, by simpa [evEs] using h1, rfl⟩⟩, ?_⟩
    rintro i m Hc ⟨rfl, hi, ⟨αc, Mc, acc, accD, zs, tc, sc, hn, hDc, rc, hturn, hxs⟩⟩
    have notup : NoTup Hc D := fun vs z => by rw [hDc] at z; cases z
    by_cases hlt : i < its.1.length
    · right
      rw [List.drop_eq_getElem_cons hlt] at hturn
      unfold turns at hturn
      split at hturn
      · rename_i hst
        obtain ⟨jgo, -⟩ := jok i αc Mc Hc tc sc hst
        obtain ⟨go, yl⟩ := jgo its.1[i] (List.getElem?_eq_getElem hlt)
        split at hturn
        · cases hturn
        · rename_i ρ1 hρ1
          refine ⟨go, fun H' => LcI C its.2 p (fun ρ M => truthR (evE F c ρ M)) (fun ρ M => bnd (evE F x ρ M) fun y M => bnd (evEs F .nil ρ M) fun ys M => some (y :: ys, M)) (wipeE ρ vs) its.1 xs M2 α1 H1 D (i + 1) H', fun H' w => ⟨its.1.length - (i + 1), by omega, rfl, hlt, w⟩, fun xv H3 y => ?_⟩
          obtain ⟨t3, s3, r3⟩ := yl xv H3 y
          have re3 : RE C.sa αc H3 (wipeE ρ vs) (wipe σ vs) := (((e.wipe vs).mono s t1).mono s1 tc).mono sc t3
          refine pat_ok p its.1[i] xv (wipeE ρ vs) ρ1 (wipe σ vs) _ s3 r3 re3 hρ1 fun σ1 re1 hw1 => ⟨hw1 vs hp |>.trans (wipe_wipe σ vs), ?_⟩
          · obtain ⟨okb, M3, hc, hturn⟩ := bnd_some_of hturn
            refine ⟨αc, ρ1, Mc, okb, M3, s3, re1, hc, fun α4 H4 t4 s4 => ?_⟩
            obtain ⟨n3, e3⟩ := t3.out hDc hn
            obtain ⟨n4, e4⟩ := t4.out e3 hn
            have rc3 := rc.mono sc t3
            have rc4 := rc3.mono s3 t4
            cases okb with
            | false =>
              simp only [Bool.false_eq_true, if_false] at hturn ⊢
              exact ⟨α4, M3, acc, accD, zs, (tc.trans t3).trans t4, s4, n4, e4, rc4, hturn, hxs⟩
            | true =>
              simp only [if_true] at hturn ⊢
              obtain ⟨ys, M4, hb1, hturn⟩ := bnd_some_of hturn
              obtain ⟨yd, M5, hb2, hb1⟩ := bnd_some_of hb1
              simp only [evEs, bnd_some] at hb1
              cases hb1
              obtain ⟨zs', M6, ht1, hturn⟩ := bnd_some_of hturn
              cases hturn
              refine ⟨α4, ρ1, M3, yd, _, s4, re1.mono s3 t4, hb2, fun α5 yv H5 t5 s5 r5 => ?_⟩
              obtain ⟨n5, e5⟩ := t5.out e4 n4
              have nt5 : NoTup H5 D := fun vs z => by rw [e5] at z; cases z
              refine ⟨acc, e5, ?_, ⟨α5, _, acc ++ [yv], accD ++ [yd], zs', (((tc.trans t3).trans t4).trans t5).poke hD _, s5.poke nt5 n5 scd _, n5, upd_same, RDs.poke nt5 _ ((rc4.mono s4 t5).append (.cons r5 .nil)), ht1, ?_⟩⟩
              · rw [← rc.length, line_eq]
                have := congrArg List.length hxs
                simp at this
                omega
              · rw [← hxs]; simp
      · cases hturn
    · left
      have e0 : i = its.1.length := by omega
      subst e0
      rw [List.drop_length] at hturn
      unfold turns at hturn
      split at hturn
      · rename_i hst
        cases hturn
        obtain ⟨-, jst⟩ := jok its.1.length αc M2 Hc tc sc hst
        refine ⟨jst (Nat.le_refl _), ?_⟩
        rw [List.append_nil] at hxs
        subst hxs
        exact q (αc ++ [D]) (.ref D) Hc ((t1.trans tc).adopt hD0) (sc.adopt hn scd hDc (.lst rc)) (.ref (by rw [List.getElem?_append_right (by rw [sc.len]; exact Nat.le_refl _)]; simp [sc.len]))
      · cases hturn
  · cases h
theorem le_lcomp {k : Nat} {S : Sx} {F : FT} {elt tg iter : Expr} {ifs : List Expr} {scope : Scope} {pos : Pos} {own : List (Str × Nat)} {vs : List Nat} {p : Pat} {it c x : E}
    (ok : OkX C k S X) (hb : BlkOk S.N S.sc scope own) (hv : own.map (·.2) = vs) (hp : ∀ i ∈ patVars p, i ∈ vs) (hset : isSet iter = false) (hi : LI C X F tg iter it)
    (hg : ∀ X', OkX C k (S.blk scope) X' → PG X' tg (gOf C p)) (ht : ∀ X', OkX C k (S.blk scope) X' → LTs C X' ifs (fun ρ M => truthR (evE F c ρ M))) (he : ∀ X', OkX C k (S.blk scope) X' → LE C X' elt (evE F x)) :
    LE C X (.ListComp elt [⟨tg, iter, ifs, 0⟩] scope pos) (evE F (.lcomp (.for1 vs p it c (.cons x .nil)))) := by
  obtain ⟨wi, pi, hwi⟩ := hi.ok
  have h := pe_lc (pos := pos) ok.calm (by rw [ok.hN]; exact ok.nd) pi (own := own) (by rw [ok.hN, ok.hsc]; exact hb) (fun s H L cl fp => hg _ (ok.blk scope s H cl L fp)) (fun s H L cl fp => ht _ (ok.blk scope s H cl L fp)) (fun s H L cl fp => he _ (ok.blk scope s H cl L fp)) (noFold hset X.env)
  rw [hv] at h
  exact PE.imp h (lc_lift (tg := tg) (iter := iter) hp hwi)
/-- name = [..], stored while the block's variables are let go -/
theorem ls_asgLc {k : Nat} {S : Sx} {F : FT} {elt tg iter : Expr} {ifs : List Expr} {scope : Scope} {pos spos py : Pos} {own : List (Str × Nat)} {vs : List Nat} {p : Pat} {it c x : E} {i : Nat} {y : Str}
    (ok : OkX C k S X) (hb : BlkOk S.N S.sc scope own) (hv : own.map (·.2) = vs) (hp : ∀ i ∈ patVars p, i ∈ vs) (hset : isSet iter = false) (hi : LI C X F tg iter it)
    (hg : ∀ X', OkX C k (S.blk scope) X' → PG X' tg (gOf C p)) (ht : ∀ X', OkX C k (S.blk scope) X' → LTs C X' ifs (fun ρ M => truthR (evE F c ρ M))) (he : ∀ X', OkX C k (S.blk scope) X' → LE C X' elt (evE F x))
    (hy : S.N[i]? = some y) (hyl : S.sc.names.lookup y = some .local) (hk : S.sc.kind = .function) (hl : (py.line == pos.line) = true) (ha : (scope.names.any fun (n, k) => n == y && (k == .local || k == .cell)) = false) :
    ∃ te, (∀ σ H Q, tV C (evE F (.lcomp (.for1 vs p it c (.cons x .nil)))) σ H Q → te σ H Q) ∧ PS X (.Assign [.Name y py] (.ListComp elt [⟨tg, iter, ifs, 0⟩] scope pos) spos) (tAsg te (gName i)) := by
  obtain ⟨wi, pi, hwi⟩ := hi.ok
  have h := ps_setLc (spos := spos) (pos := pos) (py := py) ok.calm (by rw [ok.hN]; exact ok.nd) (by rw [ok.hN]; exact hy) (by rw [ok.hsc]; exact hyl) (sw_true (by rw [ok.hsc]; exact hk) (by rw [ok.hsc]; exact hyl) hl ha) pi (own := own) (by rw [ok.hN, ok.hsc]; exact hb) (fun s H L cl fp => hg _ (ok.blk scope s H cl L fp)) (fun s H L cl fp => ht _ (ok.blk scope s H cl L fp)) (fun s H L cl fp => he _ (ok.blk scope s H cl L fp)) (noFold hset X.env)
  rw [hv] at h
  exact ⟨_, lc_lift (tg := tg) (iter := iter) hp hwi, h⟩
end
end Pw

end
section
set_option maxHeartbeats 1000000
/-! Snd14: statements. -/
namespace Pw
open PySem PySem.Spec PyProof.Rows L2

section
variable {C : PC} {k : Nat} {sx : Sx} {X : Cx} {F : FT} {a b c : Expr} {pos p2 p3 : Pos} {x y z : E} {sm : Stmt} {sts : List Stmt}
abbrev LS (C : PC) (X : Cx) (sm : Stmt) (f : VEnv → Mem → R Out) : Prop := PS X sm (tX C f)
abbrev LSs (C : PC) (X : Cx) (sts : List Stmt) (f : VEnv → Mem → R Out) : Prop := PSs X sts (tX C f)
theorem ls_skip : LSs C X [] (evS F .skip) := by
  refine PSs.imp pss_nil ?_
  rintro D σ H ⟨α, ρ, M, o, M', s, e, h, q⟩
  simp only [evS] at h
  cases h
  exact q α H (Step.refl _ _) s σ e
theorem ls_one {f : VEnv → Mem → R Out} (h : LS C X sm f) : LSs C X [sm] f := pss_one h
theorem OutR.nx_change {α : List Addr} {H : Hp} {D D' : Ends} {o : Out} (hn : ∀ ρ, o ≠ .nx ρ) (e1 : D'.rt = D.rt) (e2 : D'.bk = D.bk) (e3 : D'.ct = D.ct) (h : OutR C α H D o) : OutR C α H D' o := by
  cases o with
  | nx ρ => exact absurd rfl (hn ρ)
  | rt d => show ∀ v, _ → D'.rt v H; rw [e1]; exact h
  | bk ρ => show ∀ σ, _ → D'.bk σ H; rw [e2]; exact h
  | ct ρ => show ∀ σ, _ → D'.ct σ H; rw [e3]; exact h
/-- from a later state on -/
theorem OutR.of {α : List Addr} {H : Hp} {D : Ends} {o : Out} (h : OutR C α H D o) : OutR C α H D o := h
def evSeq (fa fb : VEnv → Mem → R Out) : VEnv → Mem → R Out := fun ρ M => bnd (fa ρ M) fun o M => match o with
  | .nx ρ => fb ρ M
  | o => some (o, M)
theorem ls_seq {fa fb : VEnv → Mem → R Out} (ha : LS C X sm fa) (hb : LSs C X sts fb) : LSs C X (sm :: sts) (evSeq fa fb) := by
  refine PSs.imp (pss_cons ha hb) ?_
  rintro D σ H ⟨α, ρ, M, o, M', s, e, h, q⟩
  obtain ⟨o1, M1, h1, h⟩ := bnd_some_of h
  refine ⟨α, ρ, M, o1, M1, s, e, h1, fun α1 H1 t1 s1 => ?_⟩
  cases o1 with
  | nx ρ1 => exact fun σ1 e1 => ⟨α1, ρ1, M1, o, M', s1, e1, h, fun α2 H2 t2 => q α2 H2 (t1.trans t2)⟩
  | rt d => cases h; exact q α1 H1 t1 s1
  | bk ρ1 => cases h; exact q α1 H1 t1 s1
  | ct ρ1 => cases h; exact q α1 H1 t1 s1
/-- a text alone, or pass: nothing -/
def isDoc : Stmt → Bool
  | .Expr (.Constant (.str _) _ _) _ => true
  | .Pass _ => true
  | _ => false
theorem ls_doc {f : VEnv → Mem → R Out} (hd : isDoc sm = true) (h : LSs C X sts f) : LSs C X (sm :: sts) f := by
  have h1 : PS X sm tNext := by
    unfold isDoc at hd
    split at hd
    · exact ps_doc
    · exact ps_pass
    · cases hd
  exact PSs.imp (pss_cons h1 h) fun D σ H q => q
def isComp : Expr → Bool
  | .ListComp .. => true
  | .SetComp .. => true
  | .DictComp .. => true
  | _ => false
theorem noSwap {e : Expr} (h : isComp e = false) (t : Option Expr) (l : Nat) (env : Env) : swapsWith e t l env = pure false := by
  cases e <;> first | rfl | exact absurd h (by simp [isComp])
theorem noSwapS {e : Expr} (h : isComp e = false) (t : Expr) (l : Nat) (env : Env) : swapsWithSole [t] e l env = pure false := noSwap h _ _ _
def isTupE : Expr → Bool
  | .Tuple .. => true
  | _ => false
theorem noStores {e : Expr} (h : isTupE e = false) (t : Expr) (env : Env) : swappedStores [t] e env = pure none := by
  cases e <;> cases t <;> first | rfl | exact absurd h (by simp [isTupE])
theorem ls_expr (hc : isComp a = false) (ha : LE C X a (evE F x)) : LS C X (.Expr a pos) (evS F (.expr x)) := by
  refine PS.imp (ps_expr ha (noSwap hc _ _ _)) ?_
  rintro D σ H ⟨α, ρ, M, o, M', s, e, h, q⟩
  simp only [evS] at h
  obtain ⟨d, M1, h1, h⟩ := bnd_some_of h
  cases h
  exact ⟨α, ρ, M, d, _, s, e, h1, fun α1 v H1 t1 s1 _ => q α1 H1 t1 s1 σ (e.mono s t1)⟩
theorem ls_ret (ha : LE C X a (evE F x)) : LS C X (.Return (some a) pos) (evS F (.ret x)) := by
  refine PS.imp (ps_ret ha) ?_
  rintro D σ H ⟨α, ρ, M, o, M', s, e, h, q⟩
  simp only [evS] at h
  obtain ⟨d, M1, h1, h⟩ := bnd_some_of h
  cases h
  exact ⟨α, ρ, M, d, _, s, e, h1, fun α1 v H1 t1 s1 r => q α1 H1 t1 s1 v r⟩
theorem ls_retN : LS C X (.Return none pos) (evS F (.ret .non)) := by
  refine PS.imp ps_retN ?_
  rintro D σ H ⟨α, ρ, M, o, M', s, e, h, q⟩
  simp only [evS, evE, bnd_some] at h
  cases h
  exact q α H (Step.refl _ _) s _ .non
theorem ls_brk : LS C X (.Break pos) (evS F .brk) := by
  refine PS.imp ps_break ?_
  rintro D σ H ⟨α, ρ, M, o, M', s, e, h, q⟩
  simp only [evS] at h
  cases h
  exact q α H (Step.refl _ _) s σ e
theorem ls_cont : LS C X (.Continue pos) (evS F .cont) := by
  refine PS.imp ps_continue ?_
  rintro D σ H ⟨α, ρ, M, o, M', s, e, h, q⟩
  simp only [evS] at h
  cases h
  exact q α H (Step.refl _ _) s σ e
theorem ls_ite {A B : List Stmt} {fc : VEnv → Mem → R Bool} {fa fb : VEnv → Mem → R Out} (hc : LT C X c fc) (ha : LSs C X A fa) (hb : LSs C X B fb) : LS C X (.If c A B pos) (fun ρ M => bnd (fc ρ M) fun t M => if t = true then fa ρ M else fb ρ M) := by
  refine PS.imp (ps_if hc ha hb) ?_
  rintro D σ H ⟨α, ρ, M, o, M', s, e, h, q⟩
  obtain ⟨t, M1, h1, h⟩ := bnd_some_of h
  refine ⟨α, ρ, M, t, M1, s, e, h1, fun α1 H1 t1 s1 => ?_⟩
  cases t with
  | true => exact ⟨α1, ρ, M1, o, M', s1, e.mono s t1, h, fun α2 H2 t2 => q α2 H2 (t1.trans t2)⟩
  | false => exact ⟨α1, ρ, M1, o, M', s1, e.mono s t1, h, fun α2 H2 t2 => q α2 H2 (t1.trans t2)⟩

/-! ### stores -/
theorem asg_name {i : Nat} {ρ : VEnv} {M : Mem} {o : Out} {M' : Mem} (h : evS F (.asg (.name i) x) ρ M = some (o, M')) : ∃ d, evE F x ρ M = some (d, M') ∧ o = .nx (ρ.set i (some d)) := by
  simp only [evS] at h
  obtain ⟨d, M1, h1, h⟩ := bnd_some_of h
  simp only [bindPat, Option.map_some] at h
  cases h
  exact ⟨d, h1, rfl⟩
theorem asg_lift {i : Nat} {te : TE} (hl : ∀ σ H Q, tV C (evE F x) σ H Q → te σ H Q) : ∀ D σ H, tX C (evS F (.asg (.name i) x)) D σ H → tAsg te (gName i) D σ H := by
  rintro D σ H ⟨α, ρ, M, o, M', s, e, h, q⟩
  obtain ⟨d, h1, rfl⟩ := asg_name h
  exact hl _ _ _ ⟨α, ρ, M, d, M', s, e, h1, fun α1 v H1 t1 s1 r1 => q α1 H1 t1 s1 _ ((e.mono s t1).set r1 i)⟩
theorem ls_asg {i : Nat} {n : Str} (hN : X.N.Nodup) (hs : Sto X i n) (hc : isComp a = false) (ha : LE C X a (evE F x)) : LS C X (.Assign [.Name n p2] a pos) (evS F (.asg (.name i) x)) :=
  PS.imp (ps_set hN hs.1 hs.2.1 ha (noSwap hc _ _ _) hs.2.2) (asg_lift fun _ _ _ h => h)
theorem pg_or {tg : Expr} {g g' : TG} (h : PG X tg g) (h' : PG X tg g') : PG X tg (fun v σ H Q => g v σ H Q ∨ g' v σ H Q) :=
  ⟨fun pins s σ H v u Q I r q => q.elim (h.run pins s σ H v u Q I r) (h'.run pins s σ H v u Q I r)⟩
theorem ls_asgT {is : List Nat} {es : List Expr} {kk : Nat} (ok : OkX C k sx X) (hs : Stos X is es) (hc : isComp a = false) (ht : isTupE a = false) (ha : LE C X a (evE F x)) : LS C X (.Assign [.Tuple es kk p2] a pos) (evS F (.asg (.tup is) x)) := by
  have hN : X.N.Nodup := by rw [ok.hN]; exact ok.nd
  obtain ⟨h1, h2, h3⟩ := pgs_names hN hs
  have g2 : PG X (.Tuple es kk p2) (gLst X.K is.length (gNames is)) := pg_lst ok.calm h1 h2 h3
  have g1 : PG X (.Tuple es kk p2) (gOf C (.tup is)) := pg_tupP hN ok.calm ok.hK hs
  rw [ok.hK] at g2
  refine PS.imp (ps_asg ha (pg_or g1 g2) (noSwapS hc _ _ _) (noStores ht _ _) rfl) ?_
  rintro D σ H ⟨α, ρ, M, o, M', s, e, h, q⟩
  simp only [evS] at h
  obtain ⟨d, M1, h1, h⟩ := bnd_some_of h
  refine ⟨α, ρ, M, d, M1, s, e, h1, fun α1 v H1 t1 s1 r1 => ?_⟩
  have re := e.mono s t1
  cases d with
  | ref n =>
    right
    simp only at h
    cases e1 : M1[n]? with
    | none => rw [e1] at h; cases h
    | some o1 =>
      rw [e1] at h
      cases o1 with
      | lst xs =>
        obtain ⟨ρ1, h2, e2⟩ := Option.map_eq_some_iff.mp h
        cases e2
        simp only [bindPat] at h2
        split at h2
        · rename_i hl
          cases h2
          obtain ⟨a', vs, rfl, q2, q3, rs⟩ := s1.lst e1 r1
          exact ⟨a', vs, rfl, .inl (.inl q3), by rw [← rs.length]; exact hl.symm, names_ok hl rs re fun σ1 r2 _ => q α1 H1 t1 s1 σ1 r2⟩
        · cases h2
      | _ => cases h
  | tup xs =>
    left
    obtain ⟨ρ1, h2, e2⟩ := Option.map_eq_some_iff.mp h
    cases e2
    exact pat_ok (.tup is) (.tup xs) v ρ ρ1 σ _ s1 r1 re h2 fun σ1 r2 _ => q α1 H1 t1 s1 σ1 r2
  | _ => simp [bindPat] at h

/-! ### while, for -/
theorem ls_while {B : List Stmt} {x : E} {f : VEnv → Mem → R Out} (hx : X.xe = fun _ _ => False) (hc : LT C X c (fun ρ M => truthR (evE F x ρ M))) (hb : LSs C X B f) : LS C X (.While c B [] pos) (fun ρ M => whileL (fun ρ M => truthR (evE F x ρ M)) f F.wl ρ M) := by
  refine PS.imp (ps_while (by rw [hx]; exact PassesOwn.never) hc hb) ?_
  rintro D σ H ⟨α, ρ, M, o, M', s, e, h, q⟩
  refine ⟨fun m σc Hc => ∃ αc ρc Mc, Step α αc H Hc ∧ RS C αc Mc Hc ∧ RE C.sa αc Hc ρc σc ∧ whileL (fun ρ M => truthR (evE F x ρ M)) f m ρc Mc = some (o, M'), ⟨F.wl, α, ρ, M, Step.refl _ _, s, e, h⟩, ?_⟩
  rintro m σc Hc ⟨αc, ρc, Mc, tc, sc, ec, hw⟩
  cases m with
  | zero => simp [whileL] at hw
  | succ m =>
    unfold whileL at hw
    obtain ⟨t, M1, h1, hw⟩ := bnd_some_of hw
    refine ⟨αc, ρc, Mc, t, M1, sc, ec, h1, fun α1 H1 t1 s1 => ?_⟩
    cases t with
    | false =>
      simp only [Bool.false_eq_true, if_false] at hw ⊢
      cases hw
      exact q α1 H1 (tc.trans t1) s1 σc (ec.mono sc t1)
    | true =>
      simp only [if_true] at hw ⊢
      obtain ⟨o2, M2, h2, hw⟩ := bnd_some_of hw
      refine ⟨fun σ' H' => ∃ αd ρd Md, Step α αd H H' ∧ RS C αd Md H' ∧ RE C.sa αd H' ρd σ' ∧ whileL (fun ρ M => truthR (evE F x ρ M)) f m ρd Md = some (o, M'), fun σ' H' w => ⟨m, Nat.lt_succ_self m, w⟩, ⟨α1, ρc, M1, o2, M2, s1, ec.mono sc t1, h2, fun α2 H2 t2 s2 => ?_⟩⟩
      cases o2 with
      | nx ρ2 => exact fun σ2 e2 => ⟨α2, ρ2, M2, (tc.trans t1).trans t2, s2, e2, hw⟩
      | ct ρ2 => exact fun σ2 e2 => ⟨α2, ρ2, M2, (tc.trans t1).trans t2, s2, e2, hw⟩
      | bk ρ2 => cases hw; exact q α2 H2 ((tc.trans t1).trans t2) s2
      | rt d => cases hw; exact q α2 H2 ((tc.trans t1).trans t2) s2
theorem ls_for {tg iter : Expr} {B : List Stmt} {p : Pat} {it : E} {f : VEnv → Mem → R Out} (ok : OkX C k sx X) (hset : isSet iter = false) (hi : LI C X F tg iter it) (hg : PG X tg (gOf C p)) (hb : LSs C X B f) :
    LS C X (.For tg iter B [] pos) (fun ρ M => bnd (evIt F it ρ M) fun xs M => forL xs.2 p f xs.1 ρ M) := by
  obtain ⟨wi, pi, hwi⟩ := hi.ok
  refine PS.imp (ps_for (by rw [ok.hxe]; exact PassesOwn.never) ok.calm pi hg hb (noFold hset _)) ?_
  rintro D σ H ⟨α, ρ, M, o, M', s, e, h, q⟩
  obtain ⟨its, M1, hit, h⟩ := bnd_some_of h
  refine hwi σ H _ ⟨α, ρ, M, its, M1, s, e, hit, fun α1 H1 J t1 s1 jok => ?_⟩
  refine ⟨fun i m σc Hc => m = its.1.length - i ∧ i ≤ its.1.length ∧ ∃ αc ρc Mc, Step α1 αc H1 Hc ∧ RS C αc Mc Hc ∧ RE C.sa αc Hc ρc σc ∧ forL its.2 p f (its.1.drop i) ρc Mc = some (o, M'), ⟨its.1.length, by simp, Nat.zero_le _, α1, ρ, M1, Step.refl _ _, s1, e.mono s t1, h⟩, ?_⟩
  rintro i m σc Hc ⟨rfl, hi, αc, ρc, Mc, tc, sc, ec, hw⟩
  by_cases hlt : i < its.1.length
  · right
    rw [List.drop_eq_getElem_cons hlt] at hw
    unfold forL at hw
    split at hw
    · rename_i hst
      obtain ⟨jgo, -⟩ := jok i αc Mc Hc tc sc hst
      obtain ⟨go, yl⟩ := jgo its.1[i] (List.getElem?_eq_getElem hlt)
      split at hw
      · cases hw
      · rename_i ρ1 hρ1
        obtain ⟨o2, M2, h2, hw⟩ := bnd_some_of hw
        refine ⟨go, fun σ' H' => ∃ αd ρd Md, Step α1 αd H1 H' ∧ RS C αd Md H' ∧ RE C.sa αd H' ρd σ' ∧ forL its.2 p f (its.1.drop (i + 1)) ρd Md = some (o, M'), fun σ' H' w => ⟨its.1.length - (i + 1), by omega, rfl, hlt, w⟩, fun xv H3 y => ?_⟩
        obtain ⟨t3, s3, r3⟩ := yl xv H3 y
        refine pat_ok p its.1[i] xv ρc ρ1 σc _ s3 r3 (ec.mono sc t3) hρ1 fun σ1 re1 _ => ⟨αc, ρ1, Mc, o2, M2, s3, re1, h2, fun α4 H4 t4 s4 => ?_⟩
        have tt := (tc.trans t3).trans t4
        cases o2 with
        | nx ρ2 => exact fun σ2 e2 => ⟨α4, ρ2, M2, tt, s4, e2, hw⟩
        | ct ρ2 => exact fun σ2 e2 => ⟨α4, ρ2, M2, tt, s4, e2, hw⟩
        | bk ρ2 => cases hw; exact q α4 H4 (t1.trans tt) s4
        | rt d => cases hw; exact q α4 H4 (t1.trans tt) s4
    · cases hw
  · left
    have e0 : i = its.1.length := by omega
    subst e0
    rw [List.drop_length] at hw
    unfold forL at hw
    split at hw
    · rename_i hst
      cases hw
      obtain ⟨-, jst⟩ := jok its.1.length αc M' Hc tc sc hst
      exact ⟨jst (Nat.le_refl _), q αc Hc (t1.trans tc) sc σc ec⟩
    · cases hw
end
end Pw

end
section
set_option maxHeartbeats 1000000
/-! Snd15: stores into attributes, lists, dicts; augmented stores. -/
namespace Pw
open PySem PySem.Spec PyProof.Rows L2

section
variable {C : PC} {k : Nat} {sx : Sx} {X : Cx} {F : FT} {a b c : Expr} {pos p2 p3 : Pos} {x y z : E}
theorem RF.put {sa : Addr} {α : List Addr} {H : Hp} {f : String} {d : D} {v : V} (hd : RD sa α H d v) : ∀ {fs : List (String × D)} {vs : List (Str × V)}, RF sa α H fs vs → RF sa α H (fput f d fs) (putF (Str.ofString f) v vs)
  | _, _, .nil => .cons hd .nil
  | _, _, .cons (f := g) h r => by
    by_cases hg : g = f
    · subst hg
      simp only [fput, if_true]
      unfold putF
      rw [if_pos rfl]
      exact .cons hd r
    · simp only [fput, if_neg hg]
      unfold putF
      rw [if_neg fun e => hg (ofString_inj e)]
      exact .cons h (RF.put hd r)
theorem RF.length {sa : Addr} {α : List Addr} {H : Hp} : ∀ {fs : List (String × D)} {vs : List (Str × V)}, RF sa α H fs vs → vs.length = fs.length
  | _, _, .nil => rfl
  | _, _, .cons _ r => by simp [RF.length r]
/-- an instance changed -/
theorem RS.putIns {α : List Addr} {M : Mem} {H : Hp} (s : RS C α M H) {n : Nat} {a Ca dx : Addr} {c : String} {fs : List (String × D)} {vs : List (Str × V)} (hn : α[n]? = some a) (hc : C.ca c = some Ca) (r : RF C.sa α H fs vs) :
    Step α α H (upd H a (.ins Ca dx vs)) ∧ RS C α (M.set n (.ins c fs)) (upd H a (.ins Ca dx vs)) :=
  ⟨set_step s hn, s.set hn (.ins hc (r.mono s (set_step s hn)))⟩
theorem ls_setattr {f : String} (ok : OkX C k sx X) (hf : AtOk C f) (hc : isComp b = false) (ha : LE C X a (evE F x)) (hb : LE C X b (evE F y)) : LS C X (.Assign [.Attribute a (Str.ofString f) p2] b pos) (evS F (.setattr x f y)) := by
  refine PS.imp (ps_fld ha hb (noSwap hc _ _ _)) ?_
  rintro D σ H ⟨α, ρ, M, o, M', s, e, h, q⟩
  simp only [evS] at h
  obtain ⟨v, M1, h1, h⟩ := bnd_some_of h
  obtain ⟨xo, M2, h2, h⟩ := bnd_some_of h
  refine ⟨α, ρ, M, v, M1, s, e, h1, fun α1 w H1 t1 s1 r1 => ?_⟩
  refine ⟨α1, ρ, M1, xo, M2, s1, e.mono s t1, h2, fun α2 u H2 t2 s2 r2 => ?_⟩
  cases xo with
  | ref p =>
    simp only at h
    cases e1 : M2[p]? with
    | none => rw [e1] at h; cases h
    | some o1 =>
      rw [e1] at h
      cases o1 with
      | ins c fs =>
        simp only at h
        split at h
        · rename_i hl
          cases h
          obtain ⟨a', Ca, dx, vs, rfl, g2, g3, g4, g5⟩ := s2.ins e1 r2
          obtain ⟨k1, k2⟩ := hf.ok c Ca g4
          rw [ok.hK]
          obtain ⟨t3, s3⟩ := s2.putIns (dx := dx) g2 g4 (g5.put (f := f) (r1.mono s1 t2))
          exact ⟨a', Ca, dx, vs, rfl, g3, k1, k2, by rw [g5.length]; exact hl, q α2 _ ((t1.trans t2).trans t3) s3 σ (((e.mono s t1).mono s1 t2).mono s2 t3)⟩
        · cases h
      | _ => cases h
  | _ => cases h

/-! ### o[i] = v -/
def rSet (C : PC) : TSet := fun o i v H Q => ∃ α M d e w M', RS C α M H ∧ RD C.sa α H d o ∧ RD C.sa α H e i ∧ RD C.sa α H w v ∧ setD M d e w = some M' ∧ ∀ α' H', Step α α' H H' → RS C α' M' H' → Q H'
theorem dicSet_ok {pins : List (Addr × Obj)} {s : Shared} {σ : L2.St} {H : Hp} {α : List Addr} {M : Mem} {n : Nat} {a : Addr} {kvs : List (D × D)} {q : List (D × V × V)} (hP : X.prog = C.prog) (hw : X.w = C.w) (hr : Room k X.A) (I : Inv X pins σ H s) (S : RS C α M H) (d : DCell C α M H n a kvs q)
    {key w : D} {y v : V} {u uv : Value} (hk : keyOk kvs key = true) (hl : kvs.length < LIM) (rk : RD C.sa α H key y) (ru : RelV y u) (rw' : RD C.sa α H w v) (rv : RelV v uv) {Q : Hp → Prop}
    (h : ∀ α' H', Step α α' H H' → RS C α' (M.set n (.dic (dput key w kvs))) H' → Q H') : wpAny (model X.prog X.w) X.A (setItem (.ref a) u uv) (fun _ s' => ∃ H', Inv X pins σ H' s' ∧ Q H') X.xe s := by
  have hu : X.A.units + 16 < cLine := by have := hr.un; omega
  have nd := d.nd
  have hq := d.rk.keys
  have fin : ∀ {h' : Heap} {t : Nat}, dictAt C.prog C.w a (qput key y v q) h' → Heap.SameBut a s.heap h' → ∃ H', Inv X pins σ H' { s with heap := h', toks := t } ∧ Q H' := by
    intro h' t da sb
    have I' : Inv X pins σ (upd H a (dictHO C.prog C.w a (qput key y v q))) { s with heap := h', toks := t } := by
      refine I.write (x := a) (e := a) (by rw [d.h]; trivial) (.inl rfl) (fun b ob hb e => (sb.2 b hb).trans e) da.there ?_
      rw [hP, hw]
      exact da.ok
    refine ⟨_, I', h α _ (set_step S d.at_) (S.set d.at_ ?_)⟩
    have r2 := (RK.put rk rw' d.rk).mono S (set_step S d.at_ (ho := dictHO C.prog C.w a (qput key y v q)))
    exact .dic r2 (dput_nodup nd) (dput_ok hk d.ok) (Nat.le_trans (dput_length _ _ _) hl) d.sm
  have ndq : (q.map (·.1)).Nodup := by rw [hq]; exact nd
  cases ht : key.isTup with
  | false =>
    obtain ⟨vs, r, dd⟩ := d.flat I hP hk ht
    obtain ⟨l, hl2⟩ := leafK_of ((keyOk_iff _ _).mp hk).1 ht
    have hlen : vs.length ≤ sizeLine := by
      have e1 := Paired.length r
      have e2 := d.rk.length
      rw [line_eq]
      omega
    rw [hP, hw]
    refine wpAny_setItem_pairs (knd := flatKind C.prog C.w) (k := l) (flat_is hl2 rk ru) dd (fun h' dh sb => ?_) hlen
    rw [← hP, ← hw] at *
    exact fin (.inl ⟨_, fq_put hl2 rv ndq r, dh⟩) sb
  | true =>
    obtain ⟨xs, r, dd⟩ := d.tup I hP hk ht
    have hk8 := ((keyOk_iff _ _).mp hk).1
    obtain ⟨b, rfl⟩ := key_ref ht rk
    cases ru
    have hlen : xs.length ≤ sizeLine := by
      have e1 := Paired.length r
      have e2 := d.rk.length
      rw [line_eq]
      omega
    have hr : (nestedKind C.prog C.w).room X.A.in1 := by show X.A.units + 1 + 8 < cLine; omega
    have hi : (nestedKind C.prog C.w).is s.heap (nk key) b := ⟨nk_is I 8 key _ _ hk8 rk rfl, nk_depth 8 key hk8⟩
    have ha8 : q.all (fun p => p.1.key 8) = true := by
      have := d.keys
      rw [List.all_eq_true] at this ⊢
      intro p hp
      have hm : p.1 ∈ kvs.map (·.1) := by rw [← hq]; exact List.mem_map_of_mem hp
      obtain ⟨p', h1, h2⟩ := List.mem_map.mp hm
      rw [← h2]; exact this p' h1
    rw [hP, hw]
    refine wpAny_setItem_heap (knd := nestedKind C.prog C.w) (k := nk key) hr hi (d.ofH I r dd) (fun h' dh sb => ?_) hlen
    obtain ⟨o, es, ep, g1, g2, g3, g4, g5, g6⟩ := dh
    exact fin (.inr ⟨_, tq_put hk8 ht rv ha8 ndq r, o, es, ep, g1, g2, g3, g4, g6⟩) sb
theorem set_any (ok : OkX C k sx X) : PSet X (rSet C) := by
  intro pins s σ H o i v ov iv uv Q I ro ri rv h
  obtain ⟨α, M, d, e, w, M', S, rd, re, rw', h, q⟩ := h
  cases rd with
  | @ref n a ha =>
    simp only [setD] at h
    cases e1 : M[n]? with
    | none => rw [e1] at h; cases h
    | some o1 =>
      rw [e1] at h
      cases o1 with
      | lst xs =>
        cases e with
        | int j =>
          cases re
          simp only at h
          split at h
          · rename_i m hm
            cases h
            obtain ⟨a', vs, q1, q2, q3, r⟩ := S.lst (v := .ref a) e1 (.ref ha)
            cases q1
            rw [pyIx_ixN, r.length] at hm
            refine set_list pins s σ H _ _ v ov iv uv Q I ro ri rv ⟨a, vs, j, m, rfl, rfl, q3, hm, ?_⟩
            exact q α _ (set_step S ha) (S.set ha (.lst ((RDs.set rw' m r).mono S (set_step S ha))))
          · cases h
        | _ => cases h
      | dic kvs =>
        simp only at h
        split at h
        · rename_i hk
          cases h
          obtain ⟨a', q0, q1, dc⟩ := S.dic (v := .ref a) e1 (.ref ha)
          cases q1
          cases ro
          exact dicSet_ok ok.hP ok.hw ok.room I S dc hk.1 hk.2 re ri rw' rv q
        · cases h
      | ins _ _ => cases h
  | _ => simp [setD] at h
theorem sub_tree {o i : Expr} {env : Env} (h : notSlice i = true) (v : Value) : assign (.Subscript o i pos) env v = (do
      let ov ← holding [v] (eval o env)
      let iv ← holding [v, ov] (eval i env)
      standAt pos
      holding [v, ov, iv] (setItem ov iv v)
      release [v, ov, iv] []) := by
  cases i <;> first | rfl | exact absurd h (by simp [notSlice])
theorem ls_setidx (ok : OkX C k sx X) (hs : notSlice b = true) (hc : isComp c = false) (ht : isTupE c = false) (ha : LE C X a (evE F x)) (hb : LE C X b (evE F y)) (hv : LE C X c (evE F z)) : LS C X (.Assign [.Subscript a b p2] c pos) (evS F (.setidx x y z)) := by
  refine PS.imp (ps_asg hv (pg_sub ha hb (set_any ok) fun v => sub_tree hs v) (noSwapS hc _ _ _) (noStores ht _ _) rfl) ?_
  rintro D σ H ⟨α, ρ, M, o, M', s, e, h, q⟩
  simp only [evS] at h
  obtain ⟨dv, M1, h1, h⟩ := bnd_some_of h
  obtain ⟨dx, M2, h2, h⟩ := bnd_some_of h
  obtain ⟨di, M3, h3, h⟩ := bnd_some_of h
  obtain ⟨M4, h4, e4⟩ := Option.map_eq_some_iff.mp h
  cases e4
  refine ⟨α, ρ, M, dv, M1, s, e, h1, fun α1 w H1 t1 s1 r1 => ?_⟩
  refine ⟨α1, ρ, M1, dx, M2, s1, e.mono s t1, h2, fun α2 u H2 t2 s2 r2 => ?_⟩
  refine ⟨α2, ρ, M2, di, M3, s2, (e.mono s t1).mono s1 t2, h3, fun α3 j H3 t3 s3 r3 => ?_⟩
  refine ⟨α3, M3, dx, di, dv, M', s3, r2.mono s2 t3, r3, (r1.mono s1 t2).mono s2 t3, h4, fun α4 H4 t4 s4 => ?_⟩
  exact q α4 H4 (((t1.trans t2).trans t3).trans t4) s4 σ ((((e.mono s t1).mono s1 t2).mono s2 t3).mono s3 t4)

/-! ### op= -/
theorem noI_tuple : typeLookup (.type "tuple") (dunderI "add") = pure none := by rw [typeLookup_type, builtinLookup_eq_fast]; kernel_rfl
theorem icat_tup {s : Shared} {A : Around} {E : Value → Shared → Prop} {Q : Value → Shared → Prop} {t b : Addr} {vs ws : List Value} (ht : IsTup s.heap t vs.toArray) (hb : IsTup s.heap b ws.toArray)
    (h0 : vs = [] → Q (.ref b) s) (h1 : vs ≠ [] → ws = [] → Q (.ref t) s) (h2 : vs ≠ [] → ws ≠ [] → Q (.ref s.heap.objs.size) { s with heap := s.heap.push { cls := .type "tuple", data := .seq (vs ++ ws).toArray } })
    (hsz : vs.length + ws.length ≤ sizeLine) : wpAny (model X.prog X.w) A (inplaceOp .Add (.ref t) (.ref b)) Q E s := by
  rcases ht with ⟨⟨c1, d1, t1, s1⟩, ho, hc, n, hd⟩
  rcases hb with ⟨⟨c2, d2, t2, s2⟩, ho2, hc2, n2, hd2⟩
  simp only at hc hd hc2 hd2
  subst hc hd hc2 hd2
  refine wpAny_inplaceOp_concat (T := "tuple") ⟨_, ho, rfl⟩ ⟨_, ho2, rfl⟩ noI_tuple noFill_tuple_add seq_tuple_add ?_
  by_cases hv : vs = []
  · exact call_meets PySem.F.slot_tuple_add ⟨_, ho, rfl⟩ PySem.F.entry_tuple_add (PySem.F.args_tuple_add_2 _ _) (tuple_addW0 t b vs.toArray ws.toArray n n2 d1 d2 s1 s2 (by simp [hv])) ⟨ho, ho2, h0 hv⟩
  · by_cases hw : ws = []
    · exact call_meets PySem.F.slot_tuple_add ⟨_, ho, rfl⟩ PySem.F.entry_tuple_add (PySem.F.args_tuple_add_2 _ _) (tuple_addW1 t b vs.toArray ws.toArray n n2 d1 d2 s1 s2 (by simpa using hv) (by simp [hw])) ⟨ho, ho2, h1 hv hw⟩
    · refine call_meets PySem.F.slot_tuple_add ⟨_, ho, rfl⟩ PySem.F.entry_tuple_add (PySem.F.args_tuple_add_2 _ _) (tuple_addW2 t b vs.toArray ws.toArray n n2 d1 d2 s1 s2 (by simpa using hv) (by simpa using hw) (by simpa using hsz)) ⟨ho, ho2, ?_⟩
      have e : vs.toArray ++ ws.toArray = (vs ++ ws).toArray := by simp
      rw [e]
      exact h2 hv hw
def rAug (C : PC) (op : BOp) : R2 := fun x y H Q => ∃ α M d e z M', RS C α M H ∧ RD C.sa α H d x ∧ RD C.sa α H e y ∧ augD M op d e = some (z, M') ∧ ∀ α' v H', Step α α' H H' → RS C α' M' H' → RD C.sa α' H' z v → Q v H'
theorem op_aug (op : BOp) : OpR X (inplaceOp (bop op)) (rAug C op) := by
  intro pins s σ H x y v u Q I rx ry h
  obtain ⟨α, M, d, e, z, M', S, rd, re, h, q⟩ := h
  cases op with
  | add =>
    cases rd with
    | int i =>
      cases re with
      | int j => simp only [augD, binD] at h; cases h; exact iop_add pins s σ H _ _ v u Q I rx ry ⟨i, j, rfl, rfl, done S (.int _) q⟩
      | _ => simp [augD, binD] at h
    | @str x hx =>
      cases re with
      | @str y hy =>
        simp only [augD, binD] at h
        split at h
        · rename_i hl
          cases h
          refine iop_add_str pins s σ H _ _ v u Q I rx ry ⟨_, _, rfl, rfl, by rw [ofString_length, ofString_length, line_eq]; exact hl, ?_⟩
          rw [← ofString_append]
          exact done S (.str (by rw [lenS_append]; exact hl)) q
        · cases h
      | _ => simp [augD, binD] at h
    | @tup a ds vs ha r =>
      cases re with
      | @tup b es us hb r2 =>
        simp only [augD, binD] at h
        split at h
        · rename_i hl
          cases h
          cases rx; cases ry
          obtain ⟨_, i1, v1, p1⟩ := I.hok a _ ha
          obtain ⟨_, i2, v2, p2⟩ := I.hok b _ hb
          have l1 := r.length
          have l2 := r2.length
          have l3 := v1.length
          have l4 := v2.length
          refine icat_tup p1 p2 (fun z => ?_) (fun _ z => ?_) (fun _ _ => ?_) (by rw [line_eq]; omega)
          · subst z
            cases v1; cases r
            exact ⟨.ref b, H, I, rfl, done S (.tup hb r2) q⟩
          · subst z
            cases v2; cases r2
            exact ⟨.ref a, H, I, rfl, done S (.tup ha r) (by simpa using q)⟩
          · refine ⟨.ref s.heap.objs.size, _, I.laid (t' := s.toks) (o := .tup (vs ++ us)) (fun c ob z => Heap.get?_push_of_some _ z) (Nat.le_refl _) ?_, rfl, done_tup S (r.append r2) (I.hok.fresh (Nat.le_refl _)) q⟩
            exact ⟨by rw [List.length_append, line_eq]; omega, _, v1.append v2, IsTup.new _ _⟩
        · cases h
      | _ => simp [augD, binD] at h
    | _ => simp [augD] at h
  | sub =>
    cases rd with
    | int i =>
      cases re with
      | int j => simp only [augD, binD] at h; cases h; exact iop_sub pins s σ H _ _ v u Q I rx ry ⟨i, j, rfl, rfl, done S (.int _) q⟩
      | _ => simp [augD, binD] at h
    | _ => simp [augD] at h
  | _ => simp [augD] at h
theorem ls_aug {i : Nat} {n : Str} (op : BOp) (hN : X.N.Nodup) (hs : Sto X i n) (ha : LE C X a (evE F x)) : LS C X (.AugAssign (.Name n p2) (bop op) a pos) (evS F (.aug i op x)) := by
  refine PS.imp (ps_aug hN hs.1 hs.2.1 ha (op_aug (C := C) op) hs.2.2) ?_
  rintro D σ H ⟨α, ρ, M, o, M', s, e, h, q⟩
  simp only [evS] at h
  split at h
  · rename_i d hd
    obtain ⟨w, hw1, hw2⟩ := e.at_ i d hd
    obtain ⟨dy, M1, h1, h⟩ := bnd_some_of h
    obtain ⟨dz, M2, h2, h⟩ := bnd_some_of h
    cases h
    refine ⟨w, hw1, α, ρ, M, dy, M1, s, e, h1, fun α1 v H1 t1 s1 r1 => ?_⟩
    exact ⟨α1, M1, d, dy, dz, _, s1, hw2.mono s t1, r1, h2, fun α2 v2 H2 t2 s2 r2 => q α2 H2 (t1.trans t2) s2 _ (((e.mono s t1).mono s1 t2).set r2 i)⟩
  · cases h
theorem ls_augattr {f : String} (op : BOp) (ok : OkX C k sx X) (hf : AtOk C f) (ha : LE C X a (evE F x)) (hb : LE C X b (evE F y)) : LS C X (.AugAssign (.Attribute a (Str.ofString f) p2) (bop op) b pos) (evS F (.augattr x f op y)) := by
  refine PS.imp (ps_fldaug ha hb (fun pins s σ H x y u v Q I rx ry h => op_aug (C := C) op pins s σ H x y u v Q I rx ry h)) ?_
  rintro D σ H ⟨α, ρ, M, o, M', s, e, h, q⟩
  simp only [evS] at h
  obtain ⟨xo, M1, h1, h⟩ := bnd_some_of h
  refine ⟨α, ρ, M, xo, M1, s, e, h1, fun α1 w H1 t1 s1 r1 => ?_⟩
  cases xo with
  | ref p =>
    simp only at h
    cases e1 : M1[p]? with
    | none => rw [e1] at h; cases h
    | some o1 =>
      rw [e1] at h
      cases o1 with
      | ins c fs =>
        simp only at h
        obtain ⟨a', Ca, dx, vs, rfl, g2, g3, g4, g5⟩ := s1.ins e1 r1
        cases e2 : fget f fs with
        | none => rw [e2] at h; cases h
        | some old =>
          rw [e2] at h
          simp only at h
          obtain ⟨dy, M2, h2, h⟩ := bnd_some_of h
          obtain ⟨dz, M3, h3, h⟩ := bnd_some_of h
          obtain ⟨ov, g6, g7⟩ := (g5.look (f := f)).1 _ e2
          obtain ⟨k1, k2⟩ := hf.ok c Ca g4
          rw [ok.hK]
          refine ⟨a', Ca, dx, vs, ov, rfl, g3, k1, k2, g6, α1, ρ, M1, dy, M2, s1, e.mono s t1, h2, fun α2 v2 H2 t2 s2 r2 => ?_⟩
          refine ⟨α2, M2, old, dy, dz, M3, s2, g7.mono s1 t2, r2, h3, fun α3 v3 H3 t3 s3 r3 => ?_⟩
          cases e3 : M3[p]? with
          | none => rw [e3] at h; cases h
          | some o3 =>
            rw [e3] at h
            cases o3 with
            | ins c' fs' =>
              simp only at h
              split at h
              · rename_i hl
                cases h
                obtain ⟨a2, Ca2, dx2, vs2, j1, j2, j3, j4, j5⟩ := s3.ins e3 (.ref (t3.get (t2.get g2)))
                cases j1
                obtain ⟨rfl, hl⟩ := hl
                rw [g4] at j4
                cases j4
                obtain ⟨t4, s4⟩ := s3.putIns (dx := dx2) j2 g4 (j5.put (f := f) r3)
                exact ⟨dx2, vs2, j3, by rw [j5.length]; exact hl, q α3 _ (((t1.trans t2).trans t3).trans t4) s4 σ ((((e.mono s t1).mono s1 t2).mono s2 t3).mono s3 t4)⟩
              · cases h
            | _ => cases h
      | _ => cases h
  | _ => cases h
end
end Pw

end
section
set_option maxHeartbeats 1000000
/-! Snd16: the checker: a term of the evaluator's syntax is the text's. -/
namespace Pw
open PySem PySem.Spec PyProof.Rows L2

/-- names that the facts are about -/
structure Tb where
  fns : List String
  cls : List String
  ats : List String
  mts : List String
def lkS (S : Sx) (x : Str) : Option NameKind := S.sc.names.lookup x
def visB (S : Sx) (x : Str) : Bool := match lkS S x with
  | some .local => true
  | some .cell => true
  | some .free => true
  | _ => false
def locB (S : Sx) (x : Str) : Bool := match lkS S x with
  | some .local => true
  | some .cell => true
  | _ => false
def isLoc (S : Sx) (x : Str) : Bool := match lkS S x with
  | some .local => true
  | _ => false
def glB (S : Sx) (x : Str) : Bool := match lkS S x with
  | some .globalImplicit => true
  | _ => false
def okNm (x : Str) : Bool := !(x == ("__debug__" : Str)) && !(x == ("__classdict__" : Str))
def stoB (S : Sx) (i : Nat) (x : Str) : Bool := decide (S.N[i]? = some x) && locB S x && (S.fn x || isLoc S x)
def namesB (S : Sx) : List Nat → List Expr → Bool
  | [], [] => true
  | i :: is, .Name x _ :: es => stoB S i x && namesB S is es
  | _, _ => false
def patB (S : Sx) : Pat → Expr → Bool
  | .name i, .Name x _ => stoB S i x
  | .tup is, .Tuple es _ _ => namesB S is es
  | _, _ => false
def isNil : E → Bool
  | .nil => true
  | _ => false
def isNon : E → Bool
  | .non => true
  | _ => false
def isTru : E → Bool
  | .bl true => true
  | _ => false
def ownOf (S : Sx) (vs : List Nat) : List (Str × Nat) := vs.map fun i => ((S.N[i]?).getD (Str.ofString ""), i)
mutual
def ckE (T : Tb) : E → Sx → Expr → Bool
  | .var i, S, x => match x with
    | .Name n _ => decide (S.N[i]? = some n) && visB S n && okNm n
    | _ => false
  | .int i, S, x => match x with
    | .Constant (.int j) _ _ => decide (i = j)
    | _ => false
  | .bl b, S, x => match x with
    | .Constant (.bool c) _ _ => b == c
    | _ => false
  | .non, S, x => match x with
    | .Constant .none _ _ => true
    | _ => false
  | .str s, S, x => match x with
    | .Constant (.str n) _ _ => decide (n = Str.ofString s) && decide (lenS s ≤ 1000)
    | _ => false
  | .tup r, S, x => match x with
    | .Tuple es _ _ => ckEs T r S es && decide (es.length ≤ 1000)
    | _ => false
  | .lst r, S, x => match x with
    | .List es _ => ckEs T r S es && decide (es.length ≤ 1000)
    | _ => false
  | .bin op a b, S, x => match x with
    | .BinOp l o r _ => decide (o = bop op) && ckE T a S l && ckE T b S r
    | _ => false
  | .neg a, S, x => match x with
    | .UnaryOp .USub l _ => ckE T a S l
    | _ => false
  | .no a, S, x => match x with
    | .UnaryOp .Not l _ => ckE T a S l
    | _ => false
  | .and a b, S, x => match x with
    | .BoolOp .And (l :: r :: rest) p => ckE T a S l && (match rest with
      | [] => ckE T b S r
      | _ :: _ => ckE T b S (.BoolOp .And (r :: rest) p))
    | _ => false
  | .or a b, S, x => match x with
    | .BoolOp .Or (l :: r :: rest) p => ckE T a S l && (match rest with
      | [] => ckE T b S r
      | _ :: _ => ckE T b S (.BoolOp .Or (r :: rest) p))
    | _ => false
  | .cmp op a b, S, x => match x with
    | .Compare l [o] [r] _ => decide (o = cop op) && decide (op ≠ .ltl) && !isSet r && ckE T a S l && ckE T b S r
    | _ => false
  | .isN a, S, x => match x with
    | .Compare l [.Is] [.Constant .none _ _] _ => ckE T a S l
    | _ => false
  | .notN a, S, x => match x with
    | .Compare l [.IsNot] [.Constant .none _ _] _ => ckE T a S l
    | _ => false
  | .ite c a b, S, x => match x with
    | .IfExp t l r _ => ckE T c S t && ckE T a S l && ckE T b S r
    | _ => false
  | .idx a i, S, x => match x with
    | .Subscript l j _ => notSlice j && ckE T a S l && ckE T i S j
    | _ => false
  | .slice a lo hi, S, x => match x with
    | .Subscript l (.Slice u v none _) _ => ckE T a S l && (match u with
      | none => isNon lo
      | some u => !isNon lo && ckE T lo S u) && (match v with
      | none => isNon hi
      | some v => !isNon hi && ckE T hi S v)
    | _ => false
  | .attr a f, S, x => match x with
    | .Attribute l g _ => decide (g = Str.ofString f) && T.ats.contains f && notSuper l && ckE T a S l
    | _ => false
  | .call f r, S, x => match x with
    | .Call (.Name n _) es [] _ => decide (n = Str.ofString f) && T.fns.contains f && glB S n && okNm n && noStars es && ckEs T r S es
    | _ => false
  | .new f r, S, x => match x with
    | .Call (.Name n _) es [] _ => decide (n = Str.ofString f) && T.cls.contains f && glB S n && okNm n && noStars es && ckEs T r S es
    | _ => false
  | .meth a m r, S, x => match x with
    | .Call (.Attribute l g ap) es [] p => decide (g = Str.ofString m) && T.mts.contains m && notSuper l && noStars es && decide (es.length < 30) && (ap.endLine == p.line) && ckE T a S l && ckEs T r S es
    | _ => false
  | .glob f, S, x => match x with
    | .Name n _ => decide (n = Str.ofString f) && glB S n && okNm n
    | _ => false
  | .bi b r, S, x => match x with
    | .Call (.Name n _) (e :: es) [] _ => decide (n = Str.ofString (biName b)) && glB S n && noStars (e :: es) && ckEs T r S (e :: es)
    | _ => false
  | .isi a t, S, x => match x with
    | .Call (.Name n _) [l, .Name m _] [] _ => decide (n = Str.ofString "isinstance") && decide (m = Str.ofString (tyName t)) && glB S n && glB S m && notStar l && ckE T a S l
    | _ => false
  | .bm m a r, S, x => match x with
    | .Call (.Attribute l g ap) es [] p => bmSup m && decide (g = Str.ofString (bmName m)) && notSuper l && noStars es && decide (es.length < 30) && (ap.endLine == p.line) && ckE T a S l && ckEs T r S es
    | _ => false
  | .coll k it, S, x => match k, it with
    | .tuple, .cons a r => (match x with
      | .Call (.Name n _) [l] [] _ => decide (n = Str.ofString "tuple") && glB S n && notStar l && isNil r && ckE T a S l
      | _ => false)
    | _, _ => false
  | .lcomp (.for1 vs p it c (.cons a r)), S, x => match x with
    | .ListComp elt [⟨tg, iter, ifs, as⟩] scope _ => decide (as = 0) && isNil r && blkC S.N S.sc scope (ownOf S vs) && (patVars p).all (vs.contains ·) && !isSet iter && ckIt T it S iter && patB (S.blk scope) p tg && (match ifs with
      | [] => isTru c
      | [t] => ckE T c (S.blk scope) t
      | _ => false) && ckE T a (S.blk scope) elt
    | _ => false
  | _, _, _ => false
def ckEs (T : Tb) : E → Sx → List Expr → Bool
  | .nil, _, es => match es with
    | [] => true
    | _ => false
  | .cons a r, S, es => match es with
    | e :: es => notStar e && ckE T a S e && ckEs T r S es
    | _ => false
  | _, _, _ => false
def ckIt (T : Tb) : E → Sx → Expr → Bool
  | .range r, S, x => match x with
    | .Call (.Name n _) es [] _ => decide (n = Str.ofString "range") && glB S n && noStars es && (es.length == 1 || es.length == 2 || es.length == 3) && ckEs T r S es
    | _ => false
  | .cons a r, S, x => isNil r && ckE T a S x
  | _, _, _ => false
end
/-- does a list comprehension go straight to its name -/
def isLcE : E → Bool
  | .lcomp (.for1 _ _ _ _ (.cons _ _)) => true
  | _ => false
def isSimple : S → Bool
  | .seq _ _ => false
  | .skip => false
  | _ => true
def lcB (S : Sx) (n : Str) (np : Pos) (e : E) : Expr → Bool
  | .ListComp _ _ scope pos => isLcE e && isLoc S n && decide (S.sc.kind = .function) && (np.line == pos.line) && !(scope.names.any fun (m, k) => m == n && (k == .local || k == .cell))
  | x => !isComp x
def ckSs (T : Tb) : S → Sx → List Stmt → Bool
  | .skip, _, sts => (sts.dropWhile isDoc).isEmpty
  | .seq a b, S, sts => match sts.dropWhile isDoc with
    | st :: rest => isSimple a && ckSs T a S [st] && ckSs T b S rest
    | _ => false
  | .expr e, S, sts => match sts.dropWhile isDoc with
    | [.Expr x _] => !isComp x && ckE T e S x
    | _ => false
  | .asg p e, S, sts => match sts.dropWhile isDoc with
    | [.Assign [tg] x _] => (match p, tg with
      | .name i, .Name n np => stoB S i n && lcB S n np e x
      | .tup is, .Tuple es _ _ => namesB S is es && !isComp x && !isTupE x
      | _, _ => false) && ckE T e S x
    | _ => false
  | .setattr o f e, S, sts => match sts.dropWhile isDoc with
    | [.Assign [.Attribute l g _] x _] => decide (g = Str.ofString f) && T.ats.contains f && !isComp x && ckE T o S l && ckE T e S x
    | _ => false
  | .setidx o i e, S, sts => match sts.dropWhile isDoc with
    | [.Assign [.Subscript l j _] x _] => notSlice j && !isComp x && !isTupE x && ckE T o S l && ckE T i S j && ckE T e S x
    | _ => false
  | .aug i op e, S, sts => match sts.dropWhile isDoc with
    | [.AugAssign (.Name n _) o x _] => decide (o = bop op) && stoB S i n && ckE T e S x
    | _ => false
  | .augattr o f op e, S, sts => match sts.dropWhile isDoc with
    | [.AugAssign (.Attribute l g _) oo x _] => decide (oo = bop op) && decide (g = Str.ofString f) && T.ats.contains f && ckE T o S l && ckE T e S x
    | _ => false
  | .ite c a b, S, sts => match sts.dropWhile isDoc with
    | [.If t A B _] => ckE T c S t && ckSs T a S A && ckSs T b S B
    | _ => false
  | .while c b, S, sts => match sts.dropWhile isDoc with
    | [.While t B [] _] => ckE T c S t && ckSs T b S B
    | _ => false
  | .for p it b, S, sts => match sts.dropWhile isDoc with
    | [.For tg iter B [] _] => !isSet iter && ckIt T it S iter && patB S p tg && ckSs T b S B
    | _ => false
  | .ret e, S, sts => match sts.dropWhile isDoc with
    | [.Return (some x) _] => ckE T e S x
    | [.Return none _] => isNon e
    | _ => false
  | .brk, S, sts => match sts.dropWhile isDoc with
    | [.Break _] => true
    | _ => false
  | .cont, S, sts => match sts.dropWhile isDoc with
    | [.Continue _] => true
    | _ => false
end Pw

end
section
set_option maxHeartbeats 2000000
/-! Snd17: the checker is right: expressions. -/
namespace Pw
open PySem PySem.Spec PyProof.Rows L2

structure Facts (C : PC) (k : Nat) (F : FT) (T : Tb) : Prop where
  P : F.P = C.P
  cal : ∀ f, T.fns.contains f = true → CalC C k F f
  new : ∀ c, T.cls.contains c = true → ∃ j, j + 1 ≤ k ∧ NewC C j F c
  at_ : ∀ f, T.ats.contains f = true → AtOk C f
  met : ∀ m, T.mts.contains m = true → MetOk C k F m
  gl : ∀ x d, C.P.glob x = some d → GlOk C x d
  bu : ∀ x, ["len", "str", "int", "bool", "max", "min", "isinstance", "tuple", "list", "range", "enumerate", "zip", "sorted", "set", "sum", "dict", "any", "all"].contains x = true → C.mg (Str.ofString x) = none

section
variable {C : PC} {k : Nat} {S : Sx} {X : Cx} {F : FT} {T : Tb}
theorem vis_of (ok : OkX C k S X) {x : Str} (h : visB S x = true) : Vis X.env.scope x := by
  unfold visB lkS at h
  rw [← ok.hsc] at h
  split at h
  · exact .inl (by assumption)
  · exact .inr (.inl (by assumption))
  · exact .inr (.inr (by assumption))
  · cases h
theorem loc_of (ok : OkX C k S X) {x : Str} (h : locB S x = true) : Loc X.env.scope x := by
  unfold locB lkS at h
  rw [← ok.hsc] at h
  split at h
  · exact .inl (by assumption)
  · exact .inr (by assumption)
  · cases h
theorem isLoc_of {x : Str} (h : isLoc S x = true) : S.sc.names.lookup x = some .local := by
  unfold isLoc lkS at h
  split at h
  · assumption
  · cases h
theorem gl_of (ok : OkX C k S X) {x : Str} (h : glB S x = true) : Gl X x := by
  unfold glB lkS at h
  rw [← ok.hsc] at h
  split at h
  · assumption
  · cases h
theorem okNm_of {x : Str} (h : okNm x = true) : (x == ("__debug__" : Str)) = false ∧ (x == ("__classdict__" : Str)) = false := by
  unfold okNm at h
  simpa using h
theorem sto_of (ok : OkX C k S X) {i : Nat} {x : Str} (h : stoB S i x = true) : Sto X i x := by
  unfold stoB at h
  simp only [Bool.and_eq_true, Bool.or_eq_true, decide_eq_true_eq] at h
  obtain ⟨⟨h1, h2⟩, h3⟩ := h
  refine ⟨by rw [ok.hN]; exact h1, loc_of ok h2, ?_⟩
  rcases h3 with h3 | h3
  · exact .inl (by rw [ok.hfn]; exact h3)
  · exact .inr (by rw [ok.hsc]; exact isLoc_of h3)
theorem names_of (ok : OkX C k S X) : ∀ {is : List Nat} {es : List Expr}, namesB S is es = true → Stos X is es
  | [], [], _ => .nil
  | [], _ :: _, h => by cases h
  | _ :: _, [], h => by cases h
  | i :: is, e :: es, h => by
    cases e with
    | Name x p =>
      simp only [namesB, Bool.and_eq_true] at h
      exact .cons (sto_of ok h.1) (names_of ok h.2)
    | _ => cases h
theorem pat_of (ok : OkX C k S X) {p : Pat} {tg : Expr} (h : patB S p tg = true) : PG X tg (gOf C p) := by
  have hN : X.N.Nodup := by rw [ok.hN]; exact ok.nd
  unfold patB at h
  split at h
  · exact pg_nameP hN (sto_of ok h)
  · exact pg_tupP hN ok.calm ok.hK (names_of ok h)
  · cases h
theorem bu_of (ok : OkX C k S X) (Fa : Facts C k F T) {n : Str} {x : String} (hn : n = Str.ofString x) (hg : glB S n = true) (hx : ["len", "str", "int", "bool", "max", "min", "isinstance", "tuple", "list", "range", "enumerate", "zip", "sorted", "set", "sum", "dict", "any", "all"].contains x = true) : BuOk C X (Str.ofString x) :=
  ⟨by rw [← hn]; exact gl_of ok hg, Fa.bu x hx⟩
theorem evE_and (a b : E) : evE F (.and a b) = evAnd (evE F a) (evE F b) := by funext ρ M; simp only [evE, evAnd] <;> rfl
theorem evE_or (a b : E) : evE F (.or a b) = evOr (evE F a) (evE F b) := by funext ρ M; simp only [evE, evOr] <;> rfl
theorem evE_ite (c a b : E) : evE F (.ite c a b) = evIf (evE F c) (evE F a) (evE F b) := by funext ρ M; simp only [evE, evIf] <;> rfl
def P1 (C : PC) (k : Nat) (F : FT) (T : Tb) (e : E) : Prop := ∀ (S : Sx) (X : Cx) (x : Expr), OkX C k S X → ckE T e S x = true →
  LE C X x (evE F e) ∧ LT C X x (fun ρ M => truthR (evE F e ρ M)) ∧ ∀ op es p, x = .BoolOp op es p → LW C X x (fun ρ M => truthR (evE F e ρ M))
def P2 (C : PC) (k : Nat) (F : FT) (T : Tb) (e : E) : Prop := ∀ (S : Sx) (X : Cx) (es : List Expr), OkX C k S X → ckEs T e S es = true → LA C X es (evEs F e) ∧ rowLen e = some es.length
def P3 (C : PC) (k : Nat) (F : FT) (T : Tb) (e : E) : Prop := ∀ (S : Sx) (X : Cx) (x : Expr), OkX C k S X → ckIt T e S x = true → ∀ tg, LI C X F tg x e
theorem p1_of {x : Expr} {f : VEnv → Mem → R D} (ok : OkX C k S X) (h : LE C X x f) (hp : plainTest x = true) : LE C X x f ∧ LT C X x (fun ρ M => truthR (f ρ M)) ∧ ∀ op es p, x = .BoolOp op es p → LW C X x (fun ρ M => truthR (f ρ M)) :=
  ⟨h, lt_truth ok.hK h hp, fun op es p e => by subst e; cases hp⟩
theorem p1_not {x : Expr} {f : VEnv → Mem → R D} (h : LE C X x f) (ht : LT C X x (fun ρ M => truthR (f ρ M))) (hb : ∀ op es p, x ≠ .BoolOp op es p) : LE C X x f ∧ LT C X x (fun ρ M => truthR (f ρ M)) ∧ ∀ op es p, x = .BoolOp op es p → LW C X x (fun ρ M => truthR (f ρ M)) :=
  ⟨h, ht, fun op es p e => absurd e (hb op es p)⟩
theorem p1_bool {x : Expr} {f : VEnv → Mem → R D} (h : LE C X x f) (ht : LW C X x (fun ρ M => truthR (f ρ M))) : LE C X x f ∧ LT C X x (fun ρ M => truthR (f ρ M)) ∧ ∀ op es p, x = .BoolOp op es p → LW C X x (fun ρ M => truthR (f ρ M)) :=
  ⟨h, ht.pt, fun op es p e => ht⟩
/-- the rest of an and, of an or -/
theorem bool_tail {op : BoolOp} {b : E} {r : Expr} {rest : List Expr} {p : Pos} (ok : OkX C k S X) (hb : P1 C k F T b) (h : (match rest with
      | [] => ckE T b S r
      | _ :: _ => ckE T b S (.BoolOp op (r :: rest) p)) = true) : LE C X (.BoolOp op (r :: rest) p) (evE F b) ∧ LW C X (.BoolOp op (r :: rest) p) (fun ρ M => truthR (evE F b ρ M)) := by
  cases rest with
  | nil =>
    obtain ⟨h1, h2, _⟩ := hb S X r ok h
    exact ⟨pe_one h1, lw_one h2⟩
  | cons q qs =>
    obtain ⟨h1, h2, h3⟩ := hb S X _ ok h
    exact ⟨h1, h3 _ _ _ rfl⟩
theorem isNil_of {r : E} (h : isNil r = true) : r = .nil := by cases r <;> first | rfl | cases h
theorem isNon_of {r : E} (h : isNon r = true) : r = .non := by cases r <;> first | rfl | cases h
theorem isNon_no {r : E} (h : (!isNon r) = true) : r ≠ .non := by intro e; subst e; cases h
theorem isTru_of {r : E} (h : isTru r = true) : r = .bl true := by
  cases r with
  | bl b => cases b <;> first | rfl | cases h
  | _ => cases h

theorem ownOf_map (S : Sx) (vs : List Nat) : (ownOf S vs).map (·.2) = vs := by
  unfold ownOf
  rw [List.map_map]
  exact List.map_id _
/-- a list comprehension's parts -/
structure LcP (C : PC) (k : Nat) (F : FT) (T : Tb) (S : Sx) (X : Cx) (elt tg iter : Expr) (ifs : List Expr) (scope : Scope) (vs : List Nat) (p : Pat) (it c a : E) : Prop where
  hb : BlkOk S.N S.sc scope (ownOf S vs)
  hp : ∀ i ∈ patVars p, i ∈ vs
  hset : isSet iter = false
  hi : LI C X F tg iter it
  hg : ∀ X', OkX C k (S.blk scope) X' → PG X' tg (gOf C p)
  ht : ∀ X', OkX C k (S.blk scope) X' → LTs C X' ifs (fun ρ M => truthR (evE F c ρ M))
  he : ∀ X', OkX C k (S.blk scope) X' → LE C X' elt (evE F a)
theorem lc_parts {elt tg iter : Expr} {ifs : List Expr} {as : Int} {scope : Scope} {vs : List Nat} {p : Pat} {it c a r : E} (hi : P3 C k F T it) (hc : P1 C k F T c) (ha : P1 C k F T a) (ok : OkX C k S X)
    (h : (decide (as = 0) && isNil r && blkC S.N S.sc scope (ownOf S vs) && (patVars p).all (vs.contains ·) && !isSet iter && ckIt T it S iter && patB (S.blk scope) p tg && (match ifs with
      | [] => isTru c
      | [t] => ckE T c (S.blk scope) t
      | _ => false) && ckE T a (S.blk scope) elt) = true) : as = 0 ∧ r = .nil ∧ LcP C k F T S X elt tg iter ifs scope vs p it c a := by
  simp only [Bool.and_eq_true, decide_eq_true_eq, Bool.not_eq_true', List.all_eq_true, List.contains_iff_mem] at h
  obtain ⟨⟨⟨⟨⟨⟨⟨⟨h1, h2⟩, h3⟩, h4⟩, h5⟩, h6⟩, h7⟩, h8⟩, h9⟩ := h
  refine ⟨h1, isNil_of h2, ⟨blkOk_by h3, h4, h5, hi S X _ ok h6 tg, fun X' ok' => pat_of ok' h7, fun X' ok' => ?_, fun X' ok' => (ha _ X' _ ok' h9).1⟩⟩
  split at h8
  · rw [isTru_of h8]; exact lts_nil
  · exact lts_one (hc _ X' _ ok' h8).2.1
  · cases h8
theorem snd_all (Fa : Facts C k F T) : ∀ (n : Nat) (e : E), sizeOf e < n → P1 C k F T e ∧ P2 C k F T e ∧ P3 C k F T e := by
  intro n
  induction n with
  | zero => intro e h; exact absurd h (Nat.not_lt_zero _)
  | succ n ih =>
    intro e hsz
    refine ⟨?_, ?_, ?_⟩
    · intro S X x ok h
      cases e with
      | var i =>
        simp only [ckE] at h
        split at h
        · simp only [Bool.and_eq_true, decide_eq_true_eq] at h
          obtain ⟨⟨h1, h2⟩, h3⟩ := h
          exact p1_of ok (le_var (by rw [ok.hN]; exact h1) (vis_of ok h2) (okNm_of h3).1 (okNm_of h3).2) rfl
        · cases h
      | int i =>
        simp only [ckE] at h
        split at h
        · simp only [decide_eq_true_eq] at h
          subst h
          exact p1_of ok le_int rfl
        · cases h
      | bl b =>
        simp only [ckE] at h
        split at h
        · simp only [beq_iff_eq] at h
          subst h
          exact p1_of ok le_bl rfl
        · cases h
      | non =>
        simp only [ckE] at h
        split at h
        · exact p1_of ok le_non rfl
        · cases h
      | str s =>
        simp only [ckE] at h
        split at h
        · simp only [Bool.and_eq_true, decide_eq_true_eq] at h
          obtain ⟨rfl, h2⟩ := h
          exact p1_of ok (le_str (Nat.le_trans h2 (by decide))) rfl
        · cases h
      | tup r =>
        simp only [ckE] at h
        split at h
        · simp only [Bool.and_eq_true, decide_eq_true_eq] at h
          obtain ⟨h1, h2⟩ := (ih r (by simp at hsz; omega)).2.1 S X _ ok h.1
          exact p1_of ok (le_tup h2 (Nat.le_trans h.2 (by decide)) h1) rfl
        · cases h
      | lst r =>
        simp only [ckE] at h
        split at h
        · simp only [Bool.and_eq_true, decide_eq_true_eq] at h
          obtain ⟨h1, h2⟩ := (ih r (by simp at hsz; omega)).2.1 S X _ ok h.1
          exact p1_of ok (le_lst h2 (Nat.le_trans h.2 (by decide)) h1) rfl
        · cases h
      | bin op a b =>
        simp only [ckE] at h
        split at h
        · simp only [Bool.and_eq_true, decide_eq_true_eq] at h
          obtain ⟨⟨rfl, h1⟩, h2⟩ := h
          exact p1_of ok (le_bin ok.hK op ((ih a (by simp at hsz; omega)).1 S X _ ok h1).1 ((ih b (by simp at hsz; omega)).1 S X _ ok h2).1) rfl
        · cases h
      | neg a =>
        simp only [ckE] at h
        split at h
        · exact p1_of ok (le_neg ((ih a (by simp at hsz; omega)).1 S X _ ok h).1) rfl
        · cases h
      | no a =>
        simp only [ckE] at h
        split at h
        · obtain ⟨h1, h2, _⟩ := (ih a (by simp at hsz; omega)).1 S X _ ok h
          refine p1_not (le_no ok.hK h1) ?_ (fun _ _ _ e => by cases e)
          have := lt_no (C := C) (pos := by assumption) h2
          simpa only [evE] using this
        · cases h
      | and a b =>
        simp only [ckE] at h
        split at h
        · simp only [Bool.and_eq_true] at h
          obtain ⟨h1, h2, _⟩ := (ih a (by simp at hsz; omega)).1 S X _ ok h.1
          obtain ⟨h3, h4⟩ := bool_tail (op := .And) ok (ih b (by simp at hsz; omega)).1 h.2
          rw [evE_and]
          exact p1_bool (le_and ok.hK h1 h3) (lw_and h2 h4)
        · cases h
      | or a b =>
        simp only [ckE] at h
        split at h
        · simp only [Bool.and_eq_true] at h
          obtain ⟨h1, h2, _⟩ := (ih a (by simp at hsz; omega)).1 S X _ ok h.1
          obtain ⟨h3, h4⟩ := bool_tail (op := .Or) ok (ih b (by simp at hsz; omega)).1 h.2
          rw [evE_or]
          exact p1_bool (le_or ok.hK h1 h3) (lw_or h2 h4)
        · cases h
      | cmp op a b =>
        simp only [ckE] at h
        split at h
        · simp only [Bool.and_eq_true, decide_eq_true_eq, Bool.not_eq_true'] at h
          obtain ⟨⟨⟨⟨rfl, h0⟩, h1⟩, h2⟩, h3⟩ := h
          have ha := ((ih a (by simp at hsz; omega)).1 S X _ ok h2).1
          have hb := ((ih b (by simp at hsz; omega)).1 S X _ ok h3).1
          exact p1_not (le_cmp ok.hP ok.hK ok.hw ok.room op h0 h1 ha hb) (lt_cmp ok.hP ok.hK ok.hw ok.room op h0 h1 ha hb) (fun _ _ _ e => by cases e)
        · cases h
      | isN a =>
        simp only [ckE] at h
        split at h
        · have ha := ((ih a (by simp at hsz; omega)).1 S X _ ok h).1
          exact p1_not (le_isN ha) (lt_isN ha) (fun _ _ _ e => by cases e)
        · cases h
      | notN a =>
        simp only [ckE] at h
        split at h
        · have ha := ((ih a (by simp at hsz; omega)).1 S X _ ok h).1
          exact p1_not (le_notN ha) (lt_notN ha) (fun _ _ _ e => by cases e)
        · cases h
      | ite c a b =>
        simp only [ckE] at h
        split at h
        · simp only [Bool.and_eq_true] at h
          obtain ⟨_, c2, _⟩ := (ih c (by simp at hsz; omega)).1 S X _ ok h.1.1
          obtain ⟨a1, a2, _⟩ := (ih a (by simp at hsz; omega)).1 S X _ ok h.1.2
          obtain ⟨b1, b2, _⟩ := (ih b (by simp at hsz; omega)).1 S X _ ok h.2
          rw [evE_ite]
          exact p1_not (le_ite c2 a1 b1) (lt_ite c2 a2 b2) (fun _ _ _ e => by cases e)
        · cases h
      | idx a i =>
        simp only [ckE] at h
        split at h
        · simp only [Bool.and_eq_true] at h
          exact p1_of ok (le_idx ok.hP ok.hK ok.hw ok.room h.1.1 ((ih a (by simp at hsz; omega)).1 S X _ ok h.1.2).1 ((ih i (by simp at hsz; omega)).1 S X _ ok h.2).1 Fa.P) rfl
        · cases h
      | slice a lo hi =>
        simp only [ckE] at h
        split at h
        · rename_i l u v _ _
          simp only [Bool.and_eq_true] at h
          have ha := ((ih a (by simp at hsz; omega)).1 S X _ ok h.1.1).1
          have hl : LO C X F u lo := by
            have h1 := h.1.2
            cases u with
            | none => rw [isNon_of h1]; exact lo_none
            | some u =>
              simp only [Bool.and_eq_true] at h1
              exact lo_some ((ih lo (by simp at hsz; omega)).1 S X _ ok h1.2).1 (isNon_no h1.1)
          have hh : LO C X F v hi := by
            have h1 := h.2
            cases v with
            | none => rw [isNon_of h1]; exact lo_none
            | some u =>
              simp only [Bool.and_eq_true] at h1
              exact lo_some ((ih hi (by simp at hsz; omega)).1 S X _ ok h1.2).1 (isNon_no h1.1)
          exact p1_of ok (le_slice ok.hK ha hl hh) rfl
        · cases h
      | attr a f =>
        simp only [ckE] at h
        split at h
        · simp only [Bool.and_eq_true, decide_eq_true_eq] at h
          obtain ⟨⟨⟨rfl, h1⟩, h2⟩, h3⟩ := h
          exact p1_of ok (le_attr ok.hK h2 (Fa.at_ f h1) ((ih a (by simp at hsz; omega)).1 S X _ ok h3).1) rfl
        · cases h
      | call f r =>
        simp only [ckE] at h
        split at h
        · simp only [Bool.and_eq_true, decide_eq_true_eq] at h
          obtain ⟨⟨⟨⟨⟨rfl, h1⟩, h2⟩, h3⟩, h4⟩, h5⟩ := h
          obtain ⟨r1, r2⟩ := (ih r (by simp at hsz; omega)).2.1 S X _ ok h5
          exact p1_of ok (le_call ok (gl_of ok h2) (okNm_of h3).1 h4 r1 r2 (Fa.cal f h1)) rfl
        · cases h
      | new f r =>
        simp only [ckE] at h
        split at h
        · simp only [Bool.and_eq_true, decide_eq_true_eq] at h
          obtain ⟨⟨⟨⟨⟨rfl, h1⟩, h2⟩, h3⟩, h4⟩, h5⟩ := h
          obtain ⟨r1, r2⟩ := (ih r (by simp at hsz; omega)).2.1 S X _ ok h5
          obtain ⟨j, hj, hn⟩ := Fa.new f h1
          exact p1_of ok (le_new ok (gl_of ok h2) (okNm_of h3).1 h4 r1 r2 hj hn) rfl
        · cases h
      | meth a m r =>
        simp only [ckE] at h
        split at h
        · simp only [Bool.and_eq_true, decide_eq_true_eq] at h
          obtain ⟨⟨⟨⟨⟨⟨⟨rfl, h1⟩, h2⟩, h3⟩, h4⟩, h5⟩, h6⟩, h7⟩ := h
          obtain ⟨r1, r2⟩ := (ih r (by simp at hsz; omega)).2.1 S X _ ok h7
          exact p1_of ok (le_meth ok h2 h3 h4 h5 ((ih a (by simp at hsz; omega)).1 S X _ ok h6).1 r1 r2 (Fa.met m h1)) rfl
        · cases h
      | glob f =>
        simp only [ckE] at h
        split at h
        · simp only [Bool.and_eq_true, decide_eq_true_eq] at h
          obtain ⟨⟨rfl, h1⟩, h2⟩ := h
          exact p1_of ok (le_glob ok.hmg (gl_of ok h1) (okNm_of h2).1 Fa.P fun d hd => Fa.gl f d hd) rfl
        · cases h
      | bi b r =>
        simp only [ckE] at h
        split at h
        · simp only [Bool.and_eq_true, decide_eq_true_eq] at h
          obtain ⟨⟨⟨rfl, h1⟩, h2⟩, h3⟩ := h
          obtain ⟨r1, r2⟩ := (ih r (by simp at hsz; omega)).2.1 S X _ ok h3
          exact p1_of ok (le_bi b ok (bu_of ok Fa rfl h1 (by cases b <;> rfl)) h2 r1 Fa.P) rfl
        · cases h
      | isi a t =>
        simp only [ckE] at h
        split at h
        · simp only [Bool.and_eq_true, decide_eq_true_eq] at h
          obtain ⟨⟨⟨⟨⟨rfl, rfl⟩, h1⟩, h2⟩, h3⟩, h4⟩ := h
          exact p1_of ok (le_isi ok (bu_of ok Fa rfl h1 rfl) (bu_of ok Fa rfl h2 (by cases t <;> rfl)) h3 ((ih a (by simp at hsz; omega)).1 S X _ ok h4).1) rfl
        · cases h
      | bm m a r =>
        simp only [ckE] at h
        split at h
        · simp only [Bool.and_eq_true, decide_eq_true_eq] at h
          obtain ⟨⟨⟨⟨⟨⟨⟨h1, rfl⟩, h2⟩, h3⟩, h4⟩, h5⟩, h6⟩, h7⟩ := h
          obtain ⟨r1, r2⟩ := (ih r (by simp at hsz; omega)).2.1 S X _ ok h7
          exact p1_of ok (le_bm m h1 ok h2 h3 h4 h5 ((ih a (by simp at hsz; omega)).1 S X _ ok h6).1 r1 r2) rfl
        · cases h
      | coll kk it =>
        cases kk with
        | tuple =>
          cases it with
          | cons a r =>
            simp only [ckE] at h
            split at h
            · simp only [Bool.and_eq_true, decide_eq_true_eq] at h
              obtain ⟨⟨⟨⟨rfl, h1⟩, h2⟩, h3⟩, h4⟩ := h
              cases isNil_of h3
              exact p1_of ok (le_tupOf ok (bu_of ok Fa rfl h1 rfl) h2 ((ih _ (by simp at hsz; omega)).1 S X _ ok h4).1) rfl
            · cases h
          | _ => exact absurd (show false = true from h) Bool.false_ne_true
        | _ => exact absurd (show false = true from h) Bool.false_ne_true
      | lcomp p =>
        cases p with
        | for1 vs p it c b =>
          cases b with
          | cons a r =>
            simp only [ckE] at h
            split at h
            · rename_i elt tg iter ifs as scope pos
              obtain ⟨rfl, rfl, L⟩ := lc_parts (ih it (by simp at hsz; omega)).2.2 (ih c (by simp at hsz; omega)).1 (ih a (by simp at hsz; omega)).1 ok h
              exact p1_of ok (le_lcomp ok L.hb (ownOf_map S vs) L.hp L.hset L.hi L.hg L.ht L.he) rfl
            · cases h
          | _ => exact absurd (show false = true from h) Bool.false_ne_true
        | _ => exact absurd (show false = true from h) Bool.false_ne_true
      | _ => exact absurd (show false = true from h) Bool.false_ne_true
    · intro S X es ok h
      cases e with
      | nil =>
        simp only [ckEs] at h
        split at h
        · exact ⟨la_nil, rfl⟩
        · cases h
      | cons a r =>
        simp only [ckEs] at h
        split at h
        · simp only [Bool.and_eq_true] at h
          obtain ⟨r1, r2⟩ := (ih r (by simp at hsz; omega)).2.1 S X _ ok h.2
          exact ⟨la_cons h.1.1 ((ih a (by simp at hsz; omega)).1 S X _ ok h.1.2).1 r1, by simp [rowLen, r2]⟩
        · cases h
      | _ => exact absurd (show false = true from h) Bool.false_ne_true
    · intro S X x ok h tg
      cases e with
      | range r =>
        simp only [ckIt] at h
        split at h
        · simp only [Bool.and_eq_true, Bool.or_eq_true, decide_eq_true_eq, beq_iff_eq] at h
          obtain ⟨⟨⟨⟨rfl, h1⟩, h2⟩, h3⟩, h4⟩ := h
          obtain ⟨r1, r2⟩ := (ih r (by simp at hsz; omega)).2.1 S X _ ok h4
          exact li_range ok (bu_of ok Fa rfl h1 rfl) h2 r1 r2 (by rcases h3 with (h | h) | h <;> simp [h])
        · cases h
      | cons a r =>
        replace h : (isNil r && ckE T a S x) = true := h
        simp only [Bool.and_eq_true] at h
        rw [isNil_of h.1]
        exact li_seq ok.hK ((ih a (by simp at hsz; omega)).1 S X _ ok h.2).1
      | _ => exact absurd (show false = true from h) Bool.false_ne_true
end
end Pw

end
section
set_option maxHeartbeats 2000000
/-! Snd18: the checker is right: statements. -/
namespace Pw
open PySem PySem.Spec PyProof.Rows L2

section
variable {C : PC} {k : Nat} {sx : Sx} {X : Cx} {F : FT} {T : Tb}
theorem ls_drop {f : VEnv → Mem → R Out} : ∀ {sts : List Stmt}, LSs C X (sts.dropWhile isDoc) f → LSs C X sts f
  | [], h => h
  | s :: sts, h => by
    by_cases hd : isDoc s = true
    · rw [List.dropWhile_cons_of_pos hd] at h
      exact ls_doc hd (ls_drop h)
    · rw [List.dropWhile_cons_of_neg hd] at h
      exact h
theorem ls_to {sts : List Stmt} {sm : Stmt} {f : VEnv → Mem → R Out} (e : sts.dropWhile isDoc = [sm]) (h : LS C X sm f) : LSs C X sts f := ls_drop (by rw [e]; exact ls_one h)
theorem evS_seq (a b : S) : evS F (.seq a b) = evSeq (evS F a) (evS F b) := by funext ρ M; simp only [evS, evSeq] <;> rfl
theorem evS_ite (c : E) (a b : S) : evS F (.ite c a b) = fun ρ M => bnd (truthR (evE F c ρ M)) fun t M => if t = true then evS F a ρ M else evS F b ρ M := by funext ρ M; simp only [evS]
theorem evS_while (c : E) (b : S) : evS F (.while c b) = fun ρ M => whileL (fun ρ M => truthR (evE F c ρ M)) (evS F b) F.wl ρ M := by funext ρ M; simp only [evS]
theorem evS_for (p : Pat) (it : E) (b : S) : evS F (.for p it b) = fun ρ M => bnd (evIt F it ρ M) fun xs M => forL xs.2 p (evS F b) xs.1 ρ M := by funext ρ M; simp only [evS]
theorem p1 (Fa : Facts C k F T) (e : E) : P1 C k F T e := (snd_all Fa (sizeOf e + 1) e (Nat.lt_succ_self _)).1
theorem p3 (Fa : Facts C k F T) (e : E) : P3 C k F T e := (snd_all Fa (sizeOf e + 1) e (Nat.lt_succ_self _)).2.2
theorem ckSs_comp {e : E} {n : Str} {np : Pos} {x : Expr} (ok : OkX C k sx X) (Fa : Facts C k F T) {i : Nat} {pos : Pos} (hs : stoB sx i n = true) (h : lcB sx n np e x = true) (he : ckE T e sx x = true) : LS C X (.Assign [.Name n np] x pos) (evS F (.asg (.name i) e)) := by
  have hN : X.N.Nodup := by rw [ok.hN]; exact ok.nd
  by_cases hc : isComp x = false
  · exact ls_asg hN (sto_of ok hs) hc ((p1 Fa e) sx X x ok he).1
  · cases x with
    | ListComp elt gens scope cpos =>
      simp only [lcB, Bool.and_eq_true, decide_eq_true_eq, Bool.not_eq_true'] at h
      obtain ⟨⟨⟨⟨h0, h1⟩, h2⟩, h3⟩, h4⟩ := h
      have hsi : sx.N[i]? = some n := by
        unfold stoB at hs
        simp only [Bool.and_eq_true, decide_eq_true_eq] at hs
        exact hs.1.1
      cases e with
      | lcomp p =>
        cases p with
        | for1 vs p it c b =>
          cases b with
          | cons a r =>
            simp only [ckE] at he
            split at he
            · rename_i heq
              cases heq
              obtain ⟨rfl, rfl, L⟩ := lc_parts (p3 Fa it) (p1 Fa c) (p1 Fa a) ok he
              obtain ⟨te, hl, hps⟩ := ls_asgLc (spos := pos) (pos := cpos) (py := np) ok L.hb (ownOf_map sx vs) L.hp L.hset L.hi L.hg L.ht L.he hsi (isLoc_of h1) h2 h3 h4
              exact PS.imp hps (asg_lift hl)
            · cases he
          | _ => exact absurd (show false = true from h0) Bool.false_ne_true
        | _ => exact absurd (show false = true from h0) Bool.false_ne_true
      | _ => exact absurd (show false = true from h0) Bool.false_ne_true
    | SetComp => simp [lcB, isComp] at h
    | DictComp => simp [lcB, isComp] at h
    | _ => exact absurd rfl hc
def Q1 (C : PC) (k : Nat) (F : FT) (T : Tb) (s : S) : Prop := ∀ (sx : Sx) (X : Cx) (sts : List Stmt), OkX C k sx X → ckSs T s sx sts = true → LSs C X sts (evS F s) ∧ (isSimple s = true → ∃ sm, sts.dropWhile isDoc = [sm] ∧ LS C X sm (evS F s))
theorem q1_of {sts : List Stmt} {sm : Stmt} {f : VEnv → Mem → R Out} {b : Bool} (e : sts.dropWhile isDoc = [sm]) (h : LS C X sm f) : LSs C X sts f ∧ (b = true → ∃ sm, sts.dropWhile isDoc = [sm] ∧ LS C X sm f) := ⟨ls_to e h, fun _ => ⟨sm, e, h⟩⟩
theorem snd_s (Fa : Facts C k F T) : ∀ s : S, Q1 C k F T s := by
  intro s
  induction s with
  | skip =>
    intro sx X sts ok h
    simp only [ckSs, List.isEmpty_iff] at h
    exact ⟨ls_drop (by rw [h]; exact ls_skip), fun e => by cases e⟩
  | seq a b iha ihb =>
    intro sx X sts ok h
    simp only [ckSs] at h
    split at h
    · rename_i st rest e
      simp only [Bool.and_eq_true] at h
      obtain ⟨sm, e1, h1⟩ := (iha sx X _ ok h.1.2).2 h.1.1
      have e2 : sm = st := by
        by_cases hd : isDoc st = true
        · rw [List.dropWhile_cons_of_pos hd] at e1; cases e1
        · rw [List.dropWhile_cons_of_neg hd] at e1; cases e1; rfl
      subst e2
      refine ⟨ls_drop ?_, fun e => by cases e⟩
      rw [e, evS_seq]
      exact ls_seq h1 (ihb sx X _ ok h.2).1
    · cases h
  | expr e =>
    intro sx X sts ok h
    simp only [ckSs] at h
    split at h
    · rename_i e1
      simp only [Bool.and_eq_true, Bool.not_eq_true'] at h
      exact q1_of e1 (ls_expr h.1 (p1 Fa e sx X _ ok h.2).1)
    · cases h
  | asg p e =>
    intro sx X sts ok h
    simp only [ckSs] at h
    split at h
    · rename_i e1
      rw [Bool.and_eq_true] at h
      obtain ⟨h1, h2⟩ := h
      split at h1
      · simp only [Bool.and_eq_true] at h1
        exact q1_of e1 (ckSs_comp ok Fa h1.1 h1.2 h2)
      · simp only [Bool.and_eq_true, Bool.not_eq_true'] at h1
        exact q1_of e1 (ls_asgT ok (names_of ok h1.1.1) h1.1.2 h1.2 (p1 Fa e sx X _ ok h2).1)
      · cases h1
    · cases h
  | setattr o f e =>
    intro sx X sts ok h
    simp only [ckSs] at h
    split at h
    · rename_i e1
      simp only [Bool.and_eq_true, Bool.not_eq_true', decide_eq_true_eq] at h
      obtain ⟨⟨⟨⟨rfl, h1⟩, h2⟩, h3⟩, h4⟩ := h
      exact q1_of e1 (ls_setattr ok (Fa.at_ f h1) h2 (p1 Fa o sx X _ ok h3).1 (p1 Fa e sx X _ ok h4).1)
    · cases h
  | setidx o i e =>
    intro sx X sts ok h
    simp only [ckSs] at h
    split at h
    · rename_i e1
      simp only [Bool.and_eq_true, Bool.not_eq_true'] at h
      obtain ⟨⟨⟨⟨⟨h1, h2⟩, h3⟩, h4⟩, h5⟩, h6⟩ := h
      exact q1_of e1 (ls_setidx ok h1 h2 h3 (p1 Fa o sx X _ ok h4).1 (p1 Fa i sx X _ ok h5).1 (p1 Fa e sx X _ ok h6).1)
    · cases h
  | aug i op e =>
    intro sx X sts ok h
    simp only [ckSs] at h
    split at h
    · rename_i e1
      simp only [Bool.and_eq_true, decide_eq_true_eq] at h
      obtain ⟨⟨rfl, h1⟩, h2⟩ := h
      exact q1_of e1 (ls_aug op (by rw [ok.hN]; exact ok.nd) (sto_of ok h1) (p1 Fa e sx X _ ok h2).1)
    · cases h
  | augattr o f op e =>
    intro sx X sts ok h
    simp only [ckSs] at h
    split at h
    · rename_i e1
      simp only [Bool.and_eq_true, decide_eq_true_eq] at h
      obtain ⟨⟨⟨⟨rfl, rfl⟩, h1⟩, h2⟩, h3⟩ := h
      exact q1_of e1 (ls_augattr op ok (Fa.at_ f h1) (p1 Fa o sx X _ ok h2).1 (p1 Fa e sx X _ ok h3).1)
    · cases h
  | ite c a b iha ihb =>
    intro sx X sts ok h
    simp only [ckSs] at h
    split at h
    · rename_i e1
      simp only [Bool.and_eq_true] at h
      rw [evS_ite]
      exact q1_of e1 (ls_ite (p1 Fa c sx X _ ok h.1.1).2.1 (iha sx X _ ok h.1.2).1 (ihb sx X _ ok h.2).1)
    · cases h
  | «while» c b ihb =>
    intro sx X sts ok h
    simp only [ckSs] at h
    split at h
    · rename_i e1
      simp only [Bool.and_eq_true] at h
      rw [evS_while]
      exact q1_of e1 (ls_while ok.hxe (p1 Fa c sx X _ ok h.1).2.1 (ihb sx X _ ok h.2).1)
    · cases h
  | «for» p it b ihb =>
    intro sx X sts ok h
    simp only [ckSs] at h
    split at h
    · rename_i e1
      simp only [Bool.and_eq_true, Bool.not_eq_true'] at h
      rw [evS_for]
      exact q1_of e1 (ls_for ok h.1.1.1 (p3 Fa it sx X _ ok h.1.1.2 _) (pat_of ok h.1.2) (ihb sx X _ ok h.2).1)
    · cases h
  | ret e =>
    intro sx X sts ok h
    simp only [ckSs] at h
    split at h
    · rename_i e1
      exact q1_of e1 (ls_ret (p1 Fa e sx X _ ok h).1)
    · rename_i e1
      rw [isNon_of h]
      exact q1_of e1 ls_retN
    · cases h
  | brk =>
    intro sx X sts ok h
    simp only [ckSs] at h
    split at h
    · rename_i e1; exact q1_of e1 ls_brk
    · cases h
  | cont =>
    intro sx X sts ok h
    simp only [ckSs] at h
    split at h
    · rename_i e1; exact q1_of e1 ls_cont
    · cases h
end
end Pw

end
section
set_option maxHeartbeats 2000000
/-! Snd19: functions: what a call leaves behind; the promise of a def. -/
namespace Pw
open PySem PySem.Spec PyProof.Rows L2

section
variable {C : PC} {α α' : List Addr} {M M' : Mem} {H H' : Hp}
mutual
theorem RD.belN {sa : Addr} : ∀ {d : D} {v : V}, RD sa α H d v → d.bel α.length = true
  | _, _, .non => by simp [D.bel]
  | _, _, .bl b => by simp [D.bel]
  | _, _, .int i => by simp [D.bel]
  | _, _, .str h => by simp [D.bel]
  | _, _, .tup h r => by simp only [D.bel]; exact RDs.belN r
  | _, _, .ref h => by simp only [D.bel, decide_eq_true_eq]; exact (List.getElem?_eq_some_iff.mp h).1
  | _, _, .scr => by simp [D.bel]
theorem RDs.belN {sa : Addr} : ∀ {d : List D} {v : List V}, RDs sa α H d v → D.bels α.length d = true
  | _, _, .nil => by simp [D.bels]
  | _, _, .cons h r => by simp only [D.bels, Bool.and_eq_true]; exact ⟨RD.belN h, RDs.belN r⟩
end
theorem RF.belN {sa : Addr} : ∀ {fs : List (String × D)} {vs : List (Str × V)}, RF sa α H fs vs → fs.all (fun p => p.2.bel α.length) = true
  | _, _, .nil => rfl
  | _, _, .cons h r => by simp only [List.all_cons, Bool.and_eq_true]; exact ⟨h.belN, RF.belN r⟩
theorem RK.belN {sa : Addr} : ∀ {fs : List (D × D)} {vs : List (D × V × V)}, RK sa α H fs vs → fs.all (fun p => p.1.bel α.length && p.2.bel α.length) = true
  | _, _, .nil => rfl
  | _, _, .cons h h2 r => by simp only [List.all_cons, Bool.and_eq_true]; exact ⟨⟨h.belN, h2.belN⟩, RK.belN r⟩
theorem RO.belN {a : Addr} {o : MO} {ho : HO} (r : RO C α H a o ho) : o.bel α.length = true := by
  cases r with
  | lst h => exact h.belN
  | dic h _ _ _ _ => exact h.belN
  | ins _ h => exact h.belN
mutual
theorem RD.narrow {sa : Addr} {n : Nat} : ∀ {d : D} {v : V}, RD sa α H d v → d.bel n = true → RD sa (α.take n) H d v
  | _, _, .non, _ => .non
  | _, _, .bl b, _ => .bl b
  | _, _, .int i, _ => .int i
  | _, _, .str h, _ => .str h
  | _, _, .tup h r, hb => .tup h (RDs.narrow r (by simpa only [D.bel] using hb))
  | _, _, .ref h, hb => .ref (by rw [List.getElem?_take_of_lt (by simpa only [D.bel, decide_eq_true_eq] using hb)]; exact h)
  | _, _, .scr, _ => .scr
theorem RDs.narrow {sa : Addr} {n : Nat} : ∀ {d : List D} {v : List V}, RDs sa α H d v → D.bels n d = true → RDs sa (α.take n) H d v
  | _, _, .nil, _ => .nil
  | _, _, .cons h r, hb => by
    simp only [D.bels, Bool.and_eq_true] at hb
    exact .cons (RD.narrow h hb.1) (RDs.narrow r hb.2)
end
theorem RF.narrow {sa : Addr} {n : Nat} : ∀ {fs : List (String × D)} {vs : List (Str × V)}, RF sa α H fs vs → fs.all (fun p => p.2.bel n) = true → RF sa (α.take n) H fs vs
  | _, _, .nil, _ => .nil
  | _, _, .cons h r, hb => by
    simp only [List.all_cons, Bool.and_eq_true] at hb
    exact .cons (h.narrow hb.1) (RF.narrow r hb.2)
theorem RK.narrow {sa : Addr} {n : Nat} : ∀ {fs : List (D × D)} {vs : List (D × V × V)}, RK sa α H fs vs → fs.all (fun p => p.1.bel n && p.2.bel n) = true → RK sa (α.take n) H fs vs
  | _, _, .nil, _ => .nil
  | _, _, .cons h h2 r, hb => by
    simp only [List.all_cons, Bool.and_eq_true] at hb
    exact .cons (h.narrow hb.1.1) (h2.narrow hb.1.2) (RK.narrow r hb.2)
theorem RO.narrow {n : Nat} {a : Addr} {o : MO} {ho : HO} (r : RO C α H a o ho) (hb : o.bel n = true) : RO C (α.take n) H a o ho := by
  cases r with
  | lst h => exact .lst (h.narrow hb)
  | dic h h2 h3 h4 h5 => exact .dic (h.narrow hb) h2 h3 h4 h5
  | ins h0 h => exact .ins h0 (h.narrow hb)
theorem oldOk_get {n : Nat} : ∀ {M M' : Mem}, oldOk n M M' = true → ∀ (m : Nat) (o' : MO), m < M.length → M'[m]? = some o' → (∃ o, M[m]? = some o ∧ o = o') ∨ o'.bel n = true
  | [], _, _, m, o', h, _ => absurd h (by simp)
  | o :: M, [], h, m, o', _, e => by cases e
  | o :: M, o1 :: M', h, m, o', hm, e => by
    simp only [oldOk, Bool.and_eq_true, Bool.or_eq_true, decide_eq_true_eq] at h
    cases m with
    | zero =>
      cases e
      rcases h.1 with h | h
      · exact .inl ⟨o, rfl, h⟩
      · exact .inr h
    | succ m => exact oldOk_get h.2 m o' (by simpa using hm) (by simpa using e)
theorem gc_ok {d : D} {v : V} (s : RS C α M H) (t : Step α α' H H') (s' : RS C α' M' H') (r : RD C.sa α' H' d v) : ∃ α2, Step α α2 H H' ∧ RS C α2 (gc M d M').2 H' ∧ RD C.sa α2 H' (gc M d M').1 v := by
  have htake : α'.take M.length = α := by
    obtain ⟨q, rfl⟩ := t.pre
    rw [← s.len, List.take_left]
  have back : oldOk M.length M M' = true → Step α α H H' ∧ RS C α (M'.take M.length) H' := by
    intro ho
    refine ⟨⟨⟨[], by simp⟩, fun a ha => .inl ha, t.frame⟩, ?_⟩
    have := s'.forget M.length fun m o hm e a ho' ha ro => ?_
    · rw [htake] at this; exact this
    · refine ro.narrow ?_
      rcases oldOk_get ho m o hm e with ⟨o1, e1, e2⟩ | hb
      · subst e2
        obtain ⟨a1, h1, _, _, ro1⟩ := s.ob m o1 e1
        rw [← s.len]
        exact ro1.belN
      · exact hb
  unfold gc
  split
  · rename_i ho
    obtain ⟨t1, s1⟩ := back ho
    split
    · rename_i hb
      refine ⟨α, t1, s1, ?_⟩
      have := r.narrow hb
      rw [htake] at this
      exact this
    · rename_i hb
      split
      · rename_i n
        split
        · rename_i o e
          split
          · rename_i hob
            cases r with
            | @ref n a ha =>
              obtain ⟨a', hho, h1, h2, ro⟩ := s'.ob n o e
              rw [ha] at h1
              cases h1
              have hn : ¬ n < M.length := by simpa [D.bel] using hb
              have hout : a ∉ α := by
                intro hm
                obtain ⟨j, hj, ej⟩ := List.getElem_of_mem hm
                have e1 : α'[j]? = some a := t.get (by rw [List.getElem?_eq_getElem hj, ej])
                have := (List.getElem?_inj (List.getElem?_eq_some_iff.mp ha).1 s'.nd).mp (ha.trans e1.symm)
                have := s.len
                omega
              have hs : ScD C a := by
                rcases s'.sc with ⟨_, hno⟩ | hk
                · exact .inl fun z => hno (z ▸ List.mem_of_getElem? ha)
                · exact .inr hk
              have hnone : H a = none := by
                rcases t.new a (List.mem_of_getElem? ha) with z | z
                · exact absurd z hout
                · exact z
              have ro2 := ro.narrow hob
              rw [htake] at ro2
              refine ⟨α ++ [a], t1.adopt hnone, s1.adopt hout hs h2 ro2, .ref ?_⟩
              rw [List.getElem?_append_right (by rw [s.len]; exact Nat.le_refl _)]
              simp [s.len]
          · exact ⟨α', t, s', r⟩
        · exact ⟨α', t, s', r⟩
      · exact ⟨α', t, s', r⟩
  · exact ⟨α', t, s', r⟩
end

/-! ### the names at the entry -/
theorem start_at {sa : Addr} {α : List Addr} {H : Hp} {xs : List D} {vs : List V} (r : RDs sa α H xs vs) (m : Nat) : RE sa α H (xs.map some ++ List.replicate m none) (vs.map some ++ List.replicate m none) := by
  refine ⟨by simp [r.length], fun i d e => ?_⟩
  by_cases hi : i < xs.length
  · rw [List.getElem?_append_left (by simpa using hi), List.getElem?_map] at e
    cases q : xs[i]? with
    | none => rw [q] at e; cases e
    | some x =>
      rw [q] at e
      cases e
      obtain ⟨v, h1, h2⟩ := r.get q
      exact ⟨v, by rw [List.getElem?_append_left (by rw [List.length_map, ← r.length]; exact hi), List.getElem?_map, h1]; rfl, h2⟩
  · rw [List.getElem?_append_right (by simpa using hi), List.getElem?_replicate] at e
    split at e <;> cases e

section
variable {C : PC} {k : Nat} {T : Tb} {wl n : Nat} {key : FK} {fd : FDef}
theorem fn_snd {f : Addr} {name qual : Str} {params : Arguments} {body : List Stmt} {scope : Scope} {dV kV doc pm cdv ct oc : Value} {an od : Option Addr} {osl : Array (Option Value)} {N ps : List Str}
    (lk : C.K.lookup f = some ⟨oc, od, .func (PySem.W.fnOf name qual params body scope dV kV doc pm an cdv ct), osl⟩) (hcd : PySem.W.codeIn C.K cdv qual = true) (Sc : FnScope N ps scope)
    (hfd : C.P.fdef key = some fd) (hp : ps.length = fd.params) (hs : N.length = fd.slots) (hk : ckSs T fd.body ⟨N, scope, fun _ => true⟩ body = true) (Fa : Facts C k ⟨C.P, evF C.P wl n, wl⟩ T) :
    FnOk C.prog C.w C.K C.mg C.base CXn (k + 1) f (PySem.W.fnOf name qual params body scope dV kV doc pm an cdv ct) ps (spF C (evF C.P wl (n + 1) key) fd.params) := by
  refine fn_of lk hcd Sc (fun vs H Q E h => by rw [hp]; exact h.1) fun A outer s H vs Q E hr hsp => ?_
  obtain ⟨hl, α, M, xs, d, M', S, rs, h, q⟩ := hsp
  have ok : OkX C k ⟨N, scope, fun _ => true⟩ (cxOf CXn C.prog C.w C.K C.mg C.base N qual scope f cdv A outer s H E).nox := ⟨rfl, rfl, rfl, rfl, rfl, rfl, Sc.nd, rfl, rfl, rfl, hr, rfl⟩
  refine ⟨_, PSs.nox ((snd_s Fa fd.body _ _ body ok hk).1), ?_⟩
  unfold evF at h
  rw [hfd] at h
  simp only at h
  split at h
  · rename_i hx
    have e1 : L2.start N vs = vs.map some ++ List.replicate (fd.slots - fd.params) none := by
      unfold L2.start
      rw [hs, ← rs.length, hx]
    rw [e1]
    have fin : ∀ {o : Out} {M2 : Mem} {d0 : D}, evS ⟨C.P, evF C.P wl n, wl⟩ fd.body (xs.map some ++ List.replicate (fd.slots - fd.params) none) M = some (o, M2) → some (gc M d0 M2) = some (d, M') → ∀ α' v H', Step α α' H H' → RS C α' M2 H' → RD C.sa α' H' d0 v → Q v H' := by
      intro o M2 d0 _ e2 α' v H' t s' r
      obtain ⟨α2, t2, s2, r2⟩ := gc_ok S t s' r
      have e3 := Option.some.inj e2
      rw [e3] at s2 r2
      exact q α2 v H' t2 s2 r2
    cases ho : evS ⟨C.P, evF C.P wl n, wl⟩ fd.body (xs.map some ++ List.replicate (fd.slots - fd.params) none) M with
    | none => rw [ho] at h; cases h
    | some p =>
      obtain ⟨o, M2⟩ := p
      rw [ho] at h
      refine ⟨α, _, M, o, M2, S, start_at rs _, ho, fun α' H' t s' => ?_⟩
      cases o with
      | rt d0 => exact fun v r => fin ho h α' v H' t s' r
      | nx ρ => exact fun σ _ => fin ho h α' .non H' t s' .non
      | bk ρ => cases h
      | ct ρ => cases h
  · cases h
end
end Pw

end
section
set_option maxHeartbeats 2000000
/-! Snd20: all functions of a law together, by fuel; the law's promise. -/
namespace Pw
open PySem PySem.Spec PyProof.Rows L2

section
variable {C : PC} {T : Tb} {wl n k : Nat} {key : FK} {fd : FDef}
/-- the def at a is the evaluator's fd -/
structure FnD (C : PC) (T : Tb) (fd : FDef) (a : Addr) : Prop where
  ok : ∃ (name qual : Str) (params : Arguments) (body : List Stmt) (scope : Scope) (dV kV doc pm cdv ct oc : Value) (an od : Option Addr) (osl : Array (Option Value)) (N ps : List Str),
    C.K.lookup a = some ⟨oc, od, .func (PySem.W.fnOf name qual params body scope dV kV doc pm an cdv ct), osl⟩ ∧ PySem.W.codeIn C.K cdv qual = true ∧ FnScope N ps scope ∧ ps.length = fd.params ∧ N.length = fd.slots ∧
    ckSs T fd.body ⟨N, scope, fun _ => true⟩ body = true ∧ Binds C.K (PySem.W.fnOf name qual params body scope dV kV doc pm an cdv ct) ps []
theorem evF_len {P : Prog} {xs : List D} {M : Mem} {r : D × Mem} (hfd : P.fdef key = some fd) (h : evF P wl (n + 1) key xs M = some r) : xs.length = fd.params := by
  unfold evF at h
  rw [hfd] at h
  simp only at h
  split at h
  · assumption
  · cases h
theorem evF_no {P : Prog} (hfd : P.fdef key = none) (xs : List D) (M : Mem) : evF P wl (n + 1) key xs M = none := by
  unfold evF
  rw [hfd]
theorem FnD.fnc {a : Addr} (d : FnD C T fd a) (hfd : C.P.fdef key = some fd) (Fa : Facts C k ⟨C.P, evF C.P wl n, wl⟩ T) : FnC C (k + 1) (evF C.P wl (n + 1) key) fd.params a := by
  obtain ⟨name, qual, params, body, scope, dV, kV, doc, pm, cdv, ct, oc, an, od, osl, N, ps, h1, h2, h3, h4, h5, h6, h7⟩ := d.ok
  exact ⟨_, ps, fn_snd h1 h2 h3 hfd h4 h5 h6 Fa, h7, fun xs M r h => evF_len hfd h⟩
theorem FnC.mono {j k : Nat} {call : List D → Mem → R D} {m : Nat} {a : Addr} (h : FnC C j call m a) (hjk : j ≤ k) : FnC C k call m a := by
  obtain ⟨fd, ps, h1, h2, h3⟩ := h.ok
  exact ⟨fd, ps, h1.mono hjk, h2, h3⟩
structure LawF (C : PC) (T : Tb) : Prop where
  fn : ∀ f fd, C.P.fdef (.fn f) = some fd → ∃ a, C.mg (Str.ofString f) = some (.ref a) ∧ PySem.W.keepIn C.K (.ref a) = true ∧ FnD C T fd a
  mt : ∀ c m fd, C.P.fdef (.mth c m) = some fd → m ≠ "__init__" → ∃ Ca a, C.ca c = some Ca ∧ Cls C.K Ca ∧ Meth C.K Ca (Str.ofString m) a ∧ FnD C T fd a
  ini : ∀ c fd, C.P.fdef (.mth c "__init__") = some fd → ∃ Ca a, C.ca c = some Ca ∧ C.mg (Str.ofString c) = some (.ref Ca) ∧ Mk C.K Ca a ∧ FnD C T fd a
  noIni : T.mts.contains "__init__" = false
  at_ : ∀ f, T.ats.contains f = true → AtOk C f
  gl : ∀ x d, C.P.glob x = some d → GlOk C x d
  bu : ∀ x, ["len", "str", "int", "bool", "max", "min", "isinstance", "tuple", "list", "range", "enumerate", "zip", "sorted", "set", "sum", "dict", "any", "all"].contains x = true → C.mg (Str.ofString x) = none
theorem facts (L : LawF C T) : ∀ n : Nat, Facts C (2 * n + 1) ⟨C.P, evF C.P wl n, wl⟩ T := by
  intro n
  induction n with
  | zero => exact ⟨rfl, fun f _ => ⟨.inl fun _ _ => rfl⟩, fun c _ => ⟨0, by omega, ⟨.inl fun _ _ => rfl⟩⟩, L.at_, fun m _ => ⟨fun c Ca _ => .inl fun _ _ => rfl⟩, L.gl, L.bu⟩
  | succ n ih =>
    refine ⟨rfl, fun f _ => ?_, fun c _ => ⟨2 * n + 2, by omega, ?_⟩, L.at_, fun m hm => ⟨fun c Ca hc => ?_⟩, L.gl, L.bu⟩
    · cases e : C.P.fdef (.fn f) with
      | none => exact ⟨.inl fun xs M => evF_no e xs M⟩
      | some fd =>
        obtain ⟨a, h1, h2, h3⟩ := L.fn f fd e
        exact ⟨.inr ⟨a, fd.params, h1, h2, (h3.fnc e ih).mono (by omega)⟩⟩
    · cases e : C.P.fdef (.mth c "__init__") with
      | none => exact ⟨.inl fun xs M => evF_no e xs M⟩
      | some fd =>
        obtain ⟨Ca, a, h1, h2, h3, h4⟩ := L.ini c fd e
        exact ⟨.inr ⟨Ca, a, fd.params, h1, h2, h3, h4.fnc e ih⟩⟩
    · cases e : C.P.fdef (.mth c m) with
      | none => exact .inl fun xs M => evF_no e xs M
      | some fd =>
        have hne : m ≠ "__init__" := fun z => by
          subst z
          rw [L.noIni] at hm
          cases hm
        obtain ⟨Ca2, a, h1, h2, h3, h4⟩ := L.mt c m fd e hne
        rw [hc] at h1
        cases h1
        exact .inr ⟨h2, a, fd.params, h3, (h4.fnc e ih).mono (by omega)⟩
end

/-! ### the law -/
def spLaw (K : PySem.W.Frag) : Sp := fun vs H Q _ => ∃ (a : Addr) (ns : List Int), vs = [.ref a] ∧ SqL K H a (ns.map V.int) ∧ ns.length ≤ 63 ∧ ∀ H', Q (.bl true) H'
theorem law_ok {P : Program} {w : World} {K : PySem.W.Frag} {mg : Str → Option Value} {base : Heap} {ca : String → Option Addr} {pr : List Int → Prog} {T : Tb} {fd0 : FDef} {wl n : Nat}
    (hL : ∀ sa ns, LawF ⟨P, K, w, sa, ca, pr ns, mg, base⟩ T) (hsc : ∀ ns, (pr ns).script = ns) (hlaw : ∀ ns, (pr ns).fdef (.fn "law") = some fd0)
    {f : Addr} {name qual : Str} {params : Arguments} {body : List Stmt} {scope : Scope} {dV kV doc pm cdv ct oc : Value} {an od : Option Addr} {osl : Array (Option Value)} {N : List Str} {x : Str}
    (lk : K.lookup f = some ⟨oc, od, .func (PySem.W.fnOf name qual params body scope dV kV doc pm an cdv ct), osl⟩) (hcd : PySem.W.codeIn K cdv qual = true) (Sc : FnScope N [x] scope)
    (hp : 1 = fd0.params) (hs : N.length = fd0.slots) (hk : ckSs T fd0.body ⟨N, scope, fun _ => true⟩ body = true)
    (hrun : ∀ ns : List Int, ns.length ≤ 63 → ∃ M, evF (pr ns) wl (n + 1) (.fn "law") [.scr] [] = some (.bl true, M)) :
    FnOk P w K mg base CXn (2 * n + 2) f (PySem.W.fnOf name qual params body scope dV kV doc pm an cdv ct) [x] (spLaw K) := by
  refine ⟨fun vs H Q E h => by obtain ⟨a, ns, rfl, _⟩ := h; rfl, fun A outer s H args us vs Q E hr e0 hb hv h => ?_⟩
  obtain ⟨a, ns, rfl, hS, hlen, q⟩ := h
  have L := hL a ns
  have F := fn_snd (C := ⟨P, K, w, a, ca, pr ns, mg, base⟩) (key := .fn "law") (wl := wl) lk hcd Sc (hlaw ns) hp hs hk (facts L n)
  obtain ⟨M, hM⟩ := hrun ns hlen
  refine F.run A outer s H args us [.ref a] Q E hr e0 hb hv ⟨hp, [], [], [.scr], .bl true, M, ⟨rfl, List.nodup_nil, (fun m o e => by simp at e), ?_⟩, .cons .scr .nil, hM, fun α' v H' _ _ r => ?_⟩
  · show ScOk ⟨P, K, w, a, ca, pr ns, mg, base⟩ [] H
    unfold ScOk
    show (Rd H a (.lst ((pr ns).script.map V.int)) ∧ a ∉ ([] : List Addr)) ∨ ∃ (o : Obj) (its : Array Value) (n : Nat), K.lookup a = some o ∧ o.cls = .type "list" ∧ o.dict = none ∧ o.data = .seq its n ∧ its.size ≤ sizeLine ∧ Vals ((pr ns).script.map V.int) its.toList
    rw [hsc]
    rcases hS with h | h
    · exact .inl ⟨h, by simp⟩
    · exact .inr h
  · cases r
    exact q H'
end Pw
namespace Pw
open PySem PySem.Spec PyProof.Rows L2
/-- each entry of the table -/
inductive AllF (Q : FK → FDef → Prop) : List (FK × FDef) → Prop where
  | nil : AllF Q []
  | cons {k : FK} {fd : FDef} {l : List (FK × FDef)} : Q k fd → AllF Q l → AllF Q ((k, fd) :: l)
theorem AllF.get {Q : FK → FDef → Prop} {k : FK} {fd : FDef} : ∀ {l : List (FK × FDef)}, AllF Q l → l.lookup k = some fd → Q k fd
  | _, .nil, h => by cases h
  | _, .cons (k := j) q r, h => by
    rw [List.lookup_cons] at h
    split at h
    · rename_i e
      cases h
      rw [eq_of_beq e]
      exact q
    · exact AllF.get r h
def Qf (C : PC) (T : Tb) : FK → FDef → Prop
  | .fn f, fd => ∃ a, C.mg (Str.ofString f) = some (.ref a) ∧ PySem.W.keepIn C.K (.ref a) = true ∧ FnD C T fd a
  | .mth c m, fd => if m = "__init__" then ∃ Ca a, C.ca c = some Ca ∧ C.mg (Str.ofString c) = some (.ref Ca) ∧ Mk C.K Ca a ∧ FnD C T fd a
    else ∃ Ca a, C.ca c = some Ca ∧ Cls C.K Ca ∧ Meth C.K Ca (Str.ofString m) a ∧ FnD C T fd a
theorem lookup_mem {β : Type} {x : String} {d : β} : ∀ {l : List (String × β)}, l.lookup x = some d → (x, d) ∈ l
  | [], h => by cases h
  | (y, e) :: l, h => by
    rw [List.lookup_cons] at h
    split at h
    · rename_i q
      cases h
      rw [eq_of_beq q]
      exact List.mem_cons_self
    · exact List.mem_cons_of_mem _ (lookup_mem h)
theorem lawF_of {C : PC} {T : Tb} {tbl : List (FK × FDef)} (h : AllF (Qf C T) tbl) (hP : C.P.fdef = fun k => tbl.lookup k) (h1 : ∀ f, T.ats.contains f = true → AtOk C f) (h2 : ∀ x d, C.P.glob x = some d → GlOk C x d)
    (h3 : ∀ x, ["len", "str", "int", "bool", "max", "min", "isinstance", "tuple", "list", "range", "enumerate", "zip", "sorted", "set", "sum", "dict", "any", "all"].contains x = true → C.mg (Str.ofString x) = none) (h4 : T.mts.contains "__init__" = false := by rfl) : LawF C T := by
  refine ⟨fun f fd e => ?_, fun c m fd e hm => ?_, fun c fd e => ?_, h4, h1, h2, h3⟩
  · rw [hP] at e
    exact h.get e
  · rw [hP] at e
    have := h.get e
    simp only [Qf, if_neg hm] at this
    exact this
  · rw [hP] at e
    have := h.get e
    simp only [Qf, if_true] at this
    exact this
end Pw

end
section
namespace Pw
/-! row=0 number=1 -/
def F.at : FDef := ⟨2, 2,
  (.ret (.ite (.cmp .lt (.var 1) (.bi .len (.cons (.var 0) .nil))) (.idx (.var 0) (.var 1)) (.int (0))))⟩
/-! expression=0 scope=1 looked=2 kind=3 first=4 second=5 chosen=6 -/
def F.value : FDef := ⟨3, 7,
  (.seq (.asg (.name 3) (.idx (.var 0) (.int (0))))
  (.seq (.ite (.cmp .eq (.var 3) (.str "num"))
  (.ret (.idx (.var 0) (.int (1))))
  .skip)
  (.seq (.ite (.cmp .eq (.var 3) (.str "index"))
  (.ret (.idx (.var 1) (.int (4))))
  .skip)
  (.seq (.ite (.cmp .eq (.var 3) (.str "cell"))
  (.ret (.call "at" (.cons (.idx (.var 1) (.int (1))) (.cons (.idx (.var 0) (.int (1))) .nil))))
  .skip)
  (.seq (.ite (.cmp .eq (.var 3) (.str "prop"))
  (.ret (.call "at" (.cons (.idx (.var 1) (.int (2))) (.cons (.idx (.var 0) (.int (1))) .nil))))
  .skip)
  (.seq (.ite (.cmp .eq (.var 3) (.str "store"))
  (.seq (.ite (.cmp .lt (.idx (.var 0) (.int (1))) (.bi .len (.cons (.idx (.var 1) (.int (3))) .nil)))
  (.expr (.bm .append (.var 2) (.cons (.idx (.var 0) (.int (1))) .nil)))
  .skip)
  (.ret (.call "at" (.cons (.idx (.var 1) (.int (3))) (.cons (.idx (.var 0) (.int (1))) .nil)))))
  .skip)
  (.seq (.ite (.cmp .eq (.var 3) (.str "if"))
  (.seq (.asg (.name 6) (.ite (.cmp .ne (.call "value" (.cons (.idx (.var 0) (.int (1))) (.cons (.var 1) (.cons (.var 2) .nil)))) (.int (0))) (.idx (.var 0) (.int (2))) (.idx (.var 0) (.int (3)))))
  (.ret (.call "value" (.cons (.var 6) (.cons (.var 1) (.cons (.var 2) .nil))))))
  .skip)
  (.seq (.asg (.name 4) (.call "value" (.cons (.idx (.var 0) (.int (1))) (.cons (.var 1) (.cons (.var 2) .nil)))))
  (.seq (.asg (.name 5) (.call "value" (.cons (.idx (.var 0) (.int (2))) (.cons (.var 1) (.cons (.var 2) .nil)))))
  (.seq (.ite (.cmp .eq (.var 3) (.str "plus"))
  (.ret (.bin .mod (.bin .add (.var 4) (.var 5)) (.glob "WHOLE")))
  .skip)
  (.seq (.ite (.cmp .eq (.var 3) (.str "minus"))
  (.ret (.bin .mod (.bin .sub (.var 4) (.var 5)) (.glob "WHOLE")))
  .skip)
  (.seq (.ite (.cmp .eq (.var 3) (.str "same"))
  (.ret (.ite (.cmp .eq (.var 4) (.var 5)) (.int (1)) (.int (0))))
  .skip)
  (.ret (.ite (.cmp .lt (.var 4) (.var 5)) (.int (1)) (.int (0))))))))))))))))⟩
/-! _law_script=0 _law_k=1 -/
def F.L_cell : FDef := ⟨2, 2,
  (.seq (.ite (.cmp .lt (.var 1) (.bi .len (.cons (.var 0) .nil)))
  (.ret (.idx (.var 0) (.var 1)))
  .skip)
  (.ret (.int (0))))⟩
/-! _law_script=0 _law_first=1 _law_last=2 _law_digits_here=3 _law_k=4 _law_cell_here=5 _law_turn=6 _law_seed=7 -/
def F.L_digits : FDef := ⟨3, 8,
  (.seq (.asg (.name 3) (.lst .nil))
  (.seq (.for (.name 4) (.range (.cons (.var 1) (.cons (.var 2) .nil)))
  (.seq (.asg (.name 5) (.call "_law_cell" (.cons (.var 0) (.cons (.var 4) .nil))))
  (.seq (.ite (.cmp .lt (.var 5) (.int (0)))
  (.asg (.name 5) (.bin .sub (.int (1)) (.bin .mul (.int (2)) (.var 5))))
  .skip)
  (.ite (.cmp .ge (.var 5) (.bin .pow (.int (10)) (.int (18))))
  (.for (.name 6) (.range (.cons (.int (60)) .nil))
  (.ite (.cmp .gt (.var 5) (.int (0)))
  (.seq (.expr (.bm .append (.var 3) (.cons (.bin .mod (.bi .int (.cons (.var 5) .nil)) (.int (1000))) .nil)))
  (.asg (.name 5) (.bin .fdiv (.var 5) (.int (1000)))))
  .skip))
  (.seq (.asg (.name 7) (.bin .mod (.bi .int (.cons (.bin .add (.bin .add (.bin .mul (.var 5) (.int (48271))) (.bin .mul (.var 4) (.int (69621)))) (.int (11))) .nil)) (.int (2147483647))))
  (.for (.name 6) (.range (.cons (.int (12)) .nil))
  (.seq (.asg (.name 7) (.bin .mod (.bi .int (.cons (.bin .add (.bin .add (.bin .mul (.var 7) (.int (16807))) (.bin .mul (.int (7)) (.var 6))) (.int (1))) .nil)) (.int (2147483647))))
  (.expr (.bm .append (.var 3) (.cons (.bin .mod (.bi .int (.cons (.bin .fdiv (.var 7) (.int (997))) .nil)) (.int (1000))) .nil))))))))))
  (.ret (.var 3))))⟩
/-! _law_box=0 _law_many=1 _law_at=2 -/
def F.L_draw_2 : FDef := ⟨2, 3,
  (.seq (.asg (.name 2) (.idx (.var 0) (.int (1))))
  (.seq (.setidx (.var 0) (.int (1)) (.bin .add (.var 2) (.int (1))))
  (.seq (.ite (.cmp .lt (.var 2) (.bi .len (.cons (.idx (.var 0) (.int (0))) .nil)))
  (.ret (.bin .mod (.bi .int (.cons (.idx (.idx (.var 0) (.int (0))) (.var 2)) .nil)) (.var 1)))
  .skip)
  (.ret (.int (0))))))⟩
/-! _law_actual=0 _law_expected=1 _law_k=2 -/
def F.L_same : FDef := ⟨2, 3,
  (.seq (.ite (.isi (.var 1) .tuple)
  (.seq (.ite (.or (.no (.isi (.var 0) .tuple)) (.cmp .ne (.bi .len (.cons (.var 0) .nil)) (.bi .len (.cons (.var 1) .nil))))
  (.ret (.bl false))
  .skip)
  (.seq (.for (.name 2) (.range (.cons (.bi .len (.cons (.var 1) .nil)) .nil))
  (.ite (.no (.call "_law_same" (.cons (.idx (.var 0) (.var 2)) (.cons (.idx (.var 1) (.var 2)) .nil))))
  (.ret (.bl false))
  .skip))
  (.ret (.bl true))))
  .skip)
  (.seq (.ite (.isN (.var 1))
  (.ret (.isN (.var 0)))
  .skip)
  (.seq (.ite (.isi (.var 1) .bool)
  (.ret (.and (.isi (.var 0) .bool) (.cmp .eq (.var 0) (.var 1))))
  .skip)
  (.seq (.ite (.isi (.var 1) .int)
  (.ret (.and (.isi (.var 0) .int) (.and (.no (.isi (.var 0) .bool)) (.cmp .eq (.var 0) (.var 1)))))
  .skip)
  (.ret (.and (.isi (.var 0) .str) (.cmp .eq (.var 0) (.var 1))))))))⟩
/-! _law_box=0 _law_depth=1 _law_kind=2 _law_one=3 _law_two=4 _law_leaves=5 -/
def F.L_wide : FDef := ⟨2, 6,
  (.seq (.asg (.name 2) (.call "_law_draw" (.cons (.var 0) (.cons (.int (12)) .nil))))
  (.seq (.ite (.or (.cmp .eq (.var 1) (.int (0))) (.cmp .lt (.var 2) (.int (6))))
  (.seq (.asg (.name 5) (.lst (.cons (.tup (.cons (.str "num") (.cons (.call "_law_draw" (.cons (.var 0) (.cons (.int (4)) .nil))) .nil))) (.cons (.tup (.cons (.str "num") (.cons (.bin .add (.int (996)) (.call "_law_draw" (.cons (.var 0) (.cons (.int (4)) .nil)))) .nil))) (.cons (.tup (.cons (.str "cell") (.cons (.call "_law_draw" (.cons (.var 0) (.cons (.int (5)) .nil))) .nil))) (.cons (.tup (.cons (.str "prop") (.cons (.call "_law_draw" (.cons (.var 0) (.cons (.int (4)) .nil))) .nil))) (.cons (.tup (.cons (.str "store") (.cons (.call "_law_draw" (.cons (.var 0) (.cons (.int (4)) .nil))) .nil))) (.cons (.tup (.cons (.str "index") .nil)) .nil))))))))
  (.ret (.idx (.var 5) (.bin .mod (.bi .int (.cons (.var 2) .nil)) (.int (6))))))
  .skip)
  (.seq (.asg (.name 3) (.call "_law_wide" (.cons (.var 0) (.cons (.bin .sub (.var 1) (.int (1))) .nil))))
  (.seq (.asg (.name 4) (.call "_law_wide" (.cons (.var 0) (.cons (.bin .sub (.var 1) (.int (1))) .nil))))
  (.seq (.ite (.cmp .gt (.var 2) (.int (9)))
  (.ret (.tup (.cons (.str "if") (.cons (.var 3) (.cons (.var 4) (.cons (.call "_law_wide" (.cons (.var 0) (.cons (.bin .sub (.var 1) (.int (1))) .nil))) .nil))))))
  .skip)
  (.ret (.tup (.cons (.idx (.lst (.cons (.str "plus") (.cons (.str "minus") (.cons (.str "same") (.cons (.str "less") .nil))))) (.bin .mod (.bi .int (.cons (.var 2) .nil)) (.int (4)))) (.cons (.var 3) (.cons (.var 4) .nil))))))))))⟩
/-! _law_e=0 _law_scope=1 _law_looked=2 _law_one=3 _law_two=4 _law_row=5 -/
def F.L_value : FDef := ⟨3, 6,
  (.seq (.ite (.cmp .eq (.idx (.var 0) (.int (0))) (.str "num"))
  (.ret (.idx (.var 0) (.int (1))))
  .skip)
  (.seq (.ite (.cmp .eq (.idx (.var 0) (.int (0))) (.str "index"))
  (.ret (.idx (.var 1) (.int (3))))
  .skip)
  (.seq (.ite (.cmp .isin (.idx (.var 0) (.int (0))) (.lst (.cons (.str "cell") (.cons (.str "prop") (.cons (.str "store") .nil)))))
  (.seq (.asg (.name 5) (.idx (.var 1) (.bm .index (.lst (.cons (.str "cell") (.cons (.str "prop") (.cons (.str "store") .nil)))) (.cons (.idx (.var 0) (.int (0))) .nil))))
  (.seq (.ite (.cmp .ge (.idx (.var 0) (.int (1))) (.bi .len (.cons (.var 5) .nil)))
  (.ret (.int (0)))
  .skip)
  (.seq (.ite (.cmp .eq (.idx (.var 0) (.int (0))) (.str "store"))
  (.expr (.bm .append (.var 2) (.cons (.idx (.var 0) (.int (1))) .nil)))
  .skip)
  (.ret (.idx (.var 5) (.idx (.var 0) (.int (1))))))))
  .skip)
  (.seq (.asg (.name 3) (.call "_law_value" (.cons (.idx (.var 0) (.int (1))) (.cons (.var 1) (.cons (.var 2) .nil)))))
  (.seq (.ite (.cmp .eq (.idx (.var 0) (.int (0))) (.str "if"))
  (.ret (.call "_law_value" (.cons (.idx (.var 0) (.idx (.lst (.cons (.int (3)) (.cons (.int (2)) .nil))) (.bi .int (.cons (.cmp .ne (.var 3) (.int (0))) .nil)))) (.cons (.var 1) (.cons (.var 2) .nil)))))
  .skip)
  (.seq (.asg (.name 4) (.call "_law_value" (.cons (.idx (.var 0) (.int (2))) (.cons (.var 1) (.cons (.var 2) .nil)))))
  (.seq (.ite (.cmp .eq (.idx (.var 0) (.int (0))) (.str "plus"))
  (.ret (.bin .mod (.bi .int (.cons (.bin .add (.var 3) (.var 4)) .nil)) (.int (1000))))
  .skip)
  (.seq (.ite (.cmp .eq (.idx (.var 0) (.int (0))) (.str "minus"))
  (.ret (.bin .mod (.bi .int (.cons (.bin .sub (.var 3) (.var 4)) .nil)) (.int (1000))))
  .skip)
  (.seq (.ite (.cmp .eq (.idx (.var 0) (.int (0))) (.str "same"))
  (.ret (.bi .int (.cons (.cmp .eq (.var 3) (.var 4)) .nil)))
  .skip)
  (.ret (.bi .int (.cons (.cmp .lt (.var 3) (.var 4)) .nil))))))))))))⟩
/-! _law_script=0 _law_box=1 _law_rows=2 _law_k=3 _law_index=4 _law_many=5 _law_e=6 _law_looked=7 _law_due=8 _law_expected=9 _law_j=10 -/
def F.law_k05 : FDef := ⟨1, 11,
  (.seq (.asg (.name 1) (.lst (.cons (.call "_law_digits" (.cons (.var 0) (.cons (.int (0)) (.cons (.int (63)) .nil)))) (.cons (.int (0)) .nil))))
  (.seq (.asg (.name 2) (.lst .nil))
  (.seq (.for (.name 3) (.range (.cons (.int (3)) .nil))
  (.seq (.asg (.name 5) (.call "_law_draw" (.cons (.var 1) (.cons (.int (4)) .nil))))
  (.expr (.bm .append (.var 2) (.cons (.coll .tuple (.cons (.lcomp (.for1 [10] (.name 10) (.range (.cons (.var 5) .nil)) (.bl true) (.cons (.idx (.lst (.cons (.call "_law_draw" (.cons (.var 1) (.cons (.int (4)) .nil))) (.cons (.call "_law_draw" (.cons (.var 1) (.cons (.int (1000)) .nil))) .nil))) (.call "_law_draw" (.cons (.var 1) (.cons (.int (2)) .nil)))) .nil))) .nil)) .nil)))))
  (.seq (.asg (.name 4) (.call "_law_draw" (.cons (.var 1) (.cons (.int (6)) .nil))))
  (.seq (.for (.name 3) (.range (.cons (.int (6)) .nil))
  (.seq (.asg (.name 6) (.call "_law_wide" (.cons (.var 1) (.cons (.int (3)) .nil))))
  (.seq (.asg (.name 7) (.lst (.cons (.int (7)) .nil)))
  (.seq (.asg (.name 8) (.lst (.cons (.int (7)) .nil)))
  (.seq (.asg (.name 9) (.call "_law_value" (.cons (.var 6) (.cons (.lst (.cons (.idx (.var 2) (.int (0))) (.cons (.idx (.var 2) (.int (1))) (.cons (.idx (.var 2) (.int (2))) (.cons (.var 4) .nil))))) (.cons (.var 8) .nil)))))
  (.seq (.ite (.no (.call "_law_same" (.cons (.call "value" (.cons (.var 6) (.cons (.tup (.cons (.str "scope") (.cons (.idx (.var 2) (.int (0))) (.cons (.idx (.var 2) (.int (1))) (.cons (.idx (.var 2) (.int (2))) (.cons (.var 4) .nil)))))) (.cons (.var 7) .nil)))) (.cons (.var 9) .nil))))
  (.ret (.bl false))
  .skip)
  (.ite (.cmp .ne (.var 7) (.var 8))
  (.ret (.bl false))
  .skip)))))))
  (.ret (.bl true)))))))⟩
end Pw
namespace Pw
def tbl_k05 : List (FK × FDef) := [(.fn "at", F.at),
  (.fn "value", F.value),
  (.fn "_law_cell", F.L_cell),
  (.fn "_law_digits", F.L_digits),
  (.fn "_law_draw", F.L_draw_2),
  (.fn "_law_same", F.L_same),
  (.fn "_law_wide", F.L_wide),
  (.fn "_law_value", F.L_value),
  (.fn "law", F.law_k05)]
def glb_k05 : List (String × D) := [("WHOLE", .int (1000))]
def prog_k05 (script : List Int) : Prog := ⟨fun k => tbl_k05.lookup k, fun x => glb_k05.lookup x, script⟩
end Pw
namespace Pw
def wl_k05 : Nat := 100000
end Pw

end
section
/-! Run: laws of the evaluator's running. -/
namespace Pw
theorem evF_at {P : Prog} {wl n : Nat} {key : FK} {fd : FDef} (h : P.fdef key = some fd) (xs : List D) (hl : xs.length = fd.params) (M : Mem) :
    evF P wl (n + 1) key xs M = retOf M (evS ⟨P, evF P wl n, wl⟩ fd.body (xs.map some ++ List.replicate (fd.slots - fd.params) none) M) := by
  rw [evF, h]
  simp only [if_pos hl]
theorem oldOk_self (n : Nat) : ∀ M : Mem, oldOk n M M = true
  | [] => rfl
  | o :: M => by simp [oldOk, oldOk_self n M]
theorem oldOk_app (n : Nat) (R : Mem) : ∀ M : Mem, oldOk n M (M ++ R) = true
  | [] => by cases R <;> rfl
  | o :: M => by simp [oldOk, oldOk_app n R M]
theorem oldOk_set (n : Nat) (o : MO) (ho : o.bel n = true) : ∀ (M M' : Mem) (b : Nat), oldOk n M M' = true → oldOk n M (M'.set b o) = true
  | [], M', b, _ => by cases M' <;> cases b <;> rfl
  | x :: M, [], b, h => by cases h
  | x :: M, y :: M', b, h => by
    simp only [oldOk, Bool.and_eq_true] at h
    cases b with
    | zero => simp [oldOk, ho, h.2]
    | succ b => simp only [List.set_cons_succ, oldOk, Bool.and_eq_true]; exact ⟨h.1, oldOk_set n o ho M M' b h.2⟩
theorem gc_of {M M' : Mem} {d : D} (h : oldOk M.length M M' = true) (hd : d.bel M.length = true) : gc M d M' = (d, M'.take M.length) := by
  unfold gc
  rw [if_pos h, if_pos hd]
theorem gc_same {M : Mem} {d : D} (hd : d.bel M.length = true) : gc M d M = (d, M) := by
  rw [gc_of (oldOk_self _ _) hd]; simp
theorem gc_ref {M R : Mem} {r : Nat} {o : MO} (hr : M.length ≤ r) (h : oldOk M.length M R = true) (ho : R[r]? = some o) (hb : o.bel M.length = true) : gc M (.ref r) R = (.ref M.length, R.take M.length ++ [o]) := by
  unfold gc
  have hb0 : D.bel M.length (.ref r) = false := by simp [D.bel]; omega
  rw [if_pos h, if_neg (by rw [hb0]; decide)]
  simp only [ho, hb, if_true]
theorem pyIx_nat {n : Nat} {i : Int} (h0 : 0 ≤ i) (h1 : i < n) : pyIx n i = some i.toNat := by unfold pyIx; rw [if_pos h0, if_pos h1]
theorem bels_ints (n : Nat) : ∀ xs : List Int, D.bels n (xs.map .int) = true
  | [] => rfl
  | x :: xs => by simp [D.bels, D.bel, bels_ints n xs]
theorem bels_app (n : Nat) : ∀ xs ys : List D, D.bels n (xs ++ ys) = (D.bels n xs && D.bels n ys)
  | [], ys => by simp [D.bels]
  | x :: xs, ys => by simp [D.bels, bels_app n xs ys, Bool.and_assoc]
theorem gc_int {M M' : Mem} {i : Int} (h : oldOk M.length M M' = true) : gc M (.int i) M' = (.int i, M'.take M.length) := gc_of h rfl
theorem gc_int0 {M : Mem} {i : Int} : gc M (.int i) M = (.int i, M) := gc_same rfl
theorem gc_bl0 {M : Mem} {i : Bool} : gc M (.bl i) M = (.bl i, M) := gc_same rfl
theorem gc_non0 {M : Mem} : gc M .non M = (.non, M) := gc_same rfl
theorem gc_str0 {M : Mem} {s : String} : gc M (.str s) M = (.str s, M) := gc_same rfl
/-- a loop whose body always goes on -/
theorem forL_ok {g : List (Nat × MO)} {p : Pat} {b : VEnv → Mem → R Out} (I : Nat → VEnv → Mem → Prop) (hst : ∀ k ρ M, I k ρ M → still g M = true) : ∀ (xs : List D) (k : Nat),
    (∀ j x, xs[j]? = some x → ∀ ρ M, I (k + j) ρ M → ∃ ρ1, bindPat p x ρ = some ρ1 ∧ ∃ ρ2 M2, b ρ1 M = some (.nx ρ2, M2) ∧ I (k + j + 1) ρ2 M2) → ∀ ρ M, I k ρ M →
    ∃ ρ' M', forL g p b xs ρ M = some (.nx ρ', M') ∧ I (k + xs.length) ρ' M'
  | [], k, _, ρ, M, h => ⟨ρ, M, by unfold forL; rw [if_pos (hst _ _ _ h)], h⟩
  | x :: xs, k, hb, ρ, M, h => by
    obtain ⟨ρ1, h1, ρ2, M2, h2, h3⟩ := hb 0 x rfl ρ M h
    obtain ⟨ρ', M', h4, h5⟩ := forL_ok I hst xs (k + 1) (fun j y hy ρ M hI => by
      have := hb (j + 1) y (by simpa using hy) ρ M (by rw [show k + (j + 1) = k + 1 + j by omega]; exact hI)
      rw [show k + (j + 1) + 1 = k + 1 + j + 1 by omega] at this
      exact this) ρ2 M2 h3
    refine ⟨ρ', M', ?_, by rw [show k + (x :: xs).length = k + 1 + xs.length by simp; omega]; exact h5⟩
    unfold forL
    rw [if_pos (hst _ _ _ h), h1]
    simp only [h2, bnd_some]
    exact h4
theorem still_nil (M : Mem) : still [] M = true := rfl
theorem app_get {M : Mem} {o : MO} {R : Mem} : (M ++ o :: R)[M.length]? = some o := by
  rw [List.getElem?_append_right (Nat.le_refl _)]; simp
theorem app_set {M : Mem} {o o' : MO} {R : Mem} : (M ++ o :: R).set M.length o' = M ++ o' :: R := by
  rw [List.set_append_right _ _ (Nat.le_refl _)]; simp
theorem evS_skip' (F : FT) (ρ : VEnv) (M : Mem) : evS F .skip ρ M = some (.nx ρ, M) := by simp only [evS]
theorem evS_ite' (F : FT) (c : E) (a b : S) (ρ : VEnv) (M : Mem) : evS F (.ite c a b) ρ M = bnd (truthR (evE F c ρ M)) fun t M => if t = true then evS F a ρ M else evS F b ρ M := by simp only [evS]
theorem evS_for' (F : FT) (p : Pat) (it : E) (b : S) (ρ : VEnv) (M : Mem) : evS F (.for p it b) ρ M = bnd (evIt F it ρ M) fun xs M => forL xs.2 p (evS F b) xs.1 ρ M := by simp only [evS]
theorem evS_seq' (F : FT) (a b : S) (ρ : VEnv) (M : Mem) : evS F (.seq a b) ρ M = bnd (evS F a ρ M) fun o M => match o with
    | .nx ρ => evS F b ρ M
    | o => some (o, M) := by simp only [evS] <;> rfl
theorem evS_asg' (F : FT) (i : Nat) (e : E) (ρ : VEnv) (M : Mem) : evS F (.asg (.name i) e) ρ M = bnd (evE F e ρ M) fun x M => some (.nx (ρ.set i (some x)), M) := by
  simp only [evS]
  cases evE F e ρ M with
  | none => rfl
  | some p => rfl
theorem evS_ret' (F : FT) (e : E) (ρ : VEnv) (M : Mem) : evS F (.ret e) ρ M = bnd (evE F e ρ M) fun x M => some (.rt x, M) := by simp only [evS]
theorem evS_expr' (F : FT) (e : E) (ρ : VEnv) (M : Mem) : evS F (.expr e) ρ M = bnd (evE F e ρ M) fun _ M => some (.nx ρ, M) := by simp only [evS]
theorem evE_lcomp' (F : FT) (p : E) (ρ : VEnv) (M : Mem) : evE F (.lcomp p) ρ M = bnd (evEs F p ρ M) fun xs M => if xs.length ≤ LIM then some (.ref M.length, M ++ [.lst xs]) else none := by simp only [evE]
theorem evEs_for1' (F : FT) (vs : List Nat) (p : Pat) (it c b : E) (ρ : VEnv) (M : Mem) : evEs F (.for1 vs p it c b) ρ M = bnd (evIt F it ρ M) fun xs M => turns xs.2 p (fun ρ M => truthR (evE F c ρ M)) (fun ρ M => evEs F b ρ M) (wipeE ρ vs) xs.1 M := by simp only [evEs]
theorem evEs_cons' (F : FT) (a r : E) (ρ : VEnv) (M : Mem) : evEs F (.cons a r) ρ M = bnd (evE F a ρ M) fun x M => bnd (evEs F r ρ M) fun xs M => some (x :: xs, M) := by simp only [evEs]
theorem evEs_nil' (F : FT) (ρ : VEnv) (M : Mem) : evEs F .nil ρ M = some ([], M) := by simp only [evEs]
theorem evE_bm' (F : FT) (m : BM) (a es : E) (ρ : VEnv) (M : Mem) : evE F (.bm m a es) ρ M = bnd (evE F a ρ M) fun x M => if recvOk M m x = true then bnd (evEs F es ρ M) fun xs M => bmD M m x xs else none := by simp only [evE]
theorem evE_tupleOf' (F : FT) (a : E) (ρ : VEnv) (M : Mem) : evE F (.coll .tuple (.cons a .nil)) ρ M = bnd (evE F a ρ M) fun x M => (itemsD M x).map fun ys => (.tup ys.1, M) := by
  simp only [evE, evIt]
  cases evE F a ρ M with
  | none => rfl
  | some p =>
    obtain ⟨x, m⟩ := p
    cases h : itemsD m x with
    | none => simp [h]
    | some y => simp [h, collD]
theorem evE_var' (F : FT) (i : Nat) (ρ : VEnv) (M : Mem) (d : D) (h : ρ[i]? = some (some d)) : evE F (.var i) ρ M = some (d, M) := by simp only [evE, h]
end Pw

end
section
namespace Pw
section
variable {P : Prog} {wl n : Nat} {M : Mem}
def atV (xs : List Int) (i : Int) : Int := if i < xs.length then (xs[i.toNat]?).getD 0 else 0
theorem at_run (hf : P.fdef (.fn "at") = some F.at) (xs : List Int) (i : Int) (h0 : 0 ≤ i) : evF P wl (n + 1) (.fn "at") [.tup (xs.map .int), .int i] M = some (.int (atV xs i), M) := by
  rw [evF_at hf _ rfl]
  by_cases h : i < xs.length
  · have h2 : i.toNat < xs.length := by omega
    simp [F.at, evS, evE, evEs, biD, lenD, cmpD, truth, idxD, pyIx_nat h0 h, h, h2, retOf, atV, gc_int0]
  · simp [F.at, evS, evE, evEs, biD, lenD, cmpD, truth, h, retOf, atV, gc_int0]
theorem cell_run (hf : P.fdef (.fn "_law_cell") = some F.L_cell) (i : Int) (h0 : 0 ≤ i) : evF P wl (n + 1) (.fn "_law_cell") [.scr, .int i] M = some (.int (atV P.script i), M) := by
  rw [evF_at hf _ rfl]
  by_cases h : i < P.script.length
  · have h2 : i.toNat < P.script.length := by omega
    simp [F.L_cell, evS, evE, evEs, biD, lenD, cmpD, truth, truthR, idxD, h0, h, h2, retOf, atV, gc_int0]
  · simp [F.L_cell, evS, evE, evEs, biD, lenD, cmpD, truth, truthR, h, retOf, atV, gc_int0]
/-- the box of digits -/
structure Box (M : Mem) (b d : Nat) (ds : List Int) (a : Nat) : Prop where
  hb : M[b]? = some (.lst [.ref d, .int a])
  hd : M[d]? = some (.lst (ds.map .int))
  ne : b ≠ d
def boxM (M : Mem) (b d : Nat) (a : Nat) : Mem := M.set b (.lst [.ref d, .int a])
def drawV (ds : List Int) (a : Nat) (many : Int) : Int := if a < ds.length then ((ds[a]?).getD 0) % many else 0
theorem drawV_lt {ds : List Int} {a : Nat} {many : Int} (h : 0 < many) : 0 ≤ drawV ds a many ∧ drawV ds a many < many := by
  unfold drawV
  split
  · exact ⟨Int.emod_nonneg _ (by omega), Int.emod_lt_of_pos _ h⟩
  · omega
theorem draw_run (hf : P.fdef (.fn "_law_draw") = some F.L_draw_2) {b d a : Nat} {ds : List Int} (B : Box M b d ds a) (many : Int) (hm : 0 < many) :
    evF P wl (n + 1) (.fn "_law_draw") [.ref b, .int many] M = some (.int (drawV ds a many), boxM M b d (a + 1)) := by
  rw [evF_at hf _ rfl]
  obtain ⟨hb, hd, ne⟩ := B
  have hbl : b < M.length := (List.getElem?_eq_some_iff.mp hb).1
  have hdl : d < M.length := (List.getElem?_eq_some_iff.mp hd).1
  have e1 : (M.set b (.lst [.ref d, .int ((a : Int) + 1)]))[b]? = some (.lst [.ref d, .int ((a : Int) + 1)]) := List.getElem?_set_self hbl
  have e2 : (M.set b (.lst [.ref d, .int ((a : Int) + 1)]))[d]? = some (.lst (ds.map .int)) := by rw [List.getElem?_set_ne ne]; exact hd
  have e3 : oldOk M.length M (M.set b (.lst [.ref d, .int ((a : Int) + 1)])) = true := oldOk_set _ _ (by simp [MO.bel, D.bels, D.bel, hdl]) _ _ _ (oldOk_self _ _)
  have e4 : (M.set b (.lst [.ref d, .int ((a : Int) + 1)])).take M.length = M.set b (.lst [.ref d, .int ((a : Int) + 1)]) := by rw [List.take_of_length_le (by simp)]
  have p0 : pyIx 2 0 = some 0 := rfl
  have p1 : pyIx 2 1 = some 1 := rfl
  by_cases h : (a : Int) < ds.length
  · have h2 : a < ds.length := by omega
    have p2 : pyIx ds.length (a : Int) = some a := by rw [pyIx_nat (by omega) h]; simp
    simp [F.L_draw_2, evS, evE, evEs, biD, lenD, cmpD, truth, truthR, idxD, setD, bindPat, binD, hb, e1, e2, p0, p1, p2, h2, hm, retOf, gc_int e3, e4, drawV, boxM]
  · have h2 : ¬ a < ds.length := by omega
    simp [F.L_draw_2, evS, evE, evEs, biD, lenD, cmpD, truth, truthR, idxD, setD, bindPat, binD, hb, e1, e2, p0, p1, h2, hm, retOf, gc_int e3, e4, drawV, boxM]
theorem Box.next {b d a : Nat} {ds : List Int} (B : Box M b d ds a) (a' : Nat) : Box (boxM M b d a') b d ds a' :=
  ⟨List.getElem?_set_self (List.getElem?_eq_some_iff.mp B.hb).1, by unfold boxM; rw [List.getElem?_set_ne B.ne]; exact B.hd, B.ne⟩
theorem boxM_boxM (b d a a' : Nat) : boxM (boxM M b d a) b d a' = boxM M b d a' := by unfold boxM; rw [List.set_set]
theorem boxM_self {b d a : Nat} {ds : List Int} (B : Box M b d ds a) : boxM M b d a = M := by
  unfold boxM
  obtain ⟨h1, h2⟩ := List.getElem?_eq_some_iff.mp B.hb
  rw [← h2, List.set_getElem_self]
/-- the numbers of a script are turned to digits -/
def Dig (xs : List Int) : Prop := ∀ x ∈ xs, 0 ≤ x
structure DigS (P : Prog) (M : Mem) (lo hi : Int) (lim : Nat) (ρ : VEnv) (M' : Mem) : Prop where
  ok : ∃ (v4 v5 v6 v7 : Option D) (xs : List Int), ρ = [some .scr, some (.int lo), some (.int hi), some (.ref M.length), v4, v5, v6, v7] ∧ M' = M ++ [.lst (xs.map .int)] ∧ Dig xs ∧ xs.length ≤ lim
theorem dig_app {xs : List Int} {x : Int} (h : Dig xs) (hx : 0 ≤ x) : Dig (xs ++ [x]) := by
  intro y hy
  rcases List.mem_append.mp hy with hy | hy
  · exact h y hy
  · rw [List.mem_singleton.mp hy]; exact hx
/-- the digits of one great number -/
theorem big_loop (F : FT) (lo hi : Int) (k : D) (v7 : Option D) (c : Int) (xs : List Int) (h0 : Dig xs) (hl : xs.length + 60 ≤ 10000) (hc : 0 ≤ c) :
    ∃ ρ' M', forL [] (.name 6) (evS F (.ite (.cmp .gt (.var 5) (.int (0)))
  (.seq (.expr (.bm .append (.var 3) (.cons (.bin .mod (.bi .int (.cons (.var 5) .nil)) (.int (1000))) .nil)))
  (.asg (.name 5) (.bin .fdiv (.var 5) (.int (1000)))))
  .skip)) ((List.range 60).map fun k : Nat => D.int (0 + (k : Int))) [some .scr, some (.int lo), some (.int hi), some (.ref M.length), some k, some (.int c), v6, v7] (M ++ [.lst (xs.map .int)]) = some (.nx ρ', M') ∧
      ∃ v5 v6 ys, ρ' = [some .scr, some (.int lo), some (.int hi), some (.ref M.length), some k, v5, v6, v7] ∧ M' = M ++ [.lst (ys.map .int)] ∧ Dig ys ∧ ys.length ≤ xs.length + 60 := by
  have h := forL_ok (g := []) (p := .name 6) (b := evS F (.ite (.cmp .gt (.var 5) (.int (0)))
  (.seq (.expr (.bm .append (.var 3) (.cons (.bin .mod (.bi .int (.cons (.var 5) .nil)) (.int (1000))) .nil)))
  (.asg (.name 5) (.bin .fdiv (.var 5) (.int (1000)))))
  .skip)) (fun j ρ M' => ∃ c v6 ys, 0 ≤ c ∧ ρ = [some .scr, some (.int lo), some (.int hi), some (.ref M.length), some k, some (.int c), v6, v7] ∧ M' = M ++ [.lst (ys.map .int)] ∧ Dig ys ∧ ys.length ≤ xs.length + j)
    (fun _ _ _ _ => rfl) ((List.range 60).map fun k : Nat => D.int (0 + (k : Int))) 0 ?_ _ _ ⟨c, v6, xs, hc, rfl, rfl, h0, by omega⟩
  · obtain ⟨ρ', M', h1, c', v6', ys, h2, h3, h4, h5, h6⟩ := h
    exact ⟨ρ', M', h1, _, v6', ys, h3, h4, h5, by simpa using h6⟩
  · rintro j x hx ρ M' ⟨c, v6, ys, hc, rfl, rfl, h5, h6⟩
    have hj : j < 60 := by
      have := (List.getElem?_eq_some_iff.mp hx).1
      simpa using this
    refine ⟨_, rfl, ?_⟩
    by_cases hp : 0 < c
    · refine ⟨[some .scr, some (.int lo), some (.int hi), some (.ref M.length), some k, some (.int (c / 1000)), some x, v7], M ++ [.lst ((ys ++ [c % 1000]).map .int)], ?_, c / 1000, _, ys ++ [c % 1000], Int.ediv_nonneg hc (by decide), rfl, rfl, dig_app h5 (Int.emod_nonneg _ (by decide)), by simp; omega⟩
      have hL : ys.length < LIM := Nat.lt_of_lt_of_le (by omega : ys.length < 10000) (by decide)
      simp [evS, evE, evEs, biD, cmpD, truthR, truth, binD, bmD, recvOk, bindPat, app_get, app_set, hp, hL]
    · refine ⟨[some .scr, some (.int lo), some (.int hi), some (.ref M.length), some k, some (.int c), some x, v7], M ++ [.lst (ys.map .int)], ?_, c, _, ys, hc, rfl, rfl, h5, by omega⟩
      simp [evS, evE, evEs, cmpD, truthR, truth, hp]
end
end Pw

end
section
namespace Pw
section
variable {P : Prog} {wl n : Nat} {M : Mem}
def smallB : S := (.seq (.asg (.name 7) (.bin .mod (.bi .int (.cons (.bin .add (.bin .add (.bin .mul (.var 7) (.int (16807))) (.bin .mul (.int (7)) (.var 6))) (.int (1))) .nil)) (.int (2147483647))))
  (.expr (.bm .append (.var 3) (.cons (.bin .mod (.bi .int (.cons (.bin .fdiv (.var 7) (.int (997))) .nil)) (.int (1000))) .nil))))
theorem small_loop (F : FT) (lo hi : Int) (k : D) (v5 v6 : Option D) (c : Int) (xs : List Int) (h0 : Dig xs) (hl : xs.length + 12 ≤ 10000) (hc : 0 ≤ c ∧ c < 2147483647) :
    ∃ ρ' M', forL [] (.name 6) (evS F smallB) ((List.range 12).map fun k : Nat => D.int (0 + (k : Int))) [some .scr, some (.int lo), some (.int hi), some (.ref M.length), some k, v5, v6, some (.int c)] (M ++ [.lst (xs.map .int)]) = some (.nx ρ', M') ∧
      ∃ v5 v6 v7 ys, ρ' = [some .scr, some (.int lo), some (.int hi), some (.ref M.length), some k, v5, v6, v7] ∧ M' = M ++ [.lst (ys.map .int)] ∧ Dig ys ∧ ys.length ≤ xs.length + 12 := by
  have h := forL_ok (g := []) (p := .name 6) (b := evS F smallB) (fun j ρ M' => ∃ c v6 ys, (0 ≤ c ∧ c < 2147483647) ∧ ρ = [some .scr, some (.int lo), some (.int hi), some (.ref M.length), some k, v5, v6, some (.int c)] ∧ M' = M ++ [.lst (ys.map .int)] ∧ Dig ys ∧ ys.length ≤ xs.length + j)
    (fun _ _ _ _ => rfl) ((List.range 12).map fun k : Nat => D.int (0 + (k : Int))) 0 ?_ _ _ ⟨c, v6, xs, hc, rfl, rfl, h0, by omega⟩
  · obtain ⟨ρ', M', h1, c', v6', ys, h2, h3, h4, h5, h6⟩ := h
    exact ⟨ρ', M', h1, _, v6', _, ys, h3, h4, h5, by simpa using h6⟩
  · rintro j x hx ρ M' ⟨c, v6, ys, hc, rfl, rfl, h5, h6⟩
    have hj : j < 12 := by
      have := (List.getElem?_eq_some_iff.mp hx).1
      simpa using this
    have ex : x = .int (j : Int) := by
      rw [List.getElem?_map, List.getElem?_range hj] at hx
      simp at hx
      exact hx.symm
    subst ex
    refine ⟨_, rfl, ?_⟩
    have c2 : 0 ≤ (c * 16807 + 7 * (j : Int) + 1) % 2147483647 := Int.emod_nonneg _ (by decide)
    have c3 : (c * 16807 + 7 * (j : Int) + 1) % 2147483647 < 2147483647 := Int.emod_lt_of_pos _ (by decide)
    refine ⟨[some .scr, some (.int lo), some (.int hi), some (.ref M.length), some k, v5, some (.int (j : Int)), some (.int ((c * 16807 + 7 * (j : Int) + 1) % 2147483647))], M ++ [.lst ((ys ++ [((c * 16807 + 7 * (j : Int) + 1) % 2147483647) / 997 % 1000]).map .int)], ?_, _, _, ys ++ [((c * 16807 + 7 * (j : Int) + 1) % 2147483647) / 997 % 1000], ⟨c2, c3⟩, rfl, rfl, dig_app h5 (Int.emod_nonneg _ (by decide)), by simp; omega⟩
    have hL : ys.length < LIM := Nat.lt_of_lt_of_le (by omega : ys.length < 10000) (by decide)
    simp [smallB, evS, evE, evEs, biD, cmpD, truthR, truth, binD, bmD, recvOk, bindPat, app_get, app_set, hL]
theorem range_D (a : Int) (h : -(2 ^ 61) < a ∧ a < 2 ^ 61) : rangeD [.int a] = some ((List.range a.toNat).map fun k : Nat => D.int (0 + (k : Int))) := by
  show rangeL 0 a 1 = _
  unfold rangeL
  rw [if_pos ⟨by decide, by decide, h.1, h.2⟩, if_pos rfl]
  rw [show a - 0 = a by omega]
theorem range_D2 (a b : Int) (h : -(2 ^ 61) < a ∧ a < 2 ^ 61) (h2 : -(2 ^ 61) < b ∧ b < 2 ^ 61) : rangeD [.int a, .int b] = some ((List.range (b - a).toNat).map fun k : Nat => D.int (a + (k : Int))) := by
  show rangeL a b 1 = _
  unfold rangeL
  rw [if_pos ⟨h.1, h.2, h2.1, h2.2⟩, if_pos rfl]
def bigB : S := (.ite (.cmp .gt (.var 5) (.int (0)))
  (.seq (.expr (.bm .append (.var 3) (.cons (.bin .mod (.bi .int (.cons (.var 5) .nil)) (.int (1000))) .nil)))
  (.asg (.name 5) (.bin .fdiv (.var 5) (.int (1000)))))
  .skip)
def midB : S := (.ite (.cmp .ge (.var 5) (.bin .pow (.int (10)) (.int (18))))
  (.for (.name 6) (.range (.cons (.int (60)) .nil)) bigB)
  (.seq (.asg (.name 7) (.bin .mod (.bi .int (.cons (.bin .add (.bin .add (.bin .mul (.var 5) (.int (48271))) (.bin .mul (.var 4) (.int (69621)))) (.int (11))) .nil)) (.int (2147483647))))
  (.for (.name 6) (.range (.cons (.int (12)) .nil)) smallB)))
def digB : S := (.seq (.asg (.name 5) (.call "_law_cell" (.cons (.var 0) (.cons (.var 4) .nil))))
  (.seq (.ite (.cmp .lt (.var 5) (.int (0)))
  (.asg (.name 5) (.bin .sub (.int (1)) (.bin .mul (.int (2)) (.var 5))))
  .skip) midB))
theorem digits_body : F.L_digits.body = (.seq (.asg (.name 3) (.lst .nil)) (.seq (.for (.name 4) (.range (.cons (.var 1) (.cons (.var 2) .nil))) digB) (.ret (.var 3)))) := rfl
theorem pow18 : (10 : Int) ^ 18 = 1000000000000000000 := by decide
theorem bin_pow18 (M : Mem) : binD M .pow (.int 10) (.int 18) = some (.int 1000000000000000000, M) := by
  show (if (0 : Int) ≤ 18 ∧ (18 : Int) ≤ 1000000 ∧ (10 : Int).natAbs < 2 ^ 64 then some (D.int ((10 : Int) ^ (18 : Int).toNat), M) else none) = _
  rw [if_pos ⟨by decide, by decide, by decide⟩]
  rfl
theorem mid_t (F : FT) (v0 v1 v2 v3 v4 : Option D) (c : Int) (v6 v7 : Option D) (M : Mem) : truthR (evE F (.cmp .ge (.var 5) (.bin .pow (.int (10)) (.int (18)))) [v0, v1, v2, v3, v4, some (.int c), v6, v7] M) = some (decide (1000000000000000000 ≤ c), M) := by
  simp only [evE, List.getElem?_cons_succ, List.getElem?_cons_zero, bnd_some, bin_pow18, cmpD, truthR, truth, Option.map_some]
theorem mid_a (F : FT) (v0 v1 v2 v3 : Option D) (j c : Int) (v6 v7 : Option D) (M : Mem) : evS F (.asg (.name 7) (.bin .mod (.bi .int (.cons (.bin .add (.bin .add (.bin .mul (.var 5) (.int (48271))) (.bin .mul (.var 4) (.int (69621)))) (.int (11))) .nil)) (.int (2147483647)))) [v0, v1, v2, v3, some (.int j), some (.int c), v6, v7] M = some (.nx [v0, v1, v2, v3, some (.int j), some (.int c), v6, some (.int ((c * 48271 + j * 69621 + 11) % 2147483647))], M) := by
  simp [evS_asg', evE, evEs, biD, binD]
theorem mid_run (F : FT) (j : Nat) (c : Int) (hc0 : 0 ≤ c) (xs : List Int) (h3 : Dig xs) (h4 : xs.length ≤ 60 * j) (hj : j < 63) (v6 v7 : Option D) : ∃ ρ' M', evS F midB [some .scr, some (.int 0), some (.int 63), some (.ref M.length), some (.int (j : Int)), some (.int c), v6, v7] (M ++ [.lst (xs.map D.int)]) = some (.nx ρ', M') ∧
        ∃ v4 v5 v6 v7 ys, ρ' = [some .scr, some (.int 0), some (.int 63), some (.ref M.length), v4, v5, v6, v7] ∧ M' = M ++ [.lst (List.map D.int ys)] ∧ Dig ys ∧ ys.length ≤ 60 * (j + 1) := by
  have hr60 := range_D 60 (by decide)
  have hr12 := range_D 12 (by decide)
  unfold midB
  rw [evS_ite', mid_t, bnd_some]
  by_cases hb : (1000000000000000000 : Int) ≤ c
  · obtain ⟨ρ', M', h5, w5, w6, ys, h6, h7, h8, h9⟩ := big_loop (M := M) (v6 := v6) F 0 63 (.int (j : Int)) v7 c xs h3 (by omega) hc0
    refine ⟨ρ', M', ?_, _, w5, w6, v7, ys, h6, h7, h8, by omega⟩
    rw [if_pos (decide_eq_true hb), evS_for']
    simp only [evIt, evEs, evE, bnd_some, hr60, Option.map_some]
    exact h5
  · obtain ⟨ρ', M', h5, w5, w6, w7, ys, h6, h7, h8, h9⟩ := small_loop (M := M) F 0 63 (.int (j : Int)) (some (.int c)) v6 ((c * 48271 + (j : Int) * 69621 + 11) % 2147483647) xs h3 (by omega) ⟨Int.emod_nonneg _ (by decide), Int.emod_lt_of_pos _ (by decide)⟩
    refine ⟨ρ', M', ?_, _, w5, w6, w7, ys, h6, h7, h8, by omega⟩
    rw [if_neg (by rw [decide_eq_false hb]; decide), evS_seq', mid_a, bnd_some]
    dsimp only
    rw [evS_for']
    simp only [evIt, evEs, evE, bnd_some, hr12, Option.map_some]
    exact h5
theorem digits_run (hf : P.fdef (.fn "_law_digits") = some F.L_digits) (hc : P.fdef (.fn "_law_cell") = some F.L_cell) :
    ∃ xs : List Int, Dig xs ∧ evF P wl (n + 2) (.fn "_law_digits") [.scr, .int 0, .int 63] M = some (.ref M.length, M ++ [.lst (xs.map .int)]) := by
  have body := forL_ok (g := []) (p := .name 4) (b := evS ⟨P, evF P wl (n + 1), wl⟩ digB) (fun j ρ M' => ∃ v4 v5 v6 v7 xs, ρ = [some .scr, some (.int 0), some (.int 63), some (.ref M.length), v4, v5, v6, v7] ∧ M' = M ++ [.lst (List.map D.int xs)] ∧ Dig xs ∧ xs.length ≤ 60 * j)
    (fun _ _ _ _ => rfl) ((List.range 63).map fun k : Nat => D.int (0 + (k : Int))) 0 ?_ [some .scr, some (.int 0), some (.int 63), some (.ref M.length), none, none, none, none] (M ++ [.lst []]) ⟨none, none, none, none, [], rfl, rfl, (fun _ h => by cases h), by simp⟩
  · obtain ⟨ρ', M', h1, v4, v5, v6, v7, xs, rfl, rfl, h4, _⟩ := body
    refine ⟨xs, h4, ?_⟩
    rw [evF_at hf _ rfl, digits_body]
    have hr := range_D2 0 63 (by decide) (by decide)
    have hg : gc M (.ref M.length) (M ++ [.lst (xs.map D.int)]) = (.ref M.length, M ++ [.lst (xs.map D.int)]) := by
      rw [gc_ref (Nat.le_refl _) (oldOk_app _ _ _) app_get (by simp [MO.bel, bels_ints])]
      simp
    have e0 : evS ⟨P, evF P wl (n + 1), wl⟩ (.asg (.name 3) (.lst .nil)) (List.map some [D.scr, D.int 0, D.int 63] ++ List.replicate (F.L_digits.slots - F.L_digits.params) none) M = some (.nx [some .scr, some (.int 0), some (.int 63), some (.ref M.length), none, none, none, none], M ++ [.lst []]) := by
      simp [evS_asg', evE, evEs]
      rfl
    rw [evS_seq', e0, bnd_some]
    dsimp only
    rw [evS_seq', evS_for']
    simp only [evIt, evEs, evE, bnd_some, List.getElem?_cons_succ, List.getElem?_cons_zero, hr, Option.map_some]
    rw [show (63 : Int) - 0 = 63 by rfl] at *
    rw [show (63 : Int).toNat = 63 by rfl] at *
    rw [h1]
    simp only [bnd_some, evS_ret', evE, List.getElem?_cons_succ, List.getElem?_cons_zero, retOf, hg]
  · rintro j x hx ρ M' ⟨v4, v5, v6, v7, xs, rfl, rfl, h3, h4⟩
    have hj : j < 63 := by
      have := (List.getElem?_eq_some_iff.mp hx).1
      simpa using this
    have ex : x = .int (j : Int) := by
      rw [List.getElem?_map, List.getElem?_range hj] at hx
      simp at hx
      exact hx.symm
    subst ex
    refine ⟨_, rfl, ?_⟩
    have hcell := cell_run (P := P) (wl := wl) (n := n) (M := M ++ [.lst (xs.map D.int)]) hc (j : Int) (by omega)
    generalize atV P.script (j : Int) = c0 at hcell
    have e1 : evS ⟨P, evF P wl (n + 1), wl⟩ (.asg (.name 5) (.call "_law_cell" (.cons (.var 0) (.cons (.var 4) .nil)))) [some .scr, some (.int 0), some (.int 63), some (.ref M.length), some (.int (j : Int)), v5, v6, v7] (M ++ [.lst (xs.map D.int)]) = some (.nx [some .scr, some (.int 0), some (.int 63), some (.ref M.length), some (.int (j : Int)), some (.int c0), v6, v7], M ++ [.lst (xs.map D.int)]) := by
      simp [evS_asg', evE, evEs, hcell]
    have hset : (([some D.scr, some (.int 0), some (.int 63), some (.ref M.length), v4, v5, v6, v7] : VEnv).set 4 (some (.int (j : Int)))) = [some .scr, some (.int 0), some (.int 63), some (.ref M.length), some (.int (j : Int)), v5, v6, v7] := rfl
    by_cases hneg : c0 < 0
    · obtain ⟨ρ', M', h5, w4, w5, w6, w7, ys, h6⟩ := mid_run (M := M) ⟨P, evF P wl (n + 1), wl⟩ j (1 - 2 * c0) (by omega) xs h3 (by omega) hj v6 v7
      refine ⟨ρ', M', ?_, w4, w5, w6, w7, ys, by simpa using h6⟩
      unfold digB
      rw [evS_seq', hset, e1, bnd_some]
      dsimp only
      have e2 : evS ⟨P, evF P wl (n + 1), wl⟩ (.ite (.cmp .lt (.var 5) (.int (0))) (.asg (.name 5) (.bin .sub (.int (1)) (.bin .mul (.int (2)) (.var 5)))) .skip) [some .scr, some (.int 0), some (.int 63), some (.ref M.length), some (.int (j : Int)), some (.int c0), v6, v7] (M ++ [.lst (xs.map D.int)]) = some (.nx [some .scr, some (.int 0), some (.int 63), some (.ref M.length), some (.int (j : Int)), some (.int (1 - 2 * c0)), v6, v7], M ++ [.lst (xs.map D.int)]) := by
        simp [evS_ite', evS_asg', evE, cmpD, truthR, truth, binD, hneg]
      rw [evS_seq', e2, bnd_some]
      exact h5
    · obtain ⟨ρ', M', h5, w4, w5, w6, w7, ys, h6⟩ := mid_run (M := M) ⟨P, evF P wl (n + 1), wl⟩ j c0 (by omega) xs h3 (by omega) hj v6 v7
      refine ⟨ρ', M', ?_, w4, w5, w6, w7, ys, by simpa using h6⟩
      unfold digB
      rw [evS_seq', hset, e1, bnd_some]
      dsimp only
      have e2 : evS ⟨P, evF P wl (n + 1), wl⟩ (.ite (.cmp .lt (.var 5) (.int (0))) (.asg (.name 5) (.bin .sub (.int (1)) (.bin .mul (.int (2)) (.var 5)))) .skip) [some .scr, some (.int 0), some (.int 63), some (.ref M.length), some (.int (j : Int)), some (.int c0), v6, v7] (M ++ [.lst (xs.map D.int)]) = some (.nx [some .scr, some (.int 0), some (.int 63), some (.ref M.length), some (.int (j : Int)), some (.int c0), v6, v7], M ++ [.lst (xs.map D.int)]) := by
        simp [evS_ite', evS_skip', evE, cmpD, truthR, truth, hneg]
      rw [evS_seq', e2, bnd_some]
      exact h5
end
end Pw

end
section
set_option maxHeartbeats 1000000
namespace Pw
inductive Bn where
  | plus | minus | same | less
def Bn.name : Bn → String
  | .plus => "plus" | .minus => "minus" | .same => "same" | .less => "less"
inductive Ex where
  | num (i : Nat) | cell (i : Nat) | prop (i : Nat) | store (i : Nat) | index | iff (a b c : Ex) | bin (k : Bn) (a b : Ex)
def Ex.toD : Ex → D
  | .num i => .tup [.str "num", .int i]
  | .cell i => .tup [.str "cell", .int i]
  | .prop i => .tup [.str "prop", .int i]
  | .store i => .tup [.str "store", .int i]
  | .index => .tup [.str "index"]
  | .iff a b c => .tup [.str "if", a.toD, b.toD, c.toD]
  | .bin k a b => .tup [.str k.name, a.toD, b.toD]
def Ex.dep : Ex → Nat
  | .iff a b c => max a.dep (max b.dep c.dep) + 1
  | .bin _ a b => max a.dep b.dep + 1
  | _ => 0
structure Sc where
  cells : List Int
  props : List Int
  store : List Int
  ix : Int
def binV : Bn → Int → Int → Int
  | .plus, a, b => (a + b) % 1000
  | .minus, a, b => (a - b) % 1000
  | .same, a, b => if a = b then 1 else 0
  | .less, a, b => if a < b then 1 else 0
def Ex.val (s : Sc) : Ex → Int × List Int
  | .num i => (i, [])
  | .cell i => (atV s.cells i, [])
  | .prop i => (atV s.props i, [])
  | .store i => (atV s.store i, if i < s.store.length then [(i : Int)] else [])
  | .index => (s.ix, [])
  | .iff a b c => let x := a.val s; let y := if x.1 ≠ 0 then b.val s else c.val s; (y.1, x.2 ++ y.2)
  | .bin k a b => let x := a.val s; let y := b.val s; (binV k x.1 y.1, x.2 ++ y.2)
def Ex.looks (s : Sc) (e : Ex) : Nat := (e.val s).2.length
section
variable {P : Prog} {wl n : Nat} {M : Mem}
/-- the list of looks -/
structure Lk (M : Mem) (l : Nat) (L : List Int) : Prop where
  h : M[l]? = some (.lst (L.map .int))
def lkM (M : Mem) (l : Nat) (L : List Int) : Mem := M.set l (.lst (L.map .int))
theorem Lk.next {l : Nat} {L : List Int} (h : Lk M l L) (L' : List Int) : Lk (lkM M l L') l L' := ⟨List.getElem?_set_self (List.getElem?_eq_some_iff.mp h.h).1⟩
theorem lkM_lkM (l : Nat) (L L' : List Int) : lkM (lkM M l L) l L' = lkM M l L' := by unfold lkM; rw [List.set_set]
theorem lkM_self {l : Nat} {L : List Int} (h : Lk M l L) : lkM M l L = M := by
  unfold lkM
  obtain ⟨h1, h2⟩ := List.getElem?_eq_some_iff.mp h.h
  rw [← h2, List.set_getElem_self]
theorem lkM_len (l : Nat) (L : List Int) : (lkM M l L).length = M.length := by unfold lkM; simp
theorem lkM_gc (l : Nat) (L : List Int) (i : Int) : gc M (.int i) (lkM M l L) = (.int i, lkM M l L) := by
  have h : oldOk M.length M (lkM M l L) = true := oldOk_set _ _ (by simp [MO.bel, bels_ints]) _ _ _ (oldOk_self _ _)
  rw [gc_int h, List.take_of_length_le (by rw [lkM_len]; exact Nat.le_refl _)]
def scD (s : Sc) : D := .tup [.str "scope", .tup (s.cells.map .int), .tup (s.props.map .int), .tup (s.store.map .int), .int s.ix]
theorem eqD_str (M : Mem) (a b : String) : eqD M (.str a) (.str b) = some (decide (a = b)) := by simp [eqD, D.plain, D.eqv]
theorem eqD_int (M : Mem) (a b : Int) : eqD M (.int a) (.int b) = some (decide (a = b)) := by simp [eqD, D.plain, D.eqv]
theorem ix2 : pyIx 2 0 = some 0 ∧ pyIx 2 1 = some 1 := ⟨rfl, rfl⟩
theorem ix3 : pyIx 3 0 = some 0 ∧ pyIx 3 1 = some 1 ∧ pyIx 3 2 = some 2 := ⟨rfl, rfl, rfl⟩
theorem ix4 : pyIx 4 0 = some 0 ∧ pyIx 4 1 = some 1 ∧ pyIx 4 2 = some 2 ∧ pyIx 4 3 = some 3 := ⟨rfl, rfl, rfl, rfl⟩
theorem ix5 : pyIx 5 0 = some 0 ∧ pyIx 5 1 = some 1 ∧ pyIx 5 2 = some 2 ∧ pyIx 5 3 = some 3 ∧ pyIx 5 4 = some 4 := ⟨rfl, rfl, rfl, rfl, rfl⟩
theorem value_run (hf : P.fdef (.fn "value") = some F.value) (ha : P.fdef (.fn "at") = some F.at) (hg : P.glob "WHOLE" = some (.int 1000)) (s : Sc) :
    ∀ (e : Ex) (n : Nat) (M : Mem) (l : Nat) (L : List Int), e.dep ≤ n → Lk M l L → L.length + e.looks s ≤ 1000 →
      evF P wl (n + 2) (.fn "value") [e.toD, scD s, .ref l] M = some (.int (e.val s).1, lkM M l (L ++ (e.val s).2)) := by
  intro e
  induction e with
  | num i =>
    intro n M l L hd hL hn
    rw [evF_at hf _ rfl]
    simp [F.value, Ex.toD, scD, Ex.val, evS, evE, evEs, idxD, ix2, bindPat, cmpD, eqD_str, truthR, truth, retOf, gc_int0, lkM_self hL]
  | index =>
    intro n M l L hd hL hn
    rw [evF_at hf _ rfl]
    simp [F.value, Ex.toD, scD, Ex.val, evS, evE, evEs, idxD, ix5, show pyIx 1 0 = some 0 from rfl, bindPat, cmpD, eqD_str, truthR, truth, retOf, gc_int0, lkM_self hL]
  | cell i =>
    intro n M l L hd hL hn
    have h := at_run (P := P) (wl := wl) (n := n) (M := M) ha s.cells i (by omega)
    rw [evF_at hf _ rfl]
    simp [F.value, Ex.toD, scD, Ex.val, evS, evE, evEs, idxD, ix2, ix5, bindPat, cmpD, eqD_str, truthR, truth, retOf, h, gc_int0, lkM_self hL]
  | prop i =>
    intro n M l L hd hL hn
    have h := at_run (P := P) (wl := wl) (n := n) (M := M) ha s.props i (by omega)
    rw [evF_at hf _ rfl]
    simp [F.value, Ex.toD, scD, Ex.val, evS, evE, evEs, idxD, ix2, ix5, bindPat, cmpD, eqD_str, truthR, truth, retOf, h, gc_int0, lkM_self hL]
  | store i =>
    intro n M l L hd hL hn
    rw [evF_at hf _ rfl]
    by_cases hi : i < s.store.length
    · have h := at_run (P := P) (wl := wl) (n := n) (M := lkM M l (L ++ [(i : Int)])) ha s.store i (by omega)
      have hlen : L.length < LIM := by
        have : LIM = 16777216 := rfl
        omega
      have e1 : M.set l (.lst (L.map D.int ++ [D.int (i : Int)])) = lkM M l (L ++ [(i : Int)]) := by simp [lkM]
      simp [F.value, Ex.toD, scD, Ex.val, evS, evE, evEs, idxD, ix2, ix5, bindPat, cmpD, eqD_str, truthR, truth, retOf, biD, lenD, hi, recvOk, hL.h, bmD, hlen, e1, h, lkM_gc]
    · have h := at_run (P := P) (wl := wl) (n := n) (M := M) ha s.store i (by omega)
      simp [F.value, Ex.toD, scD, Ex.val, evS, evE, evEs, idxD, ix2, ix5, bindPat, cmpD, eqD_str, truthR, truth, retOf, biD, lenD, hi, h, gc_int0, lkM_self hL]
  | iff a b c iha ihb ihc =>
    intro n M l L hd hL hn
    simp only [Ex.dep] at hd
    obtain ⟨m, rfl⟩ : ∃ m, n = m + 1 := ⟨n - 1, by omega⟩
    have hn' : L.length + ((a.val s).2.length + (if (a.val s).1 ≠ 0 then b.val s else c.val s).2.length) ≤ 1000 := by
      simpa [Ex.looks, Ex.val] using hn
    have h1 := iha m M l L (by omega) hL (by unfold Ex.looks; omega)
    rw [evF_at hf _ rfl]
    by_cases hc : (a.val s).1 = 0
    · rw [if_neg (by simpa using hc)] at hn'
      have h2 := ihc m (lkM M l (L ++ (a.val s).2)) l (L ++ (a.val s).2) (by omega) (hL.next _) (by unfold Ex.looks; rw [List.length_append]; omega)
      rw [lkM_lkM] at h2
      simp [F.value, Ex.toD, Ex.val, evS, evE, evEs, idxD, ix4, bindPat, cmpD, eqD_str, eqD_int, truthR, truth, retOf, h1, hc, h2, lkM_gc]
    · rw [if_pos hc] at hn'
      have h2 := ihb m (lkM M l (L ++ (a.val s).2)) l (L ++ (a.val s).2) (by omega) (hL.next _) (by unfold Ex.looks; rw [List.length_append]; omega)
      rw [lkM_lkM] at h2
      simp [F.value, Ex.toD, Ex.val, evS, evE, evEs, idxD, ix4, bindPat, cmpD, eqD_str, eqD_int, truthR, truth, retOf, h1, hc, h2, lkM_gc]
  | bin k a b iha ihb =>
    intro n M l L hd hL hn
    simp only [Ex.dep] at hd
    obtain ⟨m, rfl⟩ : ∃ m, n = m + 1 := ⟨n - 1, by omega⟩
    have hn' : L.length + ((a.val s).2.length + (b.val s).2.length) ≤ 1000 := by
      simpa [Ex.looks, Ex.val] using hn
    have h1 := iha m M l L (by omega) hL (by unfold Ex.looks; omega)
    have h2 := ihb m (lkM M l (L ++ (a.val s).2)) l (L ++ (a.val s).2) (by omega) (hL.next _) (by unfold Ex.looks; rw [List.length_append]; omega)
    rw [lkM_lkM] at h2
    rw [evF_at hf _ rfl]
    cases k with
    | plus => simp [F.value, Ex.toD, Ex.val, Bn.name, binV, evS, evE, evEs, idxD, ix3, bindPat, cmpD, eqD_str, truthR, truth, retOf, h1, h2, hg, binD, lkM_gc]
    | minus => simp [F.value, Ex.toD, Ex.val, Bn.name, binV, evS, evE, evEs, idxD, ix3, bindPat, cmpD, eqD_str, truthR, truth, retOf, h1, h2, hg, binD, lkM_gc]
    | same =>
      by_cases hc : (a.val s).1 = (b.val s).1
      · simp [F.value, Ex.toD, Ex.val, Bn.name, binV, evS, evE, evEs, idxD, ix3, bindPat, cmpD, eqD_str, eqD_int, truthR, truth, retOf, h1, h2, hc, lkM_gc]
      · simp [F.value, Ex.toD, Ex.val, Bn.name, binV, evS, evE, evEs, idxD, ix3, bindPat, cmpD, eqD_str, eqD_int, truthR, truth, retOf, h1, h2, hc, lkM_gc]
    | less =>
      by_cases hc : (a.val s).1 < (b.val s).1
      · simp [F.value, Ex.toD, Ex.val, Bn.name, binV, evS, evE, evEs, idxD, ix3, bindPat, cmpD, eqD_str, eqD_int, truthR, truth, retOf, h1, h2, hc, lkM_gc]
      · simp [F.value, Ex.toD, Ex.val, Bn.name, binV, evS, evE, evEs, idxD, ix3, bindPat, cmpD, eqD_str, eqD_int, truthR, truth, retOf, h1, h2, hc, lkM_gc]
end
end Pw

end
section
set_option maxHeartbeats 1000000
namespace Pw
section
variable {P : Prog} {wl n : Nat} {M : Mem}
theorem lkM_app {l : Nat} (hl : l < M.length) (R : Mem) (L : List Int) : lkM (M ++ R) l L = lkM M l L ++ R := by unfold lkM; rw [List.set_append_left _ _ hl]
theorem Lk.app {l : Nat} {L : List Int} (h : Lk M l L) (R : Mem) : Lk (M ++ R) l L := ⟨by rw [List.getElem?_append_left (List.getElem?_eq_some_iff.mp h.h).1]; exact h.h⟩
theorem Lk.lt {l : Nat} {L : List Int} (h : Lk M l L) : l < M.length := (List.getElem?_eq_some_iff.mp h.h).1
theorem oldOk_app2 (k : Nat) (R : Mem) : ∀ M M' : Mem, oldOk k M M' = true → oldOk k M (M' ++ R) = true
  | [], M', _ => by cases M' <;> cases R <;> rfl
  | x :: M, [], h => by cases h
  | x :: M, y :: M', h => by
    simp only [oldOk, Bool.and_eq_true, List.cons_append] at h ⊢
    exact ⟨h.1, oldOk_app2 k R M M' h.2⟩
theorem lkM_gcR (l : Nat) (L : List Int) (R : Mem) (i : Int) : gc M (.int i) (lkM M l L ++ R) = (.int i, lkM M l L) := by
  have h : oldOk M.length M (lkM M l L) = true := oldOk_set _ _ (by simp [MO.bel, bels_ints]) _ _ _ (oldOk_self _ _)
  rw [gc_int (oldOk_app2 _ R _ _ h), List.take_left' (lkM_len l L)]
theorem gc_intR (R : Mem) (i : Int) : gc M (.int i) (M ++ R) = (.int i, M) := by
  rw [gc_int (oldOk_app _ R M), List.take_left]
structure Scl (M : Mem) (q : Nat) (s : Sc) : Prop where
  h : M[q]? = some (.lst [.tup (s.cells.map .int), .tup (s.props.map .int), .tup (s.store.map .int), .int s.ix])
theorem Scl.app {q : Nat} {s : Sc} (h : Scl M q s) (R : Mem) : Scl (M ++ R) q s := ⟨by rw [List.getElem?_append_left (List.getElem?_eq_some_iff.mp h.h).1]; exact h.h⟩
theorem Scl.lk {q l : Nat} {s : Sc} (h : Scl M q s) (hne : q ≠ l) (L : List Int) : Scl (lkM M l L) q s := ⟨by unfold lkM; rw [List.getElem?_set_ne (Ne.symm hne)]; exact h.h⟩
theorem app1_get (x y : MO) : (M ++ [x, y])[M.length + 1]? = some y := by
  rw [List.getElem?_append_right (by omega)]; simp
theorem app_app (x y : MO) : M ++ [x] ++ [y] = M ++ [x, y] := by simp
def rowOf (s : Sc) : Nat → List Int
  | 0 => s.cells
  | 1 => s.props
  | _ => s.store
theorem lval_run (hf : P.fdef (.fn "_law_value") = some F.L_value) (s : Sc) :
    ∀ (e : Ex) (n : Nat) (M : Mem) (q l : Nat) (L : List Int), e.dep ≤ n → Scl M q s → q ≠ l → Lk M l L → L.length + e.looks s ≤ 1000 →
      evF P wl (n + 2) (.fn "_law_value") [e.toD, .ref q, .ref l] M = some (.int (e.val s).1, lkM M l (L ++ (e.val s).2)) := by
  intro e
  induction e with
  | num i =>
    intro n M q l L hd hq hne hL hn
    rw [evF_at hf _ rfl]
    simp [F.L_value, Ex.toD, Ex.val, evS, evE, evEs, idxD, ix2, bindPat, cmpD, eqD_str, truthR, truth, retOf, gc_int0, lkM_self hL]
  | index =>
    intro n M q l L hd hq hne hL hn
    rw [evF_at hf _ rfl]
    simp [F.L_value, Ex.toD, Ex.val, evS, evE, evEs, idxD, hq.h, ix4, show pyIx 1 0 = some 0 from rfl, bindPat, cmpD, eqD_str, truthR, truth, retOf, gc_int0, lkM_self hL]
  | cell i =>
    intro n M q l L hd hq hne hL hn
    have g1 : ∀ x, (M ++ [x])[q]? = some (.lst [.tup (s.cells.map .int), .tup (s.props.map .int), .tup (s.store.map .int), .int s.ix]) := fun x => (hq.app [x]).h
    have g2 : ∀ x y, (M ++ [x, y])[q]? = some (.lst [.tup (s.cells.map .int), .tup (s.props.map .int), .tup (s.store.map .int), .int s.ix]) := fun x y => (hq.app [x, y]).h
    rw [evF_at hf _ rfl]
    by_cases hi : i < s.cells.length
    · have hi2 : ¬ s.cells.length ≤ i := by omega
      simp [F.L_value, Ex.toD, Ex.val, atV, evS, evE, evEs, idxD, g1, g2, ix2, ix4, bindPat, cmpD, memD, inD, indexD, mapO, reify, D.plain, eqD_str, truthR, truth, retOf, biD, lenD, hi, hi2, recvOk, bmD, app_get, app1_get, pyIx_nat (show (0 : Int) ≤ (i : Int) by omega) (show (i : Int) < s.cells.length by omega), gc_intR, lkM_self hL]
    · have hi2 : s.cells.length ≤ i := by omega
      simp [F.L_value, Ex.toD, Ex.val, atV, evS, evE, evEs, idxD, g1, g2, ix2, ix4, bindPat, cmpD, memD, inD, indexD, mapO, reify, D.plain, eqD_str, truthR, truth, retOf, biD, lenD, hi, hi2, recvOk, bmD, app_get, app1_get, gc_intR, lkM_self hL]
  | prop i =>
    intro n M q l L hd hq hne hL hn
    have g1 : ∀ x, (M ++ [x])[q]? = some (.lst [.tup (s.cells.map .int), .tup (s.props.map .int), .tup (s.store.map .int), .int s.ix]) := fun x => (hq.app [x]).h
    have g2 : ∀ x y, (M ++ [x, y])[q]? = some (.lst [.tup (s.cells.map .int), .tup (s.props.map .int), .tup (s.store.map .int), .int s.ix]) := fun x y => (hq.app [x, y]).h
    rw [evF_at hf _ rfl]
    by_cases hi : i < s.props.length
    · have hi2 : ¬ s.props.length ≤ i := by omega
      simp [F.L_value, Ex.toD, Ex.val, atV, evS, evE, evEs, idxD, g1, g2, ix2, ix4, bindPat, cmpD, memD, inD, indexD, mapO, reify, D.plain, eqD_str, truthR, truth, retOf, biD, lenD, hi, hi2, recvOk, bmD, app_get, app1_get, pyIx_nat (show (0 : Int) ≤ (i : Int) by omega) (show (i : Int) < s.props.length by omega), gc_intR, lkM_self hL]
    · have hi2 : s.props.length ≤ i := by omega
      simp [F.L_value, Ex.toD, Ex.val, atV, evS, evE, evEs, idxD, g1, g2, ix2, ix4, bindPat, cmpD, memD, inD, indexD, mapO, reify, D.plain, eqD_str, truthR, truth, retOf, biD, lenD, hi, hi2, recvOk, bmD, app_get, app1_get, gc_intR, lkM_self hL]
  | store i =>
    intro n M q l L hd hq hne hL hn
    have g1 : ∀ x, (M ++ [x])[q]? = some (.lst [.tup (s.cells.map .int), .tup (s.props.map .int), .tup (s.store.map .int), .int s.ix]) := fun x => (hq.app [x]).h
    have g2 : ∀ x y, (M ++ [x, y])[q]? = some (.lst [.tup (s.cells.map .int), .tup (s.props.map .int), .tup (s.store.map .int), .int s.ix]) := fun x y => (hq.app [x, y]).h
    have g3 : ∀ x y, (M ++ [x, y])[l]? = some (.lst (L.map .int)) := fun x y => (hL.app [x, y]).h
    have hlen : L.length < LIM := by
      have : LIM = 16777216 := rfl
      omega
    have e1 : ∀ x y, (M ++ [x, y]).set l (.lst (L.map D.int ++ [D.int (i : Int)])) = lkM M l (L ++ [(i : Int)]) ++ [x, y] := fun x y => by
      rw [← lkM_app hL.lt]; simp [lkM]
    rw [evF_at hf _ rfl]
    by_cases hi : i < s.store.length
    · have hi2 : ¬ s.store.length ≤ i := by omega
      simp [F.L_value, Ex.toD, Ex.val, atV, evS, evE, evEs, idxD, g1, g2, g3, e1, hlen, ix2, ix4, bindPat, cmpD, memD, inD, indexD, mapO, reify, D.plain, eqD_str, truthR, truth, retOf, biD, lenD, hi, hi2, recvOk, bmD, app_get, app1_get, pyIx_nat (show (0 : Int) ≤ (i : Int) by omega) (show (i : Int) < s.store.length by omega), lkM_gcR]
    · have hi2 : s.store.length ≤ i := by omega
      simp [F.L_value, Ex.toD, Ex.val, atV, evS, evE, evEs, idxD, g1, g2, ix2, ix4, bindPat, cmpD, memD, inD, indexD, mapO, reify, D.plain, eqD_str, truthR, truth, retOf, biD, lenD, hi, hi2, recvOk, bmD, app_get, app1_get, gc_intR, lkM_self hL]
  | iff a b c iha ihb ihc =>
    intro n M q l L hd hq hne hL hn
    simp only [Ex.dep] at hd
    obtain ⟨m, rfl⟩ : ∃ m, n = m + 1 := ⟨n - 1, by omega⟩
    have hn' : L.length + ((a.val s).2.length + (if (a.val s).1 ≠ 0 then b.val s else c.val s).2.length) ≤ 1000 := by
      simpa [Ex.looks, Ex.val] using hn
    have h1 := fun x => iha m (M ++ [x]) q l L (by omega) (hq.app _) hne (hL.app _) (by unfold Ex.looks; omega)
    simp only [lkM_app hL.lt] at h1
    have hL2 := hL.next (L ++ (a.val s).2)
    have hq2 := hq.lk hne (L ++ (a.val s).2)
    rw [evF_at hf _ rfl]
    have key : ∀ (e : Ex), (∀ x y, evF P wl (m + 2) (.fn "_law_value") [e.toD, .ref q, .ref l] (lkM M l (L ++ (a.val s).2) ++ [x, y]) = some (.int (e.val s).1, lkM M l (L ++ (a.val s).2 ++ (e.val s).2) ++ [x, y])) → True := fun _ _ => trivial
    have hlen2 : (lkM M l (L ++ (a.val s).2)).length = M.length := lkM_len _ _
    have ag : ∀ x y, (lkM M l (L ++ (a.val s).2) ++ [x, y])[M.length + 1]? = some y := fun x y => by rw [← hlen2]; exact app1_get x y
    by_cases hc : (a.val s).1 = 0
    · rw [if_neg (by simpa using hc)] at hn'
      have h2 := fun x y => ihc m (lkM M l (L ++ (a.val s).2) ++ [x, y]) q l (L ++ (a.val s).2) (by omega) (hq2.app _) hne (hL2.app _) (by unfold Ex.looks; rw [List.length_append]; omega)
      simp only [lkM_app hL2.lt, lkM_lkM] at h2
      simp [F.L_value, Ex.toD, Ex.val, evS, evE, evEs, idxD, ix4, show pyIx 2 0 = some 0 from rfl, show pyIx 2 1 = some 1 from rfl, bindPat, cmpD, memD, inD, D.plain, eqD_str, eqD_int, truthR, truth, retOf, app_get, ag, hlen2, biD, b2i, h1, hc, h2, lkM_gcR]
    · rw [if_pos hc] at hn'
      have h2 := fun x y => ihb m (lkM M l (L ++ (a.val s).2) ++ [x, y]) q l (L ++ (a.val s).2) (by omega) (hq2.app _) hne (hL2.app _) (by unfold Ex.looks; rw [List.length_append]; omega)
      simp only [lkM_app hL2.lt, lkM_lkM] at h2
      simp [F.L_value, Ex.toD, Ex.val, evS, evE, evEs, idxD, ix4, show pyIx 2 0 = some 0 from rfl, show pyIx 2 1 = some 1 from rfl, bindPat, cmpD, memD, inD, D.plain, eqD_str, eqD_int, truthR, truth, retOf, app_get, ag, hlen2, biD, b2i, h1, hc, h2, lkM_gcR]
  | bin k a b iha ihb =>
    intro n M q l L hd hq hne hL hn
    simp only [Ex.dep] at hd
    obtain ⟨m, rfl⟩ : ∃ m, n = m + 1 := ⟨n - 1, by omega⟩
    have hn' : L.length + ((a.val s).2.length + (b.val s).2.length) ≤ 1000 := by
      simpa [Ex.looks, Ex.val] using hn
    have h1 := fun x => iha m (M ++ [x]) q l L (by omega) (hq.app _) hne (hL.app _) (by unfold Ex.looks; omega)
    simp only [lkM_app hL.lt] at h1
    have hL2 := hL.next (L ++ (a.val s).2)
    have hq2 := hq.lk hne (L ++ (a.val s).2)
    have h2 := fun x => ihb m (lkM M l (L ++ (a.val s).2) ++ [x]) q l (L ++ (a.val s).2) (by omega) (hq2.app _) hne (hL2.app _) (by unfold Ex.looks; rw [List.length_append]; omega)
    simp only [lkM_app hL2.lt, lkM_lkM] at h2
    rw [evF_at hf _ rfl]
    cases k with
    | plus => simp [F.L_value, Ex.toD, Ex.val, Bn.name, binV, evS, evE, evEs, idxD, ix3, bindPat, cmpD, memD, inD, D.plain, eqD_str, truthR, truth, retOf, app_get, h1, h2, binD, biD, lkM_gcR]
    | minus => simp [F.L_value, Ex.toD, Ex.val, Bn.name, binV, evS, evE, evEs, idxD, ix3, bindPat, cmpD, memD, inD, D.plain, eqD_str, truthR, truth, retOf, app_get, h1, h2, binD, biD, lkM_gcR]
    | same => simp [F.L_value, Ex.toD, Ex.val, Bn.name, binV, evS, evE, evEs, idxD, ix3, bindPat, cmpD, memD, inD, D.plain, eqD_str, eqD_int, truthR, truth, retOf, app_get, h1, h2, biD, b2i, lkM_gcR]
    | less => simp [F.L_value, Ex.toD, Ex.val, Bn.name, binV, evS, evE, evEs, idxD, ix3, bindPat, cmpD, memD, inD, D.plain, eqD_str, truthR, truth, retOf, app_get, h1, h2, biD, b2i, lkM_gcR]
end
end Pw

end
section
set_option maxHeartbeats 1000000
namespace Pw
theorem Bn.name_bel (n : Nat) (k : Bn) : (D.str k.name).bel n = true := by cases k <;> simp [D.bel]
theorem Ex.bel (n : Nat) : ∀ e : Ex, e.toD.bel n = true
  | .num i => by simp [Ex.toD, D.bel, D.bels]
  | .cell i => by simp [Ex.toD, D.bel, D.bels]
  | .prop i => by simp [Ex.toD, D.bel, D.bels]
  | .store i => by simp [Ex.toD, D.bel, D.bels]
  | .index => by simp [Ex.toD, D.bel, D.bels]
  | .iff a b c => by simp [Ex.toD, D.bel, D.bels, Ex.bel n a, Ex.bel n b, Ex.bel n c]
  | .bin k a b => by simp [Ex.toD, D.bel, D.bels, Ex.bel n a, Ex.bel n b]
theorem Ex.looks_le (s : Sc) : ∀ e : Ex, e.looks s ≤ 2 ^ e.dep
  | .num i => by simp [Ex.looks, Ex.val]
  | .cell i => by simp [Ex.looks, Ex.val]
  | .prop i => by simp [Ex.looks, Ex.val]
  | .store i => by simp only [Ex.looks, Ex.val, Ex.dep]; split <;> simp
  | .index => by simp [Ex.looks, Ex.val]
  | .iff a b c => by
    have h1 := Ex.looks_le s a
    have h2 := Ex.looks_le s b
    have h3 := Ex.looks_le s c
    simp only [Ex.looks] at h1 h2 h3
    simp only [Ex.looks, Ex.val, Ex.dep, List.length_append]
    have p1 : 2 ^ a.dep ≤ 2 ^ max a.dep (max b.dep c.dep) := Nat.pow_le_pow_right (by decide) (Nat.le_max_left _ _)
    have p2 : 2 ^ b.dep ≤ 2 ^ max a.dep (max b.dep c.dep) := Nat.pow_le_pow_right (by decide) (by omega)
    have p3 : 2 ^ c.dep ≤ 2 ^ max a.dep (max b.dep c.dep) := Nat.pow_le_pow_right (by decide) (by omega)
    rw [Nat.pow_succ]
    split <;> omega
  | .bin k a b => by
    have h1 := Ex.looks_le s a
    have h2 := Ex.looks_le s b
    simp only [Ex.looks] at h1 h2
    simp only [Ex.looks, Ex.val, Ex.dep, List.length_append]
    have p1 : 2 ^ a.dep ≤ 2 ^ max a.dep b.dep := Nat.pow_le_pow_right (by decide) (Nat.le_max_left _ _)
    have p2 : 2 ^ b.dep ≤ 2 ^ max a.dep b.dep := Nat.pow_le_pow_right (by decide) (by omega)
    rw [Nat.pow_succ]
    omega
section
variable {P : Prog} {wl n : Nat} {M : Mem}
theorem boxM_len (b d a : Nat) : (boxM M b d a).length = M.length := by unfold boxM; simp
theorem box_gcR {b d a : Nat} {ds : List Int} (B : Box M b d ds a) (a' : Nat) (R : Mem) (x : D) (hx : x.bel M.length = true) : gc M x (boxM M b d a' ++ R) = (x, boxM M b d a') := by
  have hd : d < M.length := (List.getElem?_eq_some_iff.mp B.hd).1
  have h : oldOk M.length M (boxM M b d a') = true := oldOk_set _ _ (by simp [MO.bel, D.bels, D.bel, hd]) _ _ _ (oldOk_self _ _)
  rw [gc_of (oldOk_app2 _ R _ _ h) hx, List.take_left' (boxM_len b d a')]
theorem box_gc {b d a : Nat} {ds : List Int} (B : Box M b d ds a) (a' : Nat) (x : D) (hx : x.bel M.length = true) : gc M x (boxM M b d a') = (x, boxM M b d a') := by
  have := box_gcR B a' [] x hx
  simpa using this
/-- a digit is drawn, wherever the box stands -/
theorem dr (hf : P.fdef (.fn "_law_draw") = some F.L_draw_2) {b d a : Nat} {ds : List Int} (B : Box M b d ds a) (a' : Nat) (many : Nat) (hm : 0 < many) :
    ∃ v : Nat, v < many ∧ evF P wl (n + 1) (.fn "_law_draw") [.ref b, .int many] (boxM M b d a') = some (.int v, boxM M b d (a' + 1)) := by
  have h := draw_run (P := P) (wl := wl) (n := n) hf (B.next a') (many : Int) (by omega)
  obtain ⟨h1, h2⟩ := drawV_lt (ds := ds) (a := a') (many := (many : Int)) (by omega)
  rw [boxM_boxM] at h
  refine ⟨(drawV ds a' many).toNat, by omega, ?_⟩
  rw [show (((drawV ds a' many).toNat : Nat) : Int) = drawV ds a' many by omega]
  exact h
theorem wide_leaf (hf : P.fdef (.fn "_law_wide") = some F.L_wide) (hw : P.fdef (.fn "_law_draw") = some F.L_draw_2) (k : Nat) {b d a : Nat} {ds : List Int} (B : Box M b d ds a) (v0 : Nat) (hkv : k = 0 ∨ v0 < 6)
    (h0 : evF P wl (n + 1) (.fn "_law_draw") [.ref b, .int 12] M = some (.int v0, boxM M b d (a + 1))) : ∃ (e : Ex) (a2 : Nat), e.dep ≤ k ∧ evF P wl (n + 2) (.fn "_law_wide") [.ref b, .int k] M = some (e.toD, boxM M b d a2) := by
  obtain ⟨v1, l1, h1⟩ := dr (P := P) (wl := wl) (n := n) hw B (a + 1) 4 (by decide)
  obtain ⟨v2, l2, h2⟩ := dr (P := P) (wl := wl) (n := n) hw B (a + 1 + 1) 4 (by decide)
  obtain ⟨v3, l3, h3⟩ := dr (P := P) (wl := wl) (n := n) hw B (a + 1 + 1 + 1) 5 (by decide)
  obtain ⟨v4, l4, h4⟩ := dr (P := P) (wl := wl) (n := n) hw B (a + 1 + 1 + 1 + 1) 4 (by decide)
  obtain ⟨v5, l5, h5⟩ := dr (P := P) (wl := wl) (n := n) hw B (a + 1 + 1 + 1 + 1 + 1) 4 (by decide)
  have q := fun (R : Mem) (e : Ex) => box_gcR B (a + 1 + 1 + 1 + 1 + 1 + 1) R e.toD (e.bel _)
  have ag : ∀ x, (boxM M b d (a + 1 + 1 + 1 + 1 + 1 + 1) ++ [x])[M.length]? = some x := fun x => by
    rw [← boxM_len (M := M) b d (a + 1 + 1 + 1 + 1 + 1 + 1)]; exact app_get
  rw [evF_at hf _ rfl]
  have fin : ∀ (e : Ex) (r : Nat), e.dep ≤ k → (v0 : Int) % 6 = r → r < 6 → ([D.tup [.str "num", .int v1], .tup [.str "num", .int (996 + (v2 : Int))], .tup [.str "cell", .int v3], .tup [.str "prop", .int v4], .tup [.str "store", .int v5], .tup [.str "index"]] : List D)[r]? = some e.toD →
      ∃ (e : Ex) (a2 : Nat), e.dep ≤ k ∧ retOf M (evS ⟨P, evF P wl (n + 1), wl⟩ F.L_wide.body (List.map some [D.ref b, .int (k : Int)] ++ List.replicate (F.L_wide.slots - F.L_wide.params) none) M) = some (e.toD, boxM M b d a2) := by
    intro e r he hr hr6 hg
    refine ⟨e, a + 1 + 1 + 1 + 1 + 1 + 1, he, ?_⟩
    have hp : pyIx 6 (r : Int) = some r := by rw [pyIx_nat (by omega) (by omega)]; simp
    simp at h0 h1 h2 h3 h4 h5 hg
    by_cases hk0 : k = 0
    · subst hk0
      simp [F.L_wide, evS, evE, evEs, h0, h1, h2, h3, h4, h5, bindPat, cmpD, eqD_int, truthR, truth, binD, biD, idxD, boxM_len, ag, hr, hp, hg, retOf, q]
    · have hv6 : v0 < 6 := hkv.resolve_left hk0
      have hv6' : (v0 : Int) < 6 := by omega
      have hk0' : ¬ (k : Int) = 0 := by omega
      simp [F.L_wide, evS, evE, evEs, h0, h1, h2, h3, h4, h5, bindPat, cmpD, eqD_int, truthR, truth, binD, biD, idxD, boxM_len, ag, hr, hp, hg, retOf, q, hk0, hk0', hv6, hv6']
  have hv : v0 % 6 = 0 ∨ v0 % 6 = 1 ∨ v0 % 6 = 2 ∨ v0 % 6 = 3 ∨ v0 % 6 = 4 ∨ v0 % 6 = 5 := by omega
  rcases hv with hv | hv | hv | hv | hv | hv
  · exact fin (.num v1) 0 (by simp [Ex.dep]) (by omega) (by decide) rfl
  · exact fin (.num (996 + v2)) 1 (by simp [Ex.dep]) (by omega) (by decide) (by simp [Ex.toD])
  · exact fin (.cell v3) 2 (by simp [Ex.dep]) (by omega) (by decide) rfl
  · exact fin (.prop v4) 3 (by simp [Ex.dep]) (by omega) (by decide) rfl
  · exact fin (.store v5) 4 (by simp [Ex.dep]) (by omega) (by decide) rfl
  · exact fin .index 5 (by simp [Ex.dep]) (by omega) (by decide) rfl
theorem wide_run (hf : P.fdef (.fn "_law_wide") = some F.L_wide) (hw : P.fdef (.fn "_law_draw") = some F.L_draw_2) :
    ∀ (k n : Nat) (M : Mem) (b d a : Nat) (ds : List Int), k ≤ n → Box M b d ds a → ∃ (e : Ex) (a2 : Nat), e.dep ≤ k ∧ evF P wl (n + 2) (.fn "_law_wide") [.ref b, .int k] M = some (e.toD, boxM M b d a2) := by
  intro k
  induction k with
  | zero =>
    intro n M b d a ds hk B
    obtain ⟨v0, l0, h0⟩ := dr (P := P) (wl := wl) (n := n) hw B a 12 (by decide)
    rw [boxM_self B] at h0
    exact wide_leaf hf hw 0 B v0 (.inl rfl) h0
  | succ k ih =>
    intro n M b d a ds hk B
    obtain ⟨m, rfl⟩ : ∃ m, n = m + 1 := ⟨n - 1, by omega⟩
    obtain ⟨v0, l0, h0⟩ := dr (P := P) (wl := wl) (n := m + 1) hw B a 12 (by decide)
    rw [boxM_self B] at h0
    by_cases hv : v0 < 6
    · exact wide_leaf hf hw (k + 1) B v0 (.inr hv) h0
    · obtain ⟨e1, a1, d1, h1⟩ := ih m (boxM M b d (a + 1)) b d (a + 1) ds (by omega) (B.next _)
      rw [boxM_boxM] at h1
      obtain ⟨e2, a2, d2, h2⟩ := ih m (boxM M b d a1) b d a1 ds (by omega) (B.next _)
      rw [boxM_boxM] at h2
      have hv' : ¬ (v0 : Int) < 6 := by omega
      have hk0 : ¬ ((k : Int) + 1 = 0) := by omega
      have hk1 : (k : Int) + 1 - 1 = k := by omega
      rw [evF_at hf _ rfl]
      by_cases h9 : 9 < v0
      · obtain ⟨e3, a3, d3, h3⟩ := ih m (boxM M b d a2) b d a2 ds (by omega) (B.next _)
        rw [boxM_boxM] at h3
        have h9' : 9 < (v0 : Int) := by omega
        refine ⟨.iff e1 e2 e3, a3, by simp only [Ex.dep]; omega, ?_⟩
        have q := box_gc B a3 (Ex.iff e1 e2 e3).toD ((Ex.iff e1 e2 e3).bel _)
        simp only [Ex.toD] at q
        simp at h0
        simp [F.L_wide, Ex.toD, evS, evE, evEs, h0, h1, h2, h3, bindPat, cmpD, eqD_int, truthR, truth, binD, hv, hv', hk0, hk1, h9, h9', retOf, q]
      · have h9' : ¬ 9 < (v0 : Int) := by omega
        have fin : ∀ (kk : Bn) (r : Nat), (v0 : Int) % 4 = r → r < 4 → ([D.str "plus", .str "minus", .str "same", .str "less"] : List D)[r]? = some (.str kk.name) →
            ∃ (e : Ex) (a2 : Nat), e.dep ≤ k + 1 ∧ retOf M (evS ⟨P, evF P wl (m + 1 + 1), wl⟩ F.L_wide.body (List.map some [D.ref b, .int ((k + 1 : Nat) : Int)] ++ List.replicate (F.L_wide.slots - F.L_wide.params) none) M) = some (e.toD, boxM M b d a2) := by
          intro kk r hr hr4 hg
          refine ⟨.bin kk e1 e2, a2, by simp only [Ex.dep]; omega, ?_⟩
          have q := fun R => box_gcR B a2 R (Ex.bin kk e1 e2).toD ((Ex.bin kk e1 e2).bel _)
          simp only [Ex.toD] at q
          have hp : pyIx 4 (r : Int) = some r := by rw [pyIx_nat (by omega) (by omega)]; simp
          have ag : ∀ x, (boxM M b d a2 ++ [x])[M.length]? = some x := fun x => by
            rw [← boxM_len (M := M) b d a2]; exact app_get
          simp at h0
          simp [F.L_wide, Ex.toD, evS, evE, evEs, h0, h1, h2, bindPat, cmpD, eqD_int, truthR, truth, binD, biD, idxD, boxM_len, ag, hr, hp, hg, hv, hv', hk0, hk1, h9, h9', retOf, q]
        have hv4 : v0 % 4 = 0 ∨ v0 % 4 = 1 ∨ v0 % 4 = 2 ∨ v0 % 4 = 3 := by omega
        rcases hv4 with h | h | h | h
        · exact fin .plus 0 (by omega) (by decide) rfl
        · exact fin .minus 1 (by omega) (by decide) rfl
        · exact fin .same 2 (by omega) (by decide) rfl
        · exact fin .less 3 (by omega) (by decide) rfl
theorem same_int (hf : P.fdef (.fn "_law_same") = some F.L_same) (i j : Int) : evF P wl (n + 1) (.fn "_law_same") [.int i, .int j] M = some (.bl (decide (i = j)), M) := by
  rw [evF_at hf _ rfl]
  by_cases h : i = j <;> simp [F.L_same, evS, evE, evEs, isiD, bindPat, cmpD, eqD_int, truthR, truth, h, retOf, gc_bl0]
end
end Pw

end
section
set_option maxHeartbeats 1000000
namespace Pw
def rowsD (rows : List (List Int)) : List D := rows.map fun r => .tup (r.map .int)
structure St (M : Mem) (ds : List Int) (a : Nat) (rows : List (List Int)) : Prop where
  box : Box M 1 0 ds a
  h : M[2]? = some (.lst (rowsD rows))
section
variable {P : Prog} {wl n : Nat} {M : Mem}
theorem St.app {ds : List Int} {a : Nat} {rows : List (List Int)} (s : St M ds a rows) (R : Mem) : St (M ++ R) ds a rows := by
  have l1 := (List.getElem?_eq_some_iff.mp s.box.hb).1
  have l0 := (List.getElem?_eq_some_iff.mp s.box.hd).1
  have l2 := (List.getElem?_eq_some_iff.mp s.h).1
  exact ⟨⟨by rw [List.getElem?_append_left l1]; exact s.box.hb, by rw [List.getElem?_append_left l0]; exact s.box.hd, by decide⟩, by rw [List.getElem?_append_left l2]; exact s.h⟩
theorem St.next {ds : List Int} {a : Nat} {rows : List (List Int)} (s : St M ds a rows) (a' : Nat) : St (boxM M 1 0 a') ds a' rows :=
  ⟨s.box.next a', by unfold boxM; rw [List.getElem?_set_ne (by decide)]; exact s.h⟩
theorem St.put {ds : List Int} {a : Nat} {rows : List (List Int)} (s : St M ds a rows) (rows' : List (List Int)) : St (M.set 2 (.lst (rowsD rows'))) ds a rows' :=
  ⟨⟨by rw [List.getElem?_set_ne (by decide)]; exact s.box.hb, by rw [List.getElem?_set_ne (by decide)]; exact s.box.hd, by decide⟩, List.getElem?_set_self (List.getElem?_eq_some_iff.mp s.h).1⟩
def prE : E := (.cons (.idx (.lst (.cons (.call "_law_draw" (.cons (.var 1) (.cons (.int (4)) .nil))) (.cons (.call "_law_draw" (.cons (.var 1) (.cons (.int (1000)) .nil))) .nil))) (.call "_law_draw" (.cons (.var 1) (.cons (.int (2)) .nil)))) .nil)
theorem turns_step {g : List (Nat × MO)} {p : Pat} {c : VEnv → Mem → R Bool} {b : VEnv → Mem → R (List D)} {ρ ρ1 : VEnv} {x : D} {xs ys zs : List D} {M M1 M2 M3 : Mem} (hs : still g M = true) (hp : bindPat p x ρ = some ρ1) (hc : c ρ1 M = some (true, M1)) (hb : b ρ1 M1 = some (ys, M2)) (hr : turns g p c b ρ xs M2 = some (zs, M3)) :
    turns g p c b ρ (x :: xs) M = some (ys ++ zs, M3) := by
  unfold turns
  rw [if_pos hs, hp]
  simp only [hc, bnd_some, if_true, hb, hr]
theorem bl_true (F : FT) (ρ : VEnv) (M : Mem) : truthR (evE F (.bl true) ρ M) = some (true, M) := by simp [evE, truthR, truth]
theorem pairs_turn (hw : P.fdef (.fn "_law_draw") = some F.L_draw_2) {ds : List Int} {rows : List (List Int)} (ρ : VEnv) (hρ : ρ[1]? = some (some (.ref 1))) : ∀ (items : List D) (M : Mem) (a : Nat), St M ds a rows →
    ∃ (xs : List Int) (M2 : Mem) (a2 : Nat), turns [] (.name 10) (fun ρ M => truthR (evE ⟨P, evF P wl (n + 1), wl⟩ (.bl true) ρ M)) (fun ρ M => evEs ⟨P, evF P wl (n + 1), wl⟩ prE ρ M) ρ items M = some (xs.map .int, M2) ∧ xs.length = items.length ∧ St M2 ds a2 rows := by
  intro items
  induction items with
  | nil => intro M a s; exact ⟨[], M, a, by simp [turns, still], rfl, s⟩
  | cons x items ih =>
    intro M a s
    obtain ⟨v1, l1, h1⟩ := dr (P := P) (wl := wl) (n := n) hw s.box a 4 (by decide)
    obtain ⟨v2, l2, h2⟩ := dr (P := P) (wl := wl) (n := n) hw s.box (a + 1) 1000 (by decide)
    rw [boxM_self s.box] at h1
    have s2 := (s.next (a + 1 + 1)).app [.lst [.int (v1 : Int), .int (v2 : Int)]]
    obtain ⟨v3, l3, h3⟩ := dr (P := P) (wl := wl) (n := n) hw s2.box (a + 1 + 1) 2 (by decide)
    rw [boxM_self s2.box] at h3
    have s3 := s2.next (a + 1 + 1 + 1)
    obtain ⟨xs, M2, a2, h4, h5, s4⟩ := ih _ _ s3
    have hρ2 : (ρ.set 10 (some x))[1]? = some (some (.ref 1)) := by rw [List.getElem?_set_ne (by decide)]; exact hρ
    have ag : (boxM (boxM M 1 0 (a + 1 + 1) ++ [.lst [.int (v1 : Int), .int (v2 : Int)]]) 1 0 (a + 1 + 1 + 1))[M.length]? = some (.lst [.int (v1 : Int), .int (v2 : Int)]) := by
      have l1 := (List.getElem?_eq_some_iff.mp s.box.hb).1
      unfold boxM
      rw [List.getElem?_set_ne (by omega), List.getElem?_append_right (by simp)]
      simp
    have hv : v3 = 0 ∨ v3 = 1 := by omega
    obtain ⟨hag, ag2⟩ := List.getElem?_eq_some_iff.mp ag
    simp at h1 h2 h3
    rcases hv with rfl | rfl
    · refine ⟨(v1 : Int) :: xs, M2, a2, ?_, by simp [h5], s4⟩
      refine turns_step (ys := [.int (v1 : Int)]) rfl rfl (bl_true _ _ _) ?_ h4
      simp [prE, evE, evEs, hρ2, h1, h2, h3, idxD, boxM_len, ag2, ix2]
    · refine ⟨(v2 : Int) :: xs, M2, a2, ?_, by simp [h5], s4⟩
      refine turns_step (ys := [.int (v2 : Int)]) rfl rfl (bl_true _ _ _) ?_ h4
      simp [prE, evE, evEs, hρ2, h1, h2, h3, idxD, boxM_len, ag2, ix2]
/-! ### the law's loops -/
def lawA : S := (.seq (.asg (.name 5) (.call "_law_draw" (.cons (.var 1) (.cons (.int (4)) .nil))))
  (.expr (.bm .append (.var 2) (.cons (.coll .tuple (.cons (.lcomp (.for1 [10] (.name 10) (.range (.cons (.var 5) .nil)) (.bl true) prE)) .nil)) .nil))))
theorem evIt_range' (F : FT) (r : E) (ρ : VEnv) (M : Mem) : evIt F (.range r) ρ M = bnd (evEs F r ρ M) fun xs M => (rangeD xs).map fun ys => ((ys, []), M) := by simp only [evIt]
theorem rg_small (v : Nat) (h : v < 1000) : rangeD [.int (v : Int)] = some ((List.range v).map fun k : Nat => D.int (0 + (k : Int))) := by
  have := range_D (v : Int) ⟨Int.lt_of_lt_of_le (by decide : -(2 ^ 61 : Int) < 0) (Int.natCast_nonneg v), Int.lt_trans (show (v : Int) < 1000 by omega) (by decide)⟩
  rw [Int.toNat_natCast] at this
  exact this
theorem lcomp_run (hw : P.fdef (.fn "_law_draw") = some F.L_draw_2) {ds : List Int} {rows : List (List Int)} {a v : Nat} (s : St M ds a rows) (hv : v < 1000) (v3 v4 v6 v7 v8 v9 v10 : Option D) :
    ∃ (xs : List Int) (M2 : Mem) (a2 : Nat), evE ⟨P, evF P wl (n + 1), wl⟩ (.lcomp (.for1 [10] (.name 10) (.range (.cons (.var 5) .nil)) (.bl true) prE)) [some .scr, some (.ref 1), some (.ref 2), v3, v4, some (.int (v : Int)), v6, v7, v8, v9, v10] M = some (.ref M2.length, M2 ++ [.lst (xs.map .int)]) ∧ St M2 ds a2 rows := by
  obtain ⟨xs, M2, a2, h1, h2, s2⟩ := pairs_turn (P := P) (wl := wl) (n := n) hw (wipeE [some .scr, some (.ref 1), some (.ref 2), v3, v4, some (.int (v : Int)), v6, v7, v8, v9, v10] [10]) rfl ((List.range v).map fun k : Nat => D.int (0 + (k : Int))) _ _ s
  refine ⟨xs, M2, a2, ?_, s2⟩
  have hl : (xs.map D.int).length ≤ LIM := by
    rw [List.length_map, h2, List.length_map, List.length_range]
    exact Nat.le_trans (Nat.le_of_lt hv) (by decide)
  have hit : evIt ⟨P, evF P wl (n + 1), wl⟩ (.range (.cons (.var 5) .nil)) [some .scr, some (.ref 1), some (.ref 2), v3, v4, some (.int (v : Int)), v6, v7, v8, v9, v10] M = some (((List.range v).map fun k : Nat => D.int (0 + (k : Int)), []), M) := by
    rw [evIt_range', evEs_cons', evE_var' _ _ _ _ (.int (v : Int)) rfl, bnd_some, evEs_nil', bnd_some, bnd_some, rg_small v hv, Option.map_some]
  rw [evE_lcomp', evEs_for1', hit, bnd_some, h1, bnd_some, if_pos hl]
theorem append_run (q : Mem) (rows : List (List Int)) (xs : List Int) (hq : q[2]? = some (.lst (rowsD rows))) (hr : rows.length ≤ 3) : bmD q .append (.ref 2) [.tup (xs.map .int)] = some (.non, q.set 2 (.lst (rowsD (rows ++ [xs])))) := by
  have hrl : (rowsD rows).length < LIM := by
    rw [rowsD, List.length_map]
    exact Nat.lt_of_le_of_lt hr (by decide)
  have hap : rowsD (rows ++ [xs]) = rowsD rows ++ [.tup (xs.map .int)] := by simp [rowsD]
  rw [hap]
  show (match q[2]? with
    | some (.lst xs') => if xs'.length < LIM then some (D.non, q.set 2 (MO.lst (xs' ++ [D.tup (xs.map D.int)]))) else none
    | _ => none) = _
  rw [hq]
  show (if (rowsD rows).length < LIM then _ else _) = _
  rw [if_pos hrl]
theorem lawA_run (hw : P.fdef (.fn "_law_draw") = some F.L_draw_2) {ds : List Int} {rows : List (List Int)} {a : Nat} (s : St M ds a rows) (hr : rows.length ≤ 3) (v3 v4 v5 v6 v7 v8 v9 v10 : Option D) :
    ∃ (r : List Int) (v5' : Option D) (M2 : Mem) (a2 : Nat), evS ⟨P, evF P wl (n + 1), wl⟩ lawA [some .scr, some (.ref 1), some (.ref 2), v3, v4, v5, v6, v7, v8, v9, v10] M = some (.nx [some .scr, some (.ref 1), some (.ref 2), v3, v4, v5', v6, v7, v8, v9, v10], M2) ∧ St M2 ds a2 (rows ++ [r]) := by
  obtain ⟨v0, l0, h0⟩ := dr (P := P) (wl := wl) (n := n) hw s.box a 4 (by decide)
  rw [boxM_self s.box] at h0
  obtain ⟨xs, M2, a2, e2, s2⟩ := lcomp_run (P := P) (wl := wl) (n := n) (v := v0) hw (s.next (a + 1)) (by omega) v3 v4 v6 v7 v8 v9 v10
  have e1 : evS ⟨P, evF P wl (n + 1), wl⟩ (.asg (.name 5) (.call "_law_draw" (.cons (.var 1) (.cons (.int (4)) .nil)))) [some .scr, some (.ref 1), some (.ref 2), v3, v4, v5, v6, v7, v8, v9, v10] M = some (.nx [some .scr, some (.ref 1), some (.ref 2), v3, v4, some (.int (v0 : Int)), v6, v7, v8, v9, v10], boxM M 1 0 (a + 1)) := by
    have h0' : evF P wl (n + 1) (.fn "_law_draw") [.ref 1, .int 4] M = some (.int (v0 : Int), boxM M 1 0 (a + 1)) := h0
    simp [evS_asg', evE, evEs, h0']
  have s3 := s2.app [.lst (xs.map D.int)]
  refine ⟨xs, some (.int (v0 : Int)), _, a2, ?_, s3.put (rows ++ [xs])⟩
  have hb := s.next (a + 1)
  have hrc : recvOk (boxM M 1 0 (a + 1)) .append (.ref 2) = true := by simp [recvOk, hb.h]
  have e3 : (M2 ++ [MO.lst (List.map D.int xs)])[M2.length]? = some (.lst (xs.map D.int)) := app_get
  have hits : itemsD (M2 ++ [MO.lst (List.map D.int xs)]) (.ref M2.length) = some (xs.map .int, [(M2.length, .lst (xs.map .int))]) := by simp only [itemsD, e3]
  unfold lawA
  rw [evS_seq', e1, bnd_some]
  dsimp only
  rw [evS_expr', evE_bm', evE_var' _ _ _ _ (.ref 2) rfl, bnd_some, if_pos hrc, evEs_cons', evE_tupleOf', e2, bnd_some, hits, Option.map_some, bnd_some, evEs_nil', bnd_some, bnd_some, append_run _ rows xs s3.h hr, bnd_some]
end
end Pw

end
section
set_option maxHeartbeats 1000000
namespace Pw
section
variable {P : Prog} {wl n : Nat} {M : Mem}
theorem mapO_ints (M : Mem) : ∀ L : List Int, mapO (reify 59 M) (L.map .int) = some (L.map PV.int)
  | [] => rfl
  | x :: L => by simp [mapO, reify, mapO_ints M L]
theorem eqvs_ints : ∀ L : List Int, PV.eqvs (L.map PV.int) (L.map PV.int) = true
  | [] => by simp [PV.eqvs]
  | x :: L => by simp [PV.eqvs, PV.eqv, eqvs_ints L]
theorem eqD_lists {p q : Nat} {L : List Int} (hp : M[p]? = some (.lst (L.map .int))) (hq : M[q]? = some (.lst (L.map .int))) : eqD M (.ref p) (.ref q) = some true := by
  have e : ∀ r, M[r]? = some (.lst (L.map .int)) → reify 60 M (.ref r) = some (.lst (L.map PV.int)) := fun r hr => by
    unfold reify
    rw [hr]
    simp only [mapO_ints, Option.map_some]
  unfold eqD
  rw [if_neg (by simp [D.plain]), e p hp, e q hq]
  simp [PV.eqv, eqvs_ints]
def lawB : S := (.seq (.asg (.name 6) (.call "_law_wide" (.cons (.var 1) (.cons (.int (3)) .nil))))
  (.seq (.asg (.name 7) (.lst (.cons (.int (7)) .nil)))
  (.seq (.asg (.name 8) (.lst (.cons (.int (7)) .nil)))
  (.seq (.asg (.name 9) (.call "_law_value" (.cons (.var 6) (.cons (.lst (.cons (.idx (.var 2) (.int (0))) (.cons (.idx (.var 2) (.int (1))) (.cons (.idx (.var 2) (.int (2))) (.cons (.var 4) .nil))))) (.cons (.var 8) .nil)))))
  (.seq (.ite (.no (.call "_law_same" (.cons (.call "value" (.cons (.var 6) (.cons (.tup (.cons (.str "scope") (.cons (.idx (.var 2) (.int (0))) (.cons (.idx (.var 2) (.int (1))) (.cons (.idx (.var 2) (.int (2))) (.cons (.var 4) .nil)))))) (.cons (.var 7) .nil)))) (.cons (.var 9) .nil))))
  (.ret (.bl false))
  .skip)
  (.ite (.cmp .ne (.var 7) (.var 8))
  (.ret (.bl false))
  .skip))))))
theorem lawB_run (f1 : P.fdef (.fn "_law_wide") = some F.L_wide) (f2 : P.fdef (.fn "_law_draw") = some F.L_draw_2) (f3 : P.fdef (.fn "_law_value") = some F.L_value) (f4 : P.fdef (.fn "value") = some F.value) (f5 : P.fdef (.fn "at") = some F.at) (f6 : P.fdef (.fn "_law_same") = some F.L_same) (g : P.glob "WHOLE" = some (.int 1000))
    {ds : List Int} {a : Nat} (s : Sc) (St0 : St M ds a [s.cells, s.props, s.store]) (v3 v5 v6 v7 v8 v9 v10 : Option D) :
    ∃ (w6 w7 w8 w9 : Option D) (M2 : Mem) (a2 : Nat), evS ⟨P, evF P wl (n + 5), wl⟩ lawB [some .scr, some (.ref 1), some (.ref 2), v3, some (.int s.ix), v5, v6, v7, v8, v9, v10] M = some (.nx [some .scr, some (.ref 1), some (.ref 2), v3, some (.int s.ix), v5, w6, w7, w8, w9, v10], M2) ∧ St M2 ds a2 [s.cells, s.props, s.store] := by
  obtain ⟨e, a2, he, h1⟩ := wide_run (P := P) (wl := wl) f1 f2 3 (n + 3) M 1 0 a ds (by omega) St0.box
  have hlk := Nat.le_trans (Ex.looks_le s e) (Nat.pow_le_pow_right (by decide : 0 < 2) he)
  have S1 := St0.next a2
  generalize boxM M 1 0 a2 = N at h1 S1
  have hN2 : 2 < N.length := (List.getElem?_eq_some_iff.mp S1.h).1
  let x7 : MO := .lst ([(7 : Int)].map .int)
  let ar : MO := .lst [.tup (s.cells.map .int), .tup (s.props.map .int), .tup (s.store.map .int), .int s.ix]
  let L : List Int := [7] ++ (e.val s).2
  have h2 : evF P wl (n + 5) (.fn "_law_value") [e.toD, .ref (N.length + 2), .ref (N.length + 1)] (N ++ [x7, x7, ar]) = some (.int (e.val s).1, N ++ [x7, .lst (L.map .int), ar]) := by
    have := lval_run (P := P) (wl := wl) f3 s e (n + 3) (N ++ [x7, x7, ar]) (N.length + 2) (N.length + 1) [7] (by omega) ⟨by rw [List.getElem?_append_right (by omega)]; simp [ar]⟩ (by omega) ⟨by rw [List.getElem?_append_right (by omega)]; simp [x7]⟩ (by simp; omega)
    rw [this]
    unfold lkM
    rw [List.set_append_right _ _ (by omega)]
    simp [L]
  have h3 : evF P wl (n + 5) (.fn "value") [e.toD, scD s, .ref N.length] (N ++ [x7, .lst (L.map .int), ar]) = some (.int (e.val s).1, N ++ [.lst (L.map .int), .lst (L.map .int), ar]) := by
    have := value_run (P := P) (wl := wl) f4 f5 g s e (n + 3) (N ++ [x7, .lst (L.map .int), ar]) N.length [7] (by omega) ⟨by rw [List.getElem?_append_right (by omega)]; simp [x7]⟩ (by simp; omega)
    rw [this]
    unfold lkM
    rw [List.set_append_right _ _ (by omega)]
    simp [L]
  have h4 := same_int (P := P) (wl := wl) (n := n + 4) (M := N ++ [.lst (L.map .int), .lst (L.map .int), ar]) f6 (e.val s).1 (e.val s).1
  have h5 : eqD (N ++ [.lst (L.map .int), .lst (L.map .int), ar]) (.ref N.length) (.ref (N.length + 1)) = some true :=
    eqD_lists (L := L) (by rw [List.getElem?_append_right (by omega)]; simp) (by rw [List.getElem?_append_right (by omega)]; simp)
  have row : ∀ R : Mem, (N ++ R)[2]? = some (.lst [.tup (s.cells.map .int), .tup (s.props.map .int), .tup (s.store.map .int)]) := fun R => by
    have := (S1.app R).h
    simpa [rowsD] using this
  refine ⟨some e.toD, some (.ref N.length), some (.ref (N.length + 1)), some (.int (e.val s).1), _, a2, ?_, S1.app [.lst (L.map .int), .lst (L.map .int), ar]⟩
  have h1' : evF P wl (n + 5) (.fn "_law_wide") [.ref 1, .int 3] M = some (e.toD, N) := h1
  unfold lawB
  rw [evS_seq', show evS ⟨P, evF P wl (n + 5), wl⟩ (.asg (.name 6) (.call "_law_wide" (.cons (.var 1) (.cons (.int (3)) .nil)))) [some .scr, some (.ref 1), some (.ref 2), v3, some (.int s.ix), v5, v6, v7, v8, v9, v10] M = some (.nx [some .scr, some (.ref 1), some (.ref 2), v3, some (.int s.ix), v5, some e.toD, v7, v8, v9, v10], N) by simp [evS_asg', evE, evEs, h1'], bnd_some]
  dsimp only
  rw [evS_seq', show evS ⟨P, evF P wl (n + 5), wl⟩ (.asg (.name 7) (.lst (.cons (.int (7)) .nil))) [some .scr, some (.ref 1), some (.ref 2), v3, some (.int s.ix), v5, some e.toD, v7, v8, v9, v10] N = some (.nx [some .scr, some (.ref 1), some (.ref 2), v3, some (.int s.ix), v5, some e.toD, some (.ref N.length), v8, v9, v10], N ++ [x7]) by simp [evS_asg', evE, evEs, x7], bnd_some]
  dsimp only
  rw [evS_seq', show evS ⟨P, evF P wl (n + 5), wl⟩ (.asg (.name 8) (.lst (.cons (.int (7)) .nil))) [some .scr, some (.ref 1), some (.ref 2), v3, some (.int s.ix), v5, some e.toD, some (.ref N.length), v8, v9, v10] (N ++ [x7]) = some (.nx [some .scr, some (.ref 1), some (.ref 2), v3, some (.int s.ix), v5, some e.toD, some (.ref N.length), some (.ref (N.length + 1)), v9, v10], N ++ [x7, x7]) by simp [evS_asg', evE, evEs, x7], bnd_some]
  dsimp only
  have q1 := row [x7, x7]
  have q2 := row [x7, .lst (L.map .int), ar]
  rw [evS_seq', show evS ⟨P, evF P wl (n + 5), wl⟩ (.asg (.name 9) (.call "_law_value" (.cons (.var 6) (.cons (.lst (.cons (.idx (.var 2) (.int (0))) (.cons (.idx (.var 2) (.int (1))) (.cons (.idx (.var 2) (.int (2))) (.cons (.var 4) .nil))))) (.cons (.var 8) .nil))))) [some .scr, some (.ref 1), some (.ref 2), v3, some (.int s.ix), v5, some e.toD, some (.ref N.length), some (.ref (N.length + 1)), v9, v10] (N ++ [x7, x7]) = some (.nx [some .scr, some (.ref 1), some (.ref 2), v3, some (.int s.ix), v5, some e.toD, some (.ref N.length), some (.ref (N.length + 1)), some (.int (e.val s).1), v10], N ++ [x7, .lst (L.map .int), ar]) by
    simp [evS_asg', evE, evEs, idxD, q1, ix3]
    rw [show (N ++ [x7, x7, MO.lst [D.tup (List.map D.int s.cells), D.tup (List.map D.int s.props), D.tup (List.map D.int s.store), D.int s.ix]]) = N ++ [x7, x7, ar] from rfl, h2]
    rfl, bnd_some]
  dsimp only
  rw [evS_seq', show evS ⟨P, evF P wl (n + 5), wl⟩ (.ite (.no (.call "_law_same" (.cons (.call "value" (.cons (.var 6) (.cons (.tup (.cons (.str "scope") (.cons (.idx (.var 2) (.int (0))) (.cons (.idx (.var 2) (.int (1))) (.cons (.idx (.var 2) (.int (2))) (.cons (.var 4) .nil)))))) (.cons (.var 7) .nil)))) (.cons (.var 9) .nil))))
  (.ret (.bl false))
  .skip) [some .scr, some (.ref 1), some (.ref 2), v3, some (.int s.ix), v5, some e.toD, some (.ref N.length), some (.ref (N.length + 1)), some (.int (e.val s).1), v10] (N ++ [x7, .lst (L.map .int), ar]) = some (.nx [some .scr, some (.ref 1), some (.ref 2), v3, some (.int s.ix), v5, some e.toD, some (.ref N.length), some (.ref (N.length + 1)), some (.int (e.val s).1), v10], N ++ [.lst (L.map .int), .lst (L.map .int), ar]) by
    simp only [scD] at h3
    obtain ⟨hq, q2'⟩ := List.getElem?_eq_some_iff.mp q2
    simp [evS_ite', evS_skip', evE, evEs, idxD, q2', ix3, truthR, h3, h4, truth], bnd_some]
  dsimp only
  rw [evS_ite']
  simp [evE, truthR, cmpD, h5, truth, evS_skip']
end
end Pw

end
section
set_option maxHeartbeats 1000000
namespace Pw
theorem law_body : F.law_k05.body = (.seq (.asg (.name 1) (.lst (.cons (.call "_law_digits" (.cons (.var 0) (.cons (.int (0)) (.cons (.int (63)) .nil)))) (.cons (.int (0)) .nil))))
  (.seq (.asg (.name 2) (.lst .nil))
  (.seq (.for (.name 3) (.range (.cons (.int (3)) .nil)) lawA)
  (.seq (.asg (.name 4) (.call "_law_draw" (.cons (.var 1) (.cons (.int (6)) .nil))))
  (.seq (.for (.name 3) (.range (.cons (.int (6)) .nil)) lawB)
  (.ret (.bl true))))))) := rfl
theorem evIt_rg (F : FT) (v : Nat) (h : v < 1000) (ρ : VEnv) (M : Mem) : evIt F (.range (.cons (.int (v : Int)) .nil)) ρ M = some (((List.range v).map fun k : Nat => D.int (0 + (k : Int)), []), M) := by
  rw [evIt_range', evEs_cons', show evE F (.int (v : Int)) ρ M = some (.int (v : Int), M) by simp only [evE], bnd_some, evEs_nil', bnd_some, bnd_some, rg_small v h, Option.map_some]
theorem k05_run (ns : List Int) (n : Nat) : ∃ M, evF (prog_k05 ns) wl_k05 (n + 7) (.fn "law") [.scr] [] = some (.bl true, M) := by
  have f1 : (prog_k05 ns).fdef (.fn "_law_wide") = some F.L_wide := rfl
  have f2 : (prog_k05 ns).fdef (.fn "_law_draw") = some F.L_draw_2 := rfl
  have f3 : (prog_k05 ns).fdef (.fn "_law_value") = some F.L_value := rfl
  have f4 : (prog_k05 ns).fdef (.fn "value") = some F.value := rfl
  have f5 : (prog_k05 ns).fdef (.fn "at") = some F.at := rfl
  have f6 : (prog_k05 ns).fdef (.fn "_law_same") = some F.L_same := rfl
  have f7 : (prog_k05 ns).fdef (.fn "_law_digits") = some F.L_digits := rfl
  have f8 : (prog_k05 ns).fdef (.fn "_law_cell") = some F.L_cell := rfl
  have f9 : (prog_k05 ns).fdef (.fn "law") = some F.law_k05 := rfl
  have g : (prog_k05 ns).glob "WHOLE" = some (.int 1000) := rfl
  generalize prog_k05 ns = P at *
  obtain ⟨ds, _, hd⟩ := digits_run (P := P) (wl := wl_k05) (n := n + 4) (M := []) f7 f8
  have S0 : St [.lst (ds.map .int), .lst [.ref 0, .int ((0 : Nat) : Int)], .lst []] ds 0 [] := ⟨⟨rfl, rfl, by decide⟩, rfl⟩
  -- the rows
  obtain ⟨ρ1, M1, hA, v5, a1, rows, v3, hρ1, hlen, S1⟩ : ∃ ρ1 M1, forL [] (.name 3) (evS ⟨P, evF P wl_k05 (n + 6), wl_k05⟩ lawA) ((List.range 3).map fun k : Nat => D.int (0 + (k : Int))) [some .scr, some (.ref 1), some (.ref 2), none, none, none, none, none, none, none, none] [.lst (ds.map .int), .lst [.ref 0, .int ((0 : Nat) : Int)], .lst []] = some (.nx ρ1, M1) ∧
      ∃ (v5 : Option D) (a1 : Nat) (rows : List (List Int)) (v3 : Option D), ρ1 = [some .scr, some (.ref 1), some (.ref 2), v3, none, v5, none, none, none, none, none] ∧ rows.length = 3 ∧ St M1 ds a1 rows := by
    obtain ⟨ρ1, M1, h1, v3, v5, a1, rows, h2, h3, h4⟩ := forL_ok (g := []) (p := .name 3) (b := evS ⟨P, evF P wl_k05 (n + 6), wl_k05⟩ lawA) (fun j ρ M => ∃ (v3 v5 : Option D) (a1 : Nat) (rows : List (List Int)), ρ = [some .scr, some (.ref 1), some (.ref 2), v3, none, v5, none, none, none, none, none] ∧ rows.length = j ∧ St M ds a1 rows)
      (fun _ _ _ _ => rfl) ((List.range 3).map fun k : Nat => D.int (0 + (k : Int))) 0 (by
        rintro j x hx ρ M ⟨v3, v5, a1, rows, rfl, hl, s⟩
        have hj : j < 3 := by
          have := (List.getElem?_eq_some_iff.mp hx).1
          simpa using this
        refine ⟨_, rfl, ?_⟩
        obtain ⟨r, v5', M2, a2, h, s2⟩ := lawA_run (P := P) (wl := wl_k05) (n := n + 5) f2 s (by omega) (some x) none v5 none none none none none
        exact ⟨_, M2, h, _, _, _, _, rfl, by simp; omega, s2⟩) _ _ ⟨none, none, 0, [], rfl, rfl, S0⟩
    exact ⟨ρ1, M1, h1, v5, a1, rows, v3, h2, by simpa using h3, h4⟩
  subst hρ1
  obtain ⟨r0, r1, r2, rfl⟩ : ∃ r0 r1 r2, rows = [r0, r1, r2] := by
    match rows, hlen with
    | [r0, r1, r2], _ => exact ⟨r0, r1, r2, rfl⟩
  obtain ⟨ix, _, hix⟩ := dr (P := P) (wl := wl_k05) (n := n + 5) f2 S1.box a1 6 (by decide)
  rw [boxM_self S1.box] at hix
  have S2 : St (boxM M1 1 0 (a1 + 1)) ds (a1 + 1) [r0, r1, r2] := S1.next (a1 + 1)
  generalize boxM M1 1 0 (a1 + 1) = M2 at hix S2
  -- the expressions
  obtain ⟨ρ3, M3, hB⟩ : ∃ ρ3 M3, forL [] (.name 3) (evS ⟨P, evF P wl_k05 (n + 6), wl_k05⟩ lawB) ((List.range 6).map fun k : Nat => D.int (0 + (k : Int))) [some .scr, some (.ref 1), some (.ref 2), v3, some (.int (ix : Int)), v5, none, none, none, none, none] M2 = some (.nx ρ3, M3) := by
    obtain ⟨ρ3, M3, h1, _⟩ := forL_ok (g := []) (p := .name 3) (b := evS ⟨P, evF P wl_k05 (n + 6), wl_k05⟩ lawB) (fun j ρ M => ∃ (v3 v6 v7 v8 v9 : Option D) (a1 : Nat), ρ = [some .scr, some (.ref 1), some (.ref 2), v3, some (.int (ix : Int)), v5, v6, v7, v8, v9, none] ∧ St M ds a1 [r0, r1, r2])
      (fun _ _ _ _ => rfl) ((List.range 6).map fun k : Nat => D.int (0 + (k : Int))) 0 (by
        rintro j x hx ρ M ⟨v3, v6, v7, v8, v9, a1, rfl, s⟩
        refine ⟨_, rfl, ?_⟩
        obtain ⟨w6, w7, w8, w9, M2, a2, h, s2⟩ := lawB_run (P := P) (wl := wl_k05) (n := n + 1) f1 f2 f3 f4 f5 f6 g ⟨r0, r1, r2, (ix : Int)⟩ s (some x) v5 v6 v7 v8 v9 none
        exact ⟨_, M2, h, _, _, _, _, _, _, rfl, s2⟩) _ _ ⟨v3, none, none, none, none, a1 + 1, rfl, S2⟩
    exact ⟨ρ3, M3, h1⟩
  have e1 : evS ⟨P, evF P wl_k05 (n + 6), wl_k05⟩ (.asg (.name 1) (.lst (.cons (.call "_law_digits" (.cons (.var 0) (.cons (.int (0)) (.cons (.int (63)) .nil)))) (.cons (.int (0)) .nil)))) [some .scr, none, none, none, none, none, none, none, none, none, none] [] = some (.nx [some .scr, some (.ref 1), none, none, none, none, none, none, none, none, none], [.lst (ds.map .int), .lst [.ref 0, .int 0]]) := by
    have hd' : evF P wl_k05 (n + 6) (.fn "_law_digits") [.scr, .int 0, .int 63] [] = some (.ref 0, [.lst (ds.map .int)]) := hd
    simp [evS_asg', evE, evEs, hd']
  have e2 : evS ⟨P, evF P wl_k05 (n + 6), wl_k05⟩ (.asg (.name 2) (.lst .nil)) [some .scr, some (.ref 1), none, none, none, none, none, none, none, none, none] [.lst (ds.map .int), .lst [.ref 0, .int 0]] = some (.nx [some .scr, some (.ref 1), some (.ref 2), none, none, none, none, none, none, none, none], [.lst (ds.map .int), .lst [.ref 0, .int 0], .lst []]) := by
    simp [evS_asg', evE, evEs]
  have e4 : evS ⟨P, evF P wl_k05 (n + 6), wl_k05⟩ (.asg (.name 4) (.call "_law_draw" (.cons (.var 1) (.cons (.int (6)) .nil)))) [some .scr, some (.ref 1), some (.ref 2), v3, none, v5, none, none, none, none, none] M1 = some (.nx [some .scr, some (.ref 1), some (.ref 2), v3, some (.int (ix : Int)), v5, none, none, none, none, none], M2) := by
    have hix' : evF P wl_k05 (n + 6) (.fn "_law_draw") [.ref 1, .int 6] M1 = some (.int (ix : Int), M2) := hix
    simp [evS_asg', evE, evEs, hix']
  have i3 := fun (ρ : VEnv) (M : Mem) => evIt_rg ⟨P, evF P wl_k05 (n + 6), wl_k05⟩ 3 (by decide) ρ M
  have i6 := fun (ρ : VEnv) (M : Mem) => evIt_rg ⟨P, evF P wl_k05 (n + 6), wl_k05⟩ 6 (by decide) ρ M
  refine ⟨(gc [] (.bl true) M3).2, ?_⟩
  rw [evF_at f9 _ rfl, law_body]
  have e0 : (List.map some [D.scr] ++ List.replicate (F.law_k05.slots - F.law_k05.params) none : VEnv) = [some .scr, none, none, none, none, none, none, none, none, none, none] := rfl
  rw [e0, evS_seq', e1, bnd_some]
  dsimp only
  rw [evS_seq', e2, bnd_some]
  dsimp only
  rw [evS_seq', evS_for', show evIt ⟨P, evF P wl_k05 (n + 6), wl_k05⟩ (.range (.cons (.int (3)) .nil)) [some .scr, some (.ref 1), some (.ref 2), none, none, none, none, none, none, none, none] [.lst (ds.map .int), .lst [.ref 0, .int 0], .lst []] = _ from i3 _ _, bnd_some]
  dsimp only
  rw [show forL [] (.name 3) (evS ⟨P, evF P wl_k05 (n + 6), wl_k05⟩ lawA) ((List.range 3).map fun k : Nat => D.int (0 + (k : Int))) [some .scr, some (.ref 1), some (.ref 2), none, none, none, none, none, none, none, none] [.lst (ds.map .int), .lst [.ref 0, .int 0], .lst []] = _ from hA, bnd_some]
  dsimp only
  rw [evS_seq', e4, bnd_some]
  dsimp only
  rw [evS_seq', evS_for', show evIt ⟨P, evF P wl_k05 (n + 6), wl_k05⟩ (.range (.cons (.int (6)) .nil)) [some .scr, some (.ref 1), some (.ref 2), v3, some (.int (ix : Int)), v5, none, none, none, none, none] M2 = _ from i6 _ _, bnd_some]
  dsimp only
  rw [hB, bnd_some]
  dsimp only
  rw [evS_ret', show evE ⟨P, evF P wl_k05 (n + 6), wl_k05⟩ (.bl true) ρ3 M3 = some (.bl true, M3) by simp only [evE], bnd_some]
  show some (gc [] (.bl true) M3) = some (.bl true, (gc [] (.bl true) M3).2)
  have : (gc [] (.bl true) M3).1 = .bl true := by
    unfold gc
    split <;> rfl
  exact congrArg some (Prod.ext this rfl)
theorem runs_k05 : ∀ ns : List Int, ns.length ≤ 63 → ∃ M, evF (prog_k05 ns) wl_k05 99 (.fn "law") [.scr] [] = some (.bl true, M) := fun ns _ => k05_run ns 92
end Pw

end
section
namespace Pw.k05
open PySem PySem.Spec PyProof.Rows L2
def topS (i : Nat) : Stmt := PySem.Challenge.pw_pagewake_k05_values_of_expressions.main.body.getD i (.Pass ⟨0, 0, 0, 0⟩)
def T : Tb := ⟨["_law_cell", "_law_digits", "_law_draw", "_law_same", "_law_value", "_law_wide", "at", "law", "value"], [], ["append", "index"], []⟩
abbrev s0 : Stmt := (topS 2)
theorem sc0 : FnScope ["row", "number"] ["row", "number"] (defScope s0) := ⟨rfl, rfl, rfl, by decide +kernel, rfl, by decide +kernel, by decide +kernel⟩
theorem ck0 : ckSs T F.at.body ⟨["row", "number"], defScope s0, fun _ => true⟩ (defBody s0) = true := by decide +kernel
abbrev s1 : Stmt := (topS 3)
theorem sc1 : FnScope ["expression", "scope", "looked", "kind", "first", "second", "chosen"] ["expression", "scope", "looked"] (defScope s1) := ⟨rfl, rfl, rfl, by decide +kernel, rfl, by decide +kernel, by decide +kernel⟩
theorem ck1 : ckSs T F.value.body ⟨["expression", "scope", "looked", "kind", "first", "second", "chosen"], defScope s1, fun _ => true⟩ (defBody s1) = true := by decide +kernel
abbrev s2 : Stmt := (topS 5)
theorem sc2 : FnScope ["_law_script", "_law_k"] ["_law_script", "_law_k"] (defScope s2) := ⟨rfl, rfl, rfl, by decide +kernel, rfl, by decide +kernel, by decide +kernel⟩
theorem ck2 : ckSs T F.L_cell.body ⟨["_law_script", "_law_k"], defScope s2, fun _ => true⟩ (defBody s2) = true := by decide +kernel
abbrev s3 : Stmt := (topS 6)
theorem sc3 : FnScope ["_law_script", "_law_first", "_law_last", "_law_digits_here", "_law_k", "_law_cell_here", "_law_turn", "_law_seed"] ["_law_script", "_law_first", "_law_last"] (defScope s3) := ⟨rfl, rfl, rfl, by decide +kernel, rfl, by decide +kernel, by decide +kernel⟩
theorem ck3 : ckSs T F.L_digits.body ⟨["_law_script", "_law_first", "_law_last", "_law_digits_here", "_law_k", "_law_cell_here", "_law_turn", "_law_seed"], defScope s3, fun _ => true⟩ (defBody s3) = true := by decide +kernel
abbrev s4 : Stmt := (topS 7)
theorem sc4 : FnScope ["_law_box", "_law_many", "_law_at"] ["_law_box", "_law_many"] (defScope s4) := ⟨rfl, rfl, rfl, by decide +kernel, rfl, by decide +kernel, by decide +kernel⟩
theorem ck4 : ckSs T F.L_draw_2.body ⟨["_law_box", "_law_many", "_law_at"], defScope s4, fun _ => true⟩ (defBody s4) = true := by decide +kernel
abbrev s5 : Stmt := (topS 8)
theorem sc5 : FnScope ["_law_actual", "_law_expected", "_law_k"] ["_law_actual", "_law_expected"] (defScope s5) := ⟨rfl, rfl, rfl, by decide +kernel, rfl, by decide +kernel, by decide +kernel⟩
theorem ck5 : ckSs T F.L_same.body ⟨["_law_actual", "_law_expected", "_law_k"], defScope s5, fun _ => true⟩ (defBody s5) = true := by decide +kernel
abbrev s6 : Stmt := (topS 9)
theorem sc6 : FnScope ["_law_box", "_law_depth", "_law_kind", "_law_one", "_law_two", "_law_leaves"] ["_law_box", "_law_depth"] (defScope s6) := ⟨rfl, rfl, rfl, by decide +kernel, rfl, by decide +kernel, by decide +kernel⟩
theorem ck6 : ckSs T F.L_wide.body ⟨["_law_box", "_law_depth", "_law_kind", "_law_one", "_law_two", "_law_leaves"], defScope s6, fun _ => true⟩ (defBody s6) = true := by decide +kernel
abbrev s7 : Stmt := (topS 10)
theorem sc7 : FnScope ["_law_e", "_law_scope", "_law_looked", "_law_one", "_law_two", "_law_row"] ["_law_e", "_law_scope", "_law_looked"] (defScope s7) := ⟨rfl, rfl, rfl, by decide +kernel, rfl, by decide +kernel, by decide +kernel⟩
theorem ck7 : ckSs T F.L_value.body ⟨["_law_e", "_law_scope", "_law_looked", "_law_one", "_law_two", "_law_row"], defScope s7, fun _ => true⟩ (defBody s7) = true := by decide +kernel
abbrev s8 : Stmt := (topS 11)
theorem sc8 : FnScope ["_law_script", "_law_box", "_law_rows", "_law_k", "_law_index", "_law_many", "_law_e", "_law_looked", "_law_due", "_law_expected", "_law_j"] ["_law_script"] (defScope s8) := ⟨rfl, rfl, rfl, by decide +kernel, rfl, by decide +kernel, by decide +kernel⟩
theorem ck8 : ckSs T F.law_k05.body ⟨["_law_script", "_law_box", "_law_rows", "_law_k", "_law_index", "_law_many", "_law_e", "_law_looked", "_law_due", "_law_expected", "_law_j"], defScope s8, fun _ => true⟩ (defBody s8) = true := by decide +kernel
variable {P : Program} {w : World} {K : PySem.W.Frag} {mg : Str → Option Value} {h : Heap}
theorem facts (X : K.In h) (G : h.Ns mainGlobals mg) 
    {f0 : Addr} {od0 an0 : Option Addr} {sl0 : Array (Option Value)} {oc0 kV0 dc0 pm0 cd0 ct0 : Value}
    (a0 : PySem.W.nsIn K mainGlobals "at" = some (some (.ref f0)))
    (l0 : K.lookup f0 = some ⟨oc0, od0, .func (PySem.W.fnOf "at" "at" (defArgs s0) (defBody s0) (defScope s0) .none kV0 dc0 pm0 an0 cd0 ct0), sl0⟩) (c0 : PySem.W.codeIn K cd0 "at" = true) (k0 : PySem.W.keepIn K (.ref f0) = true)
    {f1 : Addr} {od1 an1 : Option Addr} {sl1 : Array (Option Value)} {oc1 kV1 dc1 pm1 cd1 ct1 : Value}
    (a1 : PySem.W.nsIn K mainGlobals "value" = some (some (.ref f1)))
    (l1 : K.lookup f1 = some ⟨oc1, od1, .func (PySem.W.fnOf "value" "value" (defArgs s1) (defBody s1) (defScope s1) .none kV1 dc1 pm1 an1 cd1 ct1), sl1⟩) (c1 : PySem.W.codeIn K cd1 "value" = true) (k1 : PySem.W.keepIn K (.ref f1) = true)
    {f2 : Addr} {od2 an2 : Option Addr} {sl2 : Array (Option Value)} {oc2 kV2 dc2 pm2 cd2 ct2 : Value}
    (a2 : PySem.W.nsIn K mainGlobals "_law_cell" = some (some (.ref f2)))
    (l2 : K.lookup f2 = some ⟨oc2, od2, .func (PySem.W.fnOf "_law_cell" "_law_cell" (defArgs s2) (defBody s2) (defScope s2) .none kV2 dc2 pm2 an2 cd2 ct2), sl2⟩) (c2 : PySem.W.codeIn K cd2 "_law_cell" = true) (k2 : PySem.W.keepIn K (.ref f2) = true)
    {f3 : Addr} {od3 an3 : Option Addr} {sl3 : Array (Option Value)} {oc3 kV3 dc3 pm3 cd3 ct3 : Value}
    (a3 : PySem.W.nsIn K mainGlobals "_law_digits" = some (some (.ref f3)))
    (l3 : K.lookup f3 = some ⟨oc3, od3, .func (PySem.W.fnOf "_law_digits" "_law_digits" (defArgs s3) (defBody s3) (defScope s3) .none kV3 dc3 pm3 an3 cd3 ct3), sl3⟩) (c3 : PySem.W.codeIn K cd3 "_law_digits" = true) (k3 : PySem.W.keepIn K (.ref f3) = true)
    {f4 : Addr} {od4 an4 : Option Addr} {sl4 : Array (Option Value)} {oc4 kV4 dc4 pm4 cd4 ct4 : Value}
    (a4 : PySem.W.nsIn K mainGlobals "_law_draw" = some (some (.ref f4)))
    (l4 : K.lookup f4 = some ⟨oc4, od4, .func (PySem.W.fnOf "_law_draw" "_law_draw" (defArgs s4) (defBody s4) (defScope s4) .none kV4 dc4 pm4 an4 cd4 ct4), sl4⟩) (c4 : PySem.W.codeIn K cd4 "_law_draw" = true) (k4 : PySem.W.keepIn K (.ref f4) = true)
    {f5 : Addr} {od5 an5 : Option Addr} {sl5 : Array (Option Value)} {oc5 kV5 dc5 pm5 cd5 ct5 : Value}
    (a5 : PySem.W.nsIn K mainGlobals "_law_same" = some (some (.ref f5)))
    (l5 : K.lookup f5 = some ⟨oc5, od5, .func (PySem.W.fnOf "_law_same" "_law_same" (defArgs s5) (defBody s5) (defScope s5) .none kV5 dc5 pm5 an5 cd5 ct5), sl5⟩) (c5 : PySem.W.codeIn K cd5 "_law_same" = true) (k5 : PySem.W.keepIn K (.ref f5) = true)
    {f6 : Addr} {od6 an6 : Option Addr} {sl6 : Array (Option Value)} {oc6 kV6 dc6 pm6 cd6 ct6 : Value}
    (a6 : PySem.W.nsIn K mainGlobals "_law_wide" = some (some (.ref f6)))
    (l6 : K.lookup f6 = some ⟨oc6, od6, .func (PySem.W.fnOf "_law_wide" "_law_wide" (defArgs s6) (defBody s6) (defScope s6) .none kV6 dc6 pm6 an6 cd6 ct6), sl6⟩) (c6 : PySem.W.codeIn K cd6 "_law_wide" = true) (k6 : PySem.W.keepIn K (.ref f6) = true)
    {f7 : Addr} {od7 an7 : Option Addr} {sl7 : Array (Option Value)} {oc7 kV7 dc7 pm7 cd7 ct7 : Value}
    (a7 : PySem.W.nsIn K mainGlobals "_law_value" = some (some (.ref f7)))
    (l7 : K.lookup f7 = some ⟨oc7, od7, .func (PySem.W.fnOf "_law_value" "_law_value" (defArgs s7) (defBody s7) (defScope s7) .none kV7 dc7 pm7 an7 cd7 ct7), sl7⟩) (c7 : PySem.W.codeIn K cd7 "_law_value" = true) (k7 : PySem.W.keepIn K (.ref f7) = true)
    {f8 : Addr} {od8 an8 : Option Addr} {sl8 : Array (Option Value)} {oc8 kV8 dc8 pm8 cd8 ct8 : Value}
    (a8 : PySem.W.nsIn K mainGlobals "law" = some (some (.ref f8)))
    (l8 : K.lookup f8 = some ⟨oc8, od8, .func (PySem.W.fnOf "law" "law" (defArgs s8) (defBody s8) (defScope s8) .none kV8 dc8 pm8 an8 cd8 ct8), sl8⟩) (c8 : PySem.W.codeIn K cd8 "law" = true) (k8 : PySem.W.keepIn K (.ref f8) = true)
    {t_WHOLE : Tok} (g_WHOLE : PySem.W.nsIn K mainGlobals "WHOLE" = some (some (.int (1000) t_WHOLE))) (z_len : PySem.W.nsIn K mainGlobals "len" = some none) (z_str : PySem.W.nsIn K mainGlobals "str" = some none) (z_int : PySem.W.nsIn K mainGlobals "int" = some none) (z_bool : PySem.W.nsIn K mainGlobals "bool" = some none) (z_max : PySem.W.nsIn K mainGlobals "max" = some none) (z_min : PySem.W.nsIn K mainGlobals "min" = some none) (z_isinstance : PySem.W.nsIn K mainGlobals "isinstance" = some none) (z_tuple : PySem.W.nsIn K mainGlobals "tuple" = some none) (z_list : PySem.W.nsIn K mainGlobals "list" = some none) (z_range : PySem.W.nsIn K mainGlobals "range" = some none) (z_enumerate : PySem.W.nsIn K mainGlobals "enumerate" = some none) (z_zip : PySem.W.nsIn K mainGlobals "zip" = some none) (z_sorted : PySem.W.nsIn K mainGlobals "sorted" = some none) (z_set : PySem.W.nsIn K mainGlobals "set" = some none) (z_sum : PySem.W.nsIn K mainGlobals "sum" = some none) (z_dict : PySem.W.nsIn K mainGlobals "dict" = some none) (z_any : PySem.W.nsIn K mainGlobals "any" = some none) (z_all : PySem.W.nsIn K mainGlobals "all" = some none) (base : Heap) (sa : Addr) (ns : List Int) : LawF ⟨P, K, w, sa, fun _ => none, prog_k05 ns, mg, base⟩ T := by
  have hall : AllF (Qf ⟨P, K, w, sa, fun _ => none, prog_k05 ns, mg, base⟩ T) tbl_k05 := .cons ⟨f0, PySem.W.mg_of X G a0, k0, ⟨⟨_, _, _, _, _, _, _, _, _, _, _, _, _, _, _, _, _, l0, c0, sc0, rfl, rfl, ck0, (fun_mk (st := s0) l0 c0 k0).binds (ps := ["row", "number"]) fun _ _ _ _ _ _ us hl => match us, hl with | [_, _], _ => rfl⟩⟩⟩ (.cons ⟨f1, PySem.W.mg_of X G a1, k1, ⟨⟨_, _, _, _, _, _, _, _, _, _, _, _, _, _, _, _, _, l1, c1, sc1, rfl, rfl, ck1, (fun_mk (st := s1) l1 c1 k1).binds (ps := ["expression", "scope", "looked"]) fun _ _ _ _ _ _ us hl => match us, hl with | [_, _, _], _ => rfl⟩⟩⟩ (.cons ⟨f2, PySem.W.mg_of X G a2, k2, ⟨⟨_, _, _, _, _, _, _, _, _, _, _, _, _, _, _, _, _, l2, c2, sc2, rfl, rfl, ck2, (fun_mk (st := s2) l2 c2 k2).binds (ps := ["_law_script", "_law_k"]) fun _ _ _ _ _ _ us hl => match us, hl with | [_, _], _ => rfl⟩⟩⟩ (.cons ⟨f3, PySem.W.mg_of X G a3, k3, ⟨⟨_, _, _, _, _, _, _, _, _, _, _, _, _, _, _, _, _, l3, c3, sc3, rfl, rfl, ck3, (fun_mk (st := s3) l3 c3 k3).binds (ps := ["_law_script", "_law_first", "_law_last"]) fun _ _ _ _ _ _ us hl => match us, hl with | [_, _, _], _ => rfl⟩⟩⟩ (.cons ⟨f4, PySem.W.mg_of X G a4, k4, ⟨⟨_, _, _, _, _, _, _, _, _, _, _, _, _, _, _, _, _, l4, c4, sc4, rfl, rfl, ck4, (fun_mk (st := s4) l4 c4 k4).binds (ps := ["_law_box", "_law_many"]) fun _ _ _ _ _ _ us hl => match us, hl with | [_, _], _ => rfl⟩⟩⟩ (.cons ⟨f5, PySem.W.mg_of X G a5, k5, ⟨⟨_, _, _, _, _, _, _, _, _, _, _, _, _, _, _, _, _, l5, c5, sc5, rfl, rfl, ck5, (fun_mk (st := s5) l5 c5 k5).binds (ps := ["_law_actual", "_law_expected"]) fun _ _ _ _ _ _ us hl => match us, hl with | [_, _], _ => rfl⟩⟩⟩ (.cons ⟨f6, PySem.W.mg_of X G a6, k6, ⟨⟨_, _, _, _, _, _, _, _, _, _, _, _, _, _, _, _, _, l6, c6, sc6, rfl, rfl, ck6, (fun_mk (st := s6) l6 c6 k6).binds (ps := ["_law_box", "_law_depth"]) fun _ _ _ _ _ _ us hl => match us, hl with | [_, _], _ => rfl⟩⟩⟩ (.cons ⟨f7, PySem.W.mg_of X G a7, k7, ⟨⟨_, _, _, _, _, _, _, _, _, _, _, _, _, _, _, _, _, l7, c7, sc7, rfl, rfl, ck7, (fun_mk (st := s7) l7 c7 k7).binds (ps := ["_law_e", "_law_scope", "_law_looked"]) fun _ _ _ _ _ _ us hl => match us, hl with | [_, _, _], _ => rfl⟩⟩⟩ (.cons ⟨f8, PySem.W.mg_of X G a8, k8, ⟨⟨_, _, _, _, _, _, _, _, _, _, _, _, _, _, _, _, _, l8, c8, sc8, rfl, rfl, ck8, (fun_mk (st := s8) l8 c8 k8).binds (ps := ["_law_script"]) fun _ _ _ _ _ _ us hl => match us, hl with | [_], _ => rfl⟩⟩⟩ (.nil)))))))))
  refine lawF_of hall rfl ?_ ?_ ?_
  · intro f hf; exact ⟨fun c Ca hc => by cases hc⟩
  · intro x d hx
    have hx2 := lookup_mem (l := glb_k05) (show List.lookup x glb_k05 = some d from hx)
    simp only [glb_k05, List.mem_cons, Prod.mk.injEq, List.not_mem_nil, or_false] at hx2
    rcases hx2 with ⟨rfl, rfl⟩
    · exact ⟨_, .int _, PySem.W.mg_of X G g_WHOLE, ⟨_, rfl⟩, fun _ _ => .int _⟩
  · intro x hx
    have hx2 : x ∈ ["len", "str", "int", "bool", "max", "min", "isinstance", "tuple", "list", "range", "enumerate", "zip", "sorted", "set", "sum", "dict", "any", "all"] := by simpa [List.contains_iff_mem] using hx
    simp only [List.mem_cons, List.not_mem_nil, or_false] at hx2
    rcases hx2 with rfl | rfl | rfl | rfl | rfl | rfl | rfl | rfl | rfl | rfl | rfl | rfl | rfl | rfl | rfl | rfl | rfl | rfl
    · exact PySem.W.mg_none_of X G z_len
    · exact PySem.W.mg_none_of X G z_str
    · exact PySem.W.mg_none_of X G z_int
    · exact PySem.W.mg_none_of X G z_bool
    · exact PySem.W.mg_none_of X G z_max
    · exact PySem.W.mg_none_of X G z_min
    · exact PySem.W.mg_none_of X G z_isinstance
    · exact PySem.W.mg_none_of X G z_tuple
    · exact PySem.W.mg_none_of X G z_list
    · exact PySem.W.mg_none_of X G z_range
    · exact PySem.W.mg_none_of X G z_enumerate
    · exact PySem.W.mg_none_of X G z_zip
    · exact PySem.W.mg_none_of X G z_sorted
    · exact PySem.W.mg_none_of X G z_set
    · exact PySem.W.mg_none_of X G z_sum
    · exact PySem.W.mg_none_of X G z_dict
    · exact PySem.W.mg_none_of X G z_any
    · exact PySem.W.mg_none_of X G z_all
theorem all_mk {fa : Addr} (X : K.In h) (G : h.Ns mainGlobals mg) (hfa : mg "law" = some (.ref fa)) 
    {f0 : Addr} {od0 an0 : Option Addr} {sl0 : Array (Option Value)} {oc0 kV0 dc0 pm0 cd0 ct0 : Value}
    (a0 : PySem.W.nsIn K mainGlobals "at" = some (some (.ref f0)))
    (l0 : K.lookup f0 = some ⟨oc0, od0, .func (PySem.W.fnOf "at" "at" (defArgs s0) (defBody s0) (defScope s0) .none kV0 dc0 pm0 an0 cd0 ct0), sl0⟩) (c0 : PySem.W.codeIn K cd0 "at" = true) (k0 : PySem.W.keepIn K (.ref f0) = true)
    {f1 : Addr} {od1 an1 : Option Addr} {sl1 : Array (Option Value)} {oc1 kV1 dc1 pm1 cd1 ct1 : Value}
    (a1 : PySem.W.nsIn K mainGlobals "value" = some (some (.ref f1)))
    (l1 : K.lookup f1 = some ⟨oc1, od1, .func (PySem.W.fnOf "value" "value" (defArgs s1) (defBody s1) (defScope s1) .none kV1 dc1 pm1 an1 cd1 ct1), sl1⟩) (c1 : PySem.W.codeIn K cd1 "value" = true) (k1 : PySem.W.keepIn K (.ref f1) = true)
    {f2 : Addr} {od2 an2 : Option Addr} {sl2 : Array (Option Value)} {oc2 kV2 dc2 pm2 cd2 ct2 : Value}
    (a2 : PySem.W.nsIn K mainGlobals "_law_cell" = some (some (.ref f2)))
    (l2 : K.lookup f2 = some ⟨oc2, od2, .func (PySem.W.fnOf "_law_cell" "_law_cell" (defArgs s2) (defBody s2) (defScope s2) .none kV2 dc2 pm2 an2 cd2 ct2), sl2⟩) (c2 : PySem.W.codeIn K cd2 "_law_cell" = true) (k2 : PySem.W.keepIn K (.ref f2) = true)
    {f3 : Addr} {od3 an3 : Option Addr} {sl3 : Array (Option Value)} {oc3 kV3 dc3 pm3 cd3 ct3 : Value}
    (a3 : PySem.W.nsIn K mainGlobals "_law_digits" = some (some (.ref f3)))
    (l3 : K.lookup f3 = some ⟨oc3, od3, .func (PySem.W.fnOf "_law_digits" "_law_digits" (defArgs s3) (defBody s3) (defScope s3) .none kV3 dc3 pm3 an3 cd3 ct3), sl3⟩) (c3 : PySem.W.codeIn K cd3 "_law_digits" = true) (k3 : PySem.W.keepIn K (.ref f3) = true)
    {f4 : Addr} {od4 an4 : Option Addr} {sl4 : Array (Option Value)} {oc4 kV4 dc4 pm4 cd4 ct4 : Value}
    (a4 : PySem.W.nsIn K mainGlobals "_law_draw" = some (some (.ref f4)))
    (l4 : K.lookup f4 = some ⟨oc4, od4, .func (PySem.W.fnOf "_law_draw" "_law_draw" (defArgs s4) (defBody s4) (defScope s4) .none kV4 dc4 pm4 an4 cd4 ct4), sl4⟩) (c4 : PySem.W.codeIn K cd4 "_law_draw" = true) (k4 : PySem.W.keepIn K (.ref f4) = true)
    {f5 : Addr} {od5 an5 : Option Addr} {sl5 : Array (Option Value)} {oc5 kV5 dc5 pm5 cd5 ct5 : Value}
    (a5 : PySem.W.nsIn K mainGlobals "_law_same" = some (some (.ref f5)))
    (l5 : K.lookup f5 = some ⟨oc5, od5, .func (PySem.W.fnOf "_law_same" "_law_same" (defArgs s5) (defBody s5) (defScope s5) .none kV5 dc5 pm5 an5 cd5 ct5), sl5⟩) (c5 : PySem.W.codeIn K cd5 "_law_same" = true) (k5 : PySem.W.keepIn K (.ref f5) = true)
    {f6 : Addr} {od6 an6 : Option Addr} {sl6 : Array (Option Value)} {oc6 kV6 dc6 pm6 cd6 ct6 : Value}
    (a6 : PySem.W.nsIn K mainGlobals "_law_wide" = some (some (.ref f6)))
    (l6 : K.lookup f6 = some ⟨oc6, od6, .func (PySem.W.fnOf "_law_wide" "_law_wide" (defArgs s6) (defBody s6) (defScope s6) .none kV6 dc6 pm6 an6 cd6 ct6), sl6⟩) (c6 : PySem.W.codeIn K cd6 "_law_wide" = true) (k6 : PySem.W.keepIn K (.ref f6) = true)
    {f7 : Addr} {od7 an7 : Option Addr} {sl7 : Array (Option Value)} {oc7 kV7 dc7 pm7 cd7 ct7 : Value}
    (a7 : PySem.W.nsIn K mainGlobals "_law_value" = some (some (.ref f7)))
    (l7 : K.lookup f7 = some ⟨oc7, od7, .func (PySem.W.fnOf "_law_value" "_law_value" (defArgs s7) (defBody s7) (defScope s7) .none kV7 dc7 pm7 an7 cd7 ct7), sl7⟩) (c7 : PySem.W.codeIn K cd7 "_law_value" = true) (k7 : PySem.W.keepIn K (.ref f7) = true)
    {f8 : Addr} {od8 an8 : Option Addr} {sl8 : Array (Option Value)} {oc8 kV8 dc8 pm8 cd8 ct8 : Value}
    (a8 : PySem.W.nsIn K mainGlobals "law" = some (some (.ref f8)))
    (l8 : K.lookup f8 = some ⟨oc8, od8, .func (PySem.W.fnOf "law" "law" (defArgs s8) (defBody s8) (defScope s8) .none kV8 dc8 pm8 an8 cd8 ct8), sl8⟩) (c8 : PySem.W.codeIn K cd8 "law" = true) (k8 : PySem.W.keepIn K (.ref f8) = true)
    {t_WHOLE : Tok} (g_WHOLE : PySem.W.nsIn K mainGlobals "WHOLE" = some (some (.int (1000) t_WHOLE))) (z_len : PySem.W.nsIn K mainGlobals "len" = some none) (z_str : PySem.W.nsIn K mainGlobals "str" = some none) (z_int : PySem.W.nsIn K mainGlobals "int" = some none) (z_bool : PySem.W.nsIn K mainGlobals "bool" = some none) (z_max : PySem.W.nsIn K mainGlobals "max" = some none) (z_min : PySem.W.nsIn K mainGlobals "min" = some none) (z_isinstance : PySem.W.nsIn K mainGlobals "isinstance" = some none) (z_tuple : PySem.W.nsIn K mainGlobals "tuple" = some none) (z_list : PySem.W.nsIn K mainGlobals "list" = some none) (z_range : PySem.W.nsIn K mainGlobals "range" = some none) (z_enumerate : PySem.W.nsIn K mainGlobals "enumerate" = some none) (z_zip : PySem.W.nsIn K mainGlobals "zip" = some none) (z_sorted : PySem.W.nsIn K mainGlobals "sorted" = some none) (z_set : PySem.W.nsIn K mainGlobals "set" = some none) (z_sum : PySem.W.nsIn K mainGlobals "sum" = some none) (z_dict : PySem.W.nsIn K mainGlobals "dict" = some none) (z_any : PySem.W.nsIn K mainGlobals "any" = some none) (z_all : PySem.W.nsIn K mainGlobals "all" = some none)
    (hrun : ∀ ns : List Int, ns.length ≤ 63 → ∃ M, evF (prog_k05 ns) wl_k05 99 (.fn "law") [.scr] [] = some (.bl true, M)) :
    ∃ fd : FuncData, (∀ (s : Shared) (v : Value), BindsTo s fd ⟨[v], []⟩ [("_law_script", v)]) ∧ ∀ base : Heap, K.In base → base.Ns mainGlobals mg → FnOk P w K mg base CXn 198 fa fd ["_law_script"] (spLaw K) := by
  have e := hfa.symm.trans (PySem.W.mg_of X G a8)
  cases e
  exact ⟨_, fun s v => .of_eq rfl, fun base _ _ => law_ok (n := 98) (wl := wl_k05) (T := T) (pr := prog_k05) (fun sa ns => facts X G a0 l0 c0 k0 a1 l1 c1 k1 a2 l2 c2 k2 a3 l3 c3 k3 a4 l4 c4 k4 a5 l5 c5 k5 a6 l6 c6 k6 a7 l7 c7 k7 a8 l8 c8 k8 g_WHOLE z_len z_str z_int z_bool z_max z_min z_isinstance z_tuple z_list z_range z_enumerate z_zip z_sorted z_set z_sum z_dict z_any z_all base sa ns) (fun _ => rfl) (fun _ => rfl) l8 c8 sc8 rfl rfl ck8 hrun⟩
end Pw.k05
namespace Pw.k05
theorem runs : ∀ ns : List Int, ns.length ≤ 63 → ∃ M, evF (prog_k05 ns) wl_k05 99 (.fn "law") [.scr] [] = some (.bl true, M) := runs_k05
end Pw.k05
open PySem PySem.W PyProof.Rows
set_option maxHeartbeats 0 in
theorem PySem.Challenge.cw_pagewake_k05_values_of_expressions_holds : PySem.Challenge.rw_pagewake_k05_values_of_expressions.Holds := by
  w_on; o_law; k_head; (case hw => w_witness2)
  k_fill
  refine L2.walk_of (l := PySem.Challenge.rw_pagewake_k05_values_of_expressions) (n := 63) (k := 198) (x := "_law_script") (CX := fun _ => Pw.CXn) (sp := fun w => Pw.spLaw _) rfl (by decide) rfl ⟨rfl, by decide, by decide⟩ (fun w h Y => PySem.W.kIn_of Y) ?F (fun _ _ a ns hl _ hS => ⟨a, ns, rfl, hS, hl, fun _ => rfl⟩) (fun _ _ _ _ _ h => h)
  case F =>
    intro w mg fa h KX G hmg
    refine' Pw.k05.all_mk KX G hmg ?a0 ?l0 ?c0 ?k0 ?a1 ?l1 ?c1 ?k1 ?a2 ?l2 ?c2 ?k2 ?a3 ?l3 ?c3 ?k3 ?a4 ?l4 ?c4 ?k4 ?a5 ?l5 ?c5 ?k5 ?a6 ?l6 ?c6 ?k6 ?a7 ?l7 ?c7 ?k7 ?a8 ?l8 ?c8 ?k8 ?g_WHOLE ?z_len ?z_str ?z_int ?z_bool ?z_max ?z_min ?z_isinstance ?z_tuple ?z_list ?z_range ?z_enumerate ?z_zip ?z_sorted ?z_set ?z_sum ?z_dict ?z_any ?z_all Pw.k05.runs
    (case a0 => k_is); (case l0 => k_is); (case c0 => k_is); (case k0 => k_is); (case a1 => k_is); (case l1 => k_is); (case c1 => k_is); (case k1 => k_is); (case a2 => k_is); (case l2 => k_is); (case c2 => k_is); (case k2 => k_is); (case a3 => k_is); (case l3 => k_is); (case c3 => k_is); (case k3 => k_is); (case a4 => k_is); (case l4 => k_is); (case c4 => k_is); (case k4 => k_is); (case a5 => k_is); (case l5 => k_is); (case c5 => k_is); (case k5 => k_is); (case a6 => k_is); (case l6 => k_is); (case c6 => k_is); (case k6 => k_is); (case a7 => k_is); (case l7 => k_is); (case c7 => k_is); (case k7 => k_is); (case a8 => k_is); (case l8 => k_is); (case c8 => k_is); (case k8 => k_is); (case g_WHOLE => k_is); (case z_len => k_is); (case z_str => k_is); (case z_int => k_is); (case z_bool => k_is); (case z_max => k_is); (case z_min => k_is); (case z_isinstance => k_is); (case z_tuple => k_is); (case z_list => k_is); (case z_range => k_is); (case z_enumerate => k_is); (case z_zip => k_is); (case z_sorted => k_is); (case z_set => k_is); (case z_sum => k_is); (case z_dict => k_is); (case z_any => k_is); (case z_all => k_is)

end