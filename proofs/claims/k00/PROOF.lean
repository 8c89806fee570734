import PyProof.Rows.All
import Wide.All
import OpenK.AllK
import Wide.FinOn
import HandS.ForMost
import HandS.Flow
import HandS.Style
import HandS.TupAny
import HandS.TupLe
import HandS.Deep
import HandS.Conv
import HandS.FStr
import HandS.SortInts
import HandS.Strs
import HandS.Small
import KE.KDictKeyed
import HandS.AnyAll
import HandS.IsInst
import HandS.More
import PyProof.GenQ
import PyProof.TupleOfGen
import HandS.GenOver
import HandS.GenList
import PyProof.JoinWalk
import HandS.JoinGen
import KE.GoesEnum
import HandS.DictComp
import PyProof.ListCopy
import HandS.TryOnly
import HandS.HeadHook4
import HandS.HeadWalk
import HandS.HeadEnd
import HandS.Head2
import PySem.Challenge.RW_pagewake_k00_templates_in_order
set_option Elab.async false
set_option linter.all false
set_option maxRecDepth 100000
section

/-! Ev: values as trees, memory of cells, the syntax tree of the fragment, its evaluator. -/
namespace Pw

abbrev LIM : Nat := 16777216

inductive D where
  | non | bl (b : Bool) | int (i : Int) | str (s : String) | tup (xs : List D) | ref (n : Nat) | scr
  deriving Inhabited

mutual
def D.beq : D → D → Bool
  | .non, .non => true
  | .bl a, .bl b => a == b
  | .int a, .int b => decide (a = b)
  | .str a, .str b => decide (a = b)
  | .tup xs, .tup ys => D.beqs xs ys
  | .ref a, .ref b => decide (a = b)
  | .scr, .scr => true
  | _, _ => false
def D.beqs : List D → List D → Bool
  | [], [] => true
  | x :: xs, y :: ys => D.beq x y && D.beqs xs ys
  | _, _ => false
end
mutual
theorem D.eq_of_beq : ∀ {a b : D}, D.beq a b = true → a = b
  | .non, b, h => by cases b <;> simp_all [D.beq]
  | .bl a, b, h => by cases b <;> simp_all [D.beq]
  | .int a, b, h => by cases b <;> simp_all [D.beq]
  | .str a, b, h => by cases b <;> simp_all [D.beq]
  | .ref a, b, h => by cases b <;> simp_all [D.beq]
  | .scr, b, h => by cases b <;> simp_all [D.beq]
  | .tup xs, b, h => by
    cases b with
    | tup ys => exact congrArg D.tup (D.eqs_of_beqs (by simpa [D.beq] using h))
    | _ => simp [D.beq] at h
theorem D.eqs_of_beqs : ∀ {xs ys : List D}, D.beqs xs ys = true → xs = ys
  | [], ys, h => by cases ys <;> simp_all [D.beqs]
  | x :: xs, ys, h => by
    cases ys with
    | nil => simp [D.beqs] at h
    | cons y ys =>
      simp only [D.beqs, Bool.and_eq_true] at h
      rw [D.eq_of_beq h.1, D.eqs_of_beqs h.2]
end
mutual
theorem D.beq_self : ∀ a : D, D.beq a a = true
  | .non => rfl
  | .bl a => by simp [D.beq]
  | .int a => by simp [D.beq]
  | .str a => by simp [D.beq]
  | .ref a => by simp [D.beq]
  | .scr => rfl
  | .tup xs => by simpa [D.beq] using D.beqs_self xs
theorem D.beqs_self : ∀ xs : List D, D.beqs xs xs = true
  | [] => rfl
  | x :: xs => by simp [D.beqs, D.beq_self x, D.beqs_self xs]
end
instance : DecidableEq D := fun a b =>
  if h : D.beq a b = true then .isTrue (D.eq_of_beq h) else .isFalse fun e => h (e ▸ D.beq_self a)

inductive MO where
  | lst (xs : List D) | dic (kvs : List (D × D)) | ins (c : String) (fs : List (String × D))
  deriving Inhabited, DecidableEq

abbrev Mem := List MO
abbrev VEnv := List (Option D)

/-! ### plain data, equality -/
mutual
/-- no cell in it, nested at most n deep -/
def D.plain : Nat → D → Bool
  | _, .ref _ => false
  | _, .scr => false
  | 0, .tup _ => false
  | n + 1, .tup xs => D.plains n xs
  | _, _ => true
def D.plains : Nat → List D → Bool
  | _, [] => true
  | n, x :: xs => D.plain n x && D.plains n xs
end
def b2i (b : Bool) : Int := if b then 1 else 0
mutual
/-- == of plain data -/
def D.eqv : D → D → Bool
  | .non, .non => true
  | .bl a, .bl b => a == b
  | .bl a, .int b => decide (b2i a = b)
  | .int a, .bl b => decide (a = b2i b)
  | .int a, .int b => decide (a = b)
  | .str a, .str b => decide (a = b)
  | .tup xs, .tup ys => D.eqvs xs ys
  | _, _ => false
def D.eqvs : List D → List D → Bool
  | [], [] => true
  | x :: xs, y :: ys => D.eqv x y && D.eqvs xs ys
  | _, _ => false
end
/-- data with lists in it -/
inductive PV where
  | non | bl (b : Bool) | int (i : Int) | str (s : String) | tup (xs : List PV) | lst (xs : List PV)
mutual
def PV.eqv : PV → PV → Bool
  | .non, .non => true
  | .bl a, .bl b => a == b
  | .bl a, .int b => decide (b2i a = b)
  | .int a, .bl b => decide (a = b2i b)
  | .int a, .int b => decide (a = b)
  | .str a, .str b => decide (a = b)
  | .tup xs, .tup ys => PV.eqvs xs ys
  | .lst xs, .lst ys => PV.eqvs xs ys
  | _, _ => false
def PV.eqvs : List PV → List PV → Bool
  | [], [] => true
  | x :: xs, y :: ys => PV.eqv x y && PV.eqvs xs ys
  | _, _ => false
end
def mapO {α β : Type} (f : α → Option β) : List α → Option (List β)
  | [] => some []
  | x :: xs => match f x with
    | none => none
    | some y => match mapO f xs with
      | none => none
      | some ys => some (y :: ys)
/-- the data that a value stands for, at most n deep -/
def reify : Nat → Mem → D → Option PV
  | _, _, .non => some .non
  | _, _, .bl b => some (.bl b)
  | _, _, .int i => some (.int i)
  | _, _, .str s => some (.str s)
  | n + 1, M, .tup xs => (mapO (reify n M) xs).map .tup
  | n + 1, M, .ref p => match M[p]? with
    | some (.lst xs) => (mapO (reify n M) xs).map .lst
    | _ => none
  | _, _, _ => none
def eqD (M : Mem) (a b : D) : Option Bool :=
  if a.plain 60 = true ∧ b.plain 60 = true then some (a.eqv b) else
  match reify 60 M a, reify 60 M b with
  | some x, some y => some (x.eqv y)
  | _, _ => none
/-- is x among xs -/
def inD (M : Mem) (x : D) : List D → Option Bool
  | [] => if x.plain 60 = true then some false else (reify 60 M x).map fun _ => false
  | y :: ys => match eqD M y x, inD M x ys with
    | some a, some b => some (a || b)
    | _, _ => none
/-- the first place of x -/
def indexD (M : Mem) (x : D) : List D → Option Nat
  | [] => none
  | y :: ys => match eqD M y x with
    | some true => some 0
    | some false => (indexD M x ys).map (· + 1)
    | none => none

/-! ### dicts -/
mutual
def D.key : Nat → D → Bool
  | _, .non => true
  | _, .int _ => true
  | _, .str _ => true
  | n + 1, .tup xs => D.keys n xs
  | _, _ => false
def D.keys : Nat → List D → Bool
  | _, [] => true
  | n, x :: xs => D.key n x && D.keys n xs
end
def D.isTup : D → Bool
  | .tup _ => true
  | _ => false
/-- k may be asked of, or put into, a dict with these entries: all keys are tuples, or none is -/
def keyOk (kvs : List (D × D)) (k : D) : Bool := k.key 8 && match kvs with
  | [] => true
  | p :: _ => p.1.isTup == k.isTup
def dget (k : D) : List (D × D) → Option D
  | [] => none
  | (a, v) :: r => if a = k then some v else dget k r
def dput (k v : D) : List (D × D) → List (D × D)
  | [] => [(k, v)]
  | (a, w) :: r => if a = k then (a, v) :: r else (a, w) :: dput k v r
def fget (f : String) : List (String × D) → Option D
  | [] => none
  | (a, v) :: r => if a = f then some v else fget f r
def fput (f : String) (v : D) : List (String × D) → List (String × D)
  | [] => [(f, v)]
  | (a, w) :: r => if a = f then (a, v) :: r else (a, w) :: fput f v r

/-! ### places and slices -/
def pyIx (n : Nat) (i : Int) : Option Nat :=
  if 0 ≤ i then (if i < n then some i.toNat else none) else if 0 ≤ i + n then some (i + n).toNat else none
def clampIx (n : Nat) (i : Int) : Nat := if i < 0 then (i + n).toNat else min i.toNat n
def loIx (n : Nat) : Option Int → Nat
  | none => 0
  | some i => clampIx n i
def hiIx (n : Nat) : Option Int → Nat
  | none => n
  | some i => clampIx n i
def cutL {α : Type} (xs : List α) (lo hi : Option Int) : List α := (xs.drop (loIx xs.length lo)).take (hiIx xs.length hi - loIx xs.length lo)

/-! ### texts -/
def splitC (c : Char) : List Char → List (List Char)
  | [] => [[]]
  | x :: r => if x = c then [] :: splitC c r else match splitC c r with
    | [] => [[x]]
    | w :: ws => (x :: w) :: ws
def isDig (c : Char) : Bool := decide ('0' ≤ c) && decide (c ≤ '9')
def digVal (c : Char) : Nat := c.toNat - '0'.toNat
def numOf (cs : List Char) : Nat := cs.foldl (fun n c => n * 10 + digVal c) 0
def intOfS (s : String) : Option Int :=
  let cs := s.toList
  if cs.length = 0 ∨ 600 < cs.length then none else if cs.all isDig = true then some (numOf cs : Int) else none
def joinS (sep : String) : List String → String
  | [] => ""
  | [x] => x
  | x :: xs => x ++ sep ++ joinS sep xs
def strsD : List D → Option (List String)
  | [] => some []
  | .str s :: r => (strsD r).map (s :: ·)
  | _ => none
def lenS (s : String) : Nat := s.toList.length
def strN (i : Int) : Option String := if i.natAbs < 2 ^ 1000 ∧ lenS (toString i) ≤ LIM then some (toString i) else none

/-! ### sorting -/
def D.lt : D → D → Option Bool
  | .int a, .int b => some (decide (a < b))
  | .tup [.int a, .int b], .tup [.int c, .int d] => some (decide (a < c) || (decide (a = c) && decide (b < d)))
  | _, _ => none
def insI (x : Int) : List Int → List Int
  | [] => [x]
  | y :: ys => if x ≤ y then x :: y :: ys else y :: insI x ys
def sortI : List Int → List Int
  | [] => []
  | x :: xs => insI x (sortI xs)
def leP (a b : Int × Int) : Bool := decide (a.1 < b.1) || (decide (a.1 = b.1) && decide (a.2 ≤ b.2))
def insP (x : Int × Int) : List (Int × Int) → List (Int × Int)
  | [] => [x]
  | y :: ys => if leP x y = true then x :: y :: ys else y :: insP x ys
def sortP : List (Int × Int) → List (Int × Int)
  | [] => []
  | x :: xs => insP x (sortP xs)
def dedup : List Int → List Int
  | [] => []
  | x :: xs => if x ∈ dedup xs then dedup xs else x :: dedup xs
def intsD : List D → Option (List Int)
  | [] => some []
  | .int i :: r => (intsD r).map (i :: ·)
  | _ => none
def prs : List D → Option (List (Int × Int))
  | [] => some []
  | .tup [.int a, .int b] :: r => (prs r).map ((a, b) :: ·)
  | _ => none
def sortD (xs : List D) : Option (List D) :=
  match intsD xs with
  | some ns => some ((sortI ns).map .int)
  | none => match prs xs with
    | some ps => some ((sortP ps).map fun p => .tup [.int p.1, .int p.2])
    | none => none
def maxI : List Int → Option Int
  | [] => none
  | x :: xs => some (xs.foldl (fun m y => if y > m then y else m) x)
def minI : List Int → Option Int
  | [] => none
  | x :: xs => some (xs.foldl (fun m y => if y < m then y else m) x)

/-! ### the syntax -/
inductive BOp where
  | add | sub | mul | mod | fdiv | pow
  deriving DecidableEq
inductive COp where
  | eq | ne | lt | le | gt | ge | isin | notin | ltl
  deriving DecidableEq
inductive Ty where
  | int | bool | str | tuple | list
  deriving DecidableEq
inductive Bi where
  | len | str | int | bool | max2 | min2
  deriving DecidableEq
inductive CK where
  | tuple | list | sorted | sset | sum | max | min | maxd | dict
  deriving DecidableEq
inductive BM where
  | append | extend | pop | popAt | insert | remove | index | get1 | get2 | split | join
  deriving DecidableEq
inductive Pat where
  | name (i : Nat) | tup (is : List Nat)

inductive E where
  | var (i : Nat) | int (i : Int) | str (s : String) | bl (b : Bool) | non
  | nil | cons (a r : E)
  | tup (es : E) | lst (es : E) | dic (kvs : E)
  | bin (op : BOp) (a b : E) | neg (a : E) | no (a : E) | and (a b : E) | or (a b : E)
  | cmp (op : COp) (a b : E) | isN (a : E) | notN (a : E) | isT (a : E) | notT (a : E)
  | chain (a : E) (l : E) | lnk (op : COp) (b r : E)
  | ite (c a b : E)
  | idx (a i : E) | slice (a lo hi : E) | rev (a : E)
  | attr (a : E) (f : String) | call (f : String) (es : E) | new (c : String) (es : E) | meth (a : E) (m : String) (es : E) | glob (x : String)
  | bi (b : Bi) (es : E) | isi (a : E) (t : Ty) | bm (m : BM) (a : E) (es : E)
  | coll (k : CK) (it : E)
  | range (es : E) | enum (a : E) | zip (a b : E) | values (a : E) | keys (a : E)
  | for1 (vs : List Nat) (p : Pat) (it c body : E)
  | lcomp (p : E) | dcomp (p : E) | gtup (p : E) | gany (p : E) | gall (p : E) | gsum (p : E) | gjoin (sep p : E)
  | fstr (es : E)
inductive S where
  | skip | seq (a b : S) | expr (e : E) | asg (p : Pat) (e : E) | setattr (o : E) (f : String) (e : E) | setidx (o i e : E)
  | aug (i : Nat) (op : BOp) (e : E) | augattr (o : E) (f : String) (op : BOp) (e : E)
  | ite (c : E) (a b : S) | while (c : E) (b : S) | for (p : Pat) (it : E) (b : S) | ret (e : E) | brk | cont

/-! ### the evaluator -/
inductive FK where
  | fn (f : String) | mth (c m : String)
  deriving DecidableEq
structure FDef where
  params : Nat
  slots : Nat
  body : S
structure Prog where
  fdef : FK → Option FDef
  glob : String → Option D
  script : List Int
abbrev R (α : Type) := Option (α × Mem)
def bnd {α β : Type} (x : R α) (f : α → Mem → Option β) : Option β := match x with
  | none => none
  | some (a, m) => f a m
@[simp] theorem bnd_some {α β : Type} (a : α) (m : Mem) (f : α → Mem → Option β) : bnd (some (a, m)) f = f a m := rfl
@[simp] theorem bnd_none {α β : Type} (f : α → Mem → Option β) : bnd none f = none := rfl

/-- the truth of a value -/
def truth (M : Mem) : D → Option Bool
  | .non => some false
  | .bl b => some b
  | .int i => some (decide (i ≠ 0))
  | .str s => some (decide (s ≠ ""))
  | .tup xs => some (!xs.isEmpty)
  | .ref p => match M[p]? with
    | some (.lst xs) => some (!xs.isEmpty)
    | _ => none
  | .scr => none
def binD (M : Mem) : BOp → D → D → R D
  | .add, .int a, .int b => some (.int (a + b), M)
  | .add, .str a, .str b => if lenS a + lenS b ≤ LIM then some (.str (a ++ b), M) else none
  | .add, .tup a, .tup b => if a.length + b.length ≤ LIM then some (.tup (a ++ b), M) else none
  | .add, .ref p, .ref q => match M[p]?, M[q]? with
    | some (.lst a), some (.lst b) => if a.length + b.length ≤ LIM then some (.ref M.length, M ++ [.lst (a ++ b)]) else none
    | _, _ => none
  | .sub, .int a, .int b => some (.int (a - b), M)
  | .mul, .int a, .int b => if (-(2 ^ 64) < a ∧ a < 2 ^ 64) ∨ (-(2 ^ 64) < b ∧ b < 2 ^ 64) then some (.int (a * b), M) else none
  | .mul, .ref p, .int k => match M[p]? with
    | some (.lst a) => if 0 ≤ k ∧ k < 2 ^ 62 ∧ a.length * k.toNat ≤ LIM then some (.ref M.length, M ++ [.lst (List.replicate k.toNat a).flatten]) else none
    | _ => none
  | .mod, .int a, .int b => if 0 < b then some (.int (a % b), M) else none
  | .fdiv, .int a, .int b => if 0 < b ∧ b < 1073741824 then some (.int (a / b), M) else none
  | .pow, .int a, .int b => if 0 ≤ b ∧ b ≤ 1000000 ∧ a.natAbs < 2 ^ 64 then some (.int (a ^ b.toNat), M) else none
  | _, _, _ => none
/-- x op= y, x no list -/
def augD (M : Mem) (op : BOp) (x y : D) : R D := match op, x with
  | .add, .int _ => binD M .add x y
  | .add, .str _ => binD M .add x y
  | .add, .tup _ => binD M .add x y
  | .sub, .int _ => binD M .sub x y
  | _, _ => none
/-- x in o -/
def memD (M : Mem) (x : D) : D → Option Bool
  | .tup ys => inD M x ys
  | .str t => match x with
    | .str s => match s.toList with
      | [c] => some (decide (c ∈ t.toList))
      | _ => none
    | _ => none
  | .ref p => match M[p]? with
    | some (.lst ys) => inD M x ys
    | some (.dic kvs) => if keyOk kvs x = true then some (dget x kvs).isSome else none
    | _ => none
  | _ => none
def lexI : List Int → List Int → Bool
  | [], [] => false
  | [], _ :: _ => true
  | _ :: _, [] => false
  | x :: xs, y :: ys => if x = y then lexI xs ys else decide (x < y)
def cmpD (M : Mem) : COp → D → D → Option Bool
  | .eq, a, b => eqD M a b
  | .ne, a, b => (eqD M a b).map (!·)
  | .lt, .int a, .int b => some (decide (a < b))
  | .le, .int a, .int b => some (decide (a ≤ b))
  | .gt, .int a, .int b => some (decide (b < a))
  | .ge, .int a, .int b => some (decide (b ≤ a))
  | .ltl, .ref p, .ref q => match M[p]?, M[q]? with
    | some (.lst xs), some (.lst ys) => match intsD xs, intsD ys with
      | some ns, some ms => some (lexI ns ms)
      | _, _ => none
    | _, _ => none
  | .isin, a, b => memD M a b
  | .notin, a, b => (memD M a b).map (!·)
  | _, _, _ => none
def idxD (P : Prog) (M : Mem) : D → D → Option D
  | .tup xs, .int i => match pyIx xs.length i with
    | some k => xs[k]?
    | none => none
  | .str s, .int i => if 0 ≤ i then (s.toList[i.toNat]?).map fun c => .str (String.ofList [c]) else none
  | .ref p, k => match M[p]? with
    | some (.lst xs) => match k with
      | .int i => match pyIx xs.length i with
        | some k => xs[k]?
        | none => none
      | _ => none
    | some (.dic kvs) => if keyOk kvs k = true then dget k kvs else none
    | _ => none
  | .scr, .int i => if 0 ≤ i then (P.script[i.toNat]?).map .int else none
  | _, _ => none
def sliceD (M : Mem) : D → Option Int → Option Int → R D
  | .tup xs, l, h => some (.tup (cutL xs l h), M)
  | .str s, l, h => some (.str (String.ofList (cutL s.toList l h)), M)
  | .ref p, l, h => match M[p]? with
    | some (.lst xs) => some (.ref M.length, M ++ [.lst (cutL xs l h)])
    | _ => none
  | _, _, _ => none
/-- a part of a slice: left out, or an int -/
def partE (e : E) (x : D) : Option (Option Int) := match e with
  | .non => some none
  | _ => match x with
    | .int i => some (some i)
    | _ => none
def isiD (M : Mem) : D → Ty → Option Bool
  | .non, _ => some false
  | .bl _, t => some (t = .bool || t = .int)
  | .int _, t => some (t = .int)
  | .str _, t => some (t = .str)
  | .tup _, t => some (t = .tuple)
  | .ref p, t => match M[p]? with
    | some (.lst _) => some (t = .list)
    | _ => none
  | .scr, _ => none
def lenD (P : Prog) (M : Mem) : D → Option Nat
  | .tup xs => some xs.length
  | .str s => some (lenS s)
  | .ref p => match M[p]? with
    | some (.lst xs) => some xs.length
    | _ => none
  | .scr => some P.script.length
  | _ => none
def biD (P : Prog) (M : Mem) : Bi → List D → Option D
  | .len, [x] => (lenD P M x).map fun n : Nat => .int (n : Int)
  | .str, [.int i] => (strN i).map .str
  | .int, [.int i] => some (.int i)
  | .int, [.bl b] => some (.int (b2i b))
  | .int, [.str s] => (intOfS s).map .int
  | .bool, [.int i] => some (.bl (decide (i ≠ 0)))
  | .bool, [.bl b] => some (.bl b)
  | .max2, [.int a, .int b] => some (.int (if b > a then b else a))
  | .min2, [.int a, .int b] => some (.int (if b < a then b else a))
  | _, _ => none
def bmD (M : Mem) : BM → D → List D → R D
  | .append, .ref p, [x] => match M[p]? with
    | some (.lst xs) => if xs.length < LIM then some (.non, M.set p (.lst (xs ++ [x]))) else none
    | _ => none
  | .extend, .ref p, [.ref q] => match M[p]?, M[q]? with
    | some (.lst xs), some (.lst ys) => if p ≠ q ∧ xs.length + ys.length ≤ LIM then some (.non, M.set p (.lst (xs ++ ys))) else none
    | _, _ => none
  | .extend, .ref p, [.tup ys] => match M[p]? with
    | some (.lst xs) => if xs.length + ys.length ≤ LIM then some (.non, M.set p (.lst (xs ++ ys))) else none
    | _ => none
  | .pop, .ref p, [] => match M[p]? with
    | some (.lst xs) => match xs.getLast? with
      | some x => some (x, M.set p (.lst xs.dropLast))
      | none => none
    | _ => none
  | .popAt, .ref p, [.int i] => match M[p]? with
    | some (.lst xs) => match pyIx xs.length i with
      | some k => match xs[k]? with
        | some x => some (x, M.set p (.lst (xs.eraseIdx k)))
        | none => none
      | none => none
    | _ => none
  | .insert, .ref p, [.int i, x] => match M[p]? with
    | some (.lst xs) => if 0 ≤ i ∧ i ≤ xs.length ∧ xs.length < LIM then some (.non, M.set p (.lst (xs.insertIdx i.toNat x))) else none
    | _ => none
  | .remove, .ref p, [x] => match M[p]? with
    | some (.lst xs) => match indexD M x xs with
      | some k => some (.non, M.set p (.lst (xs.eraseIdx k)))
      | none => none
    | _ => none
  | .index, .ref p, [x] => match M[p]? with
    | some (.lst xs) => if (mapO (reify 60 M) xs).isSome = true then (indexD M x xs).map fun k : Nat => (.int (k : Int), M) else none
    | _ => none
  | .get1, .ref p, [k] => match M[p]? with
    | some (.dic kvs) => if keyOk kvs k = true then some ((dget k kvs).getD .non, M) else none
    | _ => none
  | .get2, .ref p, [k, x] => match M[p]? with
    | some (.dic kvs) => if keyOk kvs k = true then some ((dget k kvs).getD x, M) else none
    | _ => none
  | .split, .str s, [.str t] => match t.toList with
    | [c] => if lenS s + 2 ≤ LIM then some (.ref M.length, M ++ [.lst ((splitC c s.toList).map fun w => .str (String.ofList w))]) else none
    | _ => none
  | .join, .str s, [x] => match (match x with
      | .tup xs => strsD xs
      | .ref p => match M[p]? with
        | some (.lst xs) => strsD xs
        | _ => none
      | _ => none) with
    | some ws => if (ws.map lenS).sum + ws.length * lenS s ≤ LIM then some (.str (joinS s ws), M) else none
    | none => none
  | _, _, _ => none
/-- o[k] = v -/
def setD (M : Mem) : D → D → D → Option Mem
  | .ref p, k, v => match M[p]? with
    | some (.lst xs) => match k with
      | .int i => match pyIx xs.length i with
        | some j => some (M.set p (.lst (xs.set j v)))
        | none => none
      | _ => none
    | some (.dic kvs) => if keyOk kvs k = true ∧ kvs.length < LIM then some (M.set p (.dic (dput k v kvs))) else none
    | _ => none
  | _, _, _ => none
/-- the receiver is what the method is of -/
def recvOk (M : Mem) (m : BM) (d : D) : Bool := match m, d with
  | .split, .str _ => true
  | .join, .str _ => true
  | .get1, .ref p => match M[p]? with
    | some (.dic _) => true
    | _ => false
  | .get2, .ref p => match M[p]? with
    | some (.dic _) => true
    | _ => false
  | .split, _ => false
  | .join, _ => false
  | _, .ref p => match M[p]? with
    | some (.lst _) => true
    | _ => false
  | _, _ => false
/-- pairs (key, value), for dict(..) -/
def dictOf : List D → List (D × D) → Option (List (D × D))
  | [], acc => some acc
  | .tup [k, v] :: r, acc => if keyOk acc k = true then dictOf r (dput k v acc) else none
  | _, _ => none
def collD (M : Mem) : CK → List D → R D
  | .tuple, xs => some (.tup xs, M)
  | .list, xs => if xs.length ≤ LIM then some (.ref M.length, M ++ [.lst xs]) else none
  | .sorted, xs => match sortD xs with
    | some ys => some (.ref M.length, M ++ [.lst ys])
    | none => none
  | .sset, xs => match intsD xs with
    | some ns => if (dedup ns).length < 64 then some (.ref M.length, M ++ [.lst ((sortI (dedup ns)).map .int)]) else none
    | none => none
  | .sum, xs => match intsD xs with
    | some ns => some (.int ns.sum, M)
    | none => none
  | .max, xs => match intsD xs with
    | some ns => (maxI ns).map fun m => (.int m, M)
    | none => none
  | .min, xs => match intsD xs with
    | some ns => (minI ns).map fun m => (.int m, M)
    | none => none
  | .maxd, xs => match intsD xs with
    | some ns => some (.int ((maxI ns).getD 0), M)
    | none => none
  | .dict, xs => match dictOf xs [] with
    | some kvs => some (.ref M.length, M ++ [.dic kvs])
    | none => none
def rangeL (lo hi step : Int) : Option (List D) :=
  if -(2 ^ 61) < lo ∧ lo < 2 ^ 61 ∧ -(2 ^ 61) < hi ∧ hi < 2 ^ 61 then
    if step = 1 then some ((List.range (hi - lo).toNat).map fun k : Nat => .int (lo + (k : Int)))
    else if step = -1 then some ((List.range (lo - hi).toNat).map fun k : Nat => .int (lo - (k : Int)))
    else none
  else none
def rangeD : List D → Option (List D)
  | [.int a] => rangeL 0 a 1
  | [.int a, .int b] => rangeL a b 1
  | [.int a, .int b, .int c] => rangeL a b c
  | _ => none
/-- what is walked: its items, and what must stand still meanwhile -/
abbrev Items := List D × List (Nat × MO)
def itemsD (M : Mem) : D → Option Items
  | .tup xs => some (xs, [])
  | .ref p => match M[p]? with
    | some (.lst xs) => some (xs, [(p, .lst xs)])
    | _ => none
  | _ => none
def still (g : List (Nat × MO)) (M : Mem) : Bool := g.all fun p => decide (M[p.1]? = some p.2)
def bindPat : Pat → D → VEnv → Option VEnv
  | .name i, d, ρ => some (ρ.set i (some d))
  | .tup is, .tup xs, ρ => if is.length = xs.length then some ((is.zip xs).foldl (fun ρ p => ρ.set p.1 (some p.2)) ρ) else none
  | .tup _, _, _ => none
def wipeE (ρ : VEnv) : List Nat → VEnv
  | [] => ρ
  | v :: vs => (wipeE ρ vs).set v none
def textOf : D → Option String
  | .str s => some s
  | .int i => strN i
  | _ => none

/-! calls -/
structure FT where
  P : Prog
  call : FK → List D → Mem → R D
  wl : Nat

/-- the turns of a comprehension -/
def turns (g : List (Nat × MO)) (p : Pat) (c : VEnv → Mem → R Bool) (b : VEnv → Mem → R (List D)) (ρ : VEnv) : List D → Mem → R (List D)
  | [], M => if still g M = true then some ([], M) else none
  | x :: xs, M => if still g M = true then match bindPat p x ρ with
    | none => none
    | some ρ1 => bnd (c ρ1 M) fun ok M1 =>
        if ok = true then bnd (b ρ1 M1) fun ys M2 => bnd (turns g p c b ρ xs M2) fun zs M3 => some (ys ++ zs, M3)
        else turns g p c b ρ xs M1
    else none
/-- until one is as wanted -/
def seek (want : Bool) (g : List (Nat × MO)) (p : Pat) (c : VEnv → Mem → R Bool) (b : VEnv → Mem → R Bool) (ρ : VEnv) : List D → Mem → R Bool
  | [], M => if still g M = true then some (!want, M) else none
  | x :: xs, M => if still g M = true then match bindPat p x ρ with
    | none => none
    | some ρ1 => bnd (c ρ1 M) fun ok M1 =>
        if ok = true then bnd (b ρ1 M1) fun y M2 => if y = want then some (want, M2) else seek want g p c b ρ xs M2
        else seek want g p c b ρ xs M1
    else none
def truthR (x : R D) : R Bool := bnd x fun d M => (truth M d).map fun b => (b, M)
/-- a truth value alone -/
def boolR (x : R D) : R Bool := bnd x fun d M => match d with
  | .bl b => some (b, M)
  | _ => none
def pairsOf : List D → Option (List (D × D))
  | [] => some []
  | k :: v :: r => (pairsOf r).map ((k, v) :: ·)
  | _ => none
def dputs (kvs : List (D × D)) (acc : List (D × D)) : List (D × D) := kvs.foldl (fun a p => dput p.1 p.2 a) acc

mutual
def evE (F : FT) : E → VEnv → Mem → R D
  | .var i, ρ, M => match ρ[i]? with
    | some (some d) => some (d, M)
    | _ => none
  | .int i, _, M => some (.int i, M)
  | .str s, _, M => some (.str s, M)
  | .bl b, _, M => some (.bl b, M)
  | .non, _, M => some (.non, M)
  | .tup es, ρ, M => bnd (evEs F es ρ M) fun xs M => some (.tup xs, M)
  | .lst es, ρ, M => bnd (evEs F es ρ M) fun xs M => some (.ref M.length, M ++ [.lst xs])
  | .dic es, ρ, M => bnd (evEs F es ρ M) fun xs M => match pairsOf xs with
    | some kvs => if kvs.all (fun p => keyOk kvs p.1) = true then some (.ref M.length, M ++ [.dic (dputs kvs [])]) else none
    | none => none
  | .bin op a b, ρ, M => bnd (evE F a ρ M) fun x M => bnd (evE F b ρ M) fun y M => binD M op x y
  | .neg a, ρ, M => bnd (evE F a ρ M) fun x M => match x with
    | .int i => some (.int (-i), M)
    | _ => none
  | .no a, ρ, M => bnd (evE F a ρ M) fun x M => (truth M x).map fun b => (.bl (!b), M)
  | .and a b, ρ, M => bnd (evE F a ρ M) fun x M => match truth M x with
    | some true => evE F b ρ M
    | some false => some (x, M)
    | none => none
  | .or a b, ρ, M => bnd (evE F a ρ M) fun x M => match truth M x with
    | some true => some (x, M)
    | some false => evE F b ρ M
    | none => none
  | .cmp op a b, ρ, M => bnd (evE F a ρ M) fun x M => bnd (evE F b ρ M) fun y M => (cmpD M op x y).map fun r => (.bl r, M)
  | .isN a, ρ, M => bnd (evE F a ρ M) fun x M => some (.bl (decide (x = .non)), M)
  | .notN a, ρ, M => bnd (evE F a ρ M) fun x M => some (.bl (!decide (x = .non)), M)
  | .isT a, ρ, M => bnd (evE F a ρ M) fun x M => some (.bl (decide (x = .bl true)), M)
  | .notT a, ρ, M => bnd (evE F a ρ M) fun x M => some (.bl (!decide (x = .bl true)), M)
  | .chain a l, ρ, M => bnd (evE F a ρ M) fun x M => evCh F l x ρ M
  | .ite c a b, ρ, M => bnd (evE F c ρ M) fun x M => match truth M x with
    | some true => evE F a ρ M
    | some false => evE F b ρ M
    | none => none
  | .idx a i, ρ, M => bnd (evE F a ρ M) fun x M => bnd (evE F i ρ M) fun y M => (idxD F.P M x y).map fun r => (r, M)
  | .slice a lo hi, ρ, M => bnd (evE F a ρ M) fun x M => bnd (evE F lo ρ M) fun l M => bnd (evE F hi ρ M) fun h M => match partE lo l, partE hi h with
    | some l, some h => sliceD M x l h
    | _, _ => none
  | .rev a, ρ, M => bnd (evE F a ρ M) fun x M => match x with
    | .tup xs => some (.tup xs.reverse, M)
    | .ref p => match M[p]? with
      | some (.lst xs) => some (.ref M.length, M ++ [.lst xs.reverse])
      | _ => none
    | _ => none
  | .attr a f, ρ, M => bnd (evE F a ρ M) fun x M => match x with
    | .ref p => match M[p]? with
      | some (.ins _ fs) => (fget f fs).map fun v => (v, M)
      | _ => none
    | _ => none
  | .call f es, ρ, M => bnd (evEs F es ρ M) fun xs M => F.call (.fn f) xs M
  | .new c es, ρ, M => bnd (evEs F es ρ M) fun xs M => bnd (F.call (.mth c "__init__") (.ref M.length :: xs) (M ++ [.ins c []])) fun r M1 =>
      if r = .non then some (.ref M.length, M1) else none
  | .meth a m es, ρ, M => bnd (evE F a ρ M) fun x M => match x with
    | .ref p => match M[p]? with
      | some (.ins c fs) => if fget m fs = none then bnd (evEs F es ρ M) fun xs M => F.call (.mth c m) (.ref p :: xs) M else none
      | _ => none
    | _ => none
  | .glob x, _, M => (F.P.glob x).map fun d => (d, M)
  | .bi b es, ρ, M => bnd (evEs F es ρ M) fun xs M => (biD F.P M b xs).map fun r => (r, M)
  | .isi a t, ρ, M => bnd (evE F a ρ M) fun x M => (isiD M x t).map fun r => (.bl r, M)
  | .bm m a es, ρ, M => bnd (evE F a ρ M) fun x M => if recvOk M m x = true then bnd (evEs F es ρ M) fun xs M => bmD M m x xs else none
  | .coll k it, ρ, M => bnd (evIt F it ρ M) fun xs M => collD M k xs.1
  | .lcomp p, ρ, M => bnd (evEs F p ρ M) fun xs M => if xs.length ≤ LIM then some (.ref M.length, M ++ [.lst xs]) else none
  | .dcomp p, ρ, M => bnd (evEs F p ρ M) fun xs M => match pairsOf xs with
    | some kvs => if kvs.all (fun p => keyOk kvs p.1) = true ∧ kvs.length ≤ LIM then some (.ref M.length, M ++ [.dic (dputs kvs [])]) else none
    | none => none
  | .gtup p, ρ, M => bnd (evEs F p ρ M) fun xs M => if xs.length < LIM then some (.tup xs, M) else none
  | .gany p, ρ, M => bnd (evSk F true p ρ M) fun b M => some (.bl b, M)
  | .gall p, ρ, M => bnd (evSk F false p ρ M) fun b M => some (.bl b, M)
  | .gsum p, ρ, M => bnd (evEs F p ρ M) fun xs M => match intsD xs with
    | some ns => if xs.length < LIM ∧ ns.all (fun i => decide (-2147483648 ≤ i) && decide (i ≤ 2147483648)) = true then some (.int ns.sum, M) else none
    | none => none
  | .gjoin s p, ρ, M => bnd (evE F s ρ M) fun x M => match x with
    | .str s => bnd (evEs F p ρ M) fun xs M => match strsD xs with
      | some ws => if (ws.map lenS).sum + ws.length * lenS s ≤ LIM ∧ ws.length < LIM then some (.str (joinS s ws), M) else none
      | none => none
    | _ => none
  | .fstr es, ρ, M => bnd (evEs F es ρ M) fun xs M => match mapO textOf xs with
    | some ws => if (ws.map lenS).sum ≤ LIM then some (.str (joinS "" ws), M) else none
    | none => none
  | _, _, _ => none
def evEs (F : FT) : E → VEnv → Mem → R (List D)
  | .nil, _, M => some ([], M)
  | .cons a r, ρ, M => bnd (evE F a ρ M) fun x M => bnd (evEs F r ρ M) fun xs M => some (x :: xs, M)
  | .for1 vs p it c b, ρ, M => bnd (evIt F it ρ M) fun xs M =>
      turns xs.2 p (fun ρ M => truthR (evE F c ρ M)) (fun ρ M => evEs F b ρ M) (wipeE ρ vs) xs.1 M
  | _, _, _ => none
/-- any, all of a generator's values -/
def evSk (F : FT) (want : Bool) : E → VEnv → Mem → R Bool
  | .cons a .nil, ρ, M => boolR (evE F a ρ M)
  | .for1 vs p it c b, ρ, M => bnd (evIt F it ρ M) fun xs M =>
      seek want xs.2 p (fun ρ M => truthR (evE F c ρ M)) (fun ρ M => evSk F want b ρ M) (wipeE ρ vs) xs.1 M
  | _, _, _ => none
def evIt (F : FT) : E → VEnv → Mem → R Items
  | .range es, ρ, M => bnd (evEs F es ρ M) fun xs M => (rangeD xs).map fun ys => ((ys, []), M)
  | .enum a, ρ, M => bnd (evE F a ρ M) fun x M => (itemsD M x).map fun ys => ((ys.1.zipIdx.map fun p => .tup [.int p.2, p.1], ys.2), M)
  | .zip a b, ρ, M => bnd (evE F a ρ M) fun x M => bnd (evE F b ρ M) fun y M => match itemsD M x, itemsD M y with
    | some xs, some ys => some (((xs.1.zip ys.1).map fun p => .tup [p.1, p.2], xs.2 ++ ys.2), M)
    | _, _ => none
  | .keys a, ρ, M => bnd (evE F a ρ M) fun x M => match x with
    | .ref p => match M[p]? with
      | some (.dic kvs) => some ((kvs.map (·.1), [(p, .dic kvs)]), M)
      | _ => none
    | _ => none
  | .values a, ρ, M => bnd (evE F a ρ M) fun x M => match x with
    | .ref p => match M[p]? with
      | some (.dic kvs) => some ((kvs.map (·.2), [(p, .dic kvs)]), M)
      | _ => none
    | _ => none
  | .cons a .nil, ρ, M => bnd (evE F a ρ M) fun x M => (itemsD M x).map fun ys => (ys, M)
  | _, _, _ => none
def evCh (F : FT) : E → D → VEnv → Mem → R D
  | .lnk op b .nil, x, ρ, M => bnd (evE F b ρ M) fun y M => (cmpD M op x y).map fun r => (.bl r, M)
  | .lnk op b r, x, ρ, M => bnd (evE F b ρ M) fun y M => match cmpD M op x y with
    | some true => evCh F r y ρ M
    | some false => some (.bl false, M)
    | none => none
  | _, _, _, _ => none
end

inductive Out where
  | nx (ρ : VEnv) | rt (d : D) | bk (ρ : VEnv) | ct (ρ : VEnv)

def forL (g : List (Nat × MO)) (p : Pat) (b : VEnv → Mem → R Out) : List D → VEnv → Mem → R Out
  | [], ρ, M => if still g M = true then some (.nx ρ, M) else none
  | x :: xs, ρ, M => if still g M = true then match bindPat p x ρ with
    | none => none
    | some ρ1 => bnd (b ρ1 M) fun o M1 => match o with
      | .nx ρ2 => forL g p b xs ρ2 M1
      | .ct ρ2 => forL g p b xs ρ2 M1
      | .bk ρ2 => some (.nx ρ2, M1)
      | .rt d => some (.rt d, M1)
    else none
def whileL (c : VEnv → Mem → R Bool) (b : VEnv → Mem → R Out) : Nat → VEnv → Mem → R Out
  | 0, _, _ => none
  | n + 1, ρ, M => bnd (c ρ M) fun t M1 => if t = true then bnd (b ρ M1) fun o M2 => match o with
      | .nx ρ2 => whileL c b n ρ2 M2
      | .ct ρ2 => whileL c b n ρ2 M2
      | .bk ρ2 => some (.nx ρ2, M2)
      | .rt d => some (.rt d, M2)
    else some (.nx ρ, M1)

def evS (F : FT) : S → VEnv → Mem → R Out
  | .skip, ρ, M => some (.nx ρ, M)
  | .seq a b, ρ, M => bnd (evS F a ρ M) fun o M => match o with
    | .nx ρ => evS F b ρ M
    | o => some (o, M)
  | .expr e, ρ, M => bnd (evE F e ρ M) fun _ M => some (.nx ρ, M)
  | .asg p e, ρ, M => bnd (evE F e ρ M) fun x M => match p, x with
    | .tup is, .ref q => match M[q]? with
      | some (.lst xs) => (bindPat (.tup is) (.tup xs) ρ).map fun ρ => (.nx ρ, M)
      | _ => none
    | p, x => (bindPat p x ρ).map fun ρ => (.nx ρ, M)
  | .setattr o f e, ρ, M => bnd (evE F e ρ M) fun v M => bnd (evE F o ρ M) fun x M => match x with
    | .ref p => match M[p]? with
      | some (.ins c fs) => if fs.length < 1000 then some (.nx ρ, M.set p (.ins c (fput f v fs))) else none
      | _ => none
    | _ => none
  | .setidx o i e, ρ, M => bnd (evE F e ρ M) fun v M => bnd (evE F o ρ M) fun x M => bnd (evE F i ρ M) fun k M => (setD M x k v).map fun M => (.nx ρ, M)
  | .aug i op e, ρ, M => match ρ[i]? with
    | some (some x) => bnd (evE F e ρ M) fun y M => bnd (augD M op x y) fun z M => some (.nx (ρ.set i (some z)), M)
    | _ => none
  | .augattr o f op e, ρ, M => bnd (evE F o ρ M) fun x M => match x with
    | .ref p => match M[p]? with
      | some (.ins c0 fs) => match fget f fs with
        | some old => bnd (evE F e ρ M) fun y M => bnd (augD M op old y) fun z M => match M[p]? with
            | some (.ins c fs) => if c = c0 ∧ fs.length < 1000 then some (.nx ρ, M.set p (.ins c (fput f z fs))) else none
            | _ => none
        | none => none
      | _ => none
    | _ => none
  | .ite c a b, ρ, M => bnd (truthR (evE F c ρ M)) fun t M => if t = true then evS F a ρ M else evS F b ρ M
  | .while c b, ρ, M => whileL (fun ρ M => truthR (evE F c ρ M)) (fun ρ M => evS F b ρ M) F.wl ρ M
  | .for p it b, ρ, M => bnd (evIt F it ρ M) fun xs M => forL xs.2 p (fun ρ M => evS F b ρ M) xs.1 ρ M
  | .ret e, ρ, M => bnd (evE F e ρ M) fun x M => some (.rt x, M)
  | .brk, ρ, M => some (.bk ρ, M)
  | .cont, ρ, M => some (.ct ρ, M)

/-! ### what a call leaves behind -/
mutual
/-- no cell from n on is named -/
def D.bel (n : Nat) : D → Bool
  | .ref p => decide (p < n)
  | .tup xs => D.bels n xs
  | _ => true
def D.bels (n : Nat) : List D → Bool
  | [] => true
  | x :: xs => D.bel n x && D.bels n xs
end
def MO.bel (n : Nat) : MO → Bool
  | .lst xs => D.bels n xs
  | .dic kvs => kvs.all fun p => p.1.bel n && p.2.bel n
  | .ins _ fs => fs.all fun p => p.2.bel n
/-- the old cells name no new ones -/
def oldOk (n : Nat) : Mem → Mem → Bool
  | [], _ => true
  | _ :: _, [] => false
  | o :: M, o' :: M' => (decide (o = o') || o'.bel n) && oldOk n M M'
/-- cells that can't be reached any more are dropped -/
def gc (M : Mem) (d : D) (M' : Mem) : D × Mem :=
  if oldOk M.length M M' = true then
    if d.bel M.length = true then (d, M'.take M.length)
    else match d with
      | .ref r => match M'[r]? with
        | some o => if o.bel M.length = true then (.ref M.length, M'.take M.length ++ [o]) else (d, M')
        | none => (d, M')
      | _ => (d, M')
  else (d, M')
def retOf (M : Mem) : R Out → R D
  | some (.rt d, M') => some (gc M d M')
  | some (.nx _, M') => some (gc M .non M')
  | _ => none
def evF (P : Prog) (wl : Nat) : Nat → FK → List D → Mem → R D
  | 0, _, _, _ => none
  | n + 1, k, xs, M => match P.fdef k with
    | none => none
    | some fd => if xs.length = fd.params then retOf M (evS ⟨P, evF P wl n, wl⟩ fd.body (xs.map some ++ List.replicate (fd.slots - fd.params) none) M) else none
/-- the law's run -/
def run (P : Prog) (wl n : Nat) : Option D := (evF P wl n (.fn "law") [.scr] []).map (·.1)
end Pw

end
section
set_option maxHeartbeats 1000000
/-! Snd1: the evaluator's values and cells, related to the hand layer's; the readings. -/
namespace Pw
open PySem PySem.Spec PyProof.Rows L2

/-- what is fixed through a law: the written part, the world, the script's address, the classes' addresses, the program -/
structure PC where
  prog : Program
  K : PySem.W.Frag
  w : World
  sa : Addr
  ca : String → Option Addr
  P : Prog
  mg : Str → Option Value
  base : Heap
  /-- code objects and their tables, for those that make generators -/
  tabs : List (Addr × Addr)

mutual
inductive RD (sa : Addr) (α : List Addr) (H : Hp) : D → V → Prop where
  | non : RD sa α H .non .non
  | bl (b : Bool) : RD sa α H (.bl b) (.bl b)
  | int (i : Int) : RD sa α H (.int i) (.int i)
  | str {s : String} : lenS s ≤ LIM → RD sa α H (.str s) (.str (Str.ofString s))
  | tup {a : Addr} {ds : List D} {vs : List V} : H a = some (.tup vs) → RDs sa α H ds vs → RD sa α H (.tup ds) (.ref a)
  | ref {n : Nat} {a : Addr} : α[n]? = some a → RD sa α H (.ref n) (.ref a)
  | scr : RD sa α H .scr (.ref sa)
inductive RDs (sa : Addr) (α : List Addr) (H : Hp) : List D → List V → Prop where
  | nil : RDs sa α H [] []
  | cons {d : D} {v : V} {ds : List D} {vs : List V} : RD sa α H d v → RDs sa α H ds vs → RDs sa α H (d :: ds) (v :: vs)
end

/-- an instance's attributes -/
inductive RF (sa : Addr) (α : List Addr) (H : Hp) : List (String × D) → List (Str × V) → Prop where
  | nil : RF sa α H [] []
  | cons {f : String} {d : D} {v : V} {r : List (String × D)} {q : List (Str × V)} : RD sa α H d v → RF sa α H r q → RF sa α H ((f, d) :: r) ((Str.ofString f, v) :: q)
/-- a dict's entries: the key as data, the key's value, the value -/
inductive RK (sa : Addr) (α : List Addr) (H : Hp) : List (D × D) → List (D × V × V) → Prop where
  | nil : RK sa α H [] []
  | cons {k d : D} {u v : V} {r : List (D × D)} {q : List (D × V × V)} : RD sa α H k u → RD sa α H d v → RK sa α H r q → RK sa α H ((k, d) :: r) ((k, u, v) :: q)

mutual
/-- a key as the library's nested kind has it -/
def nk : D → NestedKey
  | .int i => .num i
  | .str s => .text (Str.ofString s)
  | .tup xs => .tup (nks xs)
  | _ => .none
def nks : List D → List NestedKey
  | [] => []
  | x :: xs => nk x :: nks xs
end
/-- keys that are no tuples, exactly -/
def flatIs : Leaf → Value → Bool
  | .none, .none => true
  | .num i, .int j _ => decide (j = i)
  | .text x, v => Value.isStrOf x v
  | _, _ => false
theorem flatIs_leaf : ∀ {k : Leaf} {v : Value}, flatIs k v = true → Leaf.isOf k v = true
  | .none, v, h => by cases v <;> first | rfl | exact absurd h Bool.false_ne_true
  | .num i, v, h => by
    cases v with
    | int j t => exact h
    | _ => exact absurd h Bool.false_ne_true
  | .text x, v, h => h
def flatKind (prog : Program) (w : World) : KeyKind prog w Leaf where
  is := flatIs
  hash := fun k => k.key.hash w
  inj := fun v a b ha hb => (leafKind prog w).inj v a b (flatIs_leaf ha) (flatIs_leaf hb)
  byValue := fun k v h => (leafKind prog w).byValue k v (flatIs_leaf h)
  pyHash := fun hv h => pyHash_leaf (flatIs_leaf hv) h
  eqBool := fun hu hv h => eqAt_leaf (flatIs_leaf hu) (flatIs_leaf hv) _ _ _ _ h
  «strs» := fun k x t v h => by
    cases k with
    | none => exact absurd h Bool.false_ne_true
    | num i => exact absurd h Bool.false_ne_true
    | text y =>
      obtain ⟨u, hu⟩ := Value.isStrOf_shape (show Value.isStrOf y (.str x t) = true from h)
      injection hu with hx
      subst hx
      cases v <;> rfl
def leafK : D → Option Leaf
  | .non => some .none
  | .int i => some (.num i)
  | .str s => some (.text (Str.ofString s))
  | _ => none
/-- the dict's object, by its entries: no key is a tuple, or all are -/
def dictFlat (P : Program) (w : World) (a : Addr) (q : List (D × V × V)) (h : Heap) : Prop :=
  ∃ vs : List (Leaf × Value), Paired (fun (p : D × V × V) (r : Leaf × Value) => leafK p.1 = some r.1 ∧ RelV p.2.2 r.2) q vs ∧ h.DictOf (flatKind P w) a vs
def dictTup (P : Program) (w : World) (a : Addr) (q : List (D × V × V)) (h : Heap) : Prop :=
  ∃ xs : List (NestedKey × Addr × Value), Paired (fun (p : D × V × V) (r : NestedKey × Addr × Value) => p.1.isTup = true ∧ nk p.1 = r.1 ∧ p.2.1 = .ref r.2.1 ∧ RelV p.2.2 r.2.2) q xs ∧
    ∃ o es ep, h.get? a = some o ∧ o.ExactDict ∧ o.data = .dict es ep ∧ es.toList = xs.map (entryOfKey (nestedKind P w)) ∧ (xs.map (·.1)).Nodup
def dictAt (P : Program) (w : World) (a : Addr) (q : List (D × V × V)) (h : Heap) : Prop := dictFlat P w a q h ∨ dictTup P w a q h
def dictHO (P : Program) (w : World) (a : Addr) (q : List (D × V × V)) : HO := .ext (dictAt P w a q)
theorem dictAt.there {P : Program} {w : World} {a : Addr} {q : List (D × V × V)} {h : Heap} (x : dictAt P w a q h) : ∃ o, h.get? a = some o := by
  rcases x with ⟨_, _, o, _, _, e, _⟩ | ⟨_, _, o, _, _, e, _⟩ <;> exact ⟨o, e⟩
theorem dictAt.exact {P : Program} {w : World} {a : Addr} {q : List (D × V × V)} {h : Heap} (x : dictAt P w a q h) : ∃ o, h.get? a = some o ∧ o.ExactDict := by
  rcases x with ⟨_, _, o, _, _, e, c, _⟩ | ⟨_, _, o, _, _, e, c, _⟩ <;> exact ⟨o, e, c⟩
theorem dictAt.stay {P : Program} {w : World} {a : Addr} {q : List (D × V × V)} {h h' : Heap} (x : dictAt P w a q h) (k : ∀ o, h.get? a = some o → h'.get? a = some o) : dictAt P w a q h' := by
  rcases x with ⟨vs, r, o, es, ep, e, c⟩ | ⟨xs, r, o, es, ep, e, c⟩
  · exact .inl ⟨vs, r, o, es, ep, k _ e, c⟩
  · exact .inr ⟨xs, r, o, es, ep, k _ e, c⟩
theorem dictAt.ok {P : Program} {w : World} {H : Hp} {a : Addr} {q : List (D × V × V)} {h : Heap} (x : dictAt P w a q h) : ObjOk P w H h a (dictHO P w a q) :=
  ⟨x, x.there, fun _ _ y k => y.stay k⟩

inductive RO (C : PC) (α : List Addr) (H : Hp) (a : Addr) : MO → HO → Prop where
  | lst {ds : List D} {vs : List V} : RDs C.sa α H ds vs → RO C α H a (.lst ds) (.lst vs)
  | dic {kvs : List (D × D)} {q : List (D × V × V)} : RK C.sa α H kvs q → (kvs.map (·.1)).Nodup → kvs.all (fun p => keyOk kvs p.1) = true → kvs.length ≤ LIM → (a == sysModules) = false →
      RO C α H a (.dic kvs) (dictHO C.prog C.w a q)
  | ins {c : String} {Ca dx : Addr} {fs : List (String × D)} {vs : List (Str × V)} : C.ca c = some Ca → RF C.sa α H fs vs → RO C α H a (.ins c fs) (.ins Ca dx vs)

/-- the script is to be read: it is tracked and no cell, or an object of the module -/
def ScOk (C : PC) (α : List Addr) (H : Hp) : Prop := (Rd H C.sa (.lst (C.P.script.map V.int)) ∧ C.sa ∉ α) ∨
  ∃ (o : Obj) (its : Array Value) (n : Nat), C.K.lookup C.sa = some o ∧ o.cls = .type "list" ∧ o.dict = none ∧ o.data = .seq its n ∧ its.size ≤ sizeLine ∧ Vals (C.P.script.map V.int) its.toList
/-- the state: the cells M stand at the addresses α -/
structure RS (C : PC) (α : List Addr) (M : Mem) (H : Hp) : Prop where
  len : α.length = M.length
  nd : α.Nodup
  ob : ∀ (n : Nat) (o : MO), M[n]? = some o → ∃ a ho, α[n]? = some a ∧ H a = some ho ∧ RO C α H a o ho
  sc : ScOk C α H
  tab : ∀ p ∈ C.tabs, ∃ ps, H p.2 = some (.tbl ps) ∧ TriplesOk ps.toList

/-- the names' values -/
structure RE (sa : Addr) (α : List Addr) (H : Hp) (ρ : VEnv) (σ : L2.St) : Prop where
  len : ρ.length = σ.length
  at_ : ∀ (i : Nat) (d : D), ρ[i]? = some (some d) → ∃ v, σ[i]? = some (some v) ∧ RD sa α H d v

/-- the same, or a table that may have grown -/
def Fr1 (o o' : HO) : Prop := o' = o ∨ ∃ ps ps', o = .tbl ps ∧ o' = .tbl ps'
theorem Fr1.trans {a b c : HO} (h : Fr1 a b) (g : Fr1 b c) : Fr1 a c := by
  rcases h with rfl | ⟨p, q, rfl, rfl⟩
  · exact g
  · rcases g with rfl | ⟨p', q', e, rfl⟩
    · exact .inr ⟨p, q, rfl, rfl⟩
    · exact .inr ⟨p, q', rfl, rfl⟩
/-- from one state to a later one: new cells are new, what is no cell stands -/
structure Step (α α' : List Addr) (H H' : Hp) : Prop where
  pre : ∃ r, α' = α ++ r
  new : ∀ a ∈ α', a ∈ α ∨ H a = none
  frame : ∀ a o, H a = some o → a ∉ α → ∃ o', H' a = some o' ∧ Fr1 o o'

theorem Step.refl (α : List Addr) (H : Hp) : Step α α H H := ⟨⟨[], by simp⟩, fun _ h => .inl h, fun _ o h _ => ⟨o, h, .inl rfl⟩⟩
theorem Step.keep {α α' : List Addr} {H H' : Hp} (s : Step α α' H H') {a : Addr} {o : HO} (h : H a = some o) (hn : a ∉ α) (ht : ∀ ps, o ≠ .tbl ps) : H' a = some o := by
  obtain ⟨o', e, f⟩ := s.frame a o h hn
  rcases f with rfl | ⟨ps, _, z, _⟩
  · exact e
  · exact absurd z (ht ps)
theorem Step.trans {α α1 α2 : List Addr} {H H1 H2 : Hp} (a : Step α α1 H H1) (b : Step α1 α2 H1 H2) : Step α α2 H H2 := by
  obtain ⟨r, rfl⟩ := a.pre
  obtain ⟨r2, rfl⟩ := b.pre
  refine ⟨⟨r ++ r2, by simp⟩, fun x hx => ?_, fun x o e hx => ?_⟩
  · rcases b.new x hx with h | h
    · exact a.new x h
    · by_cases hxa : x ∈ α
      · exact .inl hxa
      · right
        cases q : H x with
        | none => rfl
        | some o =>
          obtain ⟨o', q', _⟩ := a.frame x o q hxa
          rw [q'] at h; cases h
  · obtain ⟨o1, h1, f1⟩ := a.frame x o e hx
    have hn : x ∉ α ++ r := fun hm => ?_
    · obtain ⟨o2, h2, f2⟩ := b.frame x o1 h1 hn
      exact ⟨o2, h2, f1.trans f2⟩
    rcases a.new x hm with h | h
    · exact hx h
    · rw [e] at h; cases h
theorem Step.get {α α' : List Addr} {H H' : Hp} (s : Step α α' H H') {n : Nat} {a : Addr} (h : α[n]? = some a) : α'[n]? = some a := by
  obtain ⟨r, rfl⟩ := s.pre
  rw [List.getElem?_append_left (List.getElem?_eq_some_iff.mp h).1]
  exact h

section
variable {C : PC} {α α' : List Addr} {M : Mem} {H H' : Hp}
theorem RO.nottab {C : PC} {α : List Addr} {H : Hp} {a : Addr} {o : MO} {ho : HO} (r : RO C α H a o ho) : ∀ ps, ho ≠ .tbl ps := by
  intro ps e
  cases r <;> cases e
theorem RO.nottup {C : PC} {α : List Addr} {H : Hp} {a : Addr} {o : MO} {ho : HO} (r : RO C α H a o ho) : ∀ vs, ho ≠ .tup vs := by
  intro vs e
  cases r <;> cases e
theorem RS.at (s : RS C α M H) {a : Addr} (h : a ∈ α) : ∃ (n : Nat) (o : MO) (ho : HO), α[n]? = some a ∧ M[n]? = some o ∧ H a = some ho ∧ RO C α H a o ho := by
  obtain ⟨n, hn, e⟩ := List.getElem_of_mem h
  have hm : n < M.length := by have := s.len; omega
  obtain ⟨a', ho, e1, e2, r⟩ := s.ob n M[n] (List.getElem?_eq_getElem hm)
  have e3 : α[n]? = some a := by rw [List.getElem?_eq_getElem hn, e]
  rw [e3] at e1; cases e1
  exact ⟨n, _, ho, e3, List.getElem?_eq_getElem hm, e2, r⟩
theorem RS.tup_out (s : RS C α M H) {a : Addr} {vs : List V} (h : H a = some (.tup vs)) : a ∉ α := fun hm => by
  obtain ⟨_, _, ho, _, _, e, r⟩ := s.at hm
  rw [h] at e; cases e
  exact r.nottup vs rfl
theorem RS.tup_keep (s : RS C α M H) (t : Step α α' H H') {a : Addr} {vs : List V} (h : H a = some (.tup vs)) : H' a = some (.tup vs) := t.keep h (s.tup_out h) (fun _ e => by cases e)
mutual
theorem RD.mono (s : RS C α M H) (t : Step α α' H H') : ∀ {d : D} {v : V}, RD C.sa α H d v → RD C.sa α' H' d v
  | _, _, .non => .non
  | _, _, .bl b => .bl b
  | _, _, .int i => .int i
  | _, _, .str h => .str h
  | _, _, .tup h r => .tup (s.tup_keep t h) (RDs.mono s t r)
  | _, _, .ref h => .ref (t.get h)
  | _, _, .scr => .scr
theorem RDs.mono (s : RS C α M H) (t : Step α α' H H') : ∀ {ds : List D} {vs : List V}, RDs C.sa α H ds vs → RDs C.sa α' H' ds vs
  | _, _, .nil => .nil
  | _, _, .cons h r => .cons (RD.mono s t h) (RDs.mono s t r)
end
theorem RF.mono (s : RS C α M H) (t : Step α α' H H') : ∀ {fs : List (String × D)} {vs : List (Str × V)}, RF C.sa α H fs vs → RF C.sa α' H' fs vs
  | _, _, .nil => .nil
  | _, _, .cons h r => .cons (h.mono s t) (RF.mono s t r)
theorem RK.mono (s : RS C α M H) (t : Step α α' H H') : ∀ {fs : List (D × D)} {vs : List (D × V × V)}, RK C.sa α H fs vs → RK C.sa α' H' fs vs
  | _, _, .nil => .nil
  | _, _, .cons h h2 r => .cons (h.mono s t) (h2.mono s t) (RK.mono s t r)
theorem RO.mono (s : RS C α M H) (t : Step α α' H H') {a : Addr} {o : MO} {ho : HO} (r : RO C α H a o ho) : RO C α' H' a o ho := by
  cases r with
  | lst h => exact .lst (h.mono s t)
  | dic h1 h2 h3 h4 h5 => exact .dic (h1.mono s t) h2 h3 h4 h5
  | ins h1 h2 => exact .ins h1 (h2.mono s t)
theorem RE.mono (s : RS C α M H) (t : Step α α' H H') {ρ : VEnv} {σ : L2.St} (r : RE C.sa α H ρ σ) : RE C.sa α' H' ρ σ :=
  ⟨r.len, fun i d e => let ⟨v, h1, h2⟩ := r.at_ i d e; ⟨v, h1, h2.mono s t⟩⟩
theorem RS.sc_keep (s : RS C α M H) (t : Step α α' H H') : ScOk C α' H' := by
  have out : ∀ {u : HO}, H C.sa = some u → C.sa ∉ α → C.sa ∉ α' := fun e n hm => by
    rcases t.new _ hm with h | h
    · exact n h
    · rw [e] at h; cases h
  rcases s.sc with ⟨h | ⟨o, h⟩, n⟩ | h
  · exact .inl ⟨.inl (t.keep h n fun _ e => by cases e), out h n⟩
  · exact .inl ⟨.inr ⟨o, t.keep h n fun _ e => by cases e⟩, out h n⟩
  · exact .inr h
theorem RS.script (s : RS C α M H) : SqL C.K H C.sa (C.P.script.map V.int) := by
  rcases s.sc with ⟨h, _⟩ | h
  · exact .inl h
  · exact .inr h

theorem RDs.length : ∀ {sa : Addr} {α : List Addr} {H : Hp} {ds : List D} {vs : List V}, RDs sa α H ds vs → ds.length = vs.length
  | _, _, _, _, _, .nil => rfl
  | _, _, _, _, _, .cons _ r => by simp [RDs.length r]
theorem RDs.get : ∀ {sa : Addr} {α : List Addr} {H : Hp} {ds : List D} {vs : List V} {i : Nat} {d : D}, RDs sa α H ds vs → ds[i]? = some d → ∃ v, vs[i]? = some v ∧ RD sa α H d v
  | _, _, _, _, _, _, _, .nil, e => by simp at e
  | _, _, _, _, _, 0, _, .cons h _, e => by simp at e; subst e; exact ⟨_, rfl, h⟩
  | _, _, _, _, _, i + 1, _, .cons _ r, e => by
    obtain ⟨v, h1, h2⟩ := RDs.get (i := i) r (by simpa using e)
    exact ⟨v, by simpa using h1, h2⟩
theorem RDs.append : ∀ {sa : Addr} {α : List Addr} {H : Hp} {ds es : List D} {vs us : List V}, RDs sa α H ds vs → RDs sa α H es us → RDs sa α H (ds ++ es) (vs ++ us)
  | _, _, _, _, _, _, _, .nil, q => q
  | _, _, _, _, _, _, _, .cons h r, q => .cons h (RDs.append r q)
theorem RDs.take : ∀ {sa : Addr} {α : List Addr} {H : Hp} {ds : List D} {vs : List V} (n : Nat), RDs sa α H ds vs → RDs sa α H (ds.take n) (vs.take n)
  | _, _, _, _, _, 0, _ => .nil
  | _, _, _, _, _, _ + 1, .nil => .nil
  | _, _, _, _, _, n + 1, .cons h r => .cons h (RDs.take n r)
theorem RDs.drop : ∀ {sa : Addr} {α : List Addr} {H : Hp} {ds : List D} {vs : List V} (n : Nat), RDs sa α H ds vs → RDs sa α H (ds.drop n) (vs.drop n)
  | _, _, _, _, _, 0, q => q
  | _, _, _, _, _, _ + 1, .nil => .nil
  | _, _, _, _, _, n + 1, .cons _ r => RDs.drop n r
theorem RDs.reverse {sa : Addr} {α : List Addr} {H : Hp} : ∀ {ds : List D} {vs : List V}, RDs sa α H ds vs → RDs sa α H ds.reverse vs.reverse
  | _, _, .nil => .nil
  | _, _, .cons h r => by
    rw [List.reverse_cons, List.reverse_cons]
    exact (RDs.reverse r).append (.cons h .nil)
theorem RDs.set {sa : Addr} {α : List Addr} {H : Hp} {d : D} {v : V} (h : RD sa α H d v) : ∀ {ds : List D} {vs : List V} (n : Nat), RDs sa α H ds vs → RDs sa α H (ds.set n d) (vs.set n v)
  | _, _, _, .nil => .nil
  | _, _, 0, .cons _ r => .cons h r
  | _, _, n + 1, .cons q r => .cons q (RDs.set h n r)
theorem RDs.eraseIdx {sa : Addr} {α : List Addr} {H : Hp} : ∀ {ds : List D} {vs : List V} (n : Nat), RDs sa α H ds vs → RDs sa α H (ds.eraseIdx n) (vs.eraseIdx n)
  | _, _, _, .nil => .nil
  | _, _, 0, .cons _ r => r
  | _, _, n + 1, .cons q r => .cons q (RDs.eraseIdx n r)
theorem RDs.insertIdx {sa : Addr} {α : List Addr} {H : Hp} {d : D} {v : V} (h : RD sa α H d v) : ∀ {ds : List D} {vs : List V} (n : Nat), RDs sa α H ds vs → RDs sa α H (ds.insertIdx n d) (vs.insertIdx n v)
  | _, _, 0, q => by simpa using .cons h q
  | _, _, n + 1, .nil => by simpa using .nil
  | _, _, n + 1, .cons q r => by simpa using .cons q (RDs.insertIdx h n r)
theorem RDs.ints {sa : Addr} {α : List Addr} {H : Hp} : ∀ {ds : List D} {vs : List V} {ns : List Int}, RDs sa α H ds vs → intsD ds = some ns → vs = ns.map V.int
  | _, _, ns, .nil, e => by cases e; rfl
  | _, _, ns, .cons (d := d) h r, e => by
    cases h <;> simp only [intsD] at e <;> try cases e
    rename_i ds vs i
    cases q : intsD ds with
    | none => rw [q] at e; cases e
    | some ms =>
      rw [q] at e
      cases e
      rw [RDs.ints r q]; rfl
theorem RDs.of_ints {sa : Addr} {α : List Addr} {H : Hp} : ∀ ns : List Int, RDs sa α H (ns.map D.int) (ns.map V.int)
  | [] => .nil
  | n :: ns => .cons (.int n) (RDs.of_ints ns)

/-! ### new cells, changed cells -/
theorem upd_step {p : Addr} {o : HO} (hp : H p = none) : Step α α H (upd H p o) := ⟨⟨[], by simp⟩, fun _ h => .inl h, fun a x e _ => ⟨x, by rw [upd_ne (ne_of_none e hp)]; exact e, .inl rfl⟩⟩
theorem new_step {p : Addr} {o : HO} (hp : H p = none) : Step α (α ++ [p]) H (upd H p o) := ⟨⟨[p], rfl⟩, fun a h => (List.mem_append.mp h).elim .inl fun h => .inr (by rw [List.mem_singleton.mp h]; exact hp), fun a x e _ => ⟨x, by rw [upd_ne (ne_of_none e hp)]; exact e, .inl rfl⟩⟩
theorem RS.tab_new (s : RS C α M H) {p : Addr} {o : HO} (hp : H p = none) : ∀ q ∈ C.tabs, ∃ ps, upd H p o q.2 = some (.tbl ps) ∧ TriplesOk ps.toList := fun q hq => by
  obtain ⟨ps, e, k⟩ := s.tab q hq
  exact ⟨ps, by rw [upd_ne (ne_of_none e hp)]; exact e, k⟩
/-- an object that is no cell is made -/
theorem RS.other (s : RS C α M H) {p : Addr} {o : HO} (hp : H p = none) : RS C α M (upd H p o) := by
  refine ⟨s.len, s.nd, fun n m e => ?_, s.sc_keep (upd_step hp), s.tab_new hp⟩
  obtain ⟨a, ho, h1, h2, r⟩ := s.ob n m e
  exact ⟨a, ho, h1, by rw [upd_ne (ne_of_none h2 hp)]; exact h2, r.mono s (upd_step hp)⟩
theorem RS.free (s : RS C α M H) {p : Addr} (hp : H p = none) : p ∉ α := fun hm => by
  obtain ⟨_, _, ho, _, _, e, _⟩ := s.at hm
  rw [hp] at e; cases e
/-- a new cell -/
theorem RS.new (s : RS C α M H) {p : Addr} {o : MO} {ho : HO} (hp : H p = none) (r : RO C (α ++ [p]) (upd H p ho) p o ho) : RS C (α ++ [p]) (M ++ [o]) (upd H p ho) := by
  have st : Step α (α ++ [p]) H (upd H p ho) := new_step hp
  refine ⟨by simp [s.len], ?_, fun n m e => ?_, s.sc_keep st, s.tab_new hp⟩
  · rw [List.nodup_append]
    exact ⟨s.nd, by simp, fun a ha b hb e => by rw [List.mem_singleton.mp hb] at e; exact s.free hp (e ▸ ha)⟩
  · by_cases hn : n < M.length
    · rw [List.getElem?_append_left hn] at e
      obtain ⟨a, ho', h1, h2, r'⟩ := s.ob n m e
      exact ⟨a, ho', st.get h1, by rw [upd_ne (ne_of_none h2 hp)]; exact h2, r'.mono s st⟩
    · have hn' : n = M.length := by
        have := (List.getElem?_eq_some_iff.mp e).1
        simp at this
        omega
      subst hn'
      rw [List.getElem?_append_right (Nat.le_refl _)] at e
      simp at e
      subst e
      exact ⟨p, ho, by rw [List.getElem?_append_right (by rw [s.len]; exact Nat.le_refl _)]; simp [s.len], upd_same, r⟩
theorem set_step (s : RS C α M H) {n : Nat} {a : Addr} {ho : HO} (h : α[n]? = some a) : Step α α H (upd H a ho) :=
  ⟨⟨[], by simp⟩, fun _ h => .inl h, fun b o e hb => by
    have hne : b ≠ a := fun z => hb (by rw [z]; exact List.mem_of_getElem? h)
    exact ⟨o, by rw [upd_ne hne]; exact e, .inl rfl⟩⟩
/-- a cell is changed -/
theorem RS.set (s : RS C α M H) {n : Nat} {a : Addr} {o : MO} {ho : HO} (h : α[n]? = some a) (r : RO C α (upd H a ho) a o ho) : RS C α (M.set n o) (upd H a ho) := by
  have st : Step α α H (upd H a ho) := set_step s h
  have tb : ∀ q ∈ C.tabs, ∃ ps, upd H a ho q.2 = some (.tbl ps) ∧ TriplesOk ps.toList := fun q hq => by
    obtain ⟨ps, e, k⟩ := s.tab q hq
    obtain ⟨_, _, ho', _, _, e2, r2⟩ := s.at (List.mem_of_getElem? h)
    have : q.2 ≠ a := fun z => by
      rw [z, e2] at e
      exact r2.nottab ps (Option.some.inj e)
    exact ⟨ps, by rw [upd_ne this]; exact e, k⟩
  refine ⟨by simp [s.len], s.nd, fun m x e => ?_, s.sc_keep st, tb⟩
  by_cases hm : m = n
  · subst hm
    have hl : m < M.length := by have := (List.getElem?_eq_some_iff.mp h).1; have := s.len; omega
    rw [List.getElem?_set_self hl] at e
    cases e
    exact ⟨a, ho, h, upd_same, r⟩
  · rw [List.getElem?_set_ne (Ne.symm hm)] at e
    obtain ⟨b, ho', h1, h2, r'⟩ := s.ob m x e
    have hb : b ≠ a := fun z => by
      subst z
      exact hm ((List.getElem?_inj (List.getElem?_eq_some_iff.mp h1).1 s.nd).mp (h1.trans h.symm))
    exact ⟨b, ho', h1, by rw [upd_ne hb]; exact h2, r'.mono s st⟩
/-- cells forgotten from the end -/
theorem RS.forget (s : RS C α M H) (n : Nat) (h : ∀ (m : Nat) (o : MO), m < n → M[m]? = some o → ∀ a ho, H a = some ho → RO C α H a o ho → RO C (α.take n) H a o ho) : RS C (α.take n) (M.take n) H := by
  refine ⟨by simp [s.len], s.nd.sublist (List.take_sublist _ _), fun m o e => ?_, ?_, s.tab⟩
  rotate_left
  · rcases s.sc with ⟨h, k⟩ | h
    · exact .inl ⟨h, fun hm => k (List.mem_of_mem_take hm)⟩
    · exact .inr h
  have hm : m < n := by
    have := (List.getElem?_eq_some_iff.mp e).1
    rw [List.length_take] at this
    omega
  rw [List.getElem?_take_of_lt hm] at e
  obtain ⟨a, ho, h1, h2, r⟩ := s.ob m o e
  exact ⟨a, ho, by rw [List.getElem?_take_of_lt hm]; exact h1, h2, h m o hm e a ho h2 r⟩
end
end Pw

end
section
set_option maxHeartbeats 1000000
/-! Snd2: readings by the evaluator; truth; operators. -/
namespace Pw
open PySem PySem.Spec PyProof.Rows L2

theorem bnd_some_of {α β : Type} {x : R α} {f : α → Mem → Option β} {r : β} (h : bnd x f = some r) : ∃ a m, x = some (a, m) ∧ f a m = some r := by
  cases x with
  | none => cases h
  | some p => exact ⟨p.1, p.2, rfl, h⟩

def tV (C : PC) (f : VEnv → Mem → R D) : TE := fun σ H Q => ∃ α ρ M d M', RS C α M H ∧ RE C.sa α H ρ σ ∧ f ρ M = some (d, M') ∧ ∀ α' v H', Step α α' H H' → RS C α' M' H' → RD C.sa α' H' d v → Q v H'
def tL (C : PC) (f : VEnv → Mem → R (List D)) : TA := fun σ H Q => ∃ α ρ M d M', RS C α M H ∧ RE C.sa α H ρ σ ∧ f ρ M = some (d, M') ∧ ∀ α' v H', Step α α' H H' → RS C α' M' H' → RDs C.sa α' H' d v → Q v H'
def tBo (C : PC) (f : VEnv → Mem → R Bool) : TT := fun σ H Q => ∃ α ρ M b M', RS C α M H ∧ RE C.sa α H ρ σ ∧ f ρ M = some (b, M') ∧ ∀ α' H', Step α α' H H' → RS C α' M' H' → Q b H'
def OutR (C : PC) (α : List Addr) (H : Hp) (D : Ends) : Out → Prop
  | .nx ρ => ∀ σ, RE C.sa α H ρ σ → D.nx σ H
  | .rt d => ∀ v, RD C.sa α H d v → D.rt v H
  | .bk ρ => ∀ σ, RE C.sa α H ρ σ → D.bk σ H
  | .ct ρ => ∀ σ, RE C.sa α H ρ σ → D.ct σ H
def tX (C : PC) (f : VEnv → Mem → R Out) : TS := fun D σ H => ∃ α ρ M o M', RS C α M H ∧ RE C.sa α H ρ σ ∧ f ρ M = some (o, M') ∧ ∀ α' H', Step α α' H H' → RS C α' M' H' → OutR C α' H' D o

theorem PE.imp {X : Cx} {e : Expr} {t t' : TE} (h : PE X e t) (hi : ∀ σ H Q, t' σ H Q → t σ H Q) : PE X e t' := ⟨fun pins s σ H Q I q => h.run pins s σ H Q I (hi σ H Q q)⟩
theorem PT.imp {X : Cx} {e : Expr} {t t' : TT} (h : PT X e t) (hi : ∀ σ H Q, t' σ H Q → t σ H Q) : PT X e t' := ⟨fun pins s σ H Q I q => h.run pins s σ H Q I (hi σ H Q q)⟩
theorem PA.imp {X : Cx} {e : List Expr} {t t' : TA} (h : PA X e t) (hi : ∀ σ H Q, t' σ H Q → t σ H Q) : PA X e t' := ⟨fun pos pins s σ H Q I q => h.run pos pins s σ H Q I (hi σ H Q q)⟩
theorem PS.imp {X : Cx} {e : Stmt} {t t' : TS} (h : PS X e t) (hi : ∀ D σ H, t' D σ H → t D σ H) : PS X e t' := ⟨fun pins s σ H D I q => h.run pins s σ H D I (hi D σ H q)⟩
theorem PSs.imp {X : Cx} {e : List Stmt} {t t' : TS} (h : PSs X e t) (hi : ∀ D σ H, t' D σ H → t D σ H) : PSs X e t' := ⟨fun pins s σ H D I q => h.run pins s σ H D I (hi D σ H q)⟩

section
variable {C : PC} {X : Cx} {α : List Addr} {M M' : Mem} {H : Hp} {σ : L2.St} {ρ : VEnv}
/-- two values in a row -/
theorem bin_lift {fa fb : VEnv → Mem → R D} {k : D → D → Mem → R D} {r : R2}
    (hr : ∀ α M d e z M' x y H Q, RS C α M H → RD C.sa α H d x → RD C.sa α H e y → k d e M = some (z, M') → (∀ α' v H', Step α α' H H' → RS C α' M' H' → RD C.sa α' H' z v → Q v H') → r x y H Q) :
    ∀ σ H Q, tV C (fun ρ M => bnd (fa ρ M) fun x M => bnd (fb ρ M) fun y M => k x y M) σ H Q → tOp r (tV C fa) (tV C fb) σ H Q := by
  rintro σ H Q ⟨α, ρ, M, d, M', s, e, h, q⟩
  obtain ⟨x, M1, h1, h⟩ := bnd_some_of h
  obtain ⟨y, M2, h2, h⟩ := bnd_some_of h
  refine ⟨α, ρ, M, x, M1, s, e, h1, fun α1 v1 H1 t1 s1 r1 => ?_⟩
  refine ⟨α1, ρ, M1, y, M2, s1, e.mono s t1, h2, fun α2 v2 H2 t2 s2 r2 => ?_⟩
  exact hr _ _ _ _ _ _ _ _ _ _ s2 (r1.mono s1 t2) r2 h fun α3 v3 H3 t3 => q α3 v3 H3 ((t1.trans t2).trans t3)
theorem un_lift {fa : VEnv → Mem → R D} {k : D → Mem → R D} {r : V → Hp → VK → Prop}
    (hr : ∀ α M d z M' x H Q, RS C α M H → RD C.sa α H d x → k d M = some (z, M') → (∀ α' v H', Step α α' H H' → RS C α' M' H' → RD C.sa α' H' z v → Q v H') → r x H Q) :
    ∀ σ H Q, tV C (fun ρ M => bnd (fa ρ M) fun x M => k x M) σ H Q → tV C fa σ H fun x H1 => r x H1 Q := by
  rintro σ H Q ⟨α, ρ, M, d, M', s, e, h, q⟩
  obtain ⟨x, M1, h1, h⟩ := bnd_some_of h
  refine ⟨α, ρ, M, x, M1, s, e, h1, fun α1 v1 H1 t1 s1 r1 => ?_⟩
  exact hr _ _ _ _ _ _ _ _ s1 r1 h fun α3 v3 H3 t3 => q α3 v3 H3 (t1.trans t3)
/-- the value itself, the state as it is -/
theorem done {α : List Addr} {M : Mem} {H : Hp} {d : D} {v : V} {Q : VK} (s : RS C α M H) (r : RD C.sa α H d v) (q : ∀ α' v H', Step α α' H H' → RS C α' M H' → RD C.sa α' H' d v → Q v H') : Q v H := q α v H (Step.refl _ _) s r
/-- a new tuple -/
theorem done_tup {α : List Addr} {M : Mem} {H : Hp} {ds : List D} {vs : List V} {Q : VK} (s : RS C α M H) (r : RDs C.sa α H ds vs) {p : Addr} (hp : H p = none) (q : ∀ α' v H', Step α α' H H' → RS C α' M H' → RD C.sa α' H' (.tup ds) v → Q v H') : Q (.ref p) (upd H p (.tup vs)) :=
  q α _ _ (upd_step hp) (s.other hp) (.tup upd_same (r.mono s (upd_step hp)))
/-- a new list -/
theorem done_lst {α : List Addr} {M : Mem} {H : Hp} {ds : List D} {vs : List V} {Q : VK} (s : RS C α M H) (r : RDs C.sa α H ds vs) {p : Addr} (hp : H p = none) (q : ∀ α' v H', Step α α' H H' → RS C α' (M ++ [.lst ds]) H' → RD C.sa α' H' (.ref M.length) v → Q v H') : Q (.ref p) (upd H p (.lst vs)) :=
  q (α ++ [p]) _ _ (new_step hp) (s.new hp (.lst (r.mono s (new_step hp)))) (.ref (by rw [List.getElem?_append_right (by rw [s.len]; exact Nat.le_refl _)]; simp [s.len]))
/-- a changed list -/
theorem done_set {α : List Addr} {M : Mem} {H : Hp} {ds : List D} {vs : List V} {n : Nat} {a : Addr} {d : D} {v : V} {Q : VK} (s : RS C α M H) (h : α[n]? = some a) (r : RDs C.sa α H ds vs) (rv : RD C.sa α H d v)
    (q : ∀ α' v H', Step α α' H H' → RS C α' (M.set n (.lst ds)) H' → RD C.sa α' H' d v → Q v H') : Q v (upd H a (.lst vs)) :=
  q α _ _ (set_step s h) (s.set h (.lst (r.mono s (set_step s h)))) (rv.mono s (set_step s h))

/-! ### opening values -/
theorem RS.lst (s : RS C α M H) {n : Nat} {ds : List D} (h : M[n]? = some (.lst ds)) {v : V} (r : RD C.sa α H (.ref n) v) : ∃ a vs, v = .ref a ∧ α[n]? = some a ∧ H a = some (.lst vs) ∧ RDs C.sa α H ds vs := by
  cases r with
  | ref e =>
    obtain ⟨a, ho, h1, h2, r⟩ := s.ob n _ h
    rw [e] at h1; cases h1
    cases r with
    | lst r => exact ⟨_, _, rfl, e, h2, r⟩
theorem line_eq : sizeLine = LIM := sizeLine_eq
theorem RD.isint {sa : Addr} {i : Int} {v : V} (r : RD sa α H (.int i) v) : v = .int i := by cases r; rfl

/-! ### texts -/
theorem ofString_def (s : String) : Str.ofString s = ⟨(s.toList.map Char.toNat).toArray⟩ := Str.ofString_eq_toList s
theorem ofString_length (s : String) : (Str.ofString s).length = lenS s := by
  rw [ofString_def]; simp [Str.length, lenS]
theorem map_toNat_inj : ∀ {a b : List Char}, a.map Char.toNat = b.map Char.toNat → a = b
  | [], [], _ => rfl
  | [], _ :: _, h => by simp at h
  | _ :: _, [], h => by simp at h
  | x :: xs, y :: ys, h => by
    simp only [List.map_cons, List.cons.injEq] at h
    rw [map_toNat_inj h.2, Char.toNat_inj.mp h.1]
theorem ofString_inj {a b : String} (h : Str.ofString a = Str.ofString b) : a = b := by
  rw [ofString_def, ofString_def] at h
  have h2 : a.toList.map Char.toNat = b.toList.map Char.toNat := by
    have := congrArg (fun s : Str => s.cps.toList) h
    simpa using this
  have h3 := map_toNat_inj h2
  rw [← String.ofList_toList (s := a), h3, String.ofList_toList]
theorem ofString_append (a b : String) : Str.ofString (a ++ b) = Str.ofString a ++ Str.ofString b := by
  rw [ofString_def, ofString_def, ofString_def]
  show _ = Str.append _ _
  unfold Str.append
  simp
theorem ofString_ofList (l : List Char) : Str.ofString (String.ofList l) = ⟨(l.map Char.toNat).toArray⟩ := by
  rw [ofString_def]; simp
theorem lenS_append (a b : String) : lenS (a ++ b) = lenS a + lenS b := by simp [lenS]
theorem ofString_cps (s : String) : (Str.ofString s).cps.toList = s.toList.map Char.toNat := by rw [ofString_def]
end
end Pw

end
section
set_option maxHeartbeats 1000000
/-! Snd3: truth; the rules of expressions. -/
namespace Pw
open PySem PySem.Spec PyProof.Rows L2

section
variable {C : PC} {α : List Addr} {M M' : Mem} {H : Hp}
theorem RS.truth (s : RS C α M H) {d : D} {v : V} {k : Bool} (r : RD C.sa α H d v) (h : truth M d = some k) : TruV C.K v H k := by
  cases r with
  | non => cases h; rfl
  | bl b => cases h; rfl
  | int i =>
    cases h
    show decide (i ≠ 0) = (i != 0)
    by_cases e : i = 0
    · subst e; rfl
    · rw [decide_eq_true e]; exact (bne_iff_ne.mpr e).symm
  | @str x hl =>
    cases h
    refine ⟨by rw [ofString_length, line_eq]; exact hl, ?_⟩
    rw [ofString_length]
    show decide (x ≠ "") = (((lenS x : Nat) : Int) != 0)
    by_cases e : x = ""
    · subst e; simp [lenS]
    · have : lenS x ≠ 0 := fun q => e (by
        have q' : x.toList = [] := List.eq_nil_of_length_eq_zero q
        rw [← String.ofList_toList (s := x), q'])
      rw [decide_eq_true e]
      symm
      simp
      omega
  | @tup a ds vs ha r =>
    cases h
    refine .inr (.inl ⟨vs, .inl (.inl ha), ?_⟩)
    cases r <;> rfl
  | @ref n a e =>
    simp only [Pw.truth] at h
    cases q : M[n]? with
    | none => rw [q] at h; cases h
    | some o =>
      rw [q] at h
      cases o with
      | lst xs =>
        cases h
        obtain ⟨a', vs, e3, e4, e5, r⟩ := s.lst (v := .ref a) q (.ref e)
        cases e3
        refine .inl ⟨vs, .inl (.inl e5), ?_⟩
        cases r <;> rfl
      | dic _ => cases h
      | ins _ _ => cases h
  | scr => cases h
end

/-- what is fixed in a block's text: its slots' names, its scope, the cells that are its own -/
structure Sx where
  N : List Str
  sc : Scope
  fn : Str → Bool
  /-- the code object and its table, where a generator may be made -/
  tb : Option (Addr × Addr)
/-- room for a generator's frame as well -/
structure RoomG (k : Nat) (A : Around) : Prop where
  hd : A.handled = none
  dp : A.depth + 3 * k + 7 < recursionLimit
  un : A.units + 16 * k + 213 < cLine
/-- what is known of the context that runs -/
structure OkX (C : PC) (k : Nat) (S : Sx) (X : Cx) : Prop where
  hP : X.prog = C.prog
  hK : X.K = C.K
  hw : X.w = C.w
  hmg : X.mg = C.mg
  hbase : X.base = C.base
  hN : X.N = S.N
  nd : List.Nodup S.N
  hsc : X.env.scope = S.sc
  hfn : X.fn = S.fn
  calm : X.calm = true
  room : Room k X.A
  hxe : X.xe = fun _ _ => False
  tb : ∀ p, S.tb = some p → X.env.code = .ref p.1 ∧ GxR.TabB X.base X.mg p.1 p.2 ∧ p ∈ C.tabs ∧ RoomG k X.A

section
variable {C : PC} {k : Nat} {X : Cx} {F : FT} {a b c : Expr} {pos : Pos} {fa fb fc : VEnv → Mem → R D}
abbrev LE (C : PC) (X : Cx) (e : Expr) (f : VEnv → Mem → R D) : Prop := PE X e (tV C f)
abbrev LT (C : PC) (X : Cx) (e : Expr) (f : VEnv → Mem → R Bool) : Prop := PT X e (tBo C f)
abbrev LA (C : PC) (X : Cx) (e : List Expr) (f : VEnv → Mem → R (List D)) : Prop := PA X e (tL C f)

/-- an expression that is a test by its value's truth -/
def plainTest : Expr → Bool
  | .UnaryOp .Not _ _ => false
  | .BoolOp .. => false
  | .IfExp .. => false
  | .Compare .. => false
  | _ => true
theorem plainTest_is {e : Expr} (h : plainTest e = true) (env : Env) : ∀ whole, isTrue e env whole = (do let v ← whole; standAt e.pos; holding [v] (truthy v)) := by
  intro whole
  cases e <;> first
    | rfl
    | exact absurd h Bool.false_ne_true
    | (rename_i op _ _; cases op <;> first | rfl | exact absurd h Bool.false_ne_true)

theorem lt_truth (hK : X.K = C.K) (ha : LE C X a fa) (he : plainTest a = true) : LT C X a (fun ρ M => truthR (fa ρ M)) := by
  refine PT.imp (pt_truth ha (plainTest_is he X.env)) ?_
  rintro σ H Q ⟨α, ρ, M, k, M', s, e, h, q⟩
  obtain ⟨x, M1, h1, h⟩ := bnd_some_of h
  obtain ⟨b, hb, e2⟩ := Option.map_eq_some_iff.mp h
  cases e2
  refine ⟨α, ρ, M, x, _, s, e, h1, fun α1 v1 H1 t1 s1 r1 => ⟨k, ?_, q α1 H1 t1 s1⟩⟩
  rw [hK]
  exact s1.truth r1 hb

/-! ### names, constants -/
theorem le_var {i : Nat} {x : Str} (hN : X.N[i]? = some x) (hv : Vis X.env.scope x) (hd : (x == ("__debug__" : Str)) = false) (hcd : (x == ("__classdict__" : Str)) = false) : LE C X (.Name x pos) (evE F (.var i)) := by
  refine PE.imp (pe_var hN hv hd hcd) ?_
  rintro σ H Q ⟨α, ρ, M, d, M', s, e, h, q⟩
  simp only [evE] at h
  split at h
  · rename_i d' e1
    cases h
    obtain ⟨v, h1, h2⟩ := e.at_ i _ e1
    exact ⟨v, h1, done s h2 q⟩
  · cases h
theorem le_con {v : V} {d : D} {e : Expr} {f : VEnv → Mem → R D} (h : PE X e (tC v)) (hf : ∀ ρ M, f ρ M = some (d, M)) (hr : ∀ α H, RD C.sa α H d v) : LE C X e f := by
  refine PE.imp h ?_
  rintro σ H Q ⟨α, ρ, M, d', M', s, e, h, q⟩
  rw [hf] at h; cases h
  exact done s (hr α H) q
theorem le_int {i : Int} {j : Nat} : LE C X (.Constant (.int i) j pos) (evE F (.int i)) := le_con pe_int (fun _ _ => by simp [evE]) fun _ _ => .int i
theorem le_bl {i : Bool} {j : Nat} : LE C X (.Constant (.bool i) j pos) (evE F (.bl i)) := le_con pe_bl (fun _ _ => by simp [evE]) fun _ _ => .bl i
theorem le_non {j : Nat} : LE C X (.Constant .none j pos) (evE F .non) := le_con pe_non (fun _ _ => by simp [evE]) fun _ _ => .non
theorem le_str {s : String} {j : Nat} (h : lenS s ≤ LIM) : LE C X (.Constant (.str (Str.ofString s)) j pos) (evE F (.str s)) := le_con pe_str (fun _ _ => by simp [evE]) fun _ _ => .str h

/-! ### arguments, displays -/
theorem la_nil : LA C X [] (evEs F .nil) := by
  refine PA.imp pa_nil ?_
  rintro σ H Q ⟨α, ρ, M, d', M', s, e, h, q⟩
  simp only [evEs] at h; cases h
  exact q α [] H (Step.refl _ _) s .nil
def notStar : Expr → Bool
  | .Starred .. => false
  | _ => true
theorem star_cons {e : Expr} (h : notStar e = true) (es : List Expr) (env : Env) : starEach (e :: es) env = (false, eval e env) :: starEach es env := by
  cases e <;> first | rfl | exact absurd h Bool.false_ne_true
theorem la_cons {es : List Expr} {e r : E} (hn : notStar a = true) (ha : LE C X a (evE F e)) (hr : LA C X es (evEs F r)) : LA C X (a :: es) (evEs F (.cons e r)) := by
  refine PA.imp (pa_cons ha hr (star_cons hn es X.env)) ?_
  rintro σ H Q ⟨α, ρ, M, d', M', s, e, h, q⟩
  simp only [evEs] at h
  obtain ⟨x, M1, h1, h⟩ := bnd_some_of h
  obtain ⟨xs, M2, h2, h⟩ := bnd_some_of h
  cases h
  refine ⟨α, ρ, M, x, M1, s, e, h1, fun α1 v1 H1 t1 s1 r1 => ?_⟩
  refine ⟨α1, ρ, M1, xs, _, s1, e.mono s t1, h2, fun α2 v2 H2 t2 s2 r2 => ?_⟩
  exact q α2 _ H2 (t1.trans t2) s2 (.cons (r1.mono s1 t2) r2)
/-- how many expressions are written in a row -/
def rowLen : E → Option Nat
  | .nil => some 0
  | .cons _ r => (rowLen r).map (· + 1)
  | _ => none
theorem rowLen_ev : ∀ {r : E} {n : Nat} {ρ : VEnv} {M M' : Mem} {xs : List D}, rowLen r = some n → evEs F r ρ M = some (xs, M') → xs.length = n := by
  intro r
  induction r with
  | nil => intro n ρ M M' xs h1 h2; simp only [evEs] at h2; cases h2; cases h1; rfl
  | cons a r _ ih =>
    intro n ρ M M' xs h1 h2
    simp only [evEs] at h2
    obtain ⟨x, M1, e1, h2⟩ := bnd_some_of h2
    obtain ⟨ys, M2, e2, h2⟩ := bnd_some_of h2
    cases h2
    obtain ⟨m, hm, rfl⟩ := Option.map_eq_some_iff.mp h1
    simp [ih hm e2]
  | _ => intro n ρ M M' xs h1 h2; cases h1
theorem le_tup {es : List Expr} {r : E} {n m : Nat} (hr : rowLen r = some m) (hm : m ≤ LIM) (h : LA C X es (evEs F r)) : LE C X (.Tuple es n pos) (evE F (.tup r)) := by
  refine PE.imp (pe_tup h) ?_
  rintro σ H Q ⟨α, ρ, M, d', M', s, e, h, q⟩
  simp only [evE] at h
  obtain ⟨xs, M1, h1, h⟩ := bnd_some_of h
  cases h
  refine ⟨α, ρ, M, xs, _, s, e, h1, fun α1 v1 H1 t1 s1 r1 => ⟨?_, fun p hp => done_tup s1 r1 hp fun α' v H' t => q α' v H' (t1.trans t)⟩⟩
  rw [← r1.length, rowLen_ev hr h1, line_eq]; exact hm
theorem le_lst {es : List Expr} {r : E} {m : Nat} (hr : rowLen r = some m) (hm : m ≤ LIM) (h : LA C X es (evEs F r)) : LE C X (.List es pos) (evE F (.lst r)) := by
  refine PE.imp (pe_lst h) ?_
  rintro σ H Q ⟨α, ρ, M, d', M', s, e, h, q⟩
  simp only [evE] at h
  obtain ⟨xs, M1, h1, h⟩ := bnd_some_of h
  cases h
  refine ⟨α, ρ, M, xs, _, s, e, h1, fun α1 v1 H1 t1 s1 r1 => ⟨?_, fun p hp => done_lst s1 r1 hp fun α' v H' t => q α' v H' (t1.trans t)⟩⟩
  rw [← r1.length, rowLen_ev hr h1, line_eq]; exact hm

/-! ### operators -/
theorem OpR.imp {f : Value → Value → Sem Value} {r r' : R2} (h : OpR X f r) (hi : ∀ x y H Q, r' x y H Q → r x y H Q) : OpR X f r' := fun pins s σ H x y v u Q I rx ry q => h pins s σ H x y v u Q I rx ry (hi x y H Q q)
def bop : BOp → Operator
  | .add => .Add | .sub => .Sub | .mul => .Mult | .mod => .Mod | .fdiv => .FloorDiv | .pow => .Pow
/-- what an operation of the evaluator asks, by values -/
def rBin (C : PC) (op : BOp) : R2 := fun x y H Q => ∃ α M d e z M', RS C α M H ∧ RD C.sa α H d x ∧ RD C.sa α H e y ∧ binD M op d e = some (z, M') ∧ ∀ α' v H', Step α α' H H' → RS C α' M' H' → RD C.sa α' H' z v → Q v H'
theorem rep_rel {sa : Addr} {α : List Addr} {H : Hp} {ds : List D} {vs : List V} (r : RDs sa α H ds vs) : ∀ k : Nat, RDs sa α H (List.replicate k ds).flatten (List.replicate k vs).flatten
  | 0 => .nil
  | k + 1 => by
    rw [List.replicate_succ, List.replicate_succ, List.flatten_cons, List.flatten_cons]
    exact r.append (rep_rel r k)
theorem op_bin (hK : X.K = C.K) (op : BOp) : OpR X (binaryOp (bop op)) (rBin C op) := by
  intro pins s σ H x y v u Q I rx ry h
  obtain ⟨α, M, d, e, z, M', S, rd, re, h, q⟩ := h
  cases op with
  | add =>
    cases rd with
    | int i =>
      cases re with
      | int j => cases h; exact op_add pins s σ H _ _ v u Q I rx ry ⟨i, j, rfl, rfl, done S (.int _) q⟩
      | _ => cases h
    | @str x hx =>
      cases re with
      | @str y hy =>
        simp only [binD] at h
        split at h
        · rename_i hl
          cases h
          refine op_add_str pins s σ H _ _ v u Q I rx ry ⟨_, _, rfl, rfl, ?_, ?_⟩
          · rw [ofString_length, ofString_length, line_eq]; exact hl
          · rw [← ofString_append]
            exact done S (.str (by rw [lenS_append]; exact hl)) q
        · cases h
      | _ => cases h
    | @tup a ds vs ha r =>
      cases re with
      | @tup b es us hb r2 =>
        simp only [binD] at h
        split at h
        · rename_i hl
          cases h
          refine op_catA pins s σ H _ _ v u Q I rx ry ⟨a, b, vs, us, rfl, rfl, .inl (.inl ha), .inl (.inl hb), ?_, fun e0 => ?_, fun _ e0 => ?_, fun _ _ p hp => ?_⟩
          · rw [← r.length, ← r2.length, line_eq]; exact hl
          · subst e0
            cases r
            exact done S (.tup hb r2) q
          · subst e0
            cases r2
            exact done S (.tup ha r) (by simpa using q)
          · exact done_tup S (r.append r2) hp q
        · cases h
      | _ => cases h
    | @ref n a ha =>
      cases re with
      | @ref m b hb =>
        simp only [binD] at h
        cases e1 : M[n]? with
        | none => rw [e1] at h; cases h
        | some o1 =>
          cases e2 : M[m]? with
          | none => rw [e1, e2] at h; cases o1 <;> cases h
          | some o2 =>
            rw [e1, e2] at h
            cases o1 with
            | lst xs =>
              cases o2 with
              | lst ys =>
                simp only at h
                split at h
                · rename_i hl
                  cases h
                  obtain ⟨a', vs, q1, q2, q3, r⟩ := S.lst (v := .ref a) e1 (.ref ha)
                  cases q1
                  obtain ⟨b', us, q1, q2', q3', r2⟩ := S.lst (v := .ref b) e2 (.ref hb)
                  cases q1
                  refine op_cat pins s σ H _ _ v u Q I rx ry ⟨a, b, vs, us, rfl, rfl, q3, q3', ?_, fun p hp => done_lst S (r.append r2) hp q⟩
                  rw [← r.length, ← r2.length, line_eq]; exact hl
                · cases h
              | dic _ => cases h
              | ins _ _ => cases h
            | dic _ => cases h
            | ins _ _ => cases h
      | _ => cases h
    | _ => cases re <;> cases h
  | sub =>
    cases rd with
    | int i =>
      cases re with
      | int j => cases h; exact op_sub pins s σ H _ _ v u Q I rx ry ⟨i, j, rfl, rfl, done S (.int _) q⟩
      | _ => cases h
    | _ => cases re <;> cases h
  | mul =>
    cases rd with
    | int i =>
      cases re with
      | int j =>
        simp only [binD] at h
        split at h
        · rename_i hc
          cases h
          exact op_mul pins s σ H _ _ v u Q I rx ry ⟨i, j, rfl, rfl, hc, done S (.int _) q⟩
        · cases h
      | _ => cases h
    | @ref n a ha =>
      cases re with
      | int j =>
        simp only [binD] at h
        cases e1 : M[n]? with
        | none => rw [e1] at h; cases h
        | some o1 =>
          rw [e1] at h
          cases o1 with
          | lst xs =>
            simp only at h
            split at h
            · rename_i hc
              cases h
              obtain ⟨a', vs, q1, q2, q3, r⟩ := S.lst (v := .ref a) e1 (.ref ha)
              cases q1
              refine op_rep pins s σ H _ _ v u Q I rx ry ⟨a, j, vs, rfl, rfl, q3, by omega, by omega, ?_, fun p hp => done_lst S (rep_rel r _) hp q⟩
              rw [← r.length, line_eq]; exact hc.2.2
            · cases h
          | dic _ => cases h
          | ins _ _ => cases h
      | _ => cases h
    | _ => cases re <;> cases h
  | mod =>
    cases rd with
    | int i =>
      cases re with
      | int j =>
        simp only [binD] at h
        split at h
        · rename_i hc
          cases h
          exact op_mod pins s σ H _ _ v u Q I rx ry ⟨i, j, rfl, rfl, hc, done S (.int _) q⟩
        · cases h
      | _ => cases h
    | _ => cases re <;> cases h
  | fdiv =>
    cases rd with
    | int i =>
      cases re with
      | int j =>
        simp only [binD] at h
        split at h
        · rename_i hc
          cases h
          exact op_fdiv pins s σ H _ _ v u Q I rx ry ⟨i, j, rfl, rfl, hc, done S (.int _) q⟩
        · cases h
      | _ => cases h
    | _ => cases re <;> cases h
  | pow =>
    cases rd with
    | int i =>
      cases re with
      | int j =>
        simp only [binD] at h
        split at h
        · rename_i hc
          cases h
          exact op_pow pins s σ H _ _ v u Q I rx ry ⟨i, j, rfl, rfl, hc, done S (.int _) q⟩
        · cases h
      | _ => cases h
    | _ => cases re <;> cases h
theorem le_bin (hK : X.K = C.K) (op : BOp) {x y : E} (ha : LE C X a (evE F x)) (hb : LE C X b (evE F y)) : LE C X (.BinOp a (bop op) b pos) (evE F (.bin op x y)) := by
  refine PE.imp (pe_op (op_bin hK op) ha hb) ?_
  intro σ H Q h
  refine bin_lift (k := fun x y M => binD M op x y) (fun α M d e z M' x y H Q S rd re h q => ⟨α, M, d, e, z, M', S, rd, re, h, q⟩) σ H Q ?_
  simpa only [evE] using h
end
end Pw

end
section
set_option maxHeartbeats 1000000
/-! Snd4: equality, in, index: comparisons. -/
namespace Pw
open PySem PySem.Spec PyProof.Rows L2

mutual
def PV.py : PV → PyData
  | .non => .none
  | .bl b => .bool b
  | .int i => .int i
  | .str s => .str (Str.ofString s)
  | .tup xs => .tuple (PV.pys xs)
  | .lst xs => .list (PV.pys xs)
def PV.pys : List PV → List PyData
  | [] => []
  | x :: xs => PV.py x :: PV.pys xs
end
mutual
def PV.dep : PV → Nat
  | .tup xs => PV.deps xs + 1
  | .lst xs => PV.deps xs + 1
  | _ => 0
def PV.deps : List PV → Nat
  | [] => 0
  | x :: xs => max (PV.dep x) (PV.deps xs)
end
theorem b2i_l (b : Bool) (i : Int) : ((if b = true then 1 else 0) == i) = decide (b2i b = i) := by
  unfold b2i
  exact Bool.beq_eq_decide_eq ..
theorem b2i_r (b : Bool) (i : Int) : (i == (if b = true then 1 else 0)) = decide (i = b2i b) := by
  unfold b2i
  exact Bool.beq_eq_decide_eq ..
mutual
theorem PV.eqv_py : ∀ a b : PV, PyData.eqv a.py b.py = PV.eqv a b
  | .non, b => by cases b <;> simp [PV.py, PyData.eqv, PV.eqv]
  | .bl x, b => by
    cases b with
    | int j => simp only [PV.py, PyData.eqv, PV.eqv]; exact b2i_l x j
    | _ => simp [PV.py, PyData.eqv, PV.eqv]
  | .int i, b => by
    cases b with
    | bl x => simp only [PV.py, PyData.eqv, PV.eqv]; exact b2i_r x i
    | int j => simp only [PV.py, PyData.eqv, PV.eqv]; exact Bool.beq_eq_decide_eq ..
    | _ => simp [PV.py, PyData.eqv, PV.eqv]
  | .str s, b => by
    cases b with
    | str t =>
      simp only [PV.py, PyData.eqv, PV.eqv]
      rw [Bool.beq_eq_decide_eq]
      by_cases e : s = t
      · subst e; simp
      · rw [decide_eq_false e, decide_eq_false fun q => e (ofString_inj q)]
    | _ => simp [PV.py, PyData.eqv, PV.eqv]
  | .tup xs, b => by
    cases b with
    | tup ys => simp only [PV.py, PyData.eqv, PV.eqv]; exact PV.eqvs_pys xs ys
    | _ => simp [PV.py, PyData.eqv, PV.eqv]
  | .lst xs, b => by
    cases b with
    | lst ys => simp only [PV.py, PyData.eqv, PV.eqv]; exact PV.eqvs_pys xs ys
    | _ => simp [PV.py, PyData.eqv, PV.eqv]
theorem PV.eqvs_pys : ∀ xs ys : List PV, PyData.eqvAll (PV.pys xs) (PV.pys ys) = PV.eqvs xs ys
  | [], [] => by simp [PV.pys, PyData.eqvAll, PV.eqvs]
  | [], _ :: _ => by simp [PV.pys, PyData.eqvAll, PV.eqvs]
  | _ :: _, [] => by simp [PV.pys, PyData.eqvAll, PV.eqvs]
  | x :: xs, y :: ys => by simp only [PV.pys, PyData.eqvAll, PV.eqvs]; rw [PV.eqv_py x y, PV.eqvs_pys xs ys]
end
theorem strOk_of (s : String) : PyData.strOk (Str.ofString s) = true := by
  unfold PyData.strOk
  rw [ofString_def, List.all_toArray, List.all_map, List.all_eq_true]
  intro c _
  have h := c.valid
  have h2 : c.toNat < 0x110000 := by
    rcases h with h | ⟨_, h⟩
    · exact Nat.lt_trans h (by decide)
    · exact h
  exact decide_eq_true h2
mutual
theorem PV.canLay : ∀ a : PV, a.py.canLay0 = true
  | .non => by simp [PV.py, PyData.canLay0]
  | .bl _ => by simp [PV.py, PyData.canLay0]
  | .int _ => by simp [PV.py, PyData.canLay0]
  | .str s => by simp only [PV.py, PyData.canLay0]; exact strOk_of s
  | .tup xs => by simp only [PV.py, PyData.canLay0]; exact PV.canLays xs
  | .lst xs => by simp only [PV.py, PyData.canLay0]; exact PV.canLays xs
theorem PV.canLays : ∀ xs : List PV, PyData.canLayAll0 (PV.pys xs) = true
  | [] => by simp [PV.pys, PyData.canLayAll0]
  | x :: xs => by simp only [PV.pys, PyData.canLayAll0]; rw [PV.canLay x, PV.canLays xs]; rfl
end
mutual
theorem PV.depth_py : ∀ a : PV, a.py.depth = a.dep
  | .non => by simp [PV.py, PyData.depth, PV.dep]
  | .bl _ => by simp [PV.py, PyData.depth, PV.dep]
  | .int _ => by simp [PV.py, PyData.depth, PV.dep]
  | .str s => by simp [PV.py, PyData.depth, PV.dep]
  | .tup xs => by simp only [PV.py, PyData.depth, PV.dep]; rw [PV.depth_pys xs]
  | .lst xs => by simp only [PV.py, PyData.depth, PV.dep]; rw [PV.depth_pys xs]
theorem PV.depth_pys : ∀ xs : List PV, PyData.depthAll (PV.pys xs) = PV.deps xs
  | [] => by simp [PV.pys, PyData.depthAll, PV.deps]
  | x :: xs => by simp only [PV.pys, PyData.depthAll, PV.deps]; rw [PV.depth_py x, PV.depth_pys xs]
end
theorem PV.shaped {a : PV} (h : a.dep ≤ 64) : SeqAt.shaped a.py = true := by
  unfold SeqAt.shaped
  rw [PV.canLay, PV.depth_py, decide_eq_true h]; rfl

theorem mapO_nil {α β : Type} {f : α → Option β} {r : List β} (h : mapO f [] = some r) : r = [] := by cases h; rfl
theorem mapO_cons {α β : Type} {f : α → Option β} {x : α} {xs : List α} {r : List β} (h : mapO f (x :: xs) = some r) : ∃ y ys, f x = some y ∧ mapO f xs = some ys ∧ r = y :: ys := by
  unfold mapO at h
  cases e : f x with
  | none => rw [e] at h; cases h
  | some y =>
    rw [e] at h
    cases e2 : mapO f xs with
    | none => rw [e2] at h; cases h
    | some ys => rw [e2] at h; cases h; exact ⟨y, ys, rfl, rfl, rfl⟩

section
variable {C : PC} {α : List Addr} {M M' : Mem} {H : Hp}
theorem reify_all (n : Nat) (s : RS C α M H) (ih : ∀ (d : D) (v : V) (p : PV), reify n M d = some p → RD C.sa α H d v → Dp C.K H v p.py ∧ p.dep ≤ n) :
    ∀ (ds : List D) (vs : List V) (ps : List PV), mapO (reify n M) ds = some ps → RDs C.sa α H ds vs → DpAll C.K H vs (PV.pys ps) ∧ PV.deps ps ≤ n
  | [], _, _, h, r => by
    cases r
    cases mapO_nil h
    exact ⟨by simpa only [PV.pys] using DpAll.nil, by simp [PV.deps]⟩
  | d :: ds, _, _, h, r => by
    cases r with
    | cons r1 r2 =>
      obtain ⟨y, ys, h1, h2, rfl⟩ := mapO_cons h
      obtain ⟨a1, a2⟩ := ih d _ y h1 r1
      obtain ⟨b1, b2⟩ := reify_all n s ih ds _ ys h2 r2
      exact ⟨by simpa only [PV.pys] using DpAll.cons a1 b1, by simp only [PV.deps]; omega⟩
theorem reify_ok (s : RS C α M H) : ∀ (n : Nat) (d : D) (v : V) (p : PV), reify n M d = some p → RD C.sa α H d v → Dp C.K H v p.py ∧ p.dep ≤ n := by
  intro n
  induction n with
  | zero =>
    intro d v p h r
    cases r with
    | non => simp only [reify] at h; cases h; exact ⟨by simpa only [PV.py] using Dp.non, by simp [PV.dep]⟩
    | bl b => simp only [reify] at h; cases h; exact ⟨by simpa only [PV.py] using Dp.bl b, by simp [PV.dep]⟩
    | int i => simp only [reify] at h; cases h; exact ⟨by simpa only [PV.py] using Dp.int i, by simp [PV.dep]⟩
    | str hs => simp only [reify] at h; cases h; exact ⟨by simpa only [PV.py] using Dp.str _, by simp [PV.dep]⟩
    | tup _ _ => simp only [reify] at h; cases h
    | ref _ => simp only [reify] at h; cases h
    | scr => simp only [reify] at h; cases h
  | succ n ih =>
    intro d v p h r
    cases r with
    | non => simp only [reify] at h; cases h; exact ⟨by simpa only [PV.py] using Dp.non, by simp [PV.dep]⟩
    | bl b => simp only [reify] at h; cases h; exact ⟨by simpa only [PV.py] using Dp.bl b, by simp [PV.dep]⟩
    | int i => simp only [reify] at h; cases h; exact ⟨by simpa only [PV.py] using Dp.int i, by simp [PV.dep]⟩
    | str hs => simp only [reify] at h; cases h; exact ⟨by simpa only [PV.py] using Dp.str _, by simp [PV.dep]⟩
    | tup ha rs =>
      simp only [reify] at h
      obtain ⟨ps, hp, e⟩ := Option.map_eq_some_iff.mp h
      subst e
      obtain ⟨a1, a2⟩ := reify_all n s ih _ _ ps hp rs
      exact ⟨by simpa only [PV.py] using Dp.tup (.inl (.inl ha)) a1, by simp only [PV.dep]; omega⟩
    | @ref m a hm =>
      simp only [reify] at h
      cases e1 : M[m]? with
      | none => rw [e1] at h; cases h
      | some o =>
        rw [e1] at h
        cases o with
        | lst xs =>
          obtain ⟨ps, hp, e⟩ := Option.map_eq_some_iff.mp h
          subst e
          obtain ⟨a', vs, q1, q2, q3, rs⟩ := s.lst (v := .ref a) e1 (.ref hm)
          cases q1
          obtain ⟨a1, a2⟩ := reify_all n s ih _ _ ps hp rs
          exact ⟨by simpa only [PV.py] using Dp.lst (.inl (.inl q3)) a1, by simp only [PV.dep]; omega⟩
        | dic _ => cases h
        | ins _ _ => cases h
    | scr => simp only [reify] at h; cases h
end

/-! plain data -/
mutual
def D.pv : D → PV
  | .non => .non
  | .bl b => .bl b
  | .int i => .int i
  | .str s => .str s
  | .tup xs => .tup (D.pvs xs)
  | _ => .non
def D.pvs : List D → List PV
  | [] => []
  | x :: xs => D.pv x :: D.pvs xs
end
theorem reify_pure_all (M : Mem) (n : Nat) (ih : ∀ d : D, d.plain n = true → reify n M d = some d.pv) : ∀ ds : List D, D.plains n ds = true → mapO (reify n M) ds = some (D.pvs ds)
  | [], _ => by simp [mapO, D.pvs]
  | d :: ds, h => by
    simp only [D.plains, Bool.and_eq_true] at h
    simp only [mapO, ih d h.1, reify_pure_all M n ih ds h.2, D.pvs]
theorem reify_pure (M : Mem) : ∀ (n : Nat) (d : D), d.plain n = true → reify n M d = some d.pv := by
  intro n
  induction n with
  | zero => intro d h; cases d <;> simp_all [D.plain, reify, D.pv]
  | succ n ih =>
    intro d h
    cases d with
    | tup xs =>
      simp only [D.plain] at h
      simp only [reify, reify_pure_all M n ih xs h, D.pv, Option.map_some]
    | _ => simp_all [D.plain, reify, D.pv]
mutual
theorem D.eqv_pv : ∀ (n m : Nat) (a b : D), a.plain n = true → b.plain m = true → PV.eqv a.pv b.pv = a.eqv b
  | n, m, .non, b, _, hb => by cases b <;> simp_all [D.pv, PV.eqv, D.eqv, D.plain]
  | n, m, .bl _, b, _, hb => by cases b <;> simp_all [D.pv, PV.eqv, D.eqv, D.plain]
  | n, m, .int _, b, _, hb => by cases b <;> simp_all [D.pv, PV.eqv, D.eqv, D.plain]
  | n, m, .str _, b, _, hb => by cases b <;> simp_all [D.pv, PV.eqv, D.eqv, D.plain]
  | n, m, .ref _, b, ha, hb => by cases n <;> simp [D.plain] at ha
  | n, m, .scr, b, ha, hb => by cases n <;> simp [D.plain] at ha
  | n, m, .tup xs, b, ha, hb => by
    cases n with
    | zero => simp [D.plain] at ha
    | succ n =>
      cases b with
      | tup ys =>
        cases m with
        | zero => simp [D.plain] at hb
        | succ m =>
          simp only [D.plain] at ha hb
          simp only [D.pv, PV.eqv, D.eqv]
          exact D.eqvs_pvs n m xs ys ha hb
      | _ => simp_all [D.pv, PV.eqv, D.eqv, D.plain]
theorem D.eqvs_pvs : ∀ (n m : Nat) (xs ys : List D), D.plains n xs = true → D.plains m ys = true → PV.eqvs (D.pvs xs) (D.pvs ys) = D.eqvs xs ys
  | n, m, [], [], _, _ => by simp [D.pvs, PV.eqvs, D.eqvs]
  | n, m, [], _ :: _, _, _ => by simp [D.pvs, PV.eqvs, D.eqvs]
  | n, m, _ :: _, [], _, _ => by simp [D.pvs, PV.eqvs, D.eqvs]
  | n, m, x :: xs, y :: ys, ha, hb => by
    simp only [D.plains, Bool.and_eq_true] at ha hb
    simp only [D.pvs, PV.eqvs, D.eqvs]
    rw [D.eqv_pv n m x y ha.1 hb.1, D.eqvs_pvs n m xs ys ha.2 hb.2]
end
/-- equality by reading both -/
theorem eqD_reify {M : Mem} {a b : D} {k : Bool} (h : eqD M a b = some k) : ∃ x y, reify 60 M a = some x ∧ reify 60 M b = some y ∧ k = PV.eqv x y := by
  unfold eqD at h
  split at h
  · rename_i hp
    cases h
    exact ⟨_, _, reify_pure M 60 a hp.1, reify_pure M 60 b hp.2, (D.eqv_pv 60 60 a b hp.1 hp.2).symm⟩
  · cases e1 : reify 60 M a with
    | none => rw [e1] at h; cases h
    | some x =>
      cases e2 : reify 60 M b with
      | none => rw [e1, e2] at h; cases h
      | some y => rw [e1, e2] at h; cases h; exact ⟨x, y, rfl, rfl, rfl⟩
theorem inD_reify {M : Mem} {x : D} : ∀ {ys : List D} {k : Bool}, inD M x ys = some k → ∃ px ps, reify 60 M x = some px ∧ mapO (reify 60 M) ys = some ps ∧ k = ps.any fun z => PV.eqv z px
  | [], k, h => by
    unfold inD at h
    split at h
    · rename_i hp
      cases h
      exact ⟨_, [], reify_pure M 60 x hp, rfl, rfl⟩
    · obtain ⟨px, hx, e⟩ := Option.map_eq_some_iff.mp h
      cases e
      exact ⟨px, [], hx, rfl, rfl⟩
  | y :: ys, k, h => by
    unfold inD at h
    cases e1 : eqD M y x with
    | none => rw [e1] at h; cases h
    | some a =>
      cases e2 : inD M x ys with
      | none => rw [e1, e2] at h; cases h
      | some b =>
        rw [e1, e2] at h
        cases h
        obtain ⟨py, px', h1, h2, h3⟩ := eqD_reify e1
        obtain ⟨px, ps, h0, h4, h5⟩ := inD_reify e2
        rw [h2] at h0; cases h0
        exact ⟨px', py :: ps, h2, by simp only [mapO, h1, h4], by simp [h3, h5]⟩
theorem any_py (px : PV) : ∀ ps : List PV, ((PV.pys ps).any fun z => PyData.eqv z px.py) = ps.any fun z => PV.eqv z px
  | [] => by simp [PV.pys]
  | p :: ps => by simp only [PV.pys, List.any_cons]; rw [PV.eqv_py, any_py px ps]

/-! ### comparisons -/
def cop : COp → CmpOp
  | .eq => .Eq | .ne => .NotEq | .lt => .Lt | .le => .LtE | .gt => .Gt | .ge => .GtE | .isin => .In | .notin => .NotIn | .ltl => .Lt
def rCmp (C : PC) (op : COp) : R2 := fun x y H Q => ∃ α M d e k, RS C α M H ∧ RD C.sa α H d x ∧ RD C.sa α H e y ∧ cmpD M op d e = some k ∧ Q (.bl k) H
section
variable {C : PC} {X : Cx}
theorem op_inT (hu : X.A.units + 65 < cLine) : OpR X (compareOp .In) (fun x y H Q => ∃ d ds, Dp X.K H x d ∧ Dp X.K H y (.tuple ds) ∧ SeqAt.shaped d = true ∧ SeqAt.shaped (.list ds) = true ∧ Q (.bl (ds.any fun z => PyData.eqv z d)) H) := by
  intro pins s σ H x y v u Q I rx ry h
  obtain ⟨d, ds, hd, he, sd, se, q⟩ := h
  obtain ⟨as, r1⟩ := Dp.reads I d x v hd rx
  obtain ⟨bs, r2⟩ := Dp.reads I (.tuple ds) y u he ry
  exact SeqAt.in_tuple_reads r2 r1 (SeqAt.canLay_of_shaped se) (SeqAt.canLay_of_shaped sd) (room_in_shaped sd hu) ⟨.bl _, H, I, rfl, q⟩
theorem op_notInT (hu : X.A.units + 65 < cLine) : OpR X (compareOp .NotIn) (fun x y H Q => ∃ d ds, Dp X.K H x d ∧ Dp X.K H y (.tuple ds) ∧ SeqAt.shaped d = true ∧ SeqAt.shaped (.list ds) = true ∧ Q (.bl (!ds.any fun z => PyData.eqv z d)) H) := by
  intro pins s σ H x y v u Q I rx ry h
  obtain ⟨d, ds, hd, he, sd, se, q⟩ := h
  obtain ⟨as, r1⟩ := Dp.reads I d x v hd rx
  obtain ⟨bs, r2⟩ := Dp.reads I (.tuple ds) y u he ry
  exact SeqAt.notIn_tuple_reads r2 r1 (SeqAt.canLay_of_shaped se) (SeqAt.canLay_of_shaped sd) (room_in_shaped sd hu) ⟨.bl _, H, I, rfl, q⟩
end
section
variable {C : PC} {α : List Addr} {M : Mem} {H : Hp}
theorem eq_rel (s : RS C α M H) {a b : D} {x y : V} {k : Bool} (ra : RD C.sa α H a x) (rb : RD C.sa α H b y) (h : eqD M a b = some k) :
    ∃ d e, Dp C.K H x d ∧ Dp C.K H y e ∧ SeqAt.shaped d = true ∧ SeqAt.shaped e = true ∧ PyData.eqv d e = k := by
  obtain ⟨p, q, h1, h2, rfl⟩ := eqD_reify h
  obtain ⟨a1, a2⟩ := reify_ok s 60 a x p h1 ra
  obtain ⟨b1, b2⟩ := reify_ok s 60 b y q h2 rb
  exact ⟨_, _, a1, b1, PV.shaped (by omega), PV.shaped (by omega), PV.eqv_py p q⟩
/-- x in a row of values -/
theorem in_rel (s : RS C α M H) {a : D} {x : V} {ds : List D} {vs : List V} {k : Bool} (ra : RD C.sa α H a x) (rs : RDs C.sa α H ds vs) (h : inD M a ds = some k) :
    ∃ d es, Dp C.K H x d ∧ DpAll C.K H vs es ∧ SeqAt.shaped d = true ∧ SeqAt.shaped (.list es) = true ∧ (es.any fun z => PyData.eqv z d) = k := by
  obtain ⟨px, ps, h1, h2, rfl⟩ := inD_reify h
  obtain ⟨a1, a2⟩ := reify_ok s 60 a x px h1 ra
  obtain ⟨b1, b2⟩ := reify_all 60 s (fun d v p h r => reify_ok s 60 d v p h r) ds vs ps h2 rs
  refine ⟨_, _, a1, b1, PV.shaped (by omega), ?_, any_py px ps⟩
  have := PV.shaped (a := .lst ps) (by simp only [PV.dep]; omega)
  simpa only [PV.py] using this
theorem toNat_mem {c : Char} {l : List Char} : c.toNat ∈ l.map Char.toNat ↔ c ∈ l := by
  constructor
  · intro h
    obtain ⟨d, hd, e⟩ := List.mem_map.mp h
    rw [← Char.toNat_inj.mp e]; exact hd
  · exact fun h => List.mem_map_of_mem h
end
section
variable {C : PC} {X : Cx} {k : Nat}
/-- x in y, by the evaluator -/
theorem mem_cases {α : List Addr} {M : Mem} {H : Hp} {d e : D} {x y : V} {b : Bool} (S : RS C α M H) (rd : RD C.sa α H d x) (re : RD C.sa α H e y) (h : memD M d e = some b) (nd : ∀ (p : Nat) (kvs : List (D × D)), e = .ref p → M[p]? ≠ some (.dic kvs)) :
    (∃ d es, Dp C.K H x d ∧ (Dp C.K H y (.list es) ∨ Dp C.K H y (.tuple es)) ∧ SeqAt.shaped d = true ∧ SeqAt.shaped (.list es) = true ∧ (es.any fun z => PyData.eqv z d) = b) ∨
    (∃ (c : Nat) (z : Str), x = .str ⟨#[c]⟩ ∧ y = .str z ∧ decide (c ∈ z.cps.toList) = b) := by
  cases re with
  | tup ha r =>
    obtain ⟨d, es, h1, h2, h3, h4, h5⟩ := in_rel S rd r h
    exact .inl ⟨d, es, h1, .inr (.tup (.inl (.inl ha)) h2), h3, h4, h5⟩
  | @str t ht =>
    cases rd with
    | @str u hu =>
      simp only [memD] at h
      cases e1 : u.toList with
      | nil => rw [e1] at h; cases h
      | cons c r =>
        rw [e1] at h
        cases r with
        | nil =>
          cases h
          refine .inr ⟨c.toNat, _, ?_, rfl, ?_⟩
          · rw [ofString_def, e1]; rfl
          · rw [ofString_cps]
            exact decide_eq_decide.mpr toNat_mem
        | cons _ _ => cases h
    | _ => simp only [memD] at h; cases h
  | @ref n a ha =>
    simp only [memD] at h
    cases e1 : M[n]? with
    | none => rw [e1] at h; cases h
    | some o =>
      rw [e1] at h
      cases o with
      | lst xs =>
        obtain ⟨a', vs, q1, q2, q3, r⟩ := S.lst (v := .ref a) e1 (.ref ha)
        cases q1
        obtain ⟨d, es, h1, h2, h3, h4, h5⟩ := in_rel S rd r h
        exact .inl ⟨d, es, h1, .inl (.lst (.inl (.inl q3)) h2), h3, h4, h5⟩
      | dic kvs => exact absurd e1 (nd n kvs rfl)
      | ins _ _ => cases h
  | _ => simp only [memD] at h; cases h
end
end Pw

end
section
set_option maxHeartbeats 1000000
/-! Snd5: dicts. -/
namespace Pw
open PySem PySem.Spec PyProof.Rows L2

/-! ### keys -/
theorem leafK_inj {a b : D} {l : Leaf} (ha : leafK a = some l) (hb : leafK b = some l) : a = b := by
  cases a <;> cases b <;> simp only [leafK, Option.some.injEq, reduceCtorEq] at ha hb <;> subst ha <;> first
    | rfl
    | (injection hb with q; first | (rw [ofString_inj q]) | (rw [q]))
    | (cases hb)
theorem leafK_flat {k : D} {l : Leaf} (h : leafK k = some l) : k.isTup = false := by
  cases k <;> first | rfl | cases h
theorem leafK_of {k : D} {n : Nat} (h : k.key n = true) (ht : k.isTup = false) : ∃ l, leafK k = some l := by
  cases k with
  | tup xs => simp [D.isTup] at ht
  | non => exact ⟨_, rfl⟩
  | int i => exact ⟨_, rfl⟩
  | str x => exact ⟨_, rfl⟩
  | _ => cases n <;> simp [D.key] at h
mutual
theorem nk_inj : ∀ (n m : Nat) (a b : D), a.key n = true → b.key m = true → nk a = nk b → a = b
  | n, m, .non, b, _, hb, e => by cases b <;> simp_all [nk, D.key] <;> (cases m <;> simp_all [D.key])
  | n, m, .int _, b, _, hb, e => by cases b <;> simp_all [nk, D.key]
  | n, m, .str _, b, _, hb, e => by
    cases b <;> simp_all [nk, D.key]
    exact ofString_inj e
  | n, m, .tup xs, b, ha, hb, e => by
    cases n with
    | zero => simp [D.key] at ha
    | succ n =>
      cases b with
      | tup ys =>
        cases m with
        | zero => simp [D.key] at hb
        | succ m =>
          simp only [D.key] at ha hb
          simp only [nk, NestedKey.tup.injEq] at e
          rw [nks_inj n m xs ys ha hb e]
      | _ => simp_all [nk, D.key]
  | n, m, .bl _, _, ha, _, _ => by cases n <;> simp [D.key] at ha
  | n, m, .ref _, _, ha, _, _ => by cases n <;> simp [D.key] at ha
  | n, m, .scr, _, ha, _, _ => by cases n <;> simp [D.key] at ha
theorem nks_inj : ∀ (n m : Nat) (xs ys : List D), D.keys n xs = true → D.keys m ys = true → nks xs = nks ys → xs = ys
  | n, m, [], [], _, _, _ => rfl
  | n, m, [], _ :: _, _, _, e => by simp [nks] at e
  | n, m, _ :: _, [], _, _, e => by simp [nks] at e
  | n, m, x :: xs, y :: ys, ha, hb, e => by
    simp only [D.keys, Bool.and_eq_true] at ha hb
    simp only [nks, List.cons.injEq] at e
    rw [nk_inj n m x y ha.1 hb.1 e.1, nks_inj n m xs ys ha.2 hb.2 e.2]
end
mutual
theorem nk_depth : ∀ (n : Nat) (a : D), a.key n = true → (nk a).depth ≤ n
  | n, .non, _ => by simp [nk, NestedKey.depth]
  | n, .int _, _ => by simp [nk, NestedKey.depth]
  | n, .str _, _ => by simp [nk, NestedKey.depth]
  | n, .tup xs, h => by
    cases n with
    | zero => simp [D.key] at h
    | succ n =>
      simp only [D.key] at h
      simp only [nk, NestedKey.depth]
      exact Nat.succ_le_succ (nks_depth n xs h)
  | n, .bl _, h => by cases n <;> simp [D.key] at h
  | n, .ref _, h => by cases n <;> simp [D.key] at h
  | n, .scr, h => by cases n <;> simp [D.key] at h
theorem nks_depth : ∀ (n : Nat) (xs : List D), D.keys n xs = true → NestedKey.depthAll (nks xs) ≤ n
  | n, [], _ => by simp [nks, NestedKey.depthAll]
  | n, x :: xs, h => by
    simp only [D.keys, Bool.and_eq_true] at h
    simp only [nks, NestedKey.depthAll]
    have h1 := nk_depth n x h.1
    have h2 := nks_depth n xs h.2
    omega
end
section
variable {C : PC} {X : Cx} {pins : List (Addr × Obj)} {σ : L2.St} {α : List Addr} {M : Mem} {H : Hp} {s : Shared}
mutual
theorem nk_is (I : Inv X pins σ H s) : ∀ (n : Nat) (d : D) (v : V) (u : Value), d.key n = true → RD C.sa α H d v → RelV v u → NestedIs s.heap (nk d) u
  | n, .non, _, _, _, r, ru => by cases r; cases ru; simp only [nk]; exact .none
  | n, .int _, _, _, _, r, ru => by cases r; obtain ⟨t, rfl⟩ := ru; simp only [nk]; exact .int _ _
  | n, .str _, _, _, _, r, ru => by cases r; obtain ⟨t, rfl⟩ := ru; simp only [nk]; exact .text _ _
  | n, .tup xs, _, _, h, r, ru => by
    cases r with
    | tup ha rs =>
      cases ru
      cases n with
      | zero => simp [D.key] at h
      | succ n =>
        simp only [D.key] at h
        obtain ⟨_, its, rv, o, ho, hc, m, hd⟩ := I.hok _ _ ha
        simp only [nk]
        exact .tup ho hc hd (by simpa using nks_is I n xs _ _ h rs rv)
  | n, .bl _, _, _, h, _, _ => by cases n <;> simp [D.key] at h
  | n, .ref _, _, _, h, _, _ => by cases n <;> simp [D.key] at h
  | n, .scr, _, _, h, _, _ => by cases n <;> simp [D.key] at h
theorem nks_is (I : Inv X pins σ H s) : ∀ (n : Nat) (ds : List D) (vs : List V) (us : List Value), D.keys n ds = true → RDs C.sa α H ds vs → Vals vs us → NestedAll s.heap (nks ds) us
  | n, [], _, _, _, r, ru => by cases r; cases ru; simp only [nks]; exact .nil
  | n, d :: ds, _, _, h, r, ru => by
    simp only [D.keys, Bool.and_eq_true] at h
    cases r with
    | cons r1 r2 =>
      cases ru with
      | cons u1 u2 =>
        simp only [nks]
        exact .cons (nk_is I n d _ _ h.1 r1 u1) (nks_is I n ds _ _ h.2 r2 u2)
end
theorem flat_is {k : D} {l : Leaf} {v : V} {u : Value} (h : leafK k = some l) (r : RD C.sa α H k v) (ru : RelV v u) : flatIs l u = true := by
  cases r with
  | non => cases h; cases ru; rfl
  | int i => cases h; obtain ⟨t, rfl⟩ := ru; exact decide_eq_true rfl
  | @str x hx => cases h; obtain ⟨t, rfl⟩ := ru; simp [flatIs, Value.isStrOf]
  | _ => cases h
end

/-! ### entries side by side -/
section
variable {C : PC} {α : List Addr} {M : Mem} {H : Hp}
/-- a value and the machine's one -/
def RV (sa : Addr) (α : List Addr) (H : Hp) (d : D) (u : Value) : Prop := ∃ v, RD sa α H d v ∧ RelV v u
def FP (sa : Addr) (α : List Addr) (H : Hp) (p : D × D) (r : Leaf × Value) : Prop := leafK p.1 = some r.1 ∧ RV sa α H p.2 r.2
def TP' (sa : Addr) (α : List Addr) (H : Hp) (p : D × D) (r : NestedKey × Addr × Value) : Prop := p.1.isTup = true ∧ nk p.1 = r.1 ∧ RV sa α H p.2 r.2.2
theorem fp_of : ∀ {kvs : List (D × D)} {q : List (D × V × V)} {vs : List (Leaf × Value)}, RK C.sa α H kvs q → Paired (fun (p : D × V × V) (r : Leaf × Value) => leafK p.1 = some r.1 ∧ RelV p.2.2 r.2) q vs → Paired (FP C.sa α H) kvs vs
  | _, _, _, .nil, .nil => .nil
  | _, _, _, .cons h1 h2 h3, .cons g1 g2 => .cons ⟨g1.1, _, h2, g1.2⟩ (fp_of h3 g2)
theorem tp_of : ∀ {kvs : List (D × D)} {q : List (D × V × V)} {vs : List (NestedKey × Addr × Value)}, RK C.sa α H kvs q → Paired (fun (p : D × V × V) (r : NestedKey × Addr × Value) => p.1.isTup = true ∧ nk p.1 = r.1 ∧ p.2.1 = .ref r.2.1 ∧ RelV p.2.2 r.2.2) q vs → Paired (TP' C.sa α H) kvs vs
  | _, _, _, .nil, .nil => .nil
  | _, _, _, .cons h1 h2 h3, .cons g1 g2 => .cons ⟨g1.1, g1.2.1, _, h2, g1.2.2.2⟩ (tp_of h3 g2)
/-- what is looked up -/
def RelG (sa : Addr) (α : List Addr) (H : Hp) : Option D → Option Value → Prop
  | some d, some u => RV sa α H d u
  | none, none => True
  | _, _ => False
theorem fp_get {k : D} {l : Leaf} (hk : leafK k = some l) : ∀ {kvs : List (D × D)} {vs : List (Leaf × Value)}, Paired (FP C.sa α H) kvs vs → RelG C.sa α H (dget k kvs) (valueAt vs l)
  | _, _, .nil => by simp [dget, valueAt, RelG]
  | (a, d) :: kvs, (b, u) :: vs, .cons h r => by
    have ih := fp_get hk r
    by_cases e : a = k
    · subst e
      have e2 : b = l := Option.some.inj (h.1.symm.trans hk)
      subst e2
      simp only [dget, if_true, valueAt, List.find?_cons, decide_true, Option.map_some]
      exact h.2
    · have e2 : ¬ b = l := fun q => e (leafK_inj (q ▸ h.1) hk)
      simp only [dget, if_neg e, valueAt, List.find?_cons, decide_eq_false e2]
      exact ih
theorem tp_get {k : D} (hk : k.key 8 = true) : ∀ {kvs : List (D × D)} {vs : List (NestedKey × Addr × Value)}, kvs.all (fun p => p.1.key 8) = true → Paired (TP' C.sa α H) kvs vs → RelG C.sa α H (dget k kvs) ((atKey vs (nk k)).map (·.2))
  | _, _, _, .nil => by simp [dget, atKey, RelG]
  | (a, d) :: kvs, (b, u) :: vs, ha, .cons h r => by
    simp only [List.all_cons, Bool.and_eq_true] at ha
    have ih := tp_get hk ha.2 r
    by_cases e : a = k
    · subst e
      have e2 : b = nk a := h.2.1.symm
      simp only [dget, if_true, atKey, List.find?_cons, decide_eq_true e2, Option.map_some]
      exact h.2.2
    · have e2 : ¬ b = nk k := fun q => e (nk_inj 8 8 a k ha.1 hk (h.2.1.trans q))
      simp only [dget, if_neg e, atKey, List.find?_cons, decide_eq_false e2]
      exact ih
/-- the entries behind a store -/
def qput (k : D) (u v : V) : List (D × V × V) → List (D × V × V)
  | [] => [(k, u, v)]
  | (a, w, x) :: r => if a = k then (a, w, v) :: r else (a, w, x) :: qput k u v r
theorem RK.put {k d : D} {u v : V} (hk : RD C.sa α H k u) (hd : RD C.sa α H d v) : ∀ {kvs : List (D × D)} {q : List (D × V × V)}, RK C.sa α H kvs q → RK C.sa α H (dput k d kvs) (qput k u v q)
  | _, _, .nil => .cons hk hd .nil
  | _, _, .cons (k := a) h1 h2 r => by
    by_cases e : a = k
    · simp only [dput, qput, if_pos e]; exact .cons h1 hd r
    · simp only [dput, qput, if_neg e]; exact .cons h1 h2 (RK.put hk hd r)
theorem RK.keys : ∀ {kvs : List (D × D)} {q : List (D × V × V)}, RK C.sa α H kvs q → q.map (·.1) = kvs.map (·.1)
  | _, _, .nil => rfl
  | _, _, .cons _ _ r => by simp [RK.keys r]
theorem dput_keys (k d : D) : ∀ kvs : List (D × D), (dput k d kvs).map (·.1) = if k ∈ kvs.map (·.1) then kvs.map (·.1) else kvs.map (·.1) ++ [k]
  | [] => by simp [dput]
  | (a, w) :: r => by
    have ih := dput_keys k d r
    by_cases e : a = k
    · subst e; simp [dput]
    · simp only [dput, if_neg e, List.map_cons, ih]
      by_cases h : k ∈ r.map (·.1)
      · rw [if_pos h, if_pos (List.mem_cons_of_mem _ h)]
      · rw [if_neg h, if_neg (by simp only [List.mem_cons, not_or]; exact ⟨fun q => e q.symm, h⟩)]; rfl
theorem dput_length (k d : D) (kvs : List (D × D)) : (dput k d kvs).length ≤ kvs.length + 1 := by
  have := congrArg List.length (dput_keys k d kvs)
  rw [List.length_map] at this
  rw [this]
  split <;> simp
theorem dput_nodup {k d : D} {kvs : List (D × D)} (h : (kvs.map (·.1)).Nodup) : ((dput k d kvs).map (·.1)).Nodup := by
  rw [dput_keys]
  split
  · exact h
  · rename_i hn
    rw [List.nodup_append]
    exact ⟨h, by simp, fun a ha b hb e => by rw [List.mem_singleton.mp hb] at e; exact hn (e ▸ ha)⟩
theorem keyOk_iff (kvs : List (D × D)) (k : D) : keyOk kvs k = true ↔ k.key 8 = true ∧ ∀ p, kvs.head? = some p → p.1.isTup = k.isTup := by
  unfold keyOk
  cases kvs with
  | nil =>
    simp only [Bool.and_true]
    exact ⟨fun h => ⟨h, fun p q => nomatch q⟩, fun h => h.1⟩
  | cons p r =>
    simp only [Bool.and_eq_true, beq_iff_eq, List.head?_cons, Option.some.injEq]
    exact ⟨fun h => ⟨h.1, fun x q => q ▸ h.2⟩, fun h => ⟨h.1, h.2 p rfl⟩⟩
theorem dput_head (k d : D) : ∀ kvs : List (D × D), ∀ p, (dput k d kvs).head? = some p → (∃ p', kvs.head? = some p' ∧ p'.1 = p.1) ∨ (kvs = [] ∧ p.1 = k)
  | [], p, h => by simp [dput] at h; subst h; exact .inr ⟨rfl, rfl⟩
  | (a, w) :: r, p, h => by
    by_cases e : a = k
    · simp only [dput, if_pos e] at h; cases h; exact .inl ⟨_, rfl, rfl⟩
    · simp only [dput, if_neg e] at h; cases h; exact .inl ⟨_, rfl, rfl⟩
theorem dput_ok {k d : D} {kvs : List (D × D)} (hk : keyOk kvs k = true) (h : kvs.all (fun p => keyOk kvs p.1) = true) : (dput k d kvs).all (fun p => keyOk (dput k d kvs) p.1) = true := by
  rw [List.all_eq_true] at h ⊢
  rw [keyOk_iff] at hk
  intro p hp
  have hm : p.1 ∈ (dput k d kvs).map (·.1) := List.mem_map_of_mem hp
  rw [dput_keys] at hm
  have hin : p.1 ∈ kvs.map (·.1) ∨ p.1 = k := by
    split at hm
    · exact .inl hm
    · rcases List.mem_append.mp hm with q | q
      · exact .inl q
      · exact .inr (List.mem_singleton.mp q)
  rw [keyOk_iff]
  rcases hin with q | q
  · obtain ⟨r, hr, er⟩ := List.mem_map.mp q
    have h1 := h r hr
    rw [keyOk_iff] at h1
    rw [← er]
    refine ⟨h1.1, fun x hx => ?_⟩
    rcases dput_head k d kvs x hx with ⟨p', g1, g2⟩ | ⟨g1, _⟩
    · rw [← g2]; exact h1.2 p' g1
    · rw [g1] at hr; cases hr
  · rw [q]
    refine ⟨hk.1, fun x hx => ?_⟩
    rcases dput_head k d kvs x hx with ⟨p', g1, g2⟩ | ⟨_, g2⟩
    · rw [← g2]; exact hk.2 p' g1
    · rw [g2]
theorem fq_put {k : D} {l : Leaf} (hk : leafK k = some l) {u v : V} {x : Value} (rv : RelV v x) : ∀ {q : List (D × V × V)} {vs : List (Leaf × Value)}, (q.map (·.1)).Nodup → Paired (fun (p : D × V × V) (r : Leaf × Value) => leafK p.1 = some r.1 ∧ RelV p.2.2 r.2) q vs →
    Paired (fun (p : D × V × V) (r : Leaf × Value) => leafK p.1 = some r.1 ∧ RelV p.2.2 r.2) (qput k u v q) (stored vs l x)
  | _, _, _, .nil => by simp only [qput, stored, List.any_nil]; exact .cons ⟨hk, rv⟩ .nil
  | (a, w, y) :: q, (b, z) :: vs, hn, .cons h r => by
    rw [List.map_cons, List.nodup_cons] at hn
    by_cases e : a = k
    · subst e
      have e2 : b = l := Option.some.inj (h.1.symm.trans hk)
      subst e2
      have hn2 : b ∉ vs.map (·.1) := fun hm => by
        obtain ⟨j, hj, ej⟩ := List.mem_map.mp hm
        have : ∀ {q : List (D × V × V)} {vs : List (Leaf × Value)}, Paired (fun (p : D × V × V) (r : Leaf × Value) => leafK p.1 = some r.1 ∧ RelV p.2.2 r.2) q vs → j ∈ vs → ∃ p ∈ q, leafK p.1 = some j.1 := by
          intro q vs hp
          induction hp with
          | nil => intro hm; cases hm
          | cons g _ ih =>
            intro hm
            rcases List.mem_cons.mp hm with rfl | hm
            · exact ⟨_, List.mem_cons_self, g.1⟩
            · obtain ⟨p, h1, h2⟩ := ih hm
              exact ⟨p, List.mem_cons_of_mem _ h1, h2⟩
        obtain ⟨p, hp, ep⟩ := this r hj
        rw [ej] at ep
        exact hn.1 (List.mem_map.mpr ⟨p, hp, leafK_inj ep hk⟩)
      simp only [qput, if_true, stored, List.any_cons, decide_true, Bool.true_or, List.map_cons]
      rw [map_store_of_not_mem vs b x hn2]
      exact .cons ⟨h.1, rv⟩ r
    · have e2 : ¬ b = l := fun q => e (leafK_inj (q ▸ h.1) hk)
      have ih := fq_put hk rv (u := u) hn.2 r
      simp only [qput, if_neg e]
      have : stored ((b, z) :: vs) l x = (b, z) :: stored vs l x := by
        simp only [stored, List.any_cons, decide_eq_false e2, Bool.false_or, List.map_cons, if_neg e2]
        split <;> rfl
      rw [this]
      exact .cons h ih
theorem tq_put {k : D} (hk : k.key 8 = true) (ht : k.isTup = true) {ak : Addr} {v : V} {x : Value} (rv : RelV v x) : ∀ {q : List (D × V × V)} {vs : List (NestedKey × Addr × Value)}, q.all (fun p => p.1.key 8) = true → (q.map (·.1)).Nodup →
    Paired (fun (p : D × V × V) (r : NestedKey × Addr × Value) => p.1.isTup = true ∧ nk p.1 = r.1 ∧ p.2.1 = .ref r.2.1 ∧ RelV p.2.2 r.2.2) q vs →
    Paired (fun (p : D × V × V) (r : NestedKey × Addr × Value) => p.1.isTup = true ∧ nk p.1 = r.1 ∧ p.2.1 = .ref r.2.1 ∧ RelV p.2.2 r.2.2) (qput k (.ref ak) v q) (storedH vs (nk k) ak x)
  | _, _, _, _, .nil => by simp only [qput, storedH, atKey, List.find?_nil, Option.map_none, Option.isSome_none, Bool.false_eq_true, if_false, List.nil_append]; exact .cons ⟨ht, rfl, rfl, rv⟩ .nil
  | (a, w, y) :: q, (b, c, z) :: vs, ha, hn, .cons h r => by
    rw [List.map_cons, List.nodup_cons] at hn
    simp only [List.all_cons, Bool.and_eq_true] at ha
    by_cases e : a = k
    · subst e
      have e2 : b = nk a := h.2.1.symm
      subst e2
      have keep : ∀ {q : List (D × V × V)} {vs : List (NestedKey × Addr × Value)}, q.all (fun p => p.1.key 8) = true → a ∉ q.map (·.1) →
          Paired (fun (p : D × V × V) (r : NestedKey × Addr × Value) => p.1.isTup = true ∧ nk p.1 = r.1 ∧ p.2.1 = .ref r.2.1 ∧ RelV p.2.2 r.2.2) q vs → vs.map (putAt (nk a) x) = vs := by
        intro q vs h1 h2 hp
        induction hp with
        | nil => rfl
        | @cons p r q vs g _ ih =>
          simp only [List.all_cons, Bool.and_eq_true] at h1
          simp only [List.map_cons, List.mem_cons, not_or] at h2
          have : ¬ r.1 = nk a := fun e3 => h2.1 (nk_inj 8 8 a p.1 hk h1.1 (e3.symm.trans g.2.1.symm))
          rw [List.map_cons, ih h1.2 h2.2]
          simp only [putAt, if_neg this]
      simp only [qput, if_true, storedH, atKey, List.find?_cons, decide_true, Option.map_some, Option.isSome_some, List.map_cons]
      rw [keep ha.2 hn.1 r]
      simp only [putAt, if_true]
      exact .cons ⟨h.1, rfl, h.2.2.1, rv⟩ r
    · have e2 : ¬ b = nk k := fun q => e (nk_inj 8 8 a k ha.1 hk (h.2.1.trans q))
      have ih := tq_put hk ht rv (ak := ak) ha.2 hn.2 r
      simp only [qput, if_neg e]
      have : storedH ((b, c, z) :: vs) (nk k) ak x = (b, c, z) :: storedH vs (nk k) ak x := by
        have ea : atKey ((b, c, z) :: vs) (nk k) = atKey vs (nk k) := by simp only [atKey, List.find?_cons, decide_eq_false e2]
        unfold storedH
        rw [ea]
        split
        · simp only [List.map_cons, putAt, if_neg e2]
        · rfl
      rw [this]
      exact .cons h ih
end

section
variable {C : PC} {X : Cx} {pins : List (Addr × Obj)} {σ : L2.St} {α : List Addr} {M : Mem} {H : Hp} {s : Shared} {A : Around} {E : Value → Shared → Prop}
/-- a dict that is a cell -/
structure DCell (C : PC) (α : List Addr) (M : Mem) (H : Hp) (n : Nat) (a : Addr) (kvs : List (D × D)) (q : List (D × V × V)) : Prop where
  mem : M[n]? = some (.dic kvs)
  at_ : α[n]? = some a
  h : H a = some (dictHO C.prog C.w a q)
  rk : RK C.sa α H kvs q
  nd : (kvs.map (·.1)).Nodup
  ok : kvs.all (fun p => keyOk kvs p.1) = true
  len : kvs.length ≤ LIM
  sm : (a == sysModules) = false
theorem RS.dic (S : RS C α M H) {n : Nat} {kvs : List (D × D)} (h : M[n]? = some (.dic kvs)) {v : V} (r : RD C.sa α H (.ref n) v) : ∃ a q, v = .ref a ∧ DCell C α M H n a kvs q := by
  cases r with
  | ref e =>
    obtain ⟨a, ho, h1, h2, r⟩ := S.ob n _ h
    rw [e] at h1; cases h1
    cases r with
    | dic g1 g2 g3 g4 g5 => exact ⟨_, _, rfl, h, e, h2, g1, g2, g3, g4, g5⟩
variable {n : Nat} {a : Addr} {kvs : List (D × D)} {q : List (D × V × V)}
theorem DCell.at (I : Inv X pins σ H s) (hP : X.prog = C.prog) (d : DCell C α M H n a kvs q) : dictAt C.prog C.w a q s.heap := by
  have := I.hok a _ d.h
  exact this.1
theorem RK.length : ∀ {kvs : List (D × D)} {q : List (D × V × V)}, RK C.sa α H kvs q → q.length = kvs.length
  | _, _, .nil => rfl
  | _, _, .cons _ _ r => by simp [RK.length r]
theorem empty_flat {P : Program} {w : World} {h : Heap} (x : dictTup P w a [] h) : dictFlat P w a [] h := by
  obtain ⟨xs, r, o, es, ep, h1, h2, h3, h4, h5⟩ := x
  cases r
  have e : es = #[] := Array.toList_inj.mp (by simpa using h4)
  subst e
  exact ⟨[], .nil, o, #[], ep, h1, h2, h3, (fun e he => by cases he; contradiction), .nil, List.nodup_nil⟩
theorem empty_tup {P : Program} {w : World} {h : Heap} (x : dictFlat P w a [] h) : dictTup P w a [] h := by
  obtain ⟨xs, r, o, es, ep, h1, h2, h3, h4, h5, h6⟩ := x
  cases r
  have e : es.toList = [] := by cases q : es.toList with
    | nil => rfl
    | cons x y => rw [q] at h5; cases h5
  exact ⟨[], .nil, o, es, ep, h1, h2, h3, by simpa using e, List.nodup_nil⟩
/-- the dict as the kind of key wants it -/
theorem DCell.flat (I : Inv X pins σ H s) (hP : X.prog = C.prog) (d : DCell C α M H n a kvs q) {k : D} (hk : keyOk kvs k = true) (ht : k.isTup = false) : dictFlat C.prog C.w a q s.heap := by
  rcases d.at I hP with h | h
  · exact h
  · cases q with
    | nil => exact empty_flat h
    | cons p r =>
      obtain ⟨xs, rr, _⟩ := h
      cases rr with
      | cons g _ =>
        have hh := d.rk
        cases hh with
        | cons _ _ _ =>
          have := ((keyOk_iff _ _).mp hk).2 _ rfl
          rw [ht] at this
          simp only at this g
          rw [this] at g
          exact absurd g.1 Bool.false_ne_true
theorem DCell.tup (I : Inv X pins σ H s) (hP : X.prog = C.prog) (d : DCell C α M H n a kvs q) {k : D} (hk : keyOk kvs k = true) (ht : k.isTup = true) : dictTup C.prog C.w a q s.heap := by
  rcases d.at I hP with h | h
  · cases q with
    | nil => exact empty_tup h
    | cons p r =>
      obtain ⟨xs, rr, _⟩ := h
      cases rr with
      | cons g _ =>
        have hh := d.rk
        cases hh with
        | cons _ _ _ =>
          have := ((keyOk_iff _ _).mp hk).2 _ rfl
          rw [ht] at this
          simp only at this g
          have g1 := leafK_flat g.1
          exact absurd (g1.symm.trans this) Bool.false_ne_true
  · exact h
theorem DCell.keys (d : DCell C α M H n a kvs q) : kvs.all (fun p => p.1.key 8) = true := by
  have := d.ok
  rw [List.all_eq_true] at this ⊢
  exact fun p hp => ((keyOk_iff _ _).mp (this p hp)).1
/-- the tuples that are keys -/
theorem rk_is (I : Inv X pins σ H s) : ∀ {kvs : List (D × D)} {q : List (D × V × V)} {xs : List (NestedKey × Addr × Value)}, kvs.all (fun p => p.1.key 8) = true → RK C.sa α H kvs q →
    Paired (fun (p : D × V × V) (r : NestedKey × Addr × Value) => p.1.isTup = true ∧ nk p.1 = r.1 ∧ p.2.1 = .ref r.2.1 ∧ RelV p.2.2 r.2.2) q xs → ∀ x ∈ xs, (nestedKind C.prog C.w).is s.heap x.1 x.2.1
  | _, _, _, _, .nil, .nil => fun x hx => by cases hx
  | _, _, _, hk, .cons h1 h2 r, .cons g t => fun x hx => by
    simp only [List.all_cons, Bool.and_eq_true] at hk
    rcases List.mem_cons.mp hx with e | hx
    · subst e
      simp only at g
      refine ⟨?_, ?_⟩
      · rw [← g.2.1]
        exact nk_is I 8 _ _ _ hk.1 h1 (by rw [g.2.2.1]; rfl)
      · rw [← g.2.1]
        exact nk_depth 8 _ hk.1
    · exact rk_is I hk.2 r t x hx
theorem DCell.ofH (I : Inv X pins σ H s) (d : DCell C α M H n a kvs q) {xs : List (NestedKey × Addr × Value)}
    (r : Paired (fun (p : D × V × V) (r : NestedKey × Addr × Value) => p.1.isTup = true ∧ nk p.1 = r.1 ∧ p.2.1 = .ref r.2.1 ∧ RelV p.2.2 r.2.2) q xs)
    (h : ∃ o es ep, s.heap.get? a = some o ∧ o.ExactDict ∧ o.data = .dict es ep ∧ es.toList = xs.map (entryOfKey (nestedKind C.prog C.w)) ∧ (xs.map (·.1)).Nodup) : s.heap.DictOfH (nestedKind C.prog C.w) a xs := by
  obtain ⟨o, es, ep, h1, h2, h3, h4, h5⟩ := h
  exact ⟨o, es, ep, h1, h2, h3, h4, rk_is I d.keys d.rk r, h5⟩
theorem key_ref {k : D} {y : V} (ht : k.isTup = true) (r : RD C.sa α H k y) : ∃ b, y = .ref b := by
  cases r with
  | tup _ _ => exact ⟨_, rfl⟩
  | _ => simp [D.isTup] at ht

/-- k in d, k not in d -/
theorem dic_in {Q : Value → Shared → Prop} (I : Inv X pins σ H s) (hP : X.prog = C.prog) (hw : X.w = C.w) (hu : A.units + 16 < cLine) (d : DCell C α M H n a kvs q) {k : D} {y : V} {u : Value} (hk : keyOk kvs k = true) (rk : RD C.sa α H k y) (ru : RelV y u) :
    ((∀ s', Inv X pins σ H s' → Q (.bool (dget k kvs).isSome) s') → wpAny (model X.prog X.w) A (compareOp .In u (.ref a)) Q E s) ∧
    ((∀ s', Inv X pins σ H s' → Q (.bool (!(dget k kvs).isSome)) s') → wpAny (model X.prog X.w) A (compareOp .NotIn u (.ref a)) Q E s) := by
  rw [hP, hw]
  cases ht : k.isTup with
  | false =>
    obtain ⟨vs, r, dd⟩ := d.flat I hP hk ht
    obtain ⟨l, hl⟩ := leafK_of ((keyOk_iff _ _).mp hk).1 ht
    have g := fp_get hl (fp_of d.rk r)
    have e : (valueAt vs l).isSome = (dget k kvs).isSome := by
      cases e1 : dget k kvs <;> cases e2 : valueAt vs l <;> rw [e1, e2] at g <;> first | rfl | exact g.elim
    refine ⟨fun h => wpAny_in_of (knd := flatKind C.prog C.w) (k := l) (flat_is hl rk ru) d.sm dd.mapOf ?_, fun h => wpAny_notIn_of (knd := flatKind C.prog C.w) (k := l) (flat_is hl rk ru) d.sm dd.mapOf ?_⟩ <;> (rw [e]; exact h _ (I.tok _))
  | true =>
    obtain ⟨xs, r, dd⟩ := d.tup I hP hk ht
    have hk8 := ((keyOk_iff _ _).mp hk).1
    obtain ⟨b, rfl⟩ := key_ref ht rk
    cases ru
    have g := tp_get hk8 d.keys (tp_of d.rk r)
    have e : (atKey xs (nk k)).isSome = (dget k kvs).isSome := by
      cases e1 : dget k kvs <;> cases e2 : atKey xs (nk k) <;> rw [e1, e2] at g <;> first | rfl | exact g.elim
    have hr : (nestedKind C.prog C.w).room A.in1 := by show A.units + 1 + 8 < cLine; omega
    have hi : (nestedKind C.prog C.w).is s.heap (nk k) b := ⟨nk_is I 8 k _ _ hk8 rk rfl, nk_depth 8 k hk8⟩
    refine ⟨fun h => wpAny_in_heap (knd := nestedKind C.prog C.w) (k := nk k) hr hi d.sm (d.ofH I r dd) ?_, fun h => wpAny_notIn_heap (knd := nestedKind C.prog C.w) (k := nk k) hr hi d.sm (d.ofH I r dd) ?_⟩ <;> (rw [e]; exact h _ (I.tok _))
/-- d[k], there -/
theorem dic_item {Q : Value → Shared → Prop} (I : Inv X pins σ H s) (hP : X.prog = C.prog) (hw : X.w = C.w) (hu : A.units + 16 < cLine) (d : DCell C α M H n a kvs q) {k v : D} {y : V} {u : Value} (hk : keyOk kvs k = true) (rk : RD C.sa α H k y) (ru : RelV y u) (hv : dget k kvs = some v)
    (h : ∀ z w' s', Inv X pins σ H s' → RD C.sa α H v z → RelV z w' → Q w' s') : wpAny (model X.prog X.w) A (getItem (.ref a) u) Q E s := by
  rw [hP, hw]
  cases ht : k.isTup with
  | false =>
    obtain ⟨vs, r, dd⟩ := d.flat I hP hk ht
    obtain ⟨l, hl⟩ := leafK_of ((keyOk_iff _ _).mp hk).1 ht
    have g := fp_get hl (fp_of d.rk r)
    rw [hv] at g
    cases e2 : valueAt vs l with
    | none => rw [e2] at g; exact g.elim
    | some x =>
      rw [e2] at g
      obtain ⟨z, g1, g2⟩ := g
      exact wpAny_getItem_of (knd := flatKind C.prog C.w) (k := l) (flat_is hl rk ru) dd.mapOf e2 (h z x _ (I.tok _) g1 g2)
  | true =>
    obtain ⟨xs, r, dd⟩ := d.tup I hP hk ht
    have hk8 := ((keyOk_iff _ _).mp hk).1
    obtain ⟨b, rfl⟩ := key_ref ht rk
    cases ru
    have g := tp_get hk8 d.keys (tp_of d.rk r)
    rw [hv] at g
    have hr : (nestedKind C.prog C.w).room A.in1 := by show A.units + 1 + 8 < cLine; omega
    have hi : (nestedKind C.prog C.w).is s.heap (nk k) b := ⟨nk_is I 8 k _ _ hk8 rk rfl, nk_depth 8 k hk8⟩
    cases e2 : atKey xs (nk k) with
    | none => rw [e2] at g; exact g.elim
    | some x =>
      rw [e2] at g
      obtain ⟨z, g1, g2⟩ := g
      exact wpAny_getItem_heap (knd := nestedKind C.prog C.w) (k := nk k) hr hi (d.ofH I r dd) e2 (h z x.2 _ (I.tok _) g1 g2)
/-- d.get(k), d.get(k, x) -/
theorem dic_get2 {Q : Value → Shared → Prop} (I : Inv X pins σ H s) (hP : X.prog = C.prog) (hw : X.w = C.w) (hu : A.units + 16 < cLine) (d : DCell C α M H n a kvs q) {k x : D} {y yx : V} {u ux : Value} (hk : keyOk kvs k = true) (rk : RD C.sa α H k y) (ru : RelV y u) (rx : RD C.sa α H x yx) (rux : RelV yx ux)
    (h : ∀ z w' s', Inv X pins σ H s' → RD C.sa α H ((dget k kvs).getD x) z → RelV z w' → Q w' s') : wpAny (model X.prog X.w) A (call (.builtin "dict.get") [.ref a, u, ux]) Q E s := by
  rw [hP, hw]
  cases ht : k.isTup with
  | false =>
    obtain ⟨vs, r, dd⟩ := d.flat I hP hk ht
    obtain ⟨l, hl⟩ := leafK_of ((keyOk_iff _ _).mp hk).1 ht
    have g := fp_get hl (fp_of d.rk r)
    refine call_meetsIn PySem.F.slot_dict_get dd.typeIs PySem.F.entry_dict_get (PySem.F.args_dict_get_3 _ _ _) (meets_dict_get_default (flatKind C.prog C.w) a (k := l) (flat_is hl rk ru) d.sm ux) ⟨_, dd.mapOf, ?_⟩
    cases e1 : dget k kvs <;> cases e2 : valueAt vs l <;> rw [e1, e2] at g
    · rw [e1] at h; exact h yx ux _ (I.tok _) rx rux
    · exact g.elim
    · exact g.elim
    · rw [e1] at h
      obtain ⟨z, g1, g2⟩ := g
      exact h z _ _ (I.tok _) g1 g2
  | true =>
    obtain ⟨xs, r, dd⟩ := d.tup I hP hk ht
    have hk8 := ((keyOk_iff _ _).mp hk).1
    obtain ⟨b, rfl⟩ := key_ref ht rk
    cases ru
    have g := tp_get hk8 d.keys (tp_of d.rk r)
    have hr : (nestedKind C.prog C.w).room A.in1 := by show A.units + 1 + 8 < cLine; omega
    have hi : (nestedKind C.prog C.w).is s.heap (nk k) b := ⟨nk_is I 8 k _ _ hk8 rk rfl, nk_depth 8 k hk8⟩
    refine call_meetsIn PySem.F.slot_dict_get (d.ofH I r dd).typeIs PySem.F.entry_dict_get (PySem.F.args_dict_get_3 _ _ _) (meetsH_dict_get_default (nestedKind C.prog C.w) a b d.sm ux) ⟨hr, nk k, xs, hi, d.ofH I r dd, ?_⟩
    cases e1 : dget k kvs <;> cases e2 : (atKey xs (nk k)).map (·.2) <;> rw [e1, e2] at g
    · rw [e1] at h; exact h yx ux _ (I.tok _) rx rux
    · exact g.elim
    · exact g.elim
    · rw [e1] at h
      obtain ⟨z, g1, g2⟩ := g
      exact h z _ _ (I.tok _) g1 g2
theorem dic_get {Q : Value → Shared → Prop} (I : Inv X pins σ H s) (hP : X.prog = C.prog) (hw : X.w = C.w) (hu : A.units + 16 < cLine) (d : DCell C α M H n a kvs q) {k : D} {y : V} {u : Value} (hk : keyOk kvs k = true) (rk : RD C.sa α H k y) (ru : RelV y u) (x : D) (hx : x = .non)
    (h : ∀ z w' s', Inv X pins σ H s' → RD C.sa α H ((dget k kvs).getD x) z → RelV z w' → Q w' s') : wpAny (model X.prog X.w) A (call (.builtin "dict.get") [.ref a, u]) Q E s := by
  subst hx
  rw [hP, hw]
  cases ht : k.isTup with
  | false =>
    obtain ⟨vs, r, dd⟩ := d.flat I hP hk ht
    obtain ⟨l, hl⟩ := leafK_of ((keyOk_iff _ _).mp hk).1 ht
    have g := fp_get hl (fp_of d.rk r)
    refine call_meetsIn PySem.F.slot_dict_get dd.typeIs PySem.F.entry_dict_get (PySem.F.args_dict_get_2 _ _) (meets_dict_get (flatKind C.prog C.w) a (k := l) (flat_is hl rk ru) d.sm) ⟨_, dd.mapOf, ?_⟩
    cases e1 : dget k kvs <;> cases e2 : valueAt vs l <;> rw [e1, e2] at g
    · rw [e1] at h; exact h .non .none _ (I.tok _) .non rfl
    · exact g.elim
    · exact g.elim
    · rw [e1] at h
      obtain ⟨z, g1, g2⟩ := g
      exact h z _ _ (I.tok _) g1 g2
  | true =>
    obtain ⟨xs, r, dd⟩ := d.tup I hP hk ht
    have hk8 := ((keyOk_iff _ _).mp hk).1
    obtain ⟨b, rfl⟩ := key_ref ht rk
    cases ru
    have g := tp_get hk8 d.keys (tp_of d.rk r)
    have hr : (nestedKind C.prog C.w).room A.in1 := by show A.units + 1 + 8 < cLine; omega
    have hi : (nestedKind C.prog C.w).is s.heap (nk k) b := ⟨nk_is I 8 k _ _ hk8 rk rfl, nk_depth 8 k hk8⟩
    refine call_meetsIn PySem.F.slot_dict_get (d.ofH I r dd).typeIs PySem.F.entry_dict_get (PySem.F.args_dict_get_2 _ _) (meetsH_dict_get (nestedKind C.prog C.w) a b d.sm) ⟨hr, nk k, xs, hi, d.ofH I r dd, ?_⟩
    cases e1 : dget k kvs <;> cases e2 : (atKey xs (nk k)).map (·.2) <;> rw [e1, e2] at g
    · rw [e1] at h; exact h .non .none _ (I.tok _) .non rfl
    · exact g.elim
    · exact g.elim
    · rw [e1] at h
      obtain ⟨z, g1, g2⟩ := g
      exact h z _ _ (I.tok _) g1 g2
end
end Pw

end
section
set_option maxHeartbeats 1000000
/-! Snd6: comparisons, and/or/not, conditionals, subscripts, slices. -/
namespace Pw
open PySem PySem.Spec PyProof.Rows L2

section
variable {C : PC} {k : Nat} {X : Cx}
theorem cmp_int {op : COp} {i j : Int} {M : Mem} {b : Bool} (h : cmpD M op (.int i) (.int j) = some b) (hl : op ≠ .ltl) (he : op ≠ .eq) (hn : op ≠ .ne) :
    (op = .lt ∧ b = decide (i < j)) ∨ (op = .le ∧ b = decide (i ≤ j)) ∨ (op = .gt ∧ b = decide (j < i)) ∨ (op = .ge ∧ b = decide (j ≤ i)) := by
  cases op <;> simp_all [cmpD, memD]
theorem cmp_ord {op : COp} (ho : op = .lt ∨ op = .le ∨ op = .gt ∨ op = .ge) {M : Mem} {d e : D} {b : Bool} (h : cmpD M op d e = some b) : ∃ i j, d = .int i ∧ e = .int j := by
  rcases ho with rfl | rfl | rfl | rfl <;> (cases d <;> cases e <;> first | (simp only [cmpD] at h; cases h; done) | exact ⟨_, _, rfl, rfl⟩)
theorem op_cmp (hP : X.prog = C.prog) (hK : X.K = C.K) (hw : X.w = C.w) (hr : Room k X.A) (op : COp) (hop : op ≠ .ltl) : OpR X (compareOp (cop op)) (rCmp C op) := by
  intro pins s σ H x y v u Q I rx ry h
  obtain ⟨α, M, d, e, b, S, rd, re, h, q⟩ := h
  have hu64 := hr.units
  have hu65 : X.A.units + 65 < cLine := by have := hr.un; omega
  have isin : ∀ {b : Bool}, memD M d e = some b → (∀ p kvs, e = .ref p → M[p]? ≠ some (.dic kvs)) → (Q (.bl b) H → wpAny (model X.prog X.w) X.A (compareOp .In v u) (EP X pins σ Q) X.xe s) ∧ (Q (.bl (!b)) H → wpAny (model X.prog X.w) X.A (compareOp .NotIn v u) (EP X pins σ Q) X.xe s) := by
    intro b hb nd
    rcases mem_cases S rd re hb nd with ⟨dd, es, h1, h2, h3, h4, h5⟩ | ⟨c, z, h1, h2, h3⟩
    · rw [← hK] at h1 h2
      rcases h2 with h2 | h2
      · exact ⟨fun q => op_inD hu65 pins s σ H x y v u Q I rx ry ⟨dd, es, h1, h2, h3, h4, by rw [h5]; exact q⟩, fun q => op_notInD hu65 pins s σ H x y v u Q I rx ry ⟨dd, es, h1, h2, h3, h4, by rw [h5]; exact q⟩⟩
      · exact ⟨fun q => op_inT hu65 pins s σ H x y v u Q I rx ry ⟨dd, es, h1, h2, h3, h4, by rw [h5]; exact q⟩, fun q => op_notInT hu65 pins s σ H x y v u Q I rx ry ⟨dd, es, h1, h2, h3, h4, by rw [h5]; exact q⟩⟩
    · exact ⟨fun q => op_in_sign pins s σ H x y v u Q I rx ry ⟨c, z, h1, h2, by rw [h3]; exact q⟩, fun q => op_notIn_sign pins s σ H x y v u Q I rx ry ⟨c, z, h1, h2, by rw [h3]; exact q⟩⟩
  have isinD : ∀ {p kvs}, e = .ref p → M[p]? = some (.dic kvs) → ∀ {b : Bool}, memD M d e = some b → (Q (.bl b) H → wpAny (model X.prog X.w) X.A (compareOp .In v u) (EP X pins σ Q) X.xe s) ∧ (Q (.bl (!b)) H → wpAny (model X.prog X.w) X.A (compareOp .NotIn v u) (EP X pins σ Q) X.xe s) := by
    intro p kvs e1 e2 b hb
    subst e1
    simp only [memD, e2] at hb
    split at hb
    · rename_i hk
      cases hb
      obtain ⟨a, q0, rfl, dc⟩ := S.dic e2 re
      cases ry
      have hu16 : X.A.units + 16 < cLine := by have := hr.un; omega
      have z := dic_in (Q := EP X pins σ Q) (E := X.xe) I hP hw hu16 dc hk rd rx
      exact ⟨fun q => z.1 fun s' I' => ⟨.bl _, H, I', rfl, q⟩, fun q => z.2 fun s' I' => ⟨.bl _, H, I', rfl, q⟩⟩
    · cases hb
  have isin2 : ∀ {b : Bool}, memD M d e = some b → (Q (.bl b) H → wpAny (model X.prog X.w) X.A (compareOp .In v u) (EP X pins σ Q) X.xe s) ∧ (Q (.bl (!b)) H → wpAny (model X.prog X.w) X.A (compareOp .NotIn v u) (EP X pins σ Q) X.xe s) := by
    intro b hb
    by_cases nd : ∀ p kvs, e = .ref p → M[p]? ≠ some (.dic kvs)
    · exact isin hb nd
    · have : ∃ p kvs, e = .ref p ∧ M[p]? = some (.dic kvs) := Classical.byContradiction fun z => nd fun p kvs h1 h2 => z ⟨p, kvs, h1, h2⟩
      obtain ⟨p, kvs, e1, e2⟩ := this
      exact isinD e1 e2 hb
  cases op with
  | ltl => exact absurd rfl hop
  | eq =>
    obtain ⟨dd, ee, h1, h2, h3, h4, h5⟩ := eq_rel S rd re (show eqD M d e = some b from h)
    rw [← hK] at h1 h2
    exact op_eqD hu64 pins s σ H x y v u Q I rx ry ⟨dd, ee, h1, h2, h3, h4, by rw [h5]; exact q⟩
  | ne =>
    obtain ⟨b', hb, rfl⟩ := Option.map_eq_some_iff.mp (show (eqD M d e).map (!·) = some b from h)
    obtain ⟨dd, ee, h1, h2, h3, h4, h5⟩ := eq_rel S rd re hb
    rw [← hK] at h1 h2
    exact op_neD hu64 pins s σ H x y v u Q I rx ry ⟨dd, ee, h1, h2, h3, h4, by rw [h5]; exact q⟩
  | lt =>
    obtain ⟨i, j, rfl, rfl⟩ := cmp_ord (by simp) h
    cases rd; cases re; cases h
    exact op_lt pins s σ H _ _ v u Q I rx ry ⟨i, j, rfl, rfl, q⟩
  | le =>
    obtain ⟨i, j, rfl, rfl⟩ := cmp_ord (by simp) h
    cases rd; cases re; cases h
    exact op_le pins s σ H _ _ v u Q I rx ry ⟨i, j, rfl, rfl, q⟩
  | gt =>
    obtain ⟨i, j, rfl, rfl⟩ := cmp_ord (by simp) h
    cases rd; cases re; cases h
    exact op_gt pins s σ H _ _ v u Q I rx ry ⟨i, j, rfl, rfl, q⟩
  | ge =>
    obtain ⟨i, j, rfl, rfl⟩ := cmp_ord (by simp) h
    cases rd; cases re; cases h
    exact op_ge pins s σ H _ _ v u Q I rx ry ⟨i, j, rfl, rfl, q⟩
  | isin => exact (isin2 (show memD M d e = some b from h)).1 q
  | notin =>
    obtain ⟨b', hb, rfl⟩ := Option.map_eq_some_iff.mp (show (memD M d e).map (!·) = some b from h)
    exact (isin2 hb).2 q
end

section
variable {C : PC} {k : Nat} {X : Cx} {F : FT} {a b c : Expr} {pos p2 : Pos}
theorem noSet {op : CmpOp} {b : Expr} (h : (match b with | .Set .. => true | _ => false) = false) : behindInMarks op b = false := by
  cases b <;> first | rfl | (simp only at h; cases h)
def isSet : Expr → Bool
  | .Set .. => true
  | _ => false
theorem noMark {op : CmpOp} {b : Expr} (h : isSet b = false) : behindInMarks op b = false := by
  cases b <;> first | rfl | exact absurd h (by simp [isSet])
variable {x y z : E}
theorem cmp_lift (op : COp) : ∀ σ H Q, tV C (evE F (.cmp op x y)) σ H Q → tOp (rCmp C op) (tV C (evE F x)) (tV C (evE F y)) σ H Q := by
  intro σ H Q h
  refine bin_lift (k := fun x y M => (cmpD M op x y).map fun r => (.bl r, M)) (fun α M d e z M' x y H Q S rd re h q => ?_) σ H Q ?_
  · obtain ⟨b, hb, e⟩ := Option.map_eq_some_iff.mp h
    cases e
    exact ⟨α, M, d, e, b, S, rd, re, hb, done S (.bl b) q⟩
  · simpa only [evE] using h
theorem le_cmp (hP : X.prog = C.prog) (hK : X.K = C.K) (hw : X.w = C.w) (hr : Room k X.A) (op : COp) (hop : op ≠ .ltl) (hs : isSet b = false) (ha : LE C X a (evE F x)) (hb : LE C X b (evE F y)) : LE C X (.Compare a [cop op] [b] pos) (evE F (.cmp op x y)) :=
  PE.imp (pe_cmpR (op_cmp hP hK hw hr op hop) ha hb (noMark hs)) (cmp_lift op)
/-- a test whose value is a bool -/
theorem test_bool {t : TE} {f : VEnv → Mem → R D} (ht : ∀ σ H Q, tV C f σ H Q → t σ H Q) (hb : ∀ ρ M d M', f ρ M = some (d, M') → ∃ b, d = .bl b) : ∀ σ H Q, tBo C (fun ρ M => truthR (f ρ M)) σ H Q → tTest t σ H Q := by
  rintro σ H Q ⟨α, ρ, M, b, M', s, e, h, q⟩
  obtain ⟨d, M1, h1, h⟩ := bnd_some_of h
  obtain ⟨b', rfl⟩ := hb _ _ _ _ h1
  have e2 : b' = b ∧ M1 = M' := by simpa [truth] using h
  obtain ⟨rfl, rfl⟩ := e2
  refine ht σ H _ ⟨α, ρ, M, .bl b', M1, s, e, h1, fun α' v H' t' s' r => ?_⟩
  cases r
  exact ⟨b', rfl, q α' H' t' s'⟩
theorem cmp_bool {op : COp} {ρ : VEnv} {M M' : Mem} {d : D} (h : evE F (.cmp op x y) ρ M = some (d, M')) : ∃ b, d = .bl b := by
  simp only [evE] at h
  obtain ⟨_, _, _, h⟩ := bnd_some_of h
  obtain ⟨_, _, _, h⟩ := bnd_some_of h
  obtain ⟨b, _, e⟩ := Option.map_eq_some_iff.mp h
  cases e
  exact ⟨b, rfl⟩
theorem lt_cmp (hP : X.prog = C.prog) (hK : X.K = C.K) (hw : X.w = C.w) (hr : Room k X.A) (op : COp) (hop : op ≠ .ltl) (hs : isSet b = false) (ha : LE C X a (evE F x)) (hb : LE C X b (evE F y)) : LT C X (.Compare a [cop op] [b] pos) (fun ρ M => truthR (evE F (.cmp op x y) ρ M)) :=
  PT.imp (pt_cmpR (op_cmp hP hK hw hr op hop) ha hb (noMark hs)) (test_bool (cmp_lift op) fun _ _ _ _ h => cmp_bool h)

/-! ### is None, is True -/
theorem RD.isnon {sa : Addr} {α : List Addr} {H : Hp} {d : D} {v : V} (r : RD sa α H d v) : decide (v = .non) = decide (d = .non) := by
  cases r <;> simp
theorem isN_lift : ∀ σ H Q, tV C (evE F (.isN x)) σ H Q → tIsN (tV C (evE F x)) σ H Q := by
  intro σ H Q h
  refine un_lift (r := fun v H Q => Q (.bl (decide (v = .non))) H) (k := fun x M => some (.bl (decide (x = .non)), M)) (fun α M d z M' x H Q S rd h q => ?_) σ H Q ?_
  · cases h
    show Q (.bl (decide (x = .non))) H
    rw [rd.isnon]
    exact done S (.bl _) q
  · simpa only [evE] using h
theorem notN_lift : ∀ σ H Q, tV C (evE F (.notN x)) σ H Q → tNotN (tV C (evE F x)) σ H Q := by
  intro σ H Q h
  refine un_lift (r := fun v H Q => Q (.bl (!decide (v = .non))) H) (k := fun x M => some (.bl (!decide (x = .non)), M)) (fun α M d z M' x H Q S rd h q => ?_) σ H Q ?_
  · cases h
    show Q (.bl (!decide (x = .non))) H
    rw [rd.isnon]
    exact done S (.bl _) q
  · simpa only [evE] using h
theorem ev_bool1 {f : D → Mem → R D} {e : R D} {d : D} {M' : Mem} (hf : ∀ x M d M', f x M = some (d, M') → ∃ b, d = .bl b) (h : bnd e f = some (d, M')) : ∃ b, d = .bl b := by
  obtain ⟨_, _, _, h⟩ := bnd_some_of h
  exact hf _ _ _ _ h
theorem isN_bool {ρ : VEnv} {M M' : Mem} {d : D} (h : evE F (.isN x) ρ M = some (d, M')) : ∃ b, d = .bl b := by
  simp only [evE] at h; exact ev_bool1 (fun _ _ _ _ h => by cases h; exact ⟨_, rfl⟩) h
theorem notN_bool {ρ : VEnv} {M M' : Mem} {d : D} (h : evE F (.notN x) ρ M = some (d, M')) : ∃ b, d = .bl b := by
  simp only [evE] at h; exact ev_bool1 (fun _ _ _ _ h => by cases h; exact ⟨_, rfl⟩) h
theorem le_isN {j : Nat} (ha : LE C X a (evE F x)) : LE C X (.Compare a [.Is] [.Constant .none j p2] pos) (evE F (.isN x)) := PE.imp (pe_cmp (pc_isN ha)) isN_lift
theorem le_notN {j : Nat} (ha : LE C X a (evE F x)) : LE C X (.Compare a [.IsNot] [.Constant .none j p2] pos) (evE F (.notN x)) := PE.imp (pe_cmp (pc_notN ha)) notN_lift
theorem lt_isN {j : Nat} (ha : LE C X a (evE F x)) : LT C X (.Compare a [.Is] [.Constant .none j p2] pos) (fun ρ M => truthR (evE F (.isN x) ρ M)) := PT.imp (pt_cmp (pc_isN ha)) (test_bool isN_lift fun _ _ _ _ h => isN_bool h)
theorem lt_notN {j : Nat} (ha : LE C X a (evE F x)) : LT C X (.Compare a [.IsNot] [.Constant .none j p2] pos) (fun ρ M => truthR (evE F (.notN x) ρ M)) := PT.imp (pt_cmp (pc_notN ha)) (test_bool notN_lift fun _ _ _ _ h => notN_bool h)

/-! ### and, or, not, if-else -/
theorem pt_ifT {t : TT} {u v : TT} (hc : PT X c t) (ha : PT X a u) (hb : PT X b v) : PT X (.IfExp c a b pos) (fun σ H Q => t σ H fun k H1 => if k = true then u σ H1 Q else v σ H1 Q) := by
  refine ⟨fun pins s σ H Q I h => ?_⟩
  show wpAny _ _ (do if ← isTrue c X.env (eval c X.env) then isTrue a X.env (eval a X.env) else isTrue b X.env (eval b X.env)) _ _ _
  refine wpAny_bind (thn (hc.run pins s σ H _ I h) fun d s1 ⟨H1, I1, q1⟩ => ?_)
  cases d with
  | true => exact ha.run pins s1 σ H1 Q I1 q1
  | false => exact hb.run pins s1 σ H1 Q I1 q1
theorem le_no (hK : X.K = C.K) (ha : LE C X a (evE F x)) : LE C X (.UnaryOp .Not a pos) (evE F (.no x)) := by
  refine PE.imp (pe_notT ha) ?_
  intro σ H Q h
  refine un_lift (r := fun v H Q => ∃ k, TruV X.K v H k ∧ Q (.bl (!k)) H) (k := fun x M => (truth M x).map fun b => (.bl (!b), M)) (fun α M d z M' x H Q S rd h q => ?_) σ H Q ?_
  · obtain ⟨b, hb, e⟩ := Option.map_eq_some_iff.mp h
    cases e
    exact ⟨b, by rw [hK]; exact S.truth rd hb, done S (.bl _) q⟩
  · simpa only [evE] using h
theorem lt_no {fa : VEnv → Mem → R D} (ha : LT C X a (fun ρ M => truthR (fa ρ M))) : LT C X (.UnaryOp .Not a pos) (fun ρ M => truthR (bnd (fa ρ M) fun x M => (truth M x).map fun b => (.bl (!b), M))) := by
  refine PT.imp (pt_not ha) ?_
  rintro σ H Q ⟨α, ρ, M, k, M', s, e, h, q⟩
  obtain ⟨x, M1, h1, h⟩ := bnd_some_of h
  obtain ⟨y, M2, h2, h1⟩ := bnd_some_of h1
  obtain ⟨b, hb, e2⟩ := Option.map_eq_some_iff.mp h1
  cases e2
  have e3 : (!b) = k ∧ M1 = M' := by simpa [truth] using h
  obtain ⟨rfl, rfl⟩ := e3
  exact ⟨α, ρ, M, b, _, s, e, by show bnd (fa ρ M) _ = _; rw [h2]; show (truth M1 y).map _ = _; rw [hb]; rfl, q⟩
/-- the value of 'and', of 'or', by what is written on -/
def evAnd (fa fb : VEnv → Mem → R D) : VEnv → Mem → R D := fun ρ M => bnd (fa ρ M) fun x M => match truth M x with
  | some true => fb ρ M
  | some false => some (x, M)
  | none => none
def evOr (fa fb : VEnv → Mem → R D) : VEnv → Mem → R D := fun ρ M => bnd (fa ρ M) fun x M => match truth M x with
  | some true => some (x, M)
  | some false => fb ρ M
  | none => none
variable {fa fb fc : VEnv → Mem → R D} {rest : List Expr}
theorem le_and (hK : X.K = C.K) (ha : LE C X a fa) (hb : LE C X (.BoolOp .And (b :: rest) pos) fb) : LE C X (.BoolOp .And (a :: b :: rest) pos) (evAnd fa fb) := by
  refine PE.imp (pe_andT ha hb) ?_
  rintro σ H Q ⟨α, ρ, M, d, M', s, e, h, q⟩
  obtain ⟨x, M1, h1, h⟩ := bnd_some_of h
  refine ⟨α, ρ, M, x, M1, s, e, h1, fun α1 v1 H1 t1 s1 r1 => ?_⟩
  split at h
  · rename_i ht
    exact ⟨true, by rw [hK]; exact s1.truth r1 ht, by rw [if_pos rfl]; exact ⟨α1, ρ, M1, d, M', s1, e.mono s t1, h, fun α2 v2 H2 t2 => q α2 v2 H2 (t1.trans t2)⟩⟩
  · rename_i ht
    cases h
    exact ⟨false, by rw [hK]; exact s1.truth r1 ht, by rw [if_neg Bool.false_ne_true]; exact q _ _ _ t1 s1 r1⟩
  · cases h
theorem le_or (hK : X.K = C.K) (ha : LE C X a fa) (hb : LE C X (.BoolOp .Or (b :: rest) pos) fb) : LE C X (.BoolOp .Or (a :: b :: rest) pos) (evOr fa fb) := by
  refine PE.imp (pe_orT ha hb) ?_
  rintro σ H Q ⟨α, ρ, M, d, M', s, e, h, q⟩
  obtain ⟨x, M1, h1, h⟩ := bnd_some_of h
  refine ⟨α, ρ, M, x, M1, s, e, h1, fun α1 v1 H1 t1 s1 r1 => ?_⟩
  split at h
  · rename_i ht
    cases h
    exact ⟨true, by rw [hK]; exact s1.truth r1 ht, by rw [if_pos rfl]; exact q _ _ _ t1 s1 r1⟩
  · rename_i ht
    exact ⟨false, by rw [hK]; exact s1.truth r1 ht, by rw [if_neg Bool.false_ne_true]; exact ⟨α1, ρ, M1, d, M', s1, e.mono s t1, h, fun α2 v2 H2 t2 => q α2 v2 H2 (t1.trans t2)⟩⟩
  · cases h
abbrev LW (C : PC) (X : Cx) (e : Expr) (f : VEnv → Mem → R Bool) : Prop := PW X e (tBo C f)
theorem PW.imp {e : Expr} {t t' : TT} (h : PW X e t) (hi : ∀ σ H Q, t' σ H Q → t σ H Q) : PW X e t' := ⟨fun wh pins s σ H Q I q => h.run wh pins s σ H Q I (hi σ H Q q)⟩
theorem and_lift : ∀ σ H Q, tBo C (fun ρ M => truthR (evAnd fa fb ρ M)) σ H Q → tAnd (tBo C fun ρ M => truthR (fa ρ M)) (tBo C fun ρ M => truthR (fb ρ M)) σ H Q := by
  rintro σ H Q ⟨α, ρ, M, d, M', s, e, h, q⟩
  obtain ⟨x, M1, h1, h⟩ := bnd_some_of h
  obtain ⟨y, M2, h2, h1⟩ := bnd_some_of h1
  split at h1
  · rename_i ht
    refine ⟨α, ρ, M, true, M2, s, e, by show bnd (fa ρ M) _ = _; rw [h2]; show (truth M2 y).map _ = _; rw [ht]; rfl, fun α1 H1 t1 s1 => ?_⟩
    simp only [if_true]
    exact ⟨α1, ρ, M2, d, M', s1, e.mono s t1, by show bnd (fb ρ M2) _ = _; rw [h1]; exact h, fun α2 H2 t2 => q α2 H2 (t1.trans t2)⟩
  · rename_i ht
    cases h1
    have e3 : d = false ∧ M1 = M' := by rw [ht] at h; simpa [eq_comm] using h
    obtain ⟨rfl, rfl⟩ := e3
    refine ⟨α, ρ, M, false, M1, s, e, by show bnd (fa ρ M) _ = _; rw [h2]; show (truth M1 x).map _ = _; rw [ht]; rfl, fun α1 H1 t1 s1 => ?_⟩
    simp only [Bool.false_eq_true, if_false]
    exact q α1 H1 t1 s1
  · cases h1
theorem or_lift : ∀ σ H Q, tBo C (fun ρ M => truthR (evOr fa fb ρ M)) σ H Q → tOr (tBo C fun ρ M => truthR (fa ρ M)) (tBo C fun ρ M => truthR (fb ρ M)) σ H Q := by
  rintro σ H Q ⟨α, ρ, M, d, M', s, e, h, q⟩
  obtain ⟨x, M1, h1, h⟩ := bnd_some_of h
  obtain ⟨y, M2, h2, h1⟩ := bnd_some_of h1
  split at h1
  · rename_i ht
    cases h1
    have e3 : d = true ∧ M1 = M' := by rw [ht] at h; simpa [eq_comm] using h
    obtain ⟨rfl, rfl⟩ := e3
    refine ⟨α, ρ, M, true, M1, s, e, by show bnd (fa ρ M) _ = _; rw [h2]; show (truth M1 x).map _ = _; rw [ht]; rfl, fun α1 H1 t1 s1 => ?_⟩
    simp only [if_true]
    exact q α1 H1 t1 s1
  · rename_i ht
    refine ⟨α, ρ, M, false, M2, s, e, by show bnd (fa ρ M) _ = _; rw [h2]; show (truth M2 y).map _ = _; rw [ht]; rfl, fun α1 H1 t1 s1 => ?_⟩
    simp only [Bool.false_eq_true, if_false]
    exact ⟨α1, ρ, M2, d, M', s1, e.mono s t1, by show bnd (fb ρ M2) _ = _; rw [h1]; exact h, fun α2 H2 t2 => q α2 H2 (t1.trans t2)⟩
  · cases h1
theorem lw_one {op : BoolOp} (ha : LT C X a (fun ρ M => truthR (fa ρ M))) : LW C X (.BoolOp op [a] pos) (fun ρ M => truthR (fa ρ M)) := by
  cases op with
  | And => exact pw_and1 ha
  | Or => exact pw_or1 ha
theorem lw_and (ha : LT C X a (fun ρ M => truthR (fa ρ M))) (hb : LW C X (.BoolOp .And (b :: rest) pos) (fun ρ M => truthR (fb ρ M))) : LW C X (.BoolOp .And (a :: b :: rest) pos) (fun ρ M => truthR (evAnd fa fb ρ M)) := PW.imp (pw_and ha hb) and_lift
theorem lw_or (ha : LT C X a (fun ρ M => truthR (fa ρ M))) (hb : LW C X (.BoolOp .Or (b :: rest) pos) (fun ρ M => truthR (fb ρ M))) : LW C X (.BoolOp .Or (a :: b :: rest) pos) (fun ρ M => truthR (evOr fa fb ρ M)) := PW.imp (pw_or ha hb) or_lift
def evIf (fc fa fb : VEnv → Mem → R D) : VEnv → Mem → R D := fun ρ M => bnd (fc ρ M) fun x M => match truth M x with
  | some true => fa ρ M
  | some false => fb ρ M
  | none => none
theorem le_ite (hc : LT C X c (fun ρ M => truthR (fc ρ M))) (ha : LE C X a fa) (hb : LE C X b fb) : LE C X (.IfExp c a b pos) (evIf fc fa fb) := by
  refine PE.imp (pe_ifExp hc ha hb) ?_
  rintro σ H Q ⟨α, ρ, M, d, M', s, e, h, q⟩
  obtain ⟨x, M1, h1, h⟩ := bnd_some_of h
  split at h
  · rename_i ht
    refine ⟨α, ρ, M, true, M1, s, e, by show bnd (fc ρ M) _ = _; rw [h1]; show (truth M1 x).map _ = _; rw [ht]; rfl, fun α1 H1 t1 s1 => ?_⟩
    simp only [if_true]
    exact ⟨α1, ρ, M1, d, M', s1, e.mono s t1, h, fun α2 v2 H2 t2 => q α2 v2 H2 (t1.trans t2)⟩
  · rename_i ht
    refine ⟨α, ρ, M, false, M1, s, e, by show bnd (fc ρ M) _ = _; rw [h1]; show (truth M1 x).map _ = _; rw [ht]; rfl, fun α1 H1 t1 s1 => ?_⟩
    simp only [Bool.false_eq_true, if_false]
    exact ⟨α1, ρ, M1, d, M', s1, e.mono s t1, h, fun α2 v2 H2 t2 => q α2 v2 H2 (t1.trans t2)⟩
  · cases h
theorem lt_ite (hc : LT C X c (fun ρ M => truthR (fc ρ M))) (ha : LT C X a (fun ρ M => truthR (fa ρ M))) (hb : LT C X b (fun ρ M => truthR (fb ρ M))) : LT C X (.IfExp c a b pos) (fun ρ M => truthR (evIf fc fa fb ρ M)) := by
  refine PT.imp (pt_ifT hc ha hb) ?_
  rintro σ H Q ⟨α, ρ, M, d, M', s, e, h, q⟩
  obtain ⟨z, M2, h2, h⟩ := bnd_some_of h
  obtain ⟨x, M1, h1, h2⟩ := bnd_some_of h2
  split at h2
  · rename_i ht
    refine ⟨α, ρ, M, true, M1, s, e, by show bnd (fc ρ M) _ = _; rw [h1]; show (truth M1 x).map _ = _; rw [ht]; rfl, fun α1 H1 t1 s1 => ?_⟩
    simp only [if_true]
    exact ⟨α1, ρ, M1, d, M', s1, e.mono s t1, by show bnd (fa ρ M1) _ = _; rw [h2]; exact h, fun α2 H2 t2 => q α2 H2 (t1.trans t2)⟩
  · rename_i ht
    refine ⟨α, ρ, M, false, M1, s, e, by show bnd (fc ρ M) _ = _; rw [h1]; show (truth M1 x).map _ = _; rw [ht]; rfl, fun α1 H1 t1 s1 => ?_⟩
    simp only [Bool.false_eq_true, if_false]
    exact ⟨α1, ρ, M1, d, M', s1, e.mono s t1, by show bnd (fb ρ M1) _ = _; rw [h2]; exact h, fun α2 H2 t2 => q α2 H2 (t1.trans t2)⟩
  · cases h2
theorem le_neg (ha : LE C X a (evE F x)) : LE C X (.UnaryOp .USub a pos) (evE F (.neg x)) := by
  refine PE.imp (pe_un un_neg ha) ?_
  intro σ H Q h
  refine un_lift (r := rU fun i => .int (-i)) (k := fun x M => match x with | .int i => some (.int (-i), M) | _ => none) (fun α M d z M' x H Q S rd h q => ?_) σ H Q ?_
  · cases rd <;> try (cases h; done)
    cases h
    exact ⟨_, rfl, done S (.int _) q⟩
  · simp only [evE] at h
    exact h
end
end Pw

end
section
set_option maxHeartbeats 1000000
/-! Snd7: subscripts, slices, attributes. -/
namespace Pw
open PySem PySem.Spec PyProof.Rows L2

theorem pyIx_ixN (n : Nat) (i : Int) : pyIx n i = ixN n i := by
  unfold pyIx ixN
  by_cases h : 0 ≤ i
  · rw [if_pos h, if_pos h]
  · rw [if_neg h, if_neg h]
    by_cases h2 : 0 ≤ i + n
    · rw [if_pos h2, if_pos (by omega)]
    · rw [if_neg h2, if_neg (by omega)]
theorem atI_of {α : Type} {xs : List α} {i : Int} {k : Nat} {v : α} {n : Nat} (hn : n = xs.length) (h : pyIx n i = some k) (h2 : xs[k]? = some v) : atI xs i = some v := by
  subst hn
  unfold atI
  rw [← pyIx_ixN, h]
  exact h2
theorem clamp_sIx (n : Nat) (i : Int) (d : Nat) : clampIx n i = HT.sIx n d (some i) := rfl
theorem lo_sIx (n : Nat) (lo : Option Int) : loIx n lo = HT.sIx n 0 lo := by cases lo <;> rfl
theorem hi_sIx (n : Nat) (hi : Option Int) : hiIx n hi = HT.sIx n n hi := by cases hi <;> rfl
theorem RDs.cut {sa : Addr} {α : List Addr} {H : Hp} {ds : List D} {vs : List V} (r : RDs sa α H ds vs) (lo hi : Option Int) : RDs sa α H (cutL ds lo hi) (cutV vs lo hi) := by
  unfold cutL cutV
  rw [lo_sIx, hi_sIx, r.length]
  exact (r.drop _).take _

section
variable {C : PC} {k : Nat} {S : Sx} {X : Cx} {F : FT} {a b c : Expr} {pos p2 : Pos} {x y z : E}
/-- what a subscript of the evaluator asks, by values -/
def rIdx (C : PC) : R2 := fun x y H Q => ∃ α M d e r, RS C α M H ∧ RD C.sa α H d x ∧ RD C.sa α H e y ∧ idxD C.P M d e = some r ∧ ∀ v, RD C.sa α H r v → Q v H
theorem ix_any (hP : X.prog = C.prog) (hK : X.K = C.K) (hw : X.w = C.w) (hr : Room k X.A) : IxR X (rIdx C) := by
  intro value slice pins s σ H x y v u Q I rx ry h hs
  obtain ⟨α, M, d, e, r, S, rd, re, h, q⟩ := h
  cases rd with
  | @tup a ds vs ha rs =>
    simp only [idxD] at h
    cases e with
    | int i =>
      cases re
      simp only at h
      split at h
      · rename_i j hj
        obtain ⟨w, h1, h2⟩ := rs.get h
        exact ix_tup value slice pins s σ H _ _ v u Q I rx ry ⟨a, vs, i, w, rfl, rfl, .inl (.inl ha), atI_of rs.length hj h1, q w h2⟩ hs
      · cases h
    | _ => cases h
  | @str t ht =>
    simp only [idxD] at h
    cases e with
    | int i =>
      cases re
      simp only at h
      split at h
      · rename_i h0
        obtain ⟨c, hc, e⟩ := Option.map_eq_some_iff.mp h
        subst e
        refine ix_str value slice pins s σ H _ _ v u Q I rx ry ⟨_, i, c.toNat, rfl, rfl, by rw [ofString_length, line_eq]; exact ht, ?_, ?_⟩ hs
        · rw [ofString_cps]
          have hl : i.toNat < t.toList.length := (List.getElem?_eq_some_iff.mp hc).1
          refine atI_of (k := i.toNat) rfl ?_ (by rw [List.getElem?_map, hc]; rfl)
          unfold pyIx
          rw [if_pos h0, if_pos (by rw [List.length_map]; omega)]
        · have e2 : Str.ofString (String.ofList [c]) = ⟨#[c.toNat]⟩ := by rw [ofString_ofList]; rfl
          rw [← e2]
          exact q _ (.str (by simp [lenS, LIM]))
      · cases h
    | _ => cases h
  | @ref n a ha =>
    simp only [idxD] at h
    cases e1 : M[n]? with
    | none => rw [e1] at h; cases h
    | some o =>
      rw [e1] at h
      cases o with
      | lst xs =>
        obtain ⟨a', vs, q1, q2, q3, rs⟩ := S.lst (v := .ref a) e1 (.ref ha)
        cases q1
        cases e with
        | int i =>
          cases re
          simp only at h
          split at h
          · rename_i j hj
            obtain ⟨w, h1, h2⟩ := rs.get h
            exact ix_list value slice pins s σ H _ _ v u Q I rx ry ⟨a, vs, i, w, rfl, rfl, .inl (.inl q3), atI_of rs.length hj h1, q w h2⟩ hs
          · cases h
        | _ => cases h
      | dic kvs =>
        simp only at h
        split at h
        · rename_i hk
          obtain ⟨a', q0, q1, dc⟩ := S.dic (v := .ref a) e1 (.ref ha)
          cases q1
          cases rx
          have hu16 : X.A.units + 16 < cLine := by have := hr.un; omega
          refine tail_any (T := "dict") ?_ PySem.F.slot_dict_getitem.lookup (dic_item I hP hw hu16 dc hk re ry h fun z w' s' I' rz rw' => ⟨z, H, I', rw', q z rz⟩) hs
          obtain ⟨o, ho, hx⟩ := (dc.at I hP).exact
          exact ⟨o, ho, hx.1⟩
        · cases h
      | ins _ _ => cases h
  | scr =>
    simp only [idxD] at h
    cases e with
    | int i =>
      cases re
      simp only at h
      split at h
      · rename_i h0
        obtain ⟨j, hj, e⟩ := Option.map_eq_some_iff.mp h
        subst e
        have hl : i.toNat < C.P.script.length := (List.getElem?_eq_some_iff.mp hj).1
        refine ix_list value slice pins s σ H _ _ v u Q I rx ry ⟨C.sa, C.P.script.map V.int, i, .int j, rfl, rfl, by rw [hK]; exact S.script, ?_, q _ (.int j)⟩ hs
        refine atI_of (k := i.toNat) rfl ?_ (by rw [List.getElem?_map, hj]; rfl)
        unfold pyIx
        rw [if_pos h0, if_pos (by rw [List.length_map]; omega)]
      · cases h
    | _ => cases h
  | _ => simp only [idxD] at h; cases h
def notSlice : Expr → Bool
  | .Slice .. => false
  | _ => true
theorem plainIx {b : Expr} (h : notSlice b = true) : PlainIx b := by
  intro o i
  cases b <;> first | rfl | (rename_i st _; cases st <;> first | rfl | exact absurd h (by simp [notSlice])) | exact absurd h (by simp [notSlice])
theorem le_idx (hP : X.prog = C.prog) (hK : X.K = C.K) (hw : X.w = C.w) (hr : Room k X.A) (hs : notSlice b = true) (ha : LE C X a (evE F x)) (hb : LE C X b (evE F y)) (hF : F.P = C.P) : LE C X (.Subscript a b pos) (evE F (.idx x y)) := by
  refine PE.imp (pe_ix (ix_any hP hK hw hr) ha hb (plainIx hs)) ?_
  intro σ H Q h
  refine bin_lift (k := fun x y M => (idxD F.P M x y).map fun r => (r, M)) (fun α M d e z M' x y H Q S rd re h q => ?_) σ H Q ?_
  · obtain ⟨b, hb, e⟩ := Option.map_eq_some_iff.mp h
    cases e
    exact ⟨α, M, d, _, _, S, rd, re, by rw [← hF]; exact hb, fun v rv => done S rv q⟩
  · simp only [evE] at h
    exact h

/-! ### slices -/
def rSli (C : PC) : V → Option Int → Option Int → Hp → VK → Prop := fun x lo hi H Q => ∃ α M d z M', RS C α M H ∧ RD C.sa α H d x ∧ sliceD M d lo hi = some (z, M') ∧ ∀ α' v H', Step α α' H H' → RS C α' M' H' → RD C.sa α' H' z v → Q v H'
theorem cutS_of (s : String) (lo hi : Option Int) : Str.ofString (String.ofList (cutL s.toList lo hi)) = cutS (Str.ofString s) lo hi := by
  rw [ofString_ofList]
  unfold cutS cutL
  rw [lo_sIx, hi_sIx, ofString_cps, ofString_length]
  simp [List.map_take, List.map_drop, lenS]
theorem cutL_len {α : Type} (xs : List α) (lo hi : Option Int) : (cutL xs lo hi).length ≤ xs.length := by
  unfold cutL
  rw [List.length_take, List.length_drop]
  omega
theorem sl_any (hK : X.K = C.K) : SlR X (rSli C) := by
  intro pins s σ H x v vl vu lo hi sl Q I rx hs pl pu h
  obtain ⟨α, M, d, z, M', S, rd, h, q⟩ := h
  cases rd with
  | @tup a ds vs ha rs =>
    simp only [sliceD] at h
    cases h
    refine sl_tupA pins s σ H _ v vl vu lo hi sl Q I rx hs pl pu ⟨a, vs, rfl, .inl (.inl ha), fun hw => ?_, fun _ p hp => done_tup S (rs.cut lo hi) hp q⟩
    have e3 : cutL ds lo hi = ds := by
      unfold cutL
      rw [lo_sIx, hi_sIx, rs.length, hw.1, hw.2, ← rs.length]
      simp
    rw [e3] at q
    exact done S (.tup ha rs) q
  | @str t ht =>
    simp only [sliceD] at h
    cases h
    refine sl_str pins s σ H _ v vl vu lo hi sl Q I rx hs pl pu ⟨_, rfl, by rw [ofString_length, line_eq]; exact ht, ?_⟩
    rw [← cutS_of]
    refine done S (.str ?_) q
    refine Nat.le_trans ?_ ht
    simp only [lenS, String.toList_ofList]
    exact cutL_len _ _ _
  | @ref n a ha =>
    simp only [sliceD] at h
    cases e3 : M[n]? with
    | none => rw [e3] at h; cases h
    | some o =>
      rw [e3] at h
      cases o with
      | lst xs =>
        cases h
        obtain ⟨a', vs, q1, q2, q3, rs⟩ := S.lst (v := .ref a) e3 (.ref ha)
        cases q1
        exact sl_list pins s σ H _ v vl vu lo hi sl Q I rx hs pl pu ⟨a, vs, rfl, .inl (.inl q3), fun p hp => done_lst S (rs.cut lo hi) hp q⟩
      | dic _ => cases h
      | ins _ _ => cases h
  | _ => simp only [sliceD] at h; cases h
/-- a part of a slice: left out (the evaluator's None), or an expression -/
def LO (C : PC) (X : Cx) (F : FT) (o : Option Expr) (x : E) : Prop := ∃ t, PO X o t ∧ ∀ σ H Q, (∃ α ρ M d M' i, RS C α M H ∧ RE C.sa α H ρ σ ∧ evE F x ρ M = some (d, M') ∧ partE x d = some i ∧ ∀ α' H', Step α α' H H' → RS C α' M' H' → Q i H') → t σ H Q
theorem lo_none : LO C X F none .non := by
  refine ⟨_, po_none, ?_⟩
  rintro σ H Q ⟨α, ρ, M, d, M', i, s, e, h, ho, q⟩
  simp only [evE] at h
  cases h
  cases ho
  exact q α H (Step.refl _ _) s
theorem part_int {x : E} {d : D} {i : Option Int} (hx : x ≠ .non) (h : partE x d = some i) : ∃ j, d = .int j ∧ i = some j := by
  cases d with
  | int j =>
    refine ⟨j, rfl, ?_⟩
    cases x <;> first | exact absurd rfl hx | (simp [partE] at h; exact h.symm)
  | _ => cases x <;> first | exact absurd rfl hx | (simp [partE] at h; done)
theorem lo_some (ha : LE C X a (evE F x)) (hx : x ≠ .non) : LO C X F (some a) x := by
  refine ⟨_, po_some ha, ?_⟩
  rintro σ H Q ⟨α, ρ, M, d, M', i, s, e, h, ho, q⟩
  refine ⟨α, ρ, M, d, M', s, e, h, fun α' v H' t' s' r' => ?_⟩
  obtain ⟨j, rfl, rfl⟩ := part_int hx ho
  cases r'
  exact ⟨j, rfl, q α' H' t' s'⟩
theorem le_slice {lo hi : Option Expr} (hK : X.K = C.K) (ha : LE C X a (evE F x)) (hl : LO C X F lo y) (hh : LO C X F hi z) : LE C X (.Subscript a (.Slice lo hi none p2) pos) (evE F (.slice x y z)) := by
  obtain ⟨tl, h1, l1⟩ := hl
  obtain ⟨th, h2, l2⟩ := hh
  refine PE.imp (pe_slice (sl_any hK) ha h1 h2) ?_
  rintro σ H Q ⟨α, ρ, M, d, M', s, e, h, q⟩
  simp only [evE] at h
  obtain ⟨dx, M1, g1, h⟩ := bnd_some_of h
  obtain ⟨dl, M2, g2, h⟩ := bnd_some_of h
  obtain ⟨dh, M3, g3, h⟩ := bnd_some_of h
  split at h
  · rename_i i j e1 e2
    refine ⟨α, ρ, M, dx, M1, s, e, g1, fun α1 v1 H1 t1 s1 r1 => ?_⟩
    refine l1 _ _ _ ⟨α1, ρ, M1, dl, M2, i, s1, e.mono s t1, g2, e1, fun α2 H2 t2 s2 => ?_⟩
    refine l2 _ _ _ ⟨α2, ρ, M2, dh, M3, j, s2, (e.mono s t1).mono s1 t2, g3, e2, fun α3 H3 t3 s3 => ?_⟩
    exact ⟨α3, M3, dx, d, M', s3, (r1.mono s1 t2).mono s2 t3, h, fun α4 v4 H4 t4 => q α4 v4 H4 (((t1.trans t2).trans t3).trans t4)⟩
  · cases h

/-! ### attributes, globals, calls -/
theorem RF.look {sa : Addr} {α : List Addr} {H : Hp} {f : String} : ∀ {fs : List (String × D)} {vs : List (Str × V)}, RF sa α H fs vs → (∀ d, fget f fs = some d → ∃ v, vs.lookup (Str.ofString f) = some v ∧ RD sa α H d v) ∧ (fget f fs = none → vs.lookup (Str.ofString f) = none)
  | _, _, .nil => ⟨fun d h => by simp [fget] at h, fun _ => rfl⟩
  | _, _, .cons (f := g) (d := e) (v := w) h r => by
    have ih := RF.look (f := f) r
    by_cases hg : g = f
    · subst hg
      refine ⟨fun d hd => ⟨w, by simp [List.lookup_cons], ?_⟩, fun hn => by simp [fget] at hn⟩
      simp [fget] at hd
      exact hd ▸ h
    · have hne : (Str.ofString f == Str.ofString g) = false := by
        rw [beq_eq_false_iff_ne]
        exact fun e => hg (ofString_inj e).symm
      simp only [fget, if_neg hg, List.lookup_cons, hne]
      exact ih
def notSuper : Expr → Bool
  | .Call (.Name _ _) [] [] _ => false
  | _ => true
theorem attrBase {o : Expr} (h : notSuper o = true) (attr : Str) (env : Env) (whole : Sem Value) : attributeBase o attr env whole = whole := by
  cases o with
  | Call f es ks p => cases f <;> first | rfl | (cases es <;> first | rfl | (cases ks <;> first | rfl | exact absurd h (by simp [notSuper])))
  | _ => rfl
theorem RS.ins {α : List Addr} {M : Mem} {H : Hp} (s : RS C α M H) {n : Nat} {c : String} {fs : List (String × D)} (h : M[n]? = some (.ins c fs)) {v : V} (r : RD C.sa α H (.ref n) v) :
    ∃ a Ca dx vs, v = .ref a ∧ α[n]? = some a ∧ H a = some (.ins Ca dx vs) ∧ C.ca c = some Ca ∧ RF C.sa α H fs vs := by
  cases r with
  | ref e =>
    obtain ⟨a, ho, h1, h2, r⟩ := s.ob n _ h
    rw [e] at h1; cases h1
    cases r with
    | ins g1 g2 => exact ⟨_, _, _, _, rfl, e, h2, g1, g2⟩
/-- the classes: none of them has the attribute f -/
structure AtOk (C : PC) (f : String) : Prop where
  ok : ∀ c Ca, C.ca c = some Ca → Cls C.K Ca ∧ NoAttr C.K Ca (Str.ofString f)
theorem le_attr {f : String} (hK : X.K = C.K) (hs : notSuper a = true) (hf : AtOk C f) (ha : LE C X a (evE F x)) : LE C X (.Attribute a (Str.ofString f) pos) (evE F (.attr x f)) := by
  refine PE.imp (pe_fld ha (attrBase hs _ _ _)) ?_
  rintro σ H Q ⟨α, ρ, M, d, M', s, e, h, q⟩
  simp only [evE] at h
  obtain ⟨dx, M1, g1, h⟩ := bnd_some_of h
  refine ⟨α, ρ, M, dx, M1, s, e, g1, fun α1 v1 H1 t1 s1 r1 => ?_⟩
  cases dx with
  | ref p =>
    simp only at h
    cases e1 : M1[p]? with
    | none => rw [e1] at h; cases h
    | some o =>
      rw [e1] at h
      cases o with
      | ins c fs =>
        obtain ⟨v, hv, e2⟩ := Option.map_eq_some_iff.mp h
        cases e2
        obtain ⟨a', Ca, dx, vs, rfl, g2, g3, g4, g5⟩ := s1.ins e1 r1
        obtain ⟨w, g6, g7⟩ := (g5.look (f := f)).1 _ hv
        obtain ⟨k1, k2⟩ := hf.ok c Ca g4
        rw [hK]
        exact ⟨a', Ca, dx, vs, w, rfl, g3, k1, k2, g6, q _ _ _ t1 s1 g7⟩
      | _ => cases h
  | _ => cases h
/-- a constant of the module -/
structure GlOk (C : PC) (x : String) (d : D) : Prop where
  ok : ∃ u v, C.mg (Str.ofString x) = some u ∧ RelV v u ∧ ∀ α H, RD C.sa α H d v
theorem le_glob {n : String} (hm : X.mg = C.mg) (hg : Gl X (Str.ofString n)) (hd : (Str.ofString n == ("__debug__" : Str)) = false) (hF : F.P = C.P) (ok : ∀ d, C.P.glob n = some d → GlOk C n d) : LE C X (.Name (Str.ofString n) pos) (evE F (.glob n)) := by
  cases e : C.P.glob n with
  | none =>
    refine ⟨fun pins s σ H Q I h => ?_⟩
    obtain ⟨α, ρ, M, d, M', s, _, h, q⟩ := h
    simp only [evE, hF, e] at h
    cases h
  | some d =>
    obtain ⟨u, v, h1, h2, h3⟩ := (ok d e).ok
    refine PE.imp (pe_glob (v := v) (u := u) hg (by rw [hm]; exact h1) h2 hd) ?_
    rintro σ H Q ⟨α, ρ, M, d', M', s, _, h, q⟩
    simp only [evE, hF, e] at h
    cases h
    exact done s (h3 α H) q

/-! ### calls -/
/-- what the evaluator's call promises -/
def spF (C : PC) (call : List D → Mem → R D) (n : Nat) : Sp := fun vs H Q _ => vs.length = n ∧ ∃ α M xs d M', RS C α M H ∧ RDs C.sa α H xs vs ∧ call xs M = some (d, M') ∧ ∀ α' v H', Step α α' H H' → RS C α' M' H' → RD C.sa α' H' d v → Q v H'
def CXn : CXT := fun _ _ _ _ _ _ => False
theorem passn {X : Cx} {E : XK} : Passes CXn X E := fun _ _ _ _ _ _ _ h => h.elim
/-- the function at a keeps the evaluator's promise, for n arguments -/
structure FnC (C : PC) (k : Nat) (call : List D → Mem → R D) (n : Nat) (a : Addr) : Prop where
  ok : ∃ (fd : FuncData) (ps : List Str), FnOk C.prog C.w C.K C.mg C.base CXn k a fd ps (spF C call n) ∧ Binds C.K fd ps [] ∧ ∀ xs M r, call xs M = some r → xs.length = n
/-- a function of the module by its name -/
structure CalC (C : PC) (k : Nat) (F : FT) (f : String) : Prop where
  ok : (∀ xs M, F.call (.fn f) xs M = none) ∨ ∃ a n, C.mg (Str.ofString f) = some (.ref a) ∧ PySem.W.keepIn C.K (.ref a) = true ∧ FnC C k (F.call (.fn f)) n a
structure MetC (C : PC) (k : Nat) (F : FT) (c m : String) (Ca : Addr) : Prop where
  ok : (∀ xs M, F.call (.mth c m) xs M = none) ∨ ∃ a n, Meth C.K Ca (Str.ofString m) a ∧ FnC C k (F.call (.mth c m)) n a
structure NewC (C : PC) (k : Nat) (F : FT) (c : String) : Prop where
  ok : (∀ xs M, F.call (.mth c "__init__") xs M = none) ∨ ∃ Ca a n, C.ca c = some Ca ∧ C.mg (Str.ofString c) = some (.ref Ca) ∧ Mk C.K Ca a ∧ FnC C k (F.call (.mth c "__init__")) n a
def noStars : List Expr → Bool
  | [] => true
  | e :: r => notStar e && noStars r
theorem starPlain {env : Env} {p : Pos} : ∀ {es : List Expr}, noStars es = true → (backTo p (starEach es env)).any (·.1) = false
  | [], _ => rfl
  | e :: es, h => by
    simp only [noStars, Bool.and_eq_true] at h
    rw [star_cons h.1]
    show (false || _) = false
    rw [Bool.false_or]
    exact starPlain h.2
theorem call_lift {f : FK} {n : Nat} {r : E} {call : List D → Mem → R D} {E : XK} (hn : ∀ xs M r, call xs M = some r → xs.length = n) : ∀ σ H Q, tV C (fun ρ M => bnd (evEs F r ρ M) call) σ H Q → tCall (spF C call n) [] E (tL C (evEs F r)) σ H Q := by
  rintro σ H Q ⟨α, ρ, M, d, M', s, e, h, q⟩
  obtain ⟨xs, M1, g1, h⟩ := bnd_some_of h
  refine ⟨α, ρ, M, xs, M1, s, e, g1, fun α1 v1 H1 t1 s1 r1 => ?_⟩
  simp only [List.append_nil]
  exact ⟨by rw [← r1.length]; exact hn _ _ _ h, α1, M1, xs, d, M', s1, r1, h, fun α2 v2 H2 t2 => q α2 v2 H2 (t1.trans t2)⟩
theorem pa_tNil {t : TA} (h : PA X [] t) : PA X [] tNil := pa_nil
theorem le_call {es : List Expr} {r : E} {f : String} (ok : OkX C k S X) (hg : Gl X (Str.ofString f)) (hd : (Str.ofString f == ("__debug__" : Str)) = false) (hs : noStars es = true) (hr : LA C X es (evEs F r)) (hl : rowLen r = some es.length) (hc : CalC C k F f) :
    LE C X (.Call (.Name (Str.ofString f) p2) es [] pos) (evE F (.call f r)) := by
  rcases hc.ok with hno | ⟨a, n, h1, h2, ⟨fd, ps, h3, h4, h5⟩⟩
  · refine ⟨fun pins s σ H Q I h => ?_⟩
    obtain ⟨α, ρ, M, d, M', s, _, h, q⟩ := h
    simp only [evE] at h
    obtain ⟨xs, M1, _, h⟩ := bnd_some_of h
    rw [hno] at h
    cases h
  · rw [← ok.hP, ← ok.hw, ← ok.hK, ← ok.hmg, ← ok.hbase] at h3
    have lift := call_lift (C := C) (F := F) (r := r) (f := .fn f) (E := fun _ _ _ => False) h5
    cases es with
    | nil =>
      refine PE.imp (pe_call0 (E := fun _ _ _ => False) h3 ok.room hg (by rw [ok.hmg]; exact h1) (by rw [ok.hK]; exact h2) (by rw [ok.hK]; exact h4) .nil passn hd) ?_
      rintro σ H Q ⟨α, ρ, M, d, M', s, e, h, q⟩
      have hr0 : r = .nil := by
        cases r <;> first | rfl | (simp [rowLen] at hl; done)
      subst hr0
      simp only [evE, evEs, bnd_some] at h
      exact ⟨by rw [← h5 _ _ _ h]; rfl, α, M, [], d, M', s, .nil, h, q⟩
    | cons e es =>
      simp only [noStars, Bool.and_eq_true] at hs
      refine PE.imp (pe_call (E := fun _ _ _ => False) h3 ok.room hg (by rw [ok.hmg]; exact h1) (by rw [ok.hK]; exact h2) (by rw [ok.hK]; exact h4) .nil passn hr hd (star_cons hs.1 _ _) (starPlain hs.2)) ?_
      intro σ H Q h
      refine lift σ H Q ?_
      simp only [evE] at h
      exact h
end
end Pw

end
section
set_option maxHeartbeats 1000000
/-! Snd8: making instances, methods. -/
namespace Pw
open PySem PySem.Spec PyProof.Rows L2

theorem plainAll {env : Env} {p : Pos} : ∀ {es : List Expr}, noStars es = true → (backTo p (starEach es env)).all (fun x => !x.1) = true
  | [], _ => rfl
  | e :: es, h => by
    simp only [noStars, Bool.and_eq_true] at h
    rw [star_cons h.1]
    show (!false && _) = true
    exact plainAll h.2
theorem meth_tree {o : Expr} {m : Str} {es : List Expr} {env : Env} {apos pos : Pos} (h1 : notSuper o = true) (h2 : noStars es = true) (h3 : es.length < 30) (h4 : (apos.endLine == pos.line) = true) :
    eval (.Call (.Attribute o m apos) es [] pos) env = (do
      let ov ← eval o env
      standAt apos.atName
      let (f, first) ← holding [ov] (getMethod ov m (do return (← importBound o env).getD true))
      callWith pos f first (backTo pos (starEach es env)) (backToKw pos (keywordEach [] env))) := by
  have e1 : methodCallForm (es.length + 0) (backTo pos (starEach es env)) (backToKw pos (keywordEach [] env)) = true := by
    unfold methodCallForm
    rw [plainAll h2]
    show (true && true && decide (es.length + 0 + 0 < 30)) = true
    simp [h3]
  have e2 : ∀ ov, methodCall o m apos pos env ov (es.length + 0) (backTo pos (starEach es env)) (backToKw pos (keywordEach [] env)) = (do
      let (f, first) ← holding [ov] (getMethod ov m (do return (← importBound o env).getD true))
      callWith pos f first (backTo pos (starEach es env)) (backToKw pos (keywordEach [] env))) := by
    intro ov
    unfold methodCall
    rw [e1]
    unfold methodCallPos
    rw [if_pos (by rw [h4]; rfl)]
    rfl
  show (attributeBase o m env (eval o env) >>= fun ov => standAt apos.atName >>= fun _ => methodCall o m apos pos env ov (es.length + 0) (backTo pos (starEach es env)) (backToKw pos (keywordEach [] env))) = _
  rw [attrBase h1]
  simp only [e2]

section
variable {C : PC} {k : Nat} {S : Sx} {X : Cx} {F : FT} {a b c : Expr} {pos p2 : Pos} {x y z : E}
theorem RD.refM {α : List Addr} {H : Hp} {v : V} {n : Nat} (r : RD C.sa α H (.ref n) v) : ∃ a, v = .ref a ∧ α[n]? = some a := by
  cases r with
  | ref h => exact ⟨_, rfl, h⟩
/-- a new instance's state -/
theorem RS.made {α : List Addr} {M : Mem} {H : Hp} (s : RS C α M H) {c : String} {Ca x dx : Addr} (hc : C.ca c = some Ca) (hx : H x = none) (hd : H dx = none) (hne : dx ≠ x) :
    Step α (α ++ [x]) H (upd (upd H dx (.own x)) x (.ins Ca dx [])) ∧ RS C (α ++ [x]) (M ++ [.ins c []]) (upd (upd H dx (.own x)) x (.ins Ca dx [])) ∧ (α ++ [x])[M.length]? = some x := by
  have s1 : RS C α M (upd H dx (.own x)) := s.other hd
  have hx1 : upd H dx (.own x) x = none := by rw [upd_ne (Ne.symm hne)]; exact hx
  refine ⟨(upd_step hd).trans (new_step hx1), s1.new hx1 (.ins hc .nil), ?_⟩
  rw [List.getElem?_append_right (by rw [s.len]; exact Nat.le_refl _)]
  simp [s.len]
theorem new_lift {c : String} {Ca : Addr} {n : Nat} {r : E} {E : XK} (hc : C.ca c = some Ca) (hn : ∀ xs M r, F.call (.mth c "__init__") xs M = some r → xs.length = n) : ∀ σ H Q, tV C (evE F (.new c r)) σ H Q → tMake Ca (spF C (F.call (.mth c "__init__")) n) [] E (tL C (evEs F r)) σ H Q := by
  rintro σ H Q ⟨α, ρ, M, d, M', s, e, h, q⟩
  simp only [evE] at h
  obtain ⟨xs, M1, g1, h⟩ := bnd_some_of h
  obtain ⟨r0, M2, g2, h⟩ := bnd_some_of h
  split at h
  · rename_i hr
    cases h
    subst hr
    refine ⟨α, ρ, M, xs, M1, s, e, g1, fun α1 v1 H1 t1 s1 r1 x dx hx hd hne => ?_⟩
    obtain ⟨t2, s2, h2⟩ := s1.made hc hx hd hne
    simp only [List.append_nil]
    refine ⟨by rw [← hn _ _ _ g2]; simp [r1.length], α1 ++ [x], _, _, _, _, s2, .cons (.ref h2) (r1.mono s1 t2), g2, fun α3 v3 H3 t3 s3 r3 => ?_⟩
    cases r3
    exact ⟨rfl, q α3 _ H3 ((t1.trans t2).trans t3) s3 (.ref (t3.get h2))⟩
  · cases h
theorem le_new {es : List Expr} {r : E} {f : String} (ok : OkX C k S X) (hg : Gl X (Str.ofString f)) (hd : (Str.ofString f == ("__debug__" : Str)) = false) (hs : noStars es = true) (hr : LA C X es (evEs F r)) (hl : rowLen r = some es.length) {j : Nat} (hj : j + 1 ≤ k) (hc : NewC C j F f) :
    LE C X (.Call (.Name (Str.ofString f) p2) es [] pos) (evE F (.new f r)) := by
  rcases hc.ok with hno | ⟨Ca, a, n, h0, h1, h2, ⟨fd, ps, h3, h4, h5⟩⟩
  · refine ⟨fun pins s σ H Q I h => ?_⟩
    obtain ⟨α, ρ, M, d, M', s, _, h, q⟩ := h
    simp only [evE] at h
    obtain ⟨xs, M1, _, h⟩ := bnd_some_of h
    rw [hno] at h
    cases h
  · rw [← ok.hP, ← ok.hw, ← ok.hK, ← ok.hmg, ← ok.hbase] at h3
    rw [← ok.hK] at h2
    have lift := new_lift (C := C) (F := F) (r := r) (E := fun _ _ _ => False) h0 h5
    cases es with
    | nil =>
      refine PE.imp (pe_make0 (E := fun _ _ _ => False) h2 h3 (ok.room.mono hj) hg (by rw [ok.hmg]; exact h1) (by rw [ok.hK]; exact h4) .nil passn hd) ?_
      intro σ H Q h
      have hr0 : r = .nil := by
        cases r <;> first | rfl | (simp [rowLen] at hl; done)
      subst hr0
      obtain ⟨α, ρ, M, xs, M1, s, e, g1, q⟩ := lift σ H Q h
      simp only [evEs] at g1
      cases g1
      exact q α [] H (Step.refl _ _) s .nil
    | cons e es =>
      simp only [noStars, Bool.and_eq_true] at hs
      exact PE.imp (pe_make (E := fun _ _ _ => False) h2 h3 (ok.room.mono hj) hg (by rw [ok.hmg]; exact h1) (by rw [ok.hK]; exact h4) .nil passn hr hd (star_cons hs.1 _ _) (starPlain hs.2)) lift
/-- the classes' method m, by the class -/
structure MetOk (C : PC) (k : Nat) (F : FT) (m : String) : Prop where
  ok : ∀ c Ca, C.ca c = some Ca → (∀ xs M, F.call (.mth c m) xs M = none) ∨ (Cls C.K Ca ∧ ∃ a n, Meth C.K Ca (Str.ofString m) a ∧ FnC C k (F.call (.mth c m)) n a)
theorem le_meth {es : List Expr} {r : E} {m : String} {apos : Pos} (ok : OkX C k S X) (hn : notSuper a = true) (hs : noStars es = true) (h30 : es.length < 30) (hl : (apos.endLine == pos.line) = true) (ha : LE C X a (evE F x)) (hr : LA C X es (evEs F r)) (hw : rowLen r = some es.length) (hc : MetOk C k F m) :
    LE C X (.Call (.Attribute a (Str.ofString m) apos) es [] pos) (evE F (.meth x m r)) := by
  refine ⟨fun pins s σ H Q I h => ?_⟩
  obtain ⟨α, ρ, M, d, M', S, e, h, q⟩ := h
  simp only [evE] at h
  obtain ⟨dx, M1, g1, h⟩ := bnd_some_of h
  refine methcall_of ha I (h := ⟨α, ρ, M, dx, M1, S, e, g1, fun α1 v1 H1 t1 s1 r1 => ?_⟩) (meth_tree hn hs h30 hl)
  cases dx with
  | ref p =>
    simp only at h
    cases e1 : M1[p]? with
    | none => rw [e1] at h; cases h
    | some o =>
      rw [e1] at h
      cases o with
      | ins c fs =>
        simp only at h
        split at h
        · rename_i hf
          obtain ⟨xs, M2, g2, h⟩ := bnd_some_of h
          obtain ⟨a', Ca, dx, vs, rfl, g3, g4, g5, g6⟩ := s1.ins e1 r1
          rcases hc.ok c Ca g5 with hno | ⟨k1, f, n, k2, ⟨fd, ps, h3, h4, h5⟩⟩
          · rw [hno] at h; cases h
          · rw [← ok.hP, ← ok.hw, ← ok.hK, ← ok.hmg, ← ok.hbase] at h3
            rw [← ok.hK] at k1 k2 h4
            refine ⟨a', Ca, dx, vs, f, rfl, g4, k1, k2, (g6.look (f := m)).2 hf, fun s2 I2 => ?_⟩
            have fin : ∀ {us : List Value} {vs : List V} {s3 : Shared} {H3 : Hp} {α3 : List Addr}, Step α1 α3 H1 H3 → RS C α3 M2 H3 → RDs C.sa α3 H3 xs vs → Inv X pins σ H3 s3 → Vals vs us → wpAny (model X.prog X.w) X.A (call (.ref f) ([.ref a'] ++ us)) (EP X pins σ Q) X.xe s3 := by
              intro us vs s3 H3 α3 t3 S3 r3 I3 rv
              refine run_fn (us := .ref a' :: us) (vs := .ref a' :: vs) (E := fun _ _ _ => False) h3 ok.room h4 .nil passn I3 (.cons rfl rv) ?_
              refine ⟨by rw [← h5 _ _ _ h]; simp [r3.length], α3, M2, .ref p :: xs, d, M', S3, .cons (.ref (t3.get g3)) ?_, h, fun α4 v4 H4 t4 => q α4 v4 H4 ((t1.trans t3).trans t4)⟩
              simpa using r3
            cases es with
            | nil =>
              have hr0 : r = .nil := by
                cases r <;> first | rfl | (simp [rowLen] at hw; done)
              subst hr0
              simp only [evEs] at g2
              cases g2
              exact PySem.W.callWith_K0 (first := [.ref a']) I2.kIn k2.kp (fin (us := []) (vs := []) (Step.refl _ _) s1 .nil I2 .nil)
            | cons e0 es =>
              simp only [noStars, Bool.and_eq_true] at hs
              refine PySem.W.callWith_K (first := [.ref a']) (h₀ := X.base) I2.ok.mod.kin k2.kp (thn (hr.run pos pins s2 σ H1 (fun vs H3 => ∃ α3, Step α1 α3 H1 H3 ∧ RS C α3 M2 H3 ∧ RDs C.sa α3 H3 xs vs) I2 ?_) fun us s3 ⟨vs, H3, I3, rv, α3, t3, S3, r3⟩ => ⟨I3.kIn, fin t3 S3 r3 I3 rv⟩) (star_cons hs.1 _ _) (starPlain hs.2)
              exact ⟨α1, ρ, M1, xs, M2, s1, e.mono S t1, g2, fun α3 v3 H3 t3 s3 r3 => ⟨α3, t3, s3, r3⟩⟩
        · cases h
      | _ => cases h
  | _ => cases h
end
end Pw

end
section
set_option maxHeartbeats 1000000
/-! Snd9: built-in functions, isinstance, methods of lists, dicts, texts; tuple(..), list(..). -/
namespace Pw
open PySem PySem.Spec PyProof.Rows L2

section
variable {C : PC} {k : Nat} {S : Sx} {X : Cx} {F : FT} {a b c : Expr} {pos p2 : Pos} {x y z : E}
/-- a built-in name that nothing hides -/
structure BuOk (C : PC) (X : Cx) (x : Str) : Prop where
  gl : Gl X x
  mg : C.mg x = none
def rBi (C : PC) (b : Bi) : List V → Hp → VK → Prop := fun vs H Q => ∃ α M ds d, RS C α M H ∧ RDs C.sa α H ds vs ∧ biD C.P M b ds = some d ∧ ∀ v, RD C.sa α H d v → Q v H
theorem one_arg {sa : Addr} {α : List Addr} {H : Hp} {d : D} {vs : List V} (r : RDs sa α H [d] vs) : ∃ v, vs = [v] ∧ RD sa α H d v := by
  cases r with
  | cons r1 r2 => cases r2; exact ⟨_, rfl, r1⟩
theorem two_arg {sa : Addr} {α : List Addr} {H : Hp} {d e : D} {vs : List V} (r : RDs sa α H [d, e] vs) : ∃ v u, vs = [v, u] ∧ RD sa α H d v ∧ RD sa α H e u := by
  cases r with
  | cons r1 r2 => obtain ⟨u, rfl, r3⟩ := one_arg r2; exact ⟨_, _, rfl, r1, r3⟩
theorem call_lenE (hK : X.K = C.K) : CallR X (.builtin "len") (rBi C .len) := by
  intro pins s σ H xs us Q I r h
  obtain ⟨α, M, ds, d, S, rs, h, q⟩ := h
  cases ds with
  | nil => simp [biD] at h
  | cons d0 ds =>
    cases ds with
    | cons _ _ => simp [biD] at h
    | nil =>
      obtain ⟨v, rfl, rd⟩ := one_arg rs
      simp only [biD] at h
      obtain ⟨n', hn, e⟩ := Option.map_eq_some_iff.mp h
      subst e
      refine call_len pins s σ H _ us Q I r ⟨v, n', rfl, ?_, q _ (.int _)⟩
      rw [hK]
      cases rd with
      | @str t ht => cases hn; exact ⟨by rw [ofString_length, line_eq]; exact ht, (ofString_length t).symm⟩
      | tup ha rs2 => cases hn; exact .inr ⟨_, .inl (.inl ha), rs2.length⟩
      | @ref m a ha =>
        simp only [lenD] at hn
        cases e1 : M[m]? with
        | none => rw [e1] at hn; cases hn
        | some o =>
          rw [e1] at hn
          cases o with
          | lst xs =>
            cases hn
            obtain ⟨a', vs, q1, q2, q3, rs2⟩ := S.lst (v := .ref a) e1 (.ref ha)
            cases q1
            exact .inl ⟨_, .inl (.inl q3), rs2.length⟩
          | _ => cases hn
      | scr => cases hn; exact .inl ⟨_, S.script, by simp⟩
      | _ => cases hn
theorem bi_max2 {P : Prog} {M : Mem} {ds : List D} {d : D} (h : biD P M .max2 ds = some d) : ∃ i j, ds = [.int i, .int j] ∧ d = .int (if j > i then j else i) := by
  rcases ds with _ | ⟨d0, _ | ⟨d1, _ | ⟨d2, ds⟩⟩⟩
  · simp [biD] at h
  · simp [biD] at h
  · cases d0 <;> cases d1 <;> simp only [biD] at h <;> first | (cases h; done) | exact ⟨_, _, rfl, (Option.some.inj h).symm⟩
  · simp [biD] at h
theorem bi_min2 {P : Prog} {M : Mem} {ds : List D} {d : D} (h : biD P M .min2 ds = some d) : ∃ i j, ds = [.int i, .int j] ∧ d = .int (if j < i then j else i) := by
  rcases ds with _ | ⟨d0, _ | ⟨d1, _ | ⟨d2, ds⟩⟩⟩
  · simp [biD] at h
  · simp [biD] at h
  · cases d0 <;> cases d1 <;> simp only [biD] at h <;> first | (cases h; done) | exact ⟨_, _, rfl, (Option.some.inj h).symm⟩
  · simp [biD] at h
theorem call_max2E (hc : X.calm = true) : CallR X (.builtin "max") (rBi C .max2) := by
  intro pins s σ H xs us Q I r h
  obtain ⟨α, M, ds, d, S, rs, h, q⟩ := h
  obtain ⟨i, j, rfl, rfl⟩ := bi_max2 h
  obtain ⟨v, u, rfl, r1, r2⟩ := two_arg rs
  cases r1; cases r2
  exact call_max2 hc pins s σ H _ us Q I r ⟨_, _, rfl, q _ (.int _)⟩
theorem call_min2E (hc : X.calm = true) : CallR X (.builtin "min") (rBi C .min2) := by
  intro pins s σ H xs us Q I r h
  obtain ⟨α, M, ds, d, S, rs, h, q⟩ := h
  obtain ⟨i, j, rfl, rfl⟩ := bi_min2 h
  obtain ⟨v, u, rfl, r1, r2⟩ := two_arg rs
  cases r1; cases r2
  exact call_min2 hc pins s σ H _ us Q I r ⟨_, _, rfl, q _ (.int _)⟩
theorem intText_of (s : String) {i : Int} (h : intOfS s = some i) : PySem.intText? (Str.ofString s) = some i ∧ (Str.ofString s).length ≤ 640 := by
  unfold intOfS at h
  simp only at h
  split at h
  · cases h
  · rename_i hl
    split at h
    · rename_i hd
      cases h
      have hlen : s.toList.length ≤ 600 := by omega
      have hdig : ∀ c ∈ (Str.ofString s).cps.toList, 48 ≤ c ∧ c ≤ 57 := by
        intro c hc
        rw [ofString_cps] at hc
        obtain ⟨ch, h1, rfl⟩ := List.mem_map.mp hc
        have := List.all_eq_true.mp hd ch h1
        simp only [isDig, Bool.and_eq_true, decide_eq_true_eq] at this
        exact ⟨this.1, this.2⟩
      have hv : PySem.NumText.digitsVal (Str.ofString s).cps.toList = numOf s.toList := by
        rw [ofString_cps]
        unfold PySem.NumText.digitsVal numOf
        rw [List.foldl_map]
        rfl
      refine ⟨?_, by rw [ofString_length]; exact Nat.le_trans hlen (by decide)⟩
      rw [← hv]
      refine PySem.intText_digits hdig ?_ ?_
      · intro e
        have := congrArg List.length e
        rw [ofString_cps] at this
        simp at this
        simp [this] at hl
      · rw [ofString_length]; exact Nat.le_trans hlen (by decide)
    · cases h
theorem call_intE (hK : X.K = C.K) : CallR X (.type "int") (rBi C .int) := by
  intro pins s σ H xs us Q I r h
  obtain ⟨α, M, ds, d, S, rs, h, q⟩ := h
  rcases ds with _ | ⟨d0, _ | ⟨d1, ds⟩⟩
  · simp [biD] at h
  · obtain ⟨v, rfl, rd⟩ := one_arg rs
    cases rd with
    | int i => simp only [biD] at h; cases h; exact call_int1 pins s σ H _ us Q I r (.inl ⟨_, rfl, q _ (.int _)⟩)
    | bl b => simp only [biD] at h; cases h; exact call_int1 pins s σ H _ us Q I r (.inr ⟨_, rfl, q _ (.int _)⟩)
    | @str t ht =>
      simp only [biD] at h
      obtain ⟨n, hn, e⟩ := Option.map_eq_some_iff.mp h
      subst e
      obtain ⟨h1, h2⟩ := intText_of t hn
      exact call_int_str pins s σ H _ us Q I r ⟨_, n, rfl, h1, h2, q _ (.int _)⟩
    | _ => simp [biD] at h
  · simp [biD] at h
theorem call_boolE : CallR X (.type "bool") (rBi C .bool) := by
  intro pins s σ H xs us Q I r h
  obtain ⟨α, M, ds, d, S, rs, h, q⟩ := h
  rcases ds with _ | ⟨d0, _ | ⟨d1, ds⟩⟩
  · simp [biD] at h
  · obtain ⟨v, rfl, rd⟩ := one_arg rs
    cases rd with
    | int i =>
      simp only [biD] at h
      cases h
      refine call_bool1 pins s σ H _ us Q I r (.inl ⟨_, rfl, ?_⟩)
      have := q _ (.bl (decide (i ≠ 0)))
      by_cases e : i = 0
      · subst e; exact this
      · rw [decide_eq_true e] at this
        have e2 : (i != 0) = true := bne_iff_ne.mpr e
        rw [e2]; exact this
    | bl b => simp only [biD] at h; cases h; exact call_bool1 pins s σ H _ us Q I r (.inr ⟨_, rfl, q _ (.bl _)⟩)
    | _ => simp [biD] at h
  · simp [biD] at h
theorem call_strE : CallR X (.type "str") (rBi C .str) := by
  intro pins s σ H xs us Q I r h
  obtain ⟨α, M, ds, d, S, rs, h, q⟩ := h
  rcases ds with _ | ⟨d0, _ | ⟨d1, ds⟩⟩
  · simp [biD] at h
  · obtain ⟨v, rfl, rd⟩ := one_arg rs
    cases rd with
    | int i =>
      simp only [biD] at h
      obtain ⟨w, hw, e⟩ := Option.map_eq_some_iff.mp h
      subst e
      unfold strN at hw
      split at hw
      · rename_i hz
        cases hw
        refine call_str_int pins s σ H _ us Q I r ⟨_, rfl, ?_, q _ (.str hz.2)⟩
        by_cases e : i.natAbs = 0
        · rw [e]; decide
        · have := (Nat.log2_lt e).mpr hz.1
          omega
      · cases hw
    | _ => simp [biD] at h
  · cases d0 <;> simp [biD] at h
/-- the name of a built-in function of the evaluator, whether it is a type -/
def biName : Bi → String
  | .len => "len" | .str => "str" | .int => "int" | .bool => "bool" | .max2 => "max" | .min2 => "min"
theorem rBi_lift {r : E} {bi : Bi} (hF : F.P = C.P) : ∀ σ H Q, tV C (evE F (.bi bi r)) σ H Q → tCB (rBi C bi) (tL C (evEs F r)) σ H Q := by
  rintro σ H Q ⟨α, ρ, M, d, M', s, e, h, q⟩
  simp only [evE] at h
  obtain ⟨xs, M1, g1, h⟩ := bnd_some_of h
  obtain ⟨w, hw, e2⟩ := Option.map_eq_some_iff.mp h
  cases e2
  rw [hF] at hw
  exact ⟨α, ρ, M, xs, _, s, e, g1, fun α1 v1 H1 t1 s1 r1 => ⟨α1, _, xs, d, s1, r1, hw, fun v rv => q _ _ _ t1 s1 rv⟩⟩
theorem le_bi {es : List Expr} {e : Expr} {r : E} (bi : Bi) (ok : OkX C k S X) (hg : BuOk C X (Str.ofString (biName bi))) (hs : noStars (e :: es) = true) (hr : LA C X (e :: es) (evEs F r)) (hF : F.P = C.P) :
    LE C X (.Call (.Name (Str.ofString (biName bi)) p2) (e :: es) [] pos) (evE F (.bi bi r)) := by
  simp only [noStars, Bool.and_eq_true] at hs
  have hm := hg.mg
  rw [← ok.hmg] at hm
  have h1 := star_cons hs.1 es X.env
  have h2 : (backTo pos (starEach es X.env)).any (·.1) = false := starPlain hs.2
  refine PE.imp (t := tCB (rBi C bi) (tL C (evEs F r))) ?_ (rBi_lift hF)
  cases bi with
  | len => exact pe_callB (call_lenE ok.hK) hg.gl hm PySem.boot_len hr (he := h1) (hpl := h2)
  | str => exact pe_callTy call_strE hg.gl hm PyProof.Rows.boot_str hr (he := h1) (hpl := h2)
  | int => exact pe_callTy (call_intE ok.hK) hg.gl hm PyProof.Rows.boot_int hr (he := h1) (hpl := h2)
  | bool => exact pe_callTy call_boolE hg.gl hm PyProof.Rows.boot_bool hr (he := h1) (hpl := h2)
  | max2 => exact pe_callB (call_max2E ok.calm) hg.gl hm (by decide +kernel) hr (he := h1) (hpl := h2)
  | min2 => exact pe_callB (call_min2E ok.calm) hg.gl hm (by decide +kernel) hr (he := h1) (hpl := h2)

/-! ### isinstance -/
def tyName : Ty → String
  | .int => "int" | .bool => "bool" | .str => "str" | .tuple => "tuple" | .list => "list"
def rIsiE (C : PC) (t : Ty) : List V → Hp → VK → Prop := fun vs H Q => ∃ α M d v b, vs = [v, .ty (tyName t)] ∧ RS C α M H ∧ RD C.sa α H d v ∧ isiD M d t = some b ∧ Q (.bl b) H
theorem call_isiE (t : Ty) : CallR X (.builtin "isinstance") (rIsiE C t) := by
  intro pins s σ H xs us Q I r h
  obtain ⟨α, M, d, v, b, rfl, S, rd, h, q⟩ := h
  refine call_isi pins s σ H _ us Q I r ?_
  cases rd with
  | non => refine ⟨_, _, _, _, b, rfl, .ty _, .base .non, ?_, q⟩; cases t <;> (cases h; rfl)
  | bl x => refine ⟨_, _, _, _, b, rfl, .ty _, .base (.bl x), ?_, q⟩; cases t <;> (cases h; rfl)
  | int i => refine ⟨_, _, _, _, b, rfl, .ty _, .base (.int i), ?_, q⟩; cases t <;> (cases h; rfl)
  | str hs => refine ⟨_, _, _, _, b, rfl, .ty _, .base (.str _), ?_, q⟩; cases t <;> (cases h; rfl)
  | tup ha rs => refine ⟨_, _, _, _, b, rfl, .ty _, .base (.tup ha), ?_, q⟩; cases t <;> (cases h; rfl)
  | @ref n a ha =>
    simp only [isiD] at h
    cases e1 : M[n]? with
    | none => rw [e1] at h; cases h
    | some o =>
      rw [e1] at h
      cases o with
      | lst xs =>
        obtain ⟨a', vs, q1, q2, q3, rs⟩ := S.lst (v := .ref a) e1 (.ref ha)
        cases q1
        refine ⟨_, _, _, _, b, rfl, .ty _, .base (.lst q3), ?_, q⟩; cases t <;> (cases h; rfl)
      | _ => cases h
  | scr => cases h
theorem le_isi {t : Ty} {p3 : Pos} (ok : OkX C k S X) (hg : BuOk C X (Str.ofString "isinstance")) (ht : BuOk C X (Str.ofString (tyName t))) (hs : notStar a = true) (ha : LE C X a (evE F x)) :
    LE C X (.Call (.Name (Str.ofString "isinstance") p2) [a, .Name (Str.ofString (tyName t)) p3] [] pos) (evE F (.isi x t)) := by
  have hm := hg.mg
  have hmt := ht.mg
  rw [← ok.hmg] at hm hmt
  have h2 : PE X (.Name (Str.ofString (tyName t)) p3) (tC (.ty (tyName t))) := by
    cases t <;> exact pe_bltn ht.gl hmt (u := .type _) (by first | exact PyProof.Rows.boot_int | exact PyProof.Rows.boot_bool | exact PyProof.Rows.boot_str | exact PyProof.Rows.boot_tuple | exact PyProof.Rows.boot_list) rfl
  refine PE.imp (pe_callB (call_isiE (C := C) t) hg.gl hm PyProof.Rows.boot_isinstance (pa_cons ha (pa_cons h2 pa_nil) (star_cons hs _ _)) (he := star_cons hs _ _)) ?_
  rintro σ H Q ⟨α, ρ, M, d, M', s, e, h, q⟩
  simp only [evE] at h
  obtain ⟨dx, M1, g1, h⟩ := bnd_some_of h
  obtain ⟨b, hb, e2⟩ := Option.map_eq_some_iff.mp h
  cases e2
  exact ⟨α, ρ, M, dx, _, s, e, g1, fun α1 v1 H1 t1 s1 r1 => ⟨α1, _, dx, v1, b, rfl, s1, r1, hb, q _ _ _ t1 s1 (.bl b)⟩⟩
end
end Pw

end
section
set_option maxHeartbeats 1000000
/-! Snd10: methods of lists, dicts. -/
namespace Pw
open PySem PySem.Spec PyProof.Rows L2

/-- a list is extended by a tuple, whatever the tuple's object has beside its items -/
theorem extT (l b : Addr) (xs ys : Array Value) (n m : Nat) (dd : Option Addr) (sl : Array (Option Value)) (h0 : ¬(!xs.isEmpty && Builtin.List.listTooLong (xs.size + ys.size)) = true) (h1 : xs.size ≤ sizeLine) (h2 : xs.size + ys.size ≤ sizeLine + 1) :
    Meets (Builtin.«list.extend» ⟨[.ref l, .ref b], []⟩) (fun _ R s => s.heap.get? l = some { cls := .type "list", dict := none, data := .seq xs n, slots := #[] } ∧ s.heap.get? b = some ⟨.type "tuple", dd, .seq ys m, sl⟩ ∧
      R (.ok (.ret Value.none)) { s with heap := s.heap.update l (Obj.mapSeq fun x => x ++ ys), toks := s.toks }) := by
  refine .of_wp fun prog w A R s h => ?_
  rcases s with ⟨hp, g, d, tk, os⟩
  rcases h with ⟨hl, hb, hR⟩
  have k1 := AutoSeq1.sub_tuple_tuple
  have k2 := AutoSeq1.sub_list_list
  have k3 := AutoSeq1.sub_tuple_list
  have k4 := AutoSeq1.sub_list_tuple
  have kz : (xs ++ ys).size ≤ sizeLine + 1 := by
    rw [Array.size_append]
    exact h2
  wp_walk using (wpAny_updateSeq hl rfl (hz := h1) (_hz' := kz)), AutoSeq1.wpAny_loadPart' hl, AutoSeq1.wpAny_loadPart' hb
  exact ⟨_, rfl, hR⟩

section
variable {C : PC} {k : Nat} {S : Sx} {X : Cx} {F : FT} {a b c : Expr} {pos p2 : Pos} {x y z : E}
def rBm (C : PC) (m : BM) : V → List V → Hp → VK → Prop := fun v vs H Q => ∃ α M d ds z M', RS C α M H ∧ RD C.sa α H d v ∧ RDs C.sa α H ds vs ∧ bmD M m d ds = some (z, M') ∧ ∀ α' v H', Step α α' H H' → RS C α' M' H' → RD C.sa α' H' z v → Q v H'
theorem bm_list {M : Mem} {p : Nat} {f : List D → R D} {r : D × Mem} (h : (match M[p]? with | some (.lst xs) => f xs | _ => none) = some r) : ∃ xs, M[p]? = some (.lst xs) ∧ f xs = some r := by
  cases e : M[p]? with
  | none => rw [e] at h; cases h
  | some o =>
    rw [e] at h
    cases o with
    | lst xs => exact ⟨xs, rfl, h⟩
    | _ => cases h
theorem bm_dic {M : Mem} {p : Nat} {f : List (D × D) → R D} {r : D × Mem} (h : (match M[p]? with | some (.dic xs) => f xs | _ => none) = some r) : ∃ xs, M[p]? = some (.dic xs) ∧ f xs = some r := by
  cases e : M[p]? with
  | none => rw [e] at h; cases h
  | some o =>
    rw [e] at h
    cases o with
    | dic xs => exact ⟨xs, rfl, h⟩
    | _ => cases h
theorem mt_appendE : MtR X "list.append" (rBm C .append) := by
  intro pins s σ H v vs w us Q I rv rvs h
  obtain ⟨α, M, d, ds, z, M', S, rd, rs, h, q⟩ := h
  rcases ds with _ | ⟨d0, _ | ⟨d1, ds⟩⟩
  · cases d <;> simp [bmD] at h
  · obtain ⟨u, rfl, r0⟩ := one_arg rs
    cases rd with
    | @ref n a ha =>
      simp only [bmD] at h
      obtain ⟨xs, e1, h⟩ := bm_list (f := fun xs => if xs.length < LIM then some (.non, M.set n (.lst (xs ++ [d0]))) else none) h
      split at h
      · rename_i hl
        cases h
        obtain ⟨a', ws, q1, q2, q3, r⟩ := S.lst (v := .ref a) e1 (.ref ha)
        cases q1
        refine mt_append pins s σ H _ _ w us Q I rv rvs ⟨a, ws, u, rfl, rfl, q3, by rw [← r.length, line_eq]; exact hl, done_set S ha (r.append (.cons r0 .nil)) .non q⟩
      · cases h
    | _ => simp [bmD] at h
  · cases d <;> simp [bmD] at h
theorem mt_extendE : MtR X "list.extend" (rBm C .extend) := by
  intro pins s σ H v vs w us Q I rv rvs h
  obtain ⟨α, M, d, ds, z, M', S, rd, rs, h, q⟩ := h
  rcases ds with _ | ⟨d0, _ | ⟨d1, ds⟩⟩
  · cases d <;> simp [bmD] at h
  · obtain ⟨u, rfl, r0⟩ := one_arg rs
    cases rd with
    | @ref n a ha =>
      cases r0 with
      | @ref m b hb =>
        simp only [bmD] at h
        cases e1 : M[n]? with
        | none => rw [e1] at h; cases h
        | some o1 =>
          cases e2 : M[m]? with
          | none => rw [e1, e2] at h; cases o1 <;> cases h
          | some o2 =>
            rw [e1, e2] at h
            cases o1 with
            | lst xs =>
              cases o2 with
              | lst ys =>
                simp only at h
                split at h
                · rename_i hl
                  cases h
                  obtain ⟨a', ws, q1, q2, q3, r⟩ := S.lst (v := .ref a) e1 (.ref ha)
                  cases q1
                  obtain ⟨b', zs, q1, q2', q3', r2⟩ := S.lst (v := .ref b) e2 (.ref hb)
                  cases q1
                  exact mt_extend pins s σ H _ _ w us Q I rv rvs ⟨a, b, ws, zs, rfl, rfl, q3, q3', by rw [← r.length, ← r2.length, line_eq]; exact hl.2, done_set S ha (r.append r2) .non q⟩
                · cases h
              | _ => cases h
            | _ => cases o2 <;> cases h
      | @tup us' hb0 vs2 hb r2 =>
        simp only [bmD] at h
        obtain ⟨xs, e1, h⟩ := bm_list (f := fun xs => if xs.length + hb0.length ≤ LIM then some (.non, M.set n (.lst (xs ++ hb0))) else none) h
        split at h
        · rename_i hl
          cases h
          obtain ⟨a', ws, q1, q2, q3, r⟩ := S.lst (v := .ref a) e1 (.ref ha)
          cases q1
          cases rv
          obtain ⟨u0, rfl, ru⟩ := rvs.one
          cases ru
          obtain ⟨z, its, n0, r', hl', e⟩ := I.lstM q3
          obtain ⟨_, its2, rv2, o, ho, hc, m0, hd⟩ := I.hok _ _ hb
          have hl2 := rv2.length
          have e3 := r.length
          have e4 := r2.length
          have hsz : its.toArray.size + its2.toArray.size ≤ sizeLine := by rw [List.size_toArray, List.size_toArray, line_eq]; omega
          have hlong : ¬ (!its.toArray.isEmpty && Builtin.List.listTooLong (its.toArray.size + its2.toArray.size)) = true := by
            rw [notLongL hsz, Bool.and_false]
            exact Bool.false_ne_true
          obtain ⟨oc, od, dt, sl⟩ := o
          simp only at hc hd
          subst hc hd
          refine call_meets PySem.F.slot_list_extend ⟨_, e, rfl⟩ PySem.F.entry_list_extend (PySem.F.args_list_extend_2 _ _) (extT a us' its.toArray its2.toArray n0 m0 od sl hlong (by rw [List.size_toArray, line_eq]; omega) (by omega)) ⟨e, ho, ?_⟩
          have hd := done_set S ha (r.append r2) .non q
          refine ⟨.non, _, I.lset (its' := its ++ its2) q3 e (by simp) (r'.append rv2) ?_, rfl, hd⟩
          rw [List.length_append, line_eq]
          omega
        · cases h
      | _ => simp [bmD] at h
    | _ => cases d0 <;> simp [bmD] at h
  · cases d <;> simp [bmD] at h
theorem RDs.dropLast {sa : Addr} {α : List Addr} {H : Hp} {ds : List D} {vs : List V} (r : RDs sa α H ds vs) : RDs sa α H ds.dropLast vs.dropLast := by
  rw [List.dropLast_eq_take, List.dropLast_eq_take, r.length]
  exact r.take _
theorem mt_popE : MtR X "list.pop" (rBm C .pop) := by
  intro pins s σ H v vs w us Q I rv rvs h
  obtain ⟨α, M, d, ds, z, M', S, rd, rs, h, q⟩ := h
  rcases ds with _ | ⟨d0, ds⟩
  · cases rs
    cases rd with
    | @ref n a ha =>
      simp only [bmD] at h
      obtain ⟨xs, e1, h⟩ := bm_list (f := fun xs => match xs.getLast? with | some x => some (x, M.set n (.lst xs.dropLast)) | none => none) h
      split at h
      · rename_i x hx
        cases h
        obtain ⟨a', ws, q1, q2, q3, r⟩ := S.lst (v := .ref a) e1 (.ref ha)
        cases q1
        rw [List.getLast?_eq_getElem?] at hx
        obtain ⟨y, h1, h2⟩ := r.get hx
        refine mt_pop pins s σ H _ _ w us Q I rv rvs ⟨a, ws, y, rfl, rfl, q3, by rw [← r.length]; exact h1, done_set S ha r.dropLast h2 q⟩
      · cases h
    | _ => simp [bmD] at h
  · cases d <;> simp [bmD] at h
theorem mt_popAtE : MtR X "list.pop" (rBm C .popAt) := by
  intro pins s σ H v vs w us Q I rv rvs h
  obtain ⟨α, M, d, ds, z, M', S, rd, rs, h, q⟩ := h
  rcases ds with _ | ⟨d0, _ | ⟨d1, ds⟩⟩
  · cases d <;> simp [bmD] at h
  · obtain ⟨u, rfl, r0⟩ := one_arg rs
    cases rd with
    | @ref n a ha =>
      cases r0 with
      | int i =>
        simp only [bmD] at h
        obtain ⟨xs, e1, h⟩ := bm_list (f := fun xs => match pyIx xs.length i with
          | some k => match xs[k]? with
            | some x => some (x, M.set n (.lst (xs.eraseIdx k)))
            | none => none
          | none => none) h
        split at h
        · rename_i k hk
          split at h
          · rename_i x hx
            cases h
            obtain ⟨a', ws, q1, q2, q3, r⟩ := S.lst (v := .ref a) e1 (.ref ha)
            cases q1
            obtain ⟨y, h1, h2⟩ := r.get hx
            rw [pyIx_ixN, r.length] at hk
            obtain ⟨k1, k2, k3, k4⟩ := ixN_seq hk
            obtain ⟨z, its, n0, r', hl', e⟩ := I.lstM q3
            have hl := line63
            exact mt_popAt pins s σ H _ _ w us Q I rv rvs ⟨a, ws, i, k, y, rfl, rfl, q3, by omega, by omega, k1, h1, done_set S ha (r.eraseIdx k) h2 q⟩
          · cases h
        · cases h
      | _ => simp [bmD] at h
    | _ => cases d0 <;> simp [bmD] at h
  · cases d <;> simp [bmD] at h
theorem insertIdx_take {α : Type} (x : α) : ∀ (xs : List α) (n : Nat), n ≤ xs.length → xs.insertIdx n x = xs.take n ++ [x] ++ xs.drop n
  | xs, 0, _ => by simp
  | [], n + 1, h => by simp at h
  | y :: xs, n + 1, h => by simpa using insertIdx_take x xs n (by simpa using h)
theorem mt_insertE : MtR X "list.insert" (rBm C .insert) := by
  intro pins s σ H v vs w us Q I rv rvs h
  obtain ⟨α, M, d, ds, z, M', S, rd, rs, h, q⟩ := h
  rcases ds with _ | ⟨d0, _ | ⟨d1, _ | ⟨d2, ds⟩⟩⟩
  · cases d <;> simp [bmD] at h
  · cases d <;> cases d0 <;> simp [bmD] at h
  · obtain ⟨u0, u, rfl, r0, r1⟩ := two_arg rs
    cases rd with
    | @ref n a ha =>
      cases r0 with
      | int i =>
        simp only [bmD] at h
        obtain ⟨xs, e1, h⟩ := bm_list (f := fun xs => if 0 ≤ i ∧ i ≤ xs.length ∧ xs.length < LIM then some (.non, M.set n (.lst (xs.insertIdx i.toNat d1))) else none) h
        split at h
        · rename_i hl
          cases h
          obtain ⟨a', ws, q1, q2, q3, r⟩ := S.lst (v := .ref a) e1 (.ref ha)
          cases q1
          have hlen := r.length
          have hL : LIM = 16777216 := rfl
          refine mt_insert pins s σ H _ _ w us Q I rv rvs ⟨a, ws, i, u, rfl, rfl, q3, by rw [line_eq]; omega, hl.1, by omega, ?_⟩
          rw [← insertIdx_take u ws i.toNat (by omega)]
          exact done_set S ha (r.insertIdx r1 _) .non q
        · cases h
      | _ => simp [bmD] at h
    | _ => cases d0 <;> simp [bmD] at h
  · cases d <;> cases d0 <;> simp [bmD] at h
theorem indexD_spec {M : Mem} {x : D} {px : PV} (hx : reify 60 M x = some px) : ∀ {xs : List D} {k : Nat} {ps : List PV}, indexD M x xs = some k → mapO (reify 60 M) xs = some ps →
    ∃ z, ps[k]? = some z ∧ PV.eqv z px = true ∧ ∀ m z', m < k → ps[m]? = some z' → PV.eqv z' px = false
  | [], k, ps, h, _ => by simp [indexD] at h
  | y :: ys, k, ps, h, hp => by
    obtain ⟨py, qs, h1, h2, rfl⟩ := mapO_cons hp
    unfold indexD at h
    cases e : eqD M y x with
    | none => rw [e] at h; cases h
    | some b =>
      rw [e] at h
      obtain ⟨p1, p2, g1, g2, g3⟩ := eqD_reify e
      rw [h1] at g1; cases g1
      rw [hx] at g2; cases g2
      cases b with
      | true =>
        cases h
        exact ⟨py, rfl, g3.symm, fun m z' hm => absurd hm (Nat.not_lt_zero _)⟩
      | false =>
        obtain ⟨j, hj, rfl⟩ := Option.map_eq_some_iff.mp h
        obtain ⟨z, i1, i2, i3⟩ := indexD_spec hx hj h2
        refine ⟨z, by simpa using i1, i2, fun m z' hm hz => ?_⟩
        cases m with
        | zero => simp at hz; subst hz; exact g3.symm
        | succ m => exact i3 m z' (by omega) (by simpa using hz)
theorem pys_get : ∀ {ps : List PV} {k : Nat} {z : PV}, ps[k]? = some z → (PV.pys ps)[k]? = some z.py
  | [], k, z, h => by simp at h
  | p :: ps, 0, z, h => by simp at h; subst h; simp [PV.pys]
  | p :: ps, k + 1, z, h => by simp only [PV.pys, List.getElem?_cons_succ]; exact pys_get (by simpa using h)
theorem pys_get' : ∀ {ps : List PV} {k : Nat} {z : PyData}, (PV.pys ps)[k]? = some z → ∃ p, ps[k]? = some p ∧ z = p.py
  | [], k, z, h => by simp [PV.pys] at h
  | p :: ps, 0, z, h => by simp [PV.pys] at h; exact ⟨p, rfl, h.symm⟩
  | p :: ps, k + 1, z, h => by simp only [PV.pys, List.getElem?_cons_succ] at h; obtain ⟨p', h1, h2⟩ := pys_get' h; exact ⟨p', by simpa using h1, h2⟩
theorem eqD_some {M : Mem} {x y : D} {b : Bool} (h : eqD M y x = some b) : ∃ px, reify 60 M x = some px := by
  obtain ⟨_, p, _, h, _⟩ := eqD_reify h
  exact ⟨p, h⟩
theorem mt_indexE (hr : Room k X.A) (hK : X.K = C.K) : MtR X "list.index" (rBm C .index) := by
  intro pins s σ H v vs w us Q I rv rvs h
  obtain ⟨α, M, d, ds, z, M', S, rd, rs, h, q⟩ := h
  have hu65 : X.A.units + 65 < cLine := by have := hr.un; omega
  rcases ds with _ | ⟨d0, _ | ⟨d1, ds⟩⟩
  · cases d <;> simp [bmD] at h
  · obtain ⟨u, rfl, r0⟩ := one_arg rs
    cases rd with
    | @ref n a ha =>
      simp only [bmD] at h
      obtain ⟨xs, e1, h⟩ := bm_list (f := fun xs => if (mapO (reify 60 M) xs).isSome = true then (indexD M d0 xs).map fun k : Nat => (.int (k : Int), M) else none) h
      split at h
      · rename_i hm
        obtain ⟨ps, hps⟩ := Option.isSome_iff_exists.mp hm
        obtain ⟨j, hj, e2⟩ := Option.map_eq_some_iff.mp h
        cases e2
        obtain ⟨a', ws, q1, q2, q3, r⟩ := S.lst (v := .ref a) e1 (.ref ha)
        cases q1
        obtain ⟨px, hx⟩ : ∃ px, reify 60 M d0 = some px := by
          cases xs with
          | nil => simp [indexD] at hj
          | cons y ys =>
            unfold indexD at hj
            cases e : eqD M y d0 with
            | none => rw [e] at hj; cases hj
            | some b => exact eqD_some e
        obtain ⟨z, i1, i2, i3⟩ := indexD_spec hx hj hps
        obtain ⟨a1, a2⟩ := reify_ok S 60 d0 u px hx r0
        obtain ⟨b1, b2⟩ := reify_all 60 S (fun d v p h r => reify_ok S 60 d v p h r) xs ws ps hps r
        rw [← hK] at a1 b1
        refine mt_indexD hu65 pins s σ H _ _ w us Q I rv rvs ⟨a, u, px.py, PV.pys ps, j, z.py, rfl, rfl, .lst (.inl (.inl q3)) b1, a1, ?_, PV.shaped (by omega), pys_get i1, by rw [PV.eqv_py]; exact i2, fun m z' hm hz => ?_, done S (.int _) q⟩
        · have := PV.shaped (a := .lst ps) (by simp only [PV.dep]; omega)
          simpa only [PV.py] using this
        · obtain ⟨p, g1, rfl⟩ := pys_get' hz
          rw [PV.eqv_py]
          exact i3 m p hm g1
      · cases h
    | _ => simp [bmD] at h
  · cases d <;> simp [bmD] at h
theorem mt_get1E (hP : X.prog = C.prog) (hw : X.w = C.w) (hr : Room k X.A) : MtR X "dict.get" (rBm C .get1) := by
  intro pins s σ H v vs w us Q I rv rvs h
  obtain ⟨α, M, d, ds, z, M', S, rd, rs, h, q⟩ := h
  have hu16 : X.A.units + 16 < cLine := by have := hr.un; omega
  rcases ds with _ | ⟨d0, _ | ⟨d1, ds⟩⟩
  · cases d <;> simp [bmD] at h
  · obtain ⟨u, rfl, r0⟩ := one_arg rs
    cases rd with
    | @ref n a ha =>
      simp only [bmD] at h
      obtain ⟨xs, e1, h⟩ := bm_dic (f := fun kvs => if keyOk kvs d0 = true then some ((dget d0 kvs).getD .non, M) else none) h
      split at h
      · rename_i hk
        cases h
        obtain ⟨a', q0, q1, dc⟩ := S.dic (v := .ref a) e1 (.ref ha)
        cases q1
        cases rv
        obtain ⟨u0, rfl, ru⟩ := rvs.one
        exact dic_get I hP hw hu16 dc hk r0 ru .non rfl fun z w' s' I' rz rw' => ⟨z, H, I', rw', done S rz q⟩
      · cases h
    | _ => simp [bmD] at h
  · cases d <;> simp [bmD] at h
theorem mt_get2E (hP : X.prog = C.prog) (hw : X.w = C.w) (hr : Room k X.A) : MtR X "dict.get" (rBm C .get2) := by
  intro pins s σ H v vs w us Q I rv rvs h
  obtain ⟨α, M, d, ds, z, M', S, rd, rs, h, q⟩ := h
  have hu16 : X.A.units + 16 < cLine := by have := hr.un; omega
  rcases ds with _ | ⟨d0, _ | ⟨d1, _ | ⟨d2, ds⟩⟩⟩
  · cases d <;> simp [bmD] at h
  · cases d <;> simp [bmD] at h
  · obtain ⟨u, u2, rfl, r0, r1⟩ := two_arg rs
    cases rd with
    | @ref n a ha =>
      simp only [bmD] at h
      obtain ⟨xs, e1, h⟩ := bm_dic (f := fun kvs => if keyOk kvs d0 = true then some ((dget d0 kvs).getD d1, M) else none) h
      split at h
      · rename_i hk
        cases h
        obtain ⟨a', q0, q1, dc⟩ := S.dic (v := .ref a) e1 (.ref ha)
        cases q1
        cases rv
        obtain ⟨w0, w1, rfl, ru, ru2⟩ := rvs.two
        exact dic_get2 I hP hw hu16 dc hk r0 ru r1 ru2 fun z w' s' I' rz rw' => ⟨z, H, I', rw', done S rz q⟩
      · cases h
    | _ => simp [bmD] at h
  · cases d <;> simp [bmD] at h
end
end Pw

end
section
set_option maxHeartbeats 1000000
/-! Snd11: the rule of methods of built-in types; tuple(..), list(..). -/
namespace Pw
open PySem PySem.Spec PyProof.Rows L2

section
variable {C : PC} {k : Nat} {S : Sx} {X : Cx} {F : FT} {a b c : Expr} {pos p2 : Pos} {x y z : E}
def bmName : BM → String
  | .append => "append" | .extend => "extend" | .pop => "pop" | .popAt => "pop" | .insert => "insert" | .remove => "remove" | .index => "index" | .get1 => "get" | .get2 => "get" | .split => "split" | .join => "join"
def bmSup : BM → Bool
  | .remove => false | .split => false | .join => false | _ => true
structure BmIs (C : PC) (X : Cx) (m : BM) (T id : String) : Prop where
  pa : PlainAttrs T
  slot : Slot T (Str.ofString (bmName m)) id
  hty : typeOf (.builtin id) = pure (.type "method_descriptor")
  mt : MtR X id (rBm C m)
  rcv : ∀ {pins : List (Addr × Obj)} {s : Shared} {σ : L2.St} {H : Hp} {α : List Addr} {M : Mem} {d : D} {v : V} {u : Value}, Inv X pins σ H s → RS C α M H → RD C.sa α H d v → RelV v u → recvOk M m d = true →
    s.TypeIs u T ∧ ∀ a, u = .ref a → ∃ ob, s.heap.get? a = some ob ∧ ob.dict = none
theorem rcv_list {m : BM} (hm : ∀ M p, recvOk M m (.ref p) = true → ∃ xs, M[p]? = some (.lst xs)) (hr : ∀ M d, recvOk M m d = true → ∃ p, d = .ref p) {pins : List (Addr × Obj)} {s : Shared} {σ : L2.St} {H : Hp} {α : List Addr} {M : Mem} {d : D} {v : V} {u : Value} (I : Inv X pins σ H s) (S : RS C α M H) (rd : RD C.sa α H d v) (ru : RelV v u) (h : recvOk M m d = true) :
    s.TypeIs u "list" ∧ ∀ a, u = .ref a → ∃ ob, s.heap.get? a = some ob ∧ ob.dict = none := by
  obtain ⟨p, rfl⟩ := hr M d h
  obtain ⟨xs, e⟩ := hm M p h
  obtain ⟨a, vs, rfl, _, q3, _⟩ := S.lst e rd
  exact tyV_is I ru (.inl ⟨rfl, vs, .inl (.inl q3)⟩)
theorem rcv_dict (hP : X.prog = C.prog) {m : BM} (hm : ∀ M p, recvOk M m (.ref p) = true → ∃ xs, M[p]? = some (.dic xs)) (hr : ∀ M d, recvOk M m d = true → ∃ p, d = .ref p) {pins : List (Addr × Obj)} {s : Shared} {σ : L2.St} {H : Hp} {α : List Addr} {M : Mem} {d : D} {v : V} {u : Value} (I : Inv X pins σ H s) (S : RS C α M H) (rd : RD C.sa α H d v) (ru : RelV v u) (h : recvOk M m d = true) :
    s.TypeIs u "dict" ∧ ∀ a, u = .ref a → ∃ ob, s.heap.get? a = some ob ∧ ob.dict = none := by
  obtain ⟨p, rfl⟩ := hr M d h
  obtain ⟨xs, e⟩ := hm M p h
  obtain ⟨a, q, rfl, dc⟩ := S.dic e rd
  cases ru
  obtain ⟨o, ho, hx⟩ := (dc.at I hP).exact
  exact ⟨⟨o, ho, hx.1⟩, fun b e2 => by cases e2; exact ⟨o, ho, hx.2.1⟩⟩
theorem recv_list {M : Mem} {m : BM} {p : Nat} (hm : m ≠ .get1 ∧ m ≠ .get2 ∧ m ≠ .split ∧ m ≠ .join) (h : recvOk M m (.ref p) = true) : ∃ xs, M[p]? = some (.lst xs) := by
  cases e : M[p]? with
  | none => cases m <;> simp_all [recvOk]
  | some o => cases o <;> cases m <;> simp_all [recvOk]
theorem recv_ref {M : Mem} {m : BM} {d : D} (hm : m ≠ .split ∧ m ≠ .join) (h : recvOk M m d = true) : ∃ p, d = .ref p := by
  cases d <;> first | exact ⟨_, rfl⟩ | (cases m <;> simp_all [recvOk])
theorem recv_dict {M : Mem} {m : BM} {p : Nat} (hm : m = .get1 ∨ m = .get2) (h : recvOk M m (.ref p) = true) : ∃ xs, M[p]? = some (.dic xs) := by
  cases e : M[p]? with
  | none => rcases hm with rfl | rfl <;> simp_all [recvOk]
  | some o => cases o <;> rcases hm with rfl | rfl <;> simp_all [recvOk]
theorem bm_is (ok : OkX C k S X) (m : BM) (hm : bmSup m = true) : ∃ T id, BmIs C X m T id := by
  cases m with
  | append => exact ⟨"list", _, PySem.F.plainAttrs_list, PySem.F.slot_list_append, PySem.F.type_list_append, mt_appendE, rcv_list (fun M p h => recv_list (by simp) h) fun M d h => recv_ref (by simp) h⟩
  | extend => exact ⟨"list", _, PySem.F.plainAttrs_list, PySem.F.slot_list_extend, PySem.F.type_list_extend, mt_extendE, rcv_list (fun M p h => recv_list (by simp) h) fun M d h => recv_ref (by simp) h⟩
  | pop => exact ⟨"list", _, PySem.F.plainAttrs_list, PySem.F.slot_list_pop, PySem.F.type_list_pop, mt_popE, rcv_list (fun M p h => recv_list (by simp) h) fun M d h => recv_ref (by simp) h⟩
  | popAt => exact ⟨"list", _, PySem.F.plainAttrs_list, PySem.F.slot_list_pop, PySem.F.type_list_pop, mt_popAtE, rcv_list (fun M p h => recv_list (by simp) h) fun M d h => recv_ref (by simp) h⟩
  | insert => exact ⟨"list", _, PySem.F.plainAttrs_list, PySem.F.slot_list_insert, PySem.F.type_list_insert, mt_insertE, rcv_list (fun M p h => recv_list (by simp) h) fun M d h => recv_ref (by simp) h⟩
  | index => exact ⟨"list", _, PySem.F.plainAttrs_list, PySem.F.slot_list_index, PySem.F.type_list_index, mt_indexE ok.room ok.hK, rcv_list (fun M p h => recv_list (by simp) h) fun M d h => recv_ref (by simp) h⟩
  | get1 => exact ⟨"dict", _, PySem.F.plainAttrs_dict, PySem.F.slot_dict_get, PySem.F.type_dict_get, mt_get1E ok.hP ok.hw ok.room, rcv_dict ok.hP (fun M p h => recv_dict (by simp) h) fun M d h => recv_ref (by simp) h⟩
  | get2 => exact ⟨"dict", _, PySem.F.plainAttrs_dict, PySem.F.slot_dict_get, PySem.F.type_dict_get, mt_get2E ok.hP ok.hw ok.room, rcv_dict ok.hP (fun M p h => recv_dict (by simp) h) fun M d h => recv_ref (by simp) h⟩
  | remove => exact absurd hm (by decide)
  | split => exact absurd hm (by decide)
  | join => exact absurd hm (by decide)
theorem le_bm {es : List Expr} {r : E} {apos : Pos} (m : BM) (hm : bmSup m = true) (ok : OkX C k S X) (hn : notSuper a = true) (hs : noStars es = true) (h30 : es.length < 30) (hl : (apos.endLine == pos.line) = true) (ha : LE C X a (evE F x)) (hr : LA C X es (evEs F r)) (hw : rowLen r = some es.length) :
    LE C X (.Call (.Attribute a (Str.ofString (bmName m)) apos) es [] pos) (evE F (.bm m x r)) := by
  obtain ⟨T, id, B⟩ := bm_is ok m hm
  refine ⟨fun pins s σ H Q I h => ?_⟩
  obtain ⟨α, ρ, M, d, M', S, e, h, q⟩ := h
  simp only [evE] at h
  obtain ⟨dx, M1, g1, h⟩ := bnd_some_of h
  split at h
  · rename_i hrc
    obtain ⟨xs, M2, g2, h⟩ := bnd_some_of h
    have hfew : ((backTo pos (starEach es X.env)).all (fun x => !x.1) && (backToKw pos (keywordEach [] X.env)).all (fun x => x.1.isSome) && decide (es.length + ([] : List Keyword).length + (if ([] : List Keyword).isEmpty then 0 else 1) < 30)) = true := by
      rw [plainAll hs]
      show (true && true && decide (es.length + 0 + 0 < 30)) = true
      simp [h30]
    refine wpAny_Call_method_late (attrBase hn _ _ _) hfew hl rfl (thn (ha.run pins s σ H (fun v H1 => ∃ α1, Step α α1 H H1 ∧ RS C α1 M1 H1 ∧ RD C.sa α1 H1 dx v) I ⟨α, ρ, M, dx, M1, S, e, g1, fun α1 v H1 t1 s1 r1 => ⟨α1, t1, s1, r1⟩⟩) fun v s1 ⟨xv, H1, I1, rv, α1, t1, S1, r1⟩ => ?_)
    obtain ⟨h1, h2⟩ := B.rcv I1 S1 r1 rv hrc
    refine ⟨T, id, B.pa, B.slot, B.hty, h1, h2, ?_⟩
    have fin : ∀ {us : List Value} {vs : List V} {s3 : Shared} {H3 : Hp} {α3 : List Addr}, Step α1 α3 H1 H3 → RS C α3 M2 H3 → RDs C.sa α3 H3 xs vs → Inv X pins σ H3 s3 → Vals vs us → wpAny (model X.prog X.w) X.A (call (.builtin id) (v :: us)) (EP X pins σ Q) X.xe s3 := by
      intro us vs s3 H3 α3 t3 S3 r3 I3 rvs
      exact B.mt pins s3 σ H3 xv vs v us Q I3 rv rvs ⟨α3, M2, dx, xs, d, M', S3, r1.mono S1 t3, r3, h, fun α4 v4 H4 t4 => q α4 v4 H4 ((t1.trans t3).trans t4)⟩
    cases es with
    | nil =>
      have hr0 : r = .nil := by
        cases r <;> first | rfl | (simp [rowLen] at hw; done)
      subst hr0
      simp only [evEs] at g2
      cases g2
      exact Calls.callWith_builtin rfl (PySem.evalArgs_none (fin (us := []) (vs := []) (Step.refl _ _) S1 .nil I1 .nil))
    | cons e0 es =>
      have hs' := hs
      simp only [noStars, Bool.and_eq_true] at hs'
      have hst := star_cons hs'.1 es X.env
      have hA := hr.run pos pins s1 σ H1 (fun vs H3 => ∃ α3, Step α1 α3 H1 H3 ∧ RS C α3 M2 H3 ∧ RDs C.sa α3 H3 xs vs) I1 ⟨α1, ρ, M1, xs, M2, S1, e.mono S t1, g2, fun α3 v3 H3 t3 s3 r3 => ⟨α3, t3, s3, r3⟩⟩
      rw [hst] at hA ⊢
      refine Calls.callWith_builtin (by show (false || (backTo pos (starEach es X.env)).any (·.1)) = false; rw [starPlain hs'.2]; rfl) (Calls.evalArgs_plain ?_)
      exact thn hA fun us s2 ⟨vs, H2, I2, r2, α3, t3, S3, r3⟩ => fin t3 S3 r3 I2 r2
  · cases h

/-! ### tuple(x), list(x) of a list or tuple -/
theorem items_seq {α : List Addr} {M : Mem} {H : Hp} (s : RS C α M H) {d : D} {v : V} {it : Items} (r : RD C.sa α H d v) (h : itemsD M d = some it) :
    (∃ a vs, v = .ref a ∧ H a = some (.tup vs) ∧ RDs C.sa α H it.1 vs ∧ it.2 = [] ∧ d = .tup it.1) ∨
    (∃ n a vs, d = .ref n ∧ v = .ref a ∧ α[n]? = some a ∧ M[n]? = some (.lst it.1) ∧ H a = some (.lst vs) ∧ RDs C.sa α H it.1 vs ∧ it.2 = [(n, .lst it.1)]) := by
  cases r with
  | tup ha rs => cases h; exact .inl ⟨_, _, rfl, ha, rs, rfl, rfl⟩
  | @ref n a ha =>
    simp only [itemsD] at h
    cases e : M[n]? with
    | none => rw [e] at h; cases h
    | some o =>
      rw [e] at h
      cases o with
      | lst xs =>
        cases h
        obtain ⟨a', vs, q1, q2, q3, rs⟩ := s.lst (v := .ref a) e (.ref ha)
        cases q1
        exact .inr ⟨n, a, vs, rfl, rfl, ha, e, q3, rs, rfl⟩
      | _ => cases h
  | _ => simp [itemsD] at h
theorem le_tupOf (ok : OkX C k S X) (hg : BuOk C X (Str.ofString "tuple")) (hs : notStar a = true) (ha : LE C X a (evE F x)) :
    LE C X (.Call (.Name (Str.ofString "tuple") p2) [a] [] pos) (evE F (.coll .tuple (.cons x .nil))) := by
  have hm := hg.mg
  rw [← ok.hmg] at hm
  refine PE.imp (pe_tupleOf hg.gl hm ha (star_cons hs [] _)) ?_
  rintro σ H Q ⟨α, ρ, M, d, M', s, e, h, q⟩
  simp only [evE, evIt] at h
  obtain ⟨it, M1, g1, h⟩ := bnd_some_of h
  obtain ⟨dx, M2, g2, g1⟩ := bnd_some_of g1
  obtain ⟨it', hit, e2⟩ := Option.map_eq_some_iff.mp g1
  cases e2
  cases h
  refine ⟨α, ρ, M, dx, _, s, e, g2, fun α1 v1 H1 t1 s1 r1 => ?_⟩
  rcases items_seq s1 r1 hit with ⟨a', vs, rfl, h1, h2, h3, _⟩ | ⟨n, a', vs, rfl, rfl, h0, h1, h2, h3, h4⟩
  · exact .inr ⟨a', vs, rfl, .inl (.inl h1), q _ _ _ t1 s1 (.tup h1 h2)⟩
  · exact .inl ⟨a', vs, rfl, .inl (.inl h2), fun p hp => done_tup s1 h3 hp fun α' v H' t => q α' v H' (t1.trans t)⟩
end
end Pw

end
section
set_option maxHeartbeats 1000000
/-! Snd12: targets, iterables. -/
namespace Pw
open PySem PySem.Spec PyProof.Rows L2

section
variable {C : PC} {X : Cx} {α : List Addr} {M : Mem} {H : Hp} {σ : L2.St} {ρ : VEnv}
theorem RE.set {sa : Addr} (r : RE sa α H ρ σ) {d : D} {v : V} (h : RD sa α H d v) (i : Nat) : RE sa α H (ρ.set i (some d)) (σ.set i (some v)) := by
  refine ⟨by simp [r.len], fun j e hj => ?_⟩
  by_cases hij : i = j
  · subst hij
    have hl : i < ρ.length := by
      have := (List.getElem?_eq_some_iff.mp hj).1
      simpa using this
    rw [List.getElem?_set_self hl] at hj
    cases hj
    exact ⟨v, by rw [List.getElem?_set_self (by rw [← r.len]; exact hl)], h⟩
  · rw [List.getElem?_set_ne hij] at hj
    obtain ⟨w, h1, h2⟩ := r.at_ j e hj
    exact ⟨w, by rw [List.getElem?_set_ne hij]; exact h1, h2⟩
theorem RE.none {sa : Addr} (r : RE sa α H ρ σ) (i : Nat) : RE sa α H (ρ.set i none) (σ.set i none) := by
  refine ⟨by simp [r.len], fun j e hj => ?_⟩
  by_cases hij : i = j
  · subst hij
    have hl : i < ρ.length := by
      have := (List.getElem?_eq_some_iff.mp hj).1
      simpa using this
    rw [List.getElem?_set_self hl] at hj
    cases hj
  · rw [List.getElem?_set_ne hij] at hj
    obtain ⟨w, h1, h2⟩ := r.at_ j e hj
    exact ⟨w, by rw [List.getElem?_set_ne hij]; exact h1, h2⟩
theorem RE.wipe {sa : Addr} (r : RE sa α H ρ σ) : ∀ vs : List Nat, RE sa α H (wipeE ρ vs) (wipe σ vs)
  | [] => r
  | v :: vs => (RE.wipe r vs).none v
theorem wipe_set {σ : L2.St} {o : Option V} : ∀ {vs : List Nat} {i : Nat}, i ∈ vs → wipe (σ.set i o) vs = wipe σ vs
  | v :: vs, i, h => by
    unfold wipe
    by_cases hv : i = v
    · subst hv
      apply List.ext_getElem?
      intro j
      by_cases hj : i = j
      · subst hj
        rw [List.getElem?_set_self', List.getElem?_set_self']
        by_cases hl : i < σ.length
        · rw [List.getElem?_eq_getElem (by rw [wipe_length, List.length_set]; exact hl), List.getElem?_eq_getElem (by rw [wipe_length]; exact hl)]
          rfl
        · rw [List.getElem?_eq_none (by rw [wipe_length, List.length_set]; omega), List.getElem?_eq_none (by rw [wipe_length]; omega)]
      · rw [List.getElem?_set_ne hj, List.getElem?_set_ne hj]
        exact wipe_get_ne hj vs
    · have : i ∈ vs := by
        rcases List.mem_cons.mp h with h | h
        · exact absurd h hv
        · exact h
      rw [wipe_set this]
where
  wipe_get_ne {i j : Nat} (hj : ¬ i = j) : ∀ vs : List Nat, (wipe (σ.set i o) vs)[j]? = (wipe σ vs)[j]?
    | [] => by unfold wipe; rw [List.getElem?_set_ne hj]
    | v :: vs => by
      unfold wipe
      by_cases hv : v = j
      · subst hv
        rw [List.getElem?_set_self', List.getElem?_set_self', wipe_get_ne hj vs]
      · rw [List.getElem?_set_ne hv, List.getElem?_set_ne hv]
        exact wipe_get_ne hj vs
def patVars : Pat → List Nat
  | .name i => [i]
  | .tup is => is
/-- a name that may be stored -/
def Sto (X : Cx) (i : Nat) (x : Str) : Prop := X.N[i]? = some x ∧ Loc X.env.scope x ∧ (X.fn x = true ∨ X.env.scope.names.lookup x = some .local)
def gNames : List Nat → TGs
  | [] => gNil
  | i :: is => gCons (gName i) (gNames is)
inductive Stos (X : Cx) : List Nat → List Expr → Prop where
  | nil : Stos X [] []
  | cons {i : Nat} {is : List Nat} {x : Str} {p : Pos} {es : List Expr} : Sto X i x → Stos X is es → Stos X (i :: is) (.Name x p :: es)
theorem pgs_names (hN : X.N.Nodup) : ∀ {is : List Nat} {es : List Expr}, Stos X is es → PGs X es (gNames is) ∧ (assignEach es X.env).length = is.length ∧ (assignEach es X.env).findIdx? (·.1) = none
  | _, _, .nil => ⟨pgs_nil, rfl, rfl⟩
  | _, _, .cons (i := i) (is := is) (x := x) (p := p) (es := es) hs r => by
    obtain ⟨h1, h2, h3⟩ := pgs_names hN r
    refine ⟨pgs_cons (pg_name hN hs.1 hs.2.1 hs.2.2) h1, ?_, ?_⟩
    · show (_ :: assignEach es X.env).length = _
      simp [h2]
    · show ((false, assign (.Name x p) X.env) :: assignEach es X.env).findIdx? (·.1) = none
      rw [List.findIdx?_cons, h3]
      rfl
theorem names_ok {sa : Addr} : ∀ {is : List Nat} {ds : List D} {vs : List V} {ρ : VEnv} {σ : L2.St} {k : L2.St → Hp → Prop}, is.length = ds.length → RDs sa α H ds vs → RE sa α H ρ σ →
    (∀ σ1, RE sa α H ((is.zip ds).foldl (fun ρ p => ρ.set p.1 (some p.2)) ρ) σ1 → (∀ ws, (∀ i ∈ is, i ∈ ws) → wipe σ1 ws = wipe σ ws) → k σ1 H) → gNames is vs σ H k
  | [], [], _, ρ, σ, k, _, .nil, re, hk => ⟨rfl, hk σ re fun _ _ => rfl⟩
  | i :: is, d :: ds, _, ρ, σ, k, hl, .cons h r, re, hk => by
    refine ⟨_, _, rfl, ?_⟩
    refine names_ok (is := is) (by simpa using hl) r (re.set h i) fun σ1 r1 h1 => ?_
    refine hk σ1 r1 fun ws hw => ?_
    rw [h1 ws fun j hj => hw j (List.mem_cons_of_mem _ hj), wipe_set (hw i List.mem_cons_self)]
/-- what a target stores -/
def gOf (C : PC) : Pat → TG
  | .name i => gName i
  | .tup is => gTup C.K is.length (gNames is)
theorem pat_ok : ∀ (p : Pat) (d : D) (v : V) (ρ ρ1 : VEnv) (σ : L2.St) (k : L2.St → Hp → Prop), RS C α M H → RD C.sa α H d v → RE C.sa α H ρ σ → bindPat p d ρ = some ρ1 →
    (∀ σ1, RE C.sa α H ρ1 σ1 → (∀ vs, (∀ i ∈ patVars p, i ∈ vs) → wipe σ1 vs = wipe σ vs) → k σ1 H) → gOf C p v σ H k
  | .name i, d, v, ρ, ρ1, σ, k, S, rd, re, h, hk => by
    cases h
    exact hk _ (re.set rd i) fun vs hv => wipe_set (hv i (by simp [patVars]))
  | .tup is, d, v, ρ, ρ1, σ, k, S, rd, re, h, hk => by
    cases rd with
    | @tup a ds vs ha rs =>
      simp only [bindPat] at h
      split at h
      · rename_i hl
        cases h
        exact ⟨a, vs, rfl, .inl (.inl ha), by rw [← rs.length]; exact hl.symm, names_ok hl rs re hk⟩
      · cases h
    | _ => simp [bindPat] at h
theorem pg_nameP {i : Nat} {x : Str} {pos : Pos} (hN : X.N.Nodup) (hs : Sto X i x) : PG X (.Name x pos) (gOf C (.name i)) := pg_name hN hs.1 hs.2.1 hs.2.2
theorem pg_tupP {is : List Nat} {es : List Expr} {kk : Nat} {pos : Pos} (hN : X.N.Nodup) (hc : X.calm = true) (hK : X.K = C.K) (hs : Stos X is es) : PG X (.Tuple es kk pos) (gOf C (.tup is)) := by
  obtain ⟨h1, h2, h3⟩ := pgs_names hN hs
  have := pg_tup (pos := pos) (k := kk) hc h1 h2 h3
  rw [hK] at this
  exact this

/-! ### iterables -/
/-- the iterator J gives the items -/
def JOk (C : PC) (J : It) (α1 : List Addr) (H1 : Hp) (it : Items) : Prop := ∀ (i : Nat) (α2 : List Addr) (M2 : Mem) (H2 : Hp), Step α1 α2 H1 H2 → RS C α2 M2 H2 → still it.2 M2 = true →
  (∀ d, it.1[i]? = some d → J.go i H2 ∧ ∀ x H3, J.yld i H2 x H3 → Step α2 α2 H2 H3 ∧ RS C α2 M2 H3 ∧ RD C.sa α2 H3 d x) ∧ (it.1.length ≤ i → J.stop i H2)
structure LI (C : PC) (X : Cx) (F : FT) (tg iter : Expr) (x : E) : Prop where
  ok : ∃ wi, PI X tg iter wi ∧ ∀ σ H R, (∃ α ρ M its M', RS C α M H ∧ RE C.sa α H ρ σ ∧ evIt F x ρ M = some (its, M') ∧ ∀ α' H' J, Step α α' H H' → RS C α' M' H' → JOk C J α' H' its → R J H') → wi σ H R
theorem iter_list {tg : Expr} {pins : List (Addr × Obj)} {s : Shared} {a : Addr} {xs : List V} {R : It → Hp → Prop} (I : Inv X pins σ H s) (h : SqL X.K H a xs) (q : R (Itl X.K a) H) : wpAny (model X.prog X.w) X.A (pyIter (.ref a)) (PIE X pins σ tg R) X.xe s := by
  obtain ⟨its, rv, pl, _⟩ := I.list h
  exact wpAny_pyIter_list pl.isList (pi_one (tk := s.toks) I _ (turn_list a _) ⟨_, Heap.get?_push_size _ rfl, rfl, rfl⟩ q)
theorem iter_tup {tg : Expr} {pins : List (Addr × Obj)} {s : Shared} {a : Addr} {xs : List V} {R : It → Hp → Prop} (I : Inv X pins σ H s) (h : SqT X.K H a xs) (q : R (Itt X.K a) H) : wpAny (model X.prog X.w) X.A (pyIter (.ref a)) (PIE X pins σ tg R) X.xe s := by
  obtain ⟨its, rv, pl, _⟩ := I.tuple h
  exact wpAny_pyIter_tuple (show s.heap.IsTuple a its.toArray from pl) (pi_one (tk := s.toks) I _ (turn_tuple a _) ⟨_, Heap.get?_push_size _ rfl, rfl, rfl⟩ q)
/-- over a list or a tuple -/
def iSq (K : PySem.W.Frag) (t : TE) : TI := fun σ H R => t σ H fun x H1 => ∃ a, x = .ref a ∧ (((∃ xs, SqL K H1 a xs) ∧ R (Itl K a) H1) ∨ ((∃ xs, SqT K H1 a xs) ∧ R (Itt K a) H1))
theorem pi_sq {tg e : Expr} {t : TE} (h : PE X e t) : PI X tg e (iSq X.K t) := by
  refine ⟨fun pins s σ H R I hw => thn (h.run pins s σ H _ I hw) fun v s1 ⟨x, H1, I1, r1, a, ex, q⟩ => ?_⟩
  subst ex
  cases r1
  rcases q with ⟨⟨xs, hx⟩, q⟩ | ⟨⟨xs, hx⟩, q⟩
  · exact iter_list I1 hx q
  · exact iter_tup I1 hx q
theorem still_one {p : Nat} {o : MO} {M : Mem} (h : still [(p, o)] M = true) : M[p]? = some o := by simpa [still] using h
theorem jok_list {n : Nat} {a : Addr} {xs : List D} (S : RS C α M H) (hn : α[n]? = some a) : JOk C (Itl C.K a) α H (xs, [(n, .lst xs)]) := by
  intro i α2 M2 H2 t S2 st
  have e := still_one st
  obtain ⟨a', vs, q1, q2, q3, rs⟩ := S2.lst (v := .ref a) e (.ref (t.get hn))
  cases q1
  refine ⟨fun d hd => ?_, fun hl => ⟨vs, .inl (.inl q3), by rw [← rs.length]; exact hl⟩⟩
  obtain ⟨v, h1, h2⟩ := rs.get hd
  refine ⟨⟨vs, v, .inl (.inl q3), h1⟩, fun x H3 y => ?_⟩
  obtain ⟨rfl, y⟩ := y
  have e2 := y vs (.inl (.inl q3))
  rw [h1] at e2
  cases e2
  exact ⟨Step.refl _ _, S2, h2⟩
theorem jok_tup {a : Addr} {xs : List D} {vs : List V} (S : RS C α M H) (ha : H a = some (.tup vs)) (rs : RDs C.sa α H xs vs) : JOk C (Itt C.K a) α H (xs, []) := by
  intro i α2 M2 H2 t S2 st
  have ha2 := S.tup_keep t ha
  refine ⟨fun d hd => ?_, fun hl => ⟨vs, .inl (.inl ha2), by rw [← rs.length]; exact hl⟩⟩
  obtain ⟨v, h1, h2⟩ := rs.get hd
  refine ⟨⟨vs, v, .inl (.inl ha2), h1⟩, fun x H3 y => ?_⟩
  obtain ⟨rfl, y⟩ := y
  have e2 := y vs (.inl (.inl ha2))
  rw [h1] at e2
  cases e2
  exact ⟨Step.refl _ _, S2, h2.mono S t⟩
/-- an iterable by its value: no dict -/
theorem li_seq {F : FT} {tg e : Expr} {x : E} (hK : X.K = C.K) (h : LE C X e (evE F x)) : LI C X F tg e (.cons x .nil) := by
  refine ⟨_, pi_sq h, ?_⟩
  rintro σ H R ⟨α, ρ, M, its, M', s, e, h, q⟩
  simp only [evIt] at h
  obtain ⟨dx, M1, g1, h⟩ := bnd_some_of h
  obtain ⟨it, hit, e2⟩ := Option.map_eq_some_iff.mp h
  cases e2
  refine ⟨α, ρ, M, dx, M', s, e, g1, fun α1 v1 H1 t1 s1 r1 => ?_⟩
  rw [hK]
  rcases items_seq s1 r1 hit with ⟨a', vs, rfl, h1, h2, h3, _⟩ | ⟨n, a', vs, rfl, rfl, h0, h1, h2, h3, h4⟩
  · refine ⟨a', rfl, .inr ⟨⟨vs, .inl (.inl h1)⟩, q α1 H1 _ t1 s1 ?_⟩⟩
    have := jok_tup s1 h1 h2
    rw [← h3] at this
    exact this
  · refine ⟨a', rfl, .inl ⟨⟨vs, .inl (.inl h2)⟩, q α1 H1 _ t1 s1 ?_⟩⟩
    have := jok_list (xs := its.1) s1 h0
    rw [← h4] at this
    exact this
/-! ### ranges -/
theorem rangeL_case {lo hi st : Int} {l : List D} (h : rangeL lo hi st = some l) : -(2 ^ 61) < lo ∧ lo < 2 ^ 61 ∧ -(2 ^ 61) < hi ∧ hi < 2 ^ 61 ∧
    ((st = 1 ∧ l = (List.range (hi - lo).toNat).map fun k : Nat => .int (lo + (k : Int))) ∨ (st = -1 ∧ l = (List.range (lo - hi).toNat).map fun k : Nat => .int (lo - (k : Int)))) := by
  unfold rangeL at h
  split at h
  · rename_i hb
    refine ⟨hb.1, hb.2.1, hb.2.2.1, hb.2.2.2, ?_⟩
    split at h
    · rename_i e; cases h; exact .inl ⟨e, rfl⟩
    · split at h
      · rename_i e; cases h; exact .inr ⟨e, rfl⟩
      · cases h
  · cases h
theorem jok_range {lo : Int} {n : Nat} : JOk C (Itr lo n) α H ((List.range n).map fun k : Nat => .int (lo + (k : Int)), []) := by
  intro i α2 M2 H2 t S2 st
  refine ⟨fun d hd => ?_, fun hl => (show n ≤ i by simpa using hl)⟩
  rw [List.getElem?_map] at hd
  obtain ⟨k, hk, e⟩ := Option.map_eq_some_iff.mp hd
  subst e
  have hk2 := List.getElem?_eq_some_iff.mp hk
  obtain ⟨h1, h2⟩ := hk2
  rw [List.getElem_range] at h2
  subst h2
  refine ⟨(show i < n by simpa using h1), fun x H3 y => ?_⟩
  obtain ⟨rfl, rfl⟩ := y
  exact ⟨Step.refl _ _, S2, .int _⟩
theorem jok_down {lo : Int} {n : Nat} : JOk C (Itc lo (-1) n) α H ((List.range n).map fun k : Nat => .int (lo - (k : Int)), []) := by
  intro i α2 M2 H2 t S2 st
  refine ⟨fun d hd => ?_, fun hl => (show n ≤ i by simpa using hl)⟩
  rw [List.getElem?_map] at hd
  obtain ⟨k, hk, e⟩ := Option.map_eq_some_iff.mp hd
  subst e
  have hk2 := List.getElem?_eq_some_iff.mp hk
  obtain ⟨h1, h2⟩ := hk2
  rw [List.getElem_range] at h2
  subst h2
  refine ⟨(show i < n by simpa using h1), fun x H3 y => ?_⟩
  obtain ⟨rfl, rfl⟩ := y
  refine ⟨Step.refl _ _, S2, ?_⟩
  have : lo + ((i : Nat) : Int) * (-1) = lo - (i : Int) := by omega
  rw [this]
  exact .int _
theorem JOk.conv {lo : Int} {n : Nat} {it : Items} (h : JOk C (Itr lo n) α H it) : JOk C (Itc lo 1 n) α H it := by
  intro i α2 M2 H2 t S2 st
  obtain ⟨h1, h2⟩ := h i α2 M2 H2 t S2 st
  refine ⟨fun d hd => ⟨(h1 d hd).1, fun x H3 y => (h1 d hd).2 x H3 ⟨y.1, ?_⟩⟩, h2⟩
  have e := y.2
  rw [Int.mul_one] at e
  exact e
theorem three_arg {sa : Addr} {d e f : D} {vs : List V} (r : RDs sa α H [d, e, f] vs) : ∃ v u w, vs = [v, u, w] ∧ RD sa α H d v ∧ RD sa α H e u ∧ RD sa α H f w := by
  cases r with
  | cons r1 r2 => obtain ⟨u, w, rfl, r3, r4⟩ := two_arg r2; exact ⟨_, _, _, rfl, r1, r3, r4⟩
theorem rangeD_case {ds l : List D} (h : rangeD ds = some l) : (∃ a, ds = [.int a] ∧ rangeL 0 a 1 = some l) ∨ (∃ a b, ds = [.int a, .int b] ∧ rangeL a b 1 = some l) ∨ (∃ a b c, ds = [.int a, .int b, .int c] ∧ rangeL a b c = some l) := by
  unfold rangeD at h
  split at h
  · exact .inl ⟨_, rfl, h⟩
  · exact .inr (.inl ⟨_, _, rfl, h⟩)
  · exact .inr (.inr ⟨_, _, _, rfl, h⟩)
  · cases h
theorem li_range {k : Nat} {S : Sx} {F : FT} {tg : Expr} {es : List Expr} {r : E} {p pos : Pos} (ok : OkX C k S X) (hg : BuOk C X (Str.ofString "range")) (hs : noStars es = true) (hr : LA C X es (evEs F r)) (hw : rowLen r = some es.length) (hl : es.length = 1 ∨ es.length = 2 ∨ es.length = 3) :
    LI C X F tg (.Call (.Name (Str.ofString "range") p) es [] pos) (.range r) := by
  have hm := hg.mg
  rw [← ok.hmg] at hm
  have open' : ∀ {ρ M its M'}, evIt F (.range r) ρ M = some (its, M') → ∃ ds, evEs F r ρ M = some (ds, M') ∧ ds.length = es.length ∧ ∃ l, rangeD ds = some l ∧ its = (l, []) := by
    intro ρ M its M' h
    simp only [evIt] at h
    obtain ⟨ds, M1, g1, h⟩ := bnd_some_of h
    obtain ⟨l, hl, e⟩ := Option.map_eq_some_iff.mp h
    cases e
    exact ⟨ds, g1, rowLen_ev hw g1, l, hl, rfl⟩
  rcases hl with hl | hl | hl
  · match es, hl with
    | [a], _ =>
      simp only [noStars, Bool.and_eq_true] at hs
      refine ⟨_, pi_range1 hg.gl hm hr (star_cons hs.1 [] _), ?_⟩
      rintro σ H R ⟨α, ρ, M, its, M', s, e, h, q⟩
      obtain ⟨ds, g1, g2, l, g3, rfl⟩ := open' h
      refine ⟨α, ρ, M, ds, M', s, e, g1, fun α1 v1 H1 t1 s1 r1 => ?_⟩
      rcases rangeD_case g3 with ⟨i, rfl, g4⟩ | ⟨i, j, rfl, g4⟩ | ⟨i, j, c, rfl, g4⟩ <;> try (simp at g2; done)
      obtain ⟨v, rfl, rv⟩ := one_arg r1
      cases rv
      obtain ⟨b1, b2, b3, b4, ⟨_, rfl⟩ | ⟨b5, _⟩⟩ := rangeL_case g4
      · refine ⟨i, rfl, by omega, by omega, q α1 H1 _ t1 s1 ?_⟩
        have := jok_range (C := C) (α := α1) (H := H1) (lo := 0) (n := (i - 0).toNat)
        rw [show i - 0 = i by omega] at this ⊢
        exact this
      · exact absurd b5 (by decide)
  · match es, hl with
    | [a, b], _ =>
      simp only [noStars, Bool.and_eq_true] at hs
      refine ⟨_, pi_range2 hg.gl hm hr (by rw [star_cons hs.1, star_cons hs.2.1]; rfl) (by rw [star_cons hs.2.1]; rfl), ?_⟩
      rintro σ H R ⟨α, ρ, M, its, M', s, e, h, q⟩
      obtain ⟨ds, g1, g2, l, g3, rfl⟩ := open' h
      refine ⟨α, ρ, M, ds, M', s, e, g1, fun α1 v1 H1 t1 s1 r1 => ?_⟩
      rcases rangeD_case g3 with ⟨i, rfl, g4⟩ | ⟨i, j, rfl, g4⟩ | ⟨i, j, c, rfl, g4⟩ <;> try (simp at g2; done)
      obtain ⟨v, u, rfl, rv, ru⟩ := two_arg r1
      cases rv; cases ru
      obtain ⟨b1, b2, b3, b4, ⟨_, rfl⟩ | ⟨b5, _⟩⟩ := rangeL_case g4
      · exact ⟨i, j, rfl, ⟨by omega, by omega, by omega, by omega⟩, q α1 H1 _ t1 s1 jok_range⟩
      · exact absurd b5 (by decide)
  · match es, hl with
    | [a, b, c], _ =>
      simp only [noStars, Bool.and_eq_true] at hs
      refine ⟨_, pi_range3 hg.gl hm hr (star_cons hs.1 _ _) (starPlain (by simp only [noStars, Bool.and_eq_true]; exact hs.2)), ?_⟩
      rintro σ H R ⟨α, ρ, M, its, M', s, e, h, q⟩
      obtain ⟨ds, g1, g2, l, g3, rfl⟩ := open' h
      refine ⟨α, ρ, M, ds, M', s, e, g1, fun α1 v1 H1 t1 s1 r1 => ?_⟩
      rcases rangeD_case g3 with ⟨i, rfl, g4⟩ | ⟨i, j, rfl, g4⟩ | ⟨i, j, c, rfl, g4⟩ <;> try (simp at g2; done)
      obtain ⟨v, u, w, rfl, rv, ru, rw'⟩ := three_arg r1
      cases rv; cases ru; cases rw'
      obtain ⟨b1, b2, b3, b4, ⟨rfl, rfl⟩ | ⟨rfl, rfl⟩⟩ := rangeL_case g4
      · refine ⟨i, j, 1, (j - i).toNat, rfl, ⟨by decide, by decide, small_one (by omega) (by omega) (by omega) (by omega), rangeSize_nat i j⟩, q α1 H1 _ t1 s1 ?_⟩
        have := jok_range (C := C) (α := α1) (H := H1) (lo := i) (n := (j - i).toNat)
        exact this.conv
      · exact ⟨i, j, -1, (i - j).toNat, rfl, RgC.neg (by omega) (by omega) (by omega) (by omega), q α1 H1 _ t1 s1 jok_down⟩
end
end Pw

end
section
set_option maxHeartbeats 1000000
/-! Snd13: list comprehensions. -/
namespace Pw
open PySem PySem.Spec PyProof.Rows L2

section
variable {C : PC} {X : Cx} {α α' : List Addr} {M : Mem} {H H' : Hp} {σ : L2.St} {ρ : VEnv} {D : Addr}
theorem Step.out (t : Step α α' H H') {o : HO} (h : H D = some o) (hn : D ∉ α) (ht : ∀ ps, o ≠ .tbl ps := by intro _ e; cases e) : D ∉ α' ∧ H' D = some o := by
  refine ⟨fun hm => ?_, t.keep h hn ht⟩
  rcases t.new D hm with z | z
  · exact hn z
  · rw [h] at z; cases z
theorem Step.before (t : Step α α' H H') (s : RS C α M H) (h : H' D = none) {M' : Mem} (s' : RS C α' M' H') : H D = none := by
  cases e : H D with
  | none => rfl
  | some o =>
    by_cases hm : D ∈ α
    · have : D ∈ α' := by obtain ⟨r, rfl⟩ := t.pre; exact List.mem_append_left _ hm
      obtain ⟨_, _, _, _, _, z, _⟩ := s'.at this
      rw [h] at z; cases z
    · obtain ⟨o', q, _⟩ := t.frame D o e hm
      rw [q] at h; cases h
theorem Step.poke (t : Step α α' H H') (h : H D = none) (o : HO) : Step α α' H (upd H' D o) :=
  ⟨t.pre, t.new, fun a x e hn => by rw [upd_ne (ne_of_none e h)]; exact t.frame a x e hn⟩
theorem Step.adopt (t : Step α α' H H') (h : H D = none) : Step α (α' ++ [D]) H H' := by
  refine ⟨?_, fun a ha => ?_, t.frame⟩
  · obtain ⟨r, rfl⟩ := t.pre
    exact ⟨r ++ [D], by simp⟩
  · rcases List.mem_append.mp ha with ha | ha
    · exact t.new a ha
    · rw [List.mem_singleton.mp ha]; exact .inr h
/-- no tuple stands at D -/
def NoTup (H : Hp) (D : Addr) : Prop := ∀ vs, H D ≠ some (.tup vs)
mutual
theorem RD.poke (hD : NoTup H D) (o : HO) : ∀ {d : Pw.D} {v : V}, RD C.sa α H d v → RD C.sa α (upd H D o) d v
  | _, _, .non => .non
  | _, _, .bl b => .bl b
  | _, _, .int i => .int i
  | _, _, .str h => .str h
  | _, _, .tup h r => .tup (by rw [upd_ne (fun e => hD _ (e ▸ h))]; exact h) (RDs.poke hD o r)
  | _, _, .ref h => .ref h
  | _, _, .scr => .scr
theorem RDs.poke (hD : NoTup H D) (o : HO) : ∀ {d : List Pw.D} {v : List V}, RDs C.sa α H d v → RDs C.sa α (upd H D o) d v
  | _, _, .nil => .nil
  | _, _, .cons h r => .cons (RD.poke hD o h) (RDs.poke hD o r)
end
theorem RF.poke (hD : NoTup H D) (o : HO) : ∀ {fs : List (String × Pw.D)} {vs : List (Str × V)}, RF C.sa α H fs vs → RF C.sa α (upd H D o) fs vs
  | _, _, .nil => .nil
  | _, _, .cons h r => .cons (h.poke hD o) (RF.poke hD o r)
theorem RK.poke (hD : NoTup H D) (o : HO) : ∀ {fs : List (Pw.D × Pw.D)} {vs : List (Pw.D × V × V)}, RK C.sa α H fs vs → RK C.sa α (upd H D o) fs vs
  | _, _, .nil => .nil
  | _, _, .cons h h2 r => .cons (h.poke hD o) (h2.poke hD o) (RK.poke hD o r)
theorem RO.poke (hD : NoTup H D) (o : HO) {a : Addr} {m : MO} {ho : HO} (r : RO C α H a m ho) : RO C α (upd H D o) a m ho := by
  cases r with
  | lst h => exact .lst (h.poke hD o)
  | dic h1 h2 h3 h4 h5 => exact .dic (h1.poke hD o) h2 h3 h4 h5
  | ins h1 h2 => exact .ins h1 (h2.poke hD o)
/-- the script does not stand at D, or it is the module's -/
def ScD (C : PC) (D : Addr) : Prop := D ≠ C.sa ∨ ∃ (o : Obj) (its : Array Value) (n : Nat), C.K.lookup C.sa = some o ∧ o.cls = .type "list" ∧ o.dict = none ∧ o.data = .seq its n ∧ its.size ≤ sizeLine ∧ Vals (C.P.script.map V.int) its.toList
theorem RS.scD (s : RS C α M H) (h : H D = none) : ScD C D := by
  rcases s.sc with ⟨r | ⟨o, r⟩, _⟩ | r
  · exact .inl fun e => by rw [e, r] at h; cases h
  · exact .inl fun e => by rw [e, r] at h; cases h
  · exact .inr r
theorem RS.poke (s : RS C α M H) (hD : NoTup H D) (hn : D ∉ α) (hs : ScD C D) (o : HO) (htb : ∀ ps, H D ≠ some (.tbl ps)) : RS C α M (upd H D o) := by
  have tb : ∀ q ∈ C.tabs, ∃ ps, upd H D o q.2 = some (.tbl ps) ∧ TriplesOk ps.toList := fun q hq => by
    obtain ⟨ps, e, k⟩ := s.tab q hq
    have : q.2 ≠ D := fun z => htb ps (by rw [← z]; exact e)
    exact ⟨ps, by rw [upd_ne this]; exact e, k⟩
  refine ⟨s.len, s.nd, fun n m e => ?_, ?_, tb⟩
  · obtain ⟨a, ho, h1, h2, r⟩ := s.ob n m e
    have : a ≠ D := fun z => hn (z ▸ List.mem_of_getElem? h1)
    exact ⟨a, ho, h1, by rw [upd_ne this]; exact h2, r.poke hD o⟩
  · rcases s.sc with ⟨r, hr⟩ | r
    · rcases hs with hs | hs
      · refine .inl ⟨?_, hr⟩
        rcases r with r | ⟨o', r⟩
        · exact .inl (by rw [upd_ne (Ne.symm hs)]; exact r)
        · exact .inr ⟨o', by rw [upd_ne (Ne.symm hs)]; exact r⟩
      · exact .inr hs
    · exact .inr r
mutual
theorem RD.wide : ∀ {d : Pw.D} {v : V}, RD C.sa α H d v → RD C.sa (α ++ [D]) H d v
  | _, _, .non => .non
  | _, _, .bl b => .bl b
  | _, _, .int i => .int i
  | _, _, .str h => .str h
  | _, _, .tup h r => .tup h (RDs.wide r)
  | _, _, .ref h => .ref (by rw [List.getElem?_append_left (List.getElem?_eq_some_iff.mp h).1]; exact h)
  | _, _, .scr => .scr
theorem RDs.wide : ∀ {d : List Pw.D} {v : List V}, RDs C.sa α H d v → RDs C.sa (α ++ [D]) H d v
  | _, _, .nil => .nil
  | _, _, .cons h r => .cons (RD.wide h) (RDs.wide r)
end
theorem RF.wide : ∀ {fs : List (String × Pw.D)} {vs : List (Str × V)}, RF C.sa α H fs vs → RF C.sa (α ++ [D]) H fs vs
  | _, _, .nil => .nil
  | _, _, .cons h r => .cons h.wide (RF.wide r)
theorem RK.wide : ∀ {fs : List (Pw.D × Pw.D)} {vs : List (Pw.D × V × V)}, RK C.sa α H fs vs → RK C.sa (α ++ [D]) H fs vs
  | _, _, .nil => .nil
  | _, _, .cons h h2 r => .cons h.wide h2.wide (RK.wide r)
theorem RS.adopt (s : RS C α M H) (hn : D ∉ α) (hs : ScD C D) {o : MO} {ho : HO} (h : H D = some ho) (r : RO C α H D o ho) : RS C (α ++ [D]) (M ++ [o]) H := by
  have up : ∀ {a : Addr} {m : MO} {ho : HO}, RO C α H a m ho → RO C (α ++ [D]) H a m ho := by
    intro a m ho r
    cases r with
    | lst h => exact .lst (RDs.wide h)
    | dic h1 h2 h3 h4 h5 => exact .dic (RK.wide h1) h2 h3 h4 h5
    | ins h1 h2 => exact .ins h1 (RF.wide h2)
  refine ⟨by simp [s.len], ?_, fun n m e => ?_, ?_, s.tab⟩
  · rw [List.nodup_append]
    exact ⟨s.nd, by simp, fun a ha b hb e => by rw [List.mem_singleton.mp hb] at e; exact hn (e ▸ ha)⟩
  · by_cases hl : n < M.length
    · rw [List.getElem?_append_left hl] at e
      obtain ⟨a, ho', h1, h2, r'⟩ := s.ob n m e
      exact ⟨a, ho', by rw [List.getElem?_append_left (by rw [s.len]; exact hl)]; exact h1, h2, up r'⟩
    · have hn' : n = M.length := by
        have := (List.getElem?_eq_some_iff.mp e).1
        simp at this
        omega
      subst hn'
      rw [List.getElem?_append_right (Nat.le_refl _)] at e
      simp at e
      subst e
      exact ⟨D, ho, by rw [List.getElem?_append_right (by rw [s.len]; exact Nat.le_refl _)]; simp [s.len], h, up r⟩
  · rcases s.sc with ⟨r, hr⟩ | r
    · rcases hs with hs | hs
      · exact .inl ⟨r, fun hm => (List.mem_append.mp hm).elim hr fun z => hs (List.mem_singleton.mp z).symm⟩
      · exact .inr hs
    · exact .inr r
theorem wipe_none {σ : L2.St} {i : Nat} : ∀ {vs : List Nat}, i ∈ vs → (wipe σ vs).set i none = wipe σ vs
  | v :: vs, h => by
    unfold wipe
    by_cases e : v = i
    · subst e; rw [List.set_set]
    · have : i ∈ vs := by
        rcases List.mem_cons.mp h with h | h
        · exact absurd h.symm e
        · exact h
      rw [List.set_comm _ _ e, wipe_none this]
theorem wipe_wipe_sub (σ : L2.St) {vs : List Nat} : ∀ {ws : List Nat}, (∀ i ∈ ws, i ∈ vs) → wipe (wipe σ vs) ws = wipe σ vs
  | [], _ => rfl
  | w :: ws, h => by
    have h1 := wipe_wipe_sub σ (vs := vs) (ws := ws) fun i hi => h i (List.mem_cons_of_mem _ hi)
    show (wipe (wipe σ vs) ws).set w none = wipe σ vs
    rw [h1]
    exact wipe_none (h w List.mem_cons_self)
theorem wipe_wipe (σ : L2.St) (vs : List Nat) : wipe (wipe σ vs) vs = wipe σ vs := wipe_wipe_sub σ fun _ h => h
theorem RE.step {α0 : List Addr} {H0 : Hp} {M0 : Mem} (s : RS C α0 M0 H0) (t : Step α0 α H0 H) (e : RE C.sa α0 H0 ρ σ) : RE C.sa α H ρ σ := e.mono s t

/-! ### the block of a comprehension -/
def Sx.blk (S : Sx) (scope : Scope) : Sx := ⟨S.N, relS scope S.sc, fun x => scope.names.lookup x == some .cell, S.tb⟩
theorem OkX.blk {k : Nat} {S : Sx} (ok : OkX C k S X) (scope : Scope) (s : Shared) (H : Hp) (cl : List (Str × Addr)) (L : Addr) (fp : List Addr) : OkX C k (S.blk scope) (X.blk s H scope (compEnvC scope cl L X.env) fp) :=
  ⟨ok.hP, ok.hK, ok.hw, ok.hmg, ok.hbase, ok.hN, ok.nd, by show relS scope X.env.scope = relS scope S.sc; rw [ok.hsc], rfl, ok.calm, ok.room, rfl, fun p h => ok.tb p h⟩
abbrev LTs (C : PC) (X : Cx) (e : List Expr) (f : VEnv → Mem → R Bool) : Prop := PTs X e (tBo C f)
theorem lts_nil {F : FT} : LTs C X [] (fun ρ M => truthR (evE F (.bl true) ρ M)) := by
  refine ⟨fun pins s σ H Q I h => pts_nil.run pins s σ H Q I ?_⟩
  obtain ⟨α, ρ, M, b, M', s, e, h, q⟩ := h
  simp only [evE, truthR, bnd_some, truth, Option.map_some] at h
  cases h
  exact q α H (Step.refl _ _) s
theorem lts_one {F : FT} {c : Expr} {x : E} (h : LT C X c (fun ρ M => truthR (evE F x ρ M))) : LTs C X [c] (fun ρ M => truthR (evE F x ρ M)) := pts_one h
theorem noFold {iter : Expr} (h : isSet iter = false) (env : Env) (x : Value) : foldedSetIterable iter env x = pure x := by
  cases iter <;> first | rfl | exact absurd h (by simp [isSet])
/-- what is so before turn i: D the new list, acc what it has -/
structure LcI (C : PC) (g : List (Nat × MO)) (p : Pat) (c : VEnv → Mem → R Bool) (b : VEnv → Mem → R (List Pw.D)) (ρ : VEnv) (its : List Pw.D) (xs : List Pw.D) (M2 : Mem) (α1 : List Addr) (H1 : Hp) (D : Addr) (i : Nat) (H : Hp) : Prop where
  ok : ∃ α M acc accD zs, Step α1 α H1 H ∧ RS C α M H ∧ D ∉ α ∧ H D = some (.lst acc) ∧ RDs C.sa α H accD acc ∧ turns g p c b ρ (its.drop i) M = some (zs, M2) ∧ accD ++ zs = xs
theorem lc_lift {F : FT} {tg iter : Expr} {vs : List Nat} {p : Pat} {it c x : E} {wi : TI} (hp : ∀ i ∈ patVars p, i ∈ vs)
    (hwi : ∀ σ H R, (∃ α ρ M its M', RS C α M H ∧ RE C.sa α H ρ σ ∧ evIt F it ρ M = some (its, M') ∧ ∀ α' H' J, Step α α' H H' → RS C α' M' H' → JOk C J α' H' its → R J H') → wi σ H R) :
    ∀ σ H Q, tV C (evE F (.lcomp (.for1 vs p it c (.cons x .nil)))) σ H Q → tLc wi (gOf C p) (tBo C (fun ρ M => truthR (evE F c ρ M))) (tV C (evE F x)) vs σ H Q := by
  rintro σ H Q ⟨α, ρ, M, d, M', s, e, h, q⟩
  simp only [evE, evEs] at h
  obtain ⟨xs, M2, h1, h⟩ := bnd_some_of h
  obtain ⟨its, M1, hit, h1⟩ := bnd_some_of h1
  split at h
  · rename_i hlen
    cases h
    refine hwi σ H _ ⟨α, ρ, M, its, M1, s, e, hit, fun α1 H1 J t1 s1 jok D hD => ?_⟩
    have scd := s1.scD hD
    have hD0 : H D = none := t1.before s hD s1
    refine ⟨fun i m Hc => m = its.1.length - i ∧ i ≤ its.1.length ∧ LcI C its.2 p (fun ρ M => truthR (evE F c ρ M)) (fun ρ M => bnd (evE F x ρ M) fun y M => bnd (evEs F .nil ρ M) fun ys M => some (y :: ys, M)) (wipeE ρ vs) its.1 xs M2 α1 H1 D i Hc,
      ⟨its.1.length, by simp, Nat.zero_le _, ⟨α1, M1, [], [], xs, upd_step hD, s1.other hD, s1.free hD, upd_same, .nil, by simpa [evEs] using h1, rfl⟩⟩, ?_⟩
    rintro i m Hc ⟨rfl, hi, ⟨αc, Mc, acc, accD, zs, tc, sc, hn, hDc, rc, hturn, hxs⟩⟩
    have notup : NoTup Hc D := fun vs z => by rw [hDc] at z; cases z
    by_cases hlt : i < its.1.length
    · right
      rw [List.drop_eq_getElem_cons hlt] at hturn
      unfold turns at hturn
      split at hturn
      · rename_i hst
        obtain ⟨jgo, -⟩ := jok i αc Mc Hc tc sc hst
        obtain ⟨go, yl⟩ := jgo its.1[i] (List.getElem?_eq_getElem hlt)
        split at hturn
        · cases hturn
        · rename_i ρ1 hρ1
          refine ⟨go, fun H' => LcI C its.2 p (fun ρ M => truthR (evE F c ρ M)) (fun ρ M => bnd (evE F x ρ M) fun y M => bnd (evEs F .nil ρ M) fun ys M => some (y :: ys, M)) (wipeE ρ vs) its.1 xs M2 α1 H1 D (i + 1) H', fun H' w => ⟨its.1.length - (i + 1), by omega, rfl, hlt, w⟩, fun xv H3 y => ?_⟩
          obtain ⟨t3, s3, r3⟩ := yl xv H3 y
          have re3 : RE C.sa αc H3 (wipeE ρ vs) (wipe σ vs) := (((e.wipe vs).mono s t1).mono s1 tc).mono sc t3
          refine pat_ok p its.1[i] xv (wipeE ρ vs) ρ1 (wipe σ vs) _ s3 r3 re3 hρ1 fun σ1 re1 hw1 => ⟨hw1 vs hp |>.trans (wipe_wipe σ vs), ?_⟩
          · obtain ⟨okb, M3, hc, hturn⟩ := bnd_some_of hturn
            refine ⟨αc, ρ1, Mc, okb, M3, s3, re1, hc, fun α4 H4 t4 s4 => ?_⟩
            obtain ⟨n3, e3⟩ := t3.out hDc hn
            obtain ⟨n4, e4⟩ := t4.out e3 hn
            have rc3 := rc.mono sc t3
            have rc4 := rc3.mono s3 t4
            cases okb with
            | false =>
              simp only [Bool.false_eq_true, if_false] at hturn ⊢
              exact ⟨α4, M3, acc, accD, zs, (tc.trans t3).trans t4, s4, n4, e4, rc4, hturn, hxs⟩
            | true =>
              simp only [if_true] at hturn ⊢
              obtain ⟨ys, M4, hb1, hturn⟩ := bnd_some_of hturn
              obtain ⟨yd, M5, hb2, hb1⟩ := bnd_some_of hb1
              simp only [evEs, bnd_some] at hb1
              cases hb1
              obtain ⟨zs', M6, ht1, hturn⟩ := bnd_some_of hturn
              cases hturn
              refine ⟨α4, ρ1, M3, yd, _, s4, re1.mono s3 t4, hb2, fun α5 yv H5 t5 s5 r5 => ?_⟩
              obtain ⟨n5, e5⟩ := t5.out e4 n4
              have nt5 : NoTup H5 D := fun vs z => by rw [e5] at z; cases z
              refine ⟨acc, e5, ?_, ⟨α5, _, acc ++ [yv], accD ++ [yd], zs', (((tc.trans t3).trans t4).trans t5).poke hD _, s5.poke nt5 n5 scd _ (fun ps z => by rw [e5] at z; cases z), n5, upd_same, RDs.poke nt5 _ ((rc4.mono s4 t5).append (.cons r5 .nil)), ht1, ?_⟩⟩
              · rw [← rc.length, line_eq]
                have := congrArg List.length hxs
                simp at this
                omega
              · rw [← hxs]; simp
      · cases hturn
    · left
      have e0 : i = its.1.length := by omega
      subst e0
      rw [List.drop_length] at hturn
      unfold turns at hturn
      split at hturn
      · rename_i hst
        cases hturn
        obtain ⟨-, jst⟩ := jok its.1.length αc M2 Hc tc sc hst
        refine ⟨jst (Nat.le_refl _), ?_⟩
        rw [List.append_nil] at hxs
        subst hxs
        exact q (αc ++ [D]) (.ref D) Hc ((t1.trans tc).adopt hD0) (sc.adopt hn scd hDc (.lst rc)) (.ref (by rw [List.getElem?_append_right (by rw [sc.len]; exact Nat.le_refl _)]; simp [sc.len]))
      · cases hturn
  · cases h
theorem le_lcomp {k : Nat} {S : Sx} {F : FT} {elt tg iter : Expr} {ifs : List Expr} {scope : Scope} {pos : Pos} {own : List (Str × Nat)} {vs : List Nat} {p : Pat} {it c x : E}
    (ok : OkX C k S X) (hb : BlkOk S.N S.sc scope own) (hv : own.map (·.2) = vs) (hp : ∀ i ∈ patVars p, i ∈ vs) (hset : isSet iter = false) (hi : LI C X F tg iter it)
    (hg : ∀ X', OkX C k (S.blk scope) X' → PG X' tg (gOf C p)) (ht : ∀ X', OkX C k (S.blk scope) X' → LTs C X' ifs (fun ρ M => truthR (evE F c ρ M))) (he : ∀ X', OkX C k (S.blk scope) X' → LE C X' elt (evE F x)) :
    LE C X (.ListComp elt [⟨tg, iter, ifs, 0⟩] scope pos) (evE F (.lcomp (.for1 vs p it c (.cons x .nil)))) := by
  obtain ⟨wi, pi, hwi⟩ := hi.ok
  have h := pe_lc (pos := pos) ok.calm (by rw [ok.hN]; exact ok.nd) pi (own := own) (by rw [ok.hN, ok.hsc]; exact hb) (fun s H L cl fp => hg _ (ok.blk scope s H cl L fp)) (fun s H L cl fp => ht _ (ok.blk scope s H cl L fp)) (fun s H L cl fp => he _ (ok.blk scope s H cl L fp)) (noFold hset X.env)
  rw [hv] at h
  exact PE.imp h (lc_lift (tg := tg) (iter := iter) hp hwi)
/-- name = [..], stored while the block's variables are let go -/
theorem ls_asgLc {k : Nat} {S : Sx} {F : FT} {elt tg iter : Expr} {ifs : List Expr} {scope : Scope} {pos spos py : Pos} {own : List (Str × Nat)} {vs : List Nat} {p : Pat} {it c x : E} {i : Nat} {y : Str}
    (ok : OkX C k S X) (hb : BlkOk S.N S.sc scope own) (hv : own.map (·.2) = vs) (hp : ∀ i ∈ patVars p, i ∈ vs) (hset : isSet iter = false) (hi : LI C X F tg iter it)
    (hg : ∀ X', OkX C k (S.blk scope) X' → PG X' tg (gOf C p)) (ht : ∀ X', OkX C k (S.blk scope) X' → LTs C X' ifs (fun ρ M => truthR (evE F c ρ M))) (he : ∀ X', OkX C k (S.blk scope) X' → LE C X' elt (evE F x))
    (hy : S.N[i]? = some y) (hyl : S.sc.names.lookup y = some .local) (hk : S.sc.kind = .function) (hl : (py.line == pos.line) = true) (ha : (scope.names.any fun (n, k) => n == y && (k == .local || k == .cell)) = false) :
    ∃ te, (∀ σ H Q, tV C (evE F (.lcomp (.for1 vs p it c (.cons x .nil)))) σ H Q → te σ H Q) ∧ PS X (.Assign [.Name y py] (.ListComp elt [⟨tg, iter, ifs, 0⟩] scope pos) spos) (tAsg te (gName i)) := by
  obtain ⟨wi, pi, hwi⟩ := hi.ok
  have h := ps_setLc (spos := spos) (pos := pos) (py := py) ok.calm (by rw [ok.hN]; exact ok.nd) (by rw [ok.hN]; exact hy) (by rw [ok.hsc]; exact hyl) (sw_true (by rw [ok.hsc]; exact hk) (by rw [ok.hsc]; exact hyl) hl ha) pi (own := own) (by rw [ok.hN, ok.hsc]; exact hb) (fun s H L cl fp => hg _ (ok.blk scope s H cl L fp)) (fun s H L cl fp => ht _ (ok.blk scope s H cl L fp)) (fun s H L cl fp => he _ (ok.blk scope s H cl L fp)) (noFold hset X.env)
  rw [hv] at h
  exact ⟨_, lc_lift (tg := tg) (iter := iter) hp hwi, h⟩
end
end Pw

end
section
set_option maxHeartbeats 1000000
/-! SndG1: generator expressions: the frame, the trace, the turns. -/
namespace Pw
open PySem PySem.Spec PyProof.Rows L2

/-- the scope of a generator expression -/
structure GenB (N : List Str) (sc scope : Scope) (vs : List Nat) : Prop where
  kind : scope.kind = .function
  co : scope.isCoroutine = false
  cell : ∀ y ∈ scope.names, y.2 ≠ .cell
  dot : scope.names.lookup (".0" : Str) = some NameKind.local
  free : ∀ y ∈ scope.names, y.2 = .free → sc.names.lookup y.1 = some .cell ∨ sc.names.lookup y.1 = some .free
  loc : ∀ (i : Nat) (x : Str), N[i]? = some x → scope.names.lookup x = some .local → i ∈ vs

abbrev gEnv (X : Cx) (scope : Scope) (L : Addr) (code : Value) : Env := genEnv scope (cloFrom X.env.cells scope.names []) L code builtinsNs X.env
/-- the context of its frame -/
abbrev gCx (X : Cx) (A : Around) (s : Shared) (H : Hp) (scope : Scope) (code : Value) (a : Addr) (go : Obj) (fp : List Addr) : Cx :=
  { X with A := A, s_0 := s, H_0 := H, env := gEnv X scope s.heap.objs.size code, outer := X.stack, stack := gEnv X scope s.heap.objs.size code :: X.stack, ex := fp, fn := fun _ => false, pn := [(a, go)], xe := fun _ _ => False }
def Sx.gen (S : Sx) (scope : Scope) : Sx := ⟨S.N, scope, fun _ => false, none⟩
theorem OkX.gen {C : PC} {X : Cx} {k : Nat} {S : Sx} (ok : OkX C k S X) {A : Around} (hr : Room k A) (s : Shared) (H : Hp) (scope : Scope) (code : Value) (a : Addr) (go : Obj) (fp : List Addr) : OkX C k (S.gen scope) (gCx X A s H scope code a go fp) :=
  ⟨ok.hP, ok.hK, ok.hw, ok.hmg, ok.hbase, ok.hN, ok.nd, rfl, rfl, ok.calm, hr, rfl, fun p h => nomatch h⟩

theorem clo_lookup {cells : List (Str × Addr)} {names : List (Str × NameKind)} {x : Str} {c : Addr} (h : names.lookup x = some .free) (hc : cells.lookup x = some c) : (cloFrom cells names []).lookup x = some c := by
  have h1 := cloFrom_has (cells := cells) (acc := []) (PySem.mem_of_lookup h)
  obtain ⟨c', h2⟩ := mem_lookup h1
  rcases cloFrom_mem (PySem.mem_of_lookup h2) with h3 | ⟨_, h3⟩
  · cases h3
  · rw [h2, h3, hc]; rfl
theorem clo_lookup_inv {cells : List (Str × Addr)} {names : List (Str × NameKind)} {x : Str} {c : Addr} (hf : ∀ y ∈ names, y.2 = .free → ∃ c, cells.lookup y.1 = some c) (h : (cloFrom cells names []).lookup x = some c) : cells.lookup x = some c := by
  rcases cloFrom_mem (PySem.mem_of_lookup h) with h3 | ⟨h2, h3⟩
  · cases h3
  · obtain ⟨c', h4⟩ := hf _ h2 rfl
    rw [h3]
    have h4 : cells.lookup x = some c' := h4
    rw [h4]; rfl
theorem wipe_hit {σ : L2.St} {vs : List Nat} {i : Nat} {v : V} (h : i ∈ vs) : (wipe σ vs)[i]? ≠ some (some v) := by
  rw [← wipe_none (σ := σ) h]
  intro e
  by_cases hl : i < (wipe σ vs).length
  · rw [List.getElem?_set_self hl] at e; cases e
  · rw [List.getElem?_eq_none (by rw [List.length_set]; omega)] at e; cases e

section
variable {X : Cx} {pins : List (Addr × Obj)} {σ : L2.St} {H : Hp} {s s5 : Shared} {scope : Scope} {vs : List Nat} {A : Around} {code : Value} {a : Addr} {go : Obj} {fp : List Addr} {it : Value}
theorem GenB.has (B : GenB X.N X.env.scope scope vs) (I : Inv X pins σ H s) : ∀ y ∈ scope.names, y.2 = .free → ∃ c, X.env.cells.lookup y.1 = some c := fun y hy e => by
  rcases B.free y hy e with k | k
  · exact I.ok.has _ (.inl k)
  · exact I.ok.has _ (.inr k)
theorem g_inv (B : GenB X.N X.env.scope scope vs) (I : Inv X pins σ H s) (hd : A.handled = none) (hA : A.frames = some (gEnv X scope s.heap.objs.size code :: X.stack)) (hos : s5.os = s.os) (hb : AllBare s5.gens)
    (hk : ∀ b o, s.heap.get? b = some o → s5.heap.get? b = some o) (hC : s5.heap.Ns s.heap.objs.size (fun y => if y = ".0" then some it else none)) (ha : s5.heap.get? a = some go) (hag : s.heap.objs.size < a) (hgo : ∀ v, go.data ≠ .cell v)
    (hfp : ∀ b ∈ fp, FpOk X pins H b ∧ b < s.heap.objs.size) : Inv (gCx X A s H scope code a go fp) [] (wipe σ vs) H s5 := by
  have hfree := B.has I
  have clt : ∀ x c, X.env.cells.lookup x = some c → c < s.heap.objs.size := fun x c e => by
    obtain ⟨v, q⟩ := I.cell x c e
    exact q.lt
  have cinv : ∀ x c, (cloFrom X.env.cells scope.names []).lookup x = some c → X.env.cells.lookup x = some c := fun x c e => clo_lookup_inv hfree e
  have ckeep : ∀ {c : Addr} {v : Option Value}, s.heap.IsCell c v → s5.heap.IsCell c v := fun ⟨o, ho, hd⟩ => ⟨o, hk _ o ho, hd⟩
  refine ⟨⟨I.ok.mod, B.kind, I.ok.glob, rfl, Nat.le_refl _, fun x y c h1 h2 => I.ok.inj x y c (cinv x c h1) (cinv y c h2), fun x hx => ?_, fun x c h _ => (nomatch h), fun _ => hd, hA, .inr ⟨rfl, rfl⟩, fun b hb => ⟨Nat.ne_of_lt (hfp b hb).2, fun x c e z => (hfp b hb).1.2.2.2.2.1 x c (cinv x c e) z⟩,
    fun b o e => I.bs b o e, ?_, fun b o e hb => ?_, fun b hb hm => ?_, I.stack, I.stkFree⟩, hos, hb, Un.kept hk, ⟨_, hC, fun i x v h1 h2 h3 => ?_⟩, fun x c e => ?_, I.hok.fresh (Nat.le_refl _), fun x c e => I.freeC x c (cinv x c e), fun p hp => ?_, I.hok.kept hk, by rw [wipe_length]; exact I.len⟩
  · have hx : scope.names.lookup x = some .cell ∨ scope.names.lookup x = some .free := hx
    rcases hx with hx | hx
    · exact absurd rfl (B.cell _ (PySem.mem_of_lookup hx))
    · obtain ⟨c, hc⟩ := hfree _ (PySem.mem_of_lookup hx) rfl
      exact ⟨c, clo_lookup hx hc⟩
  · exact Nat.le_trans I.ok.bsz (Nat.le_of_lt (Nat.lt_of_le_of_lt I.ok.above I.lt))
  · obtain ⟨_, _, _, h, _⟩ := (hfp b hb).1
    rcases h with h | h
    · exact I.ok.noex b o e h
    · exact absurd (Nat.lt_of_lt_of_le (Heap.lt_size e) (Nat.le_trans I.ok.bsz h)) (Nat.lt_irrefl _)
  · obtain ⟨_, h1, h2, _⟩ := (hfp b hb).1
    rcases List.mem_cons.mp (I.stkSub b hm) with z | z
    · exact h1 z
    · exact h2 z
  · rcases h3 with h3 | h3 | h3
    · exact absurd h2 (wipe_hit (B.loc i x h1 h3))
    · exact absurd rfl (B.cell _ (PySem.mem_of_lookup h3))
    · obtain ⟨m, hn, hl⟩ := I.loc
      have hv : Vis X.env.scope x := by
        rcases B.free _ (PySem.mem_of_lookup h3) rfl with k | k
        · exact .inr (.inl k)
        · exact .inr (.inr k)
      obtain ⟨u, r, l⟩ := hl i x v h1 (wipe_some h2).1 hv
      refine ⟨u, r, .inr ⟨.inr h3, ?_⟩⟩
      rcases l with ⟨k, _⟩ | ⟨_, c, hc, hcell⟩
      · have k : X.env.scope.names.lookup x = some .local := k
        rcases B.free _ (PySem.mem_of_lookup h3) rfl with k' | k'
        · have k' : X.env.scope.names.lookup x = some .cell := k'
          rw [k] at k'; cases k'
        · have k' : X.env.scope.names.lookup x = some .free := k'
          rw [k] at k'; cases k'
      · exact ⟨c, clo_lookup h3 hc, ckeep hcell⟩
  · obtain ⟨v, z⟩ := I.cell x c (cinv x c e)
    exact ⟨v, ckeep z⟩
  · have hp : p ∈ [(a, go)] := by simpa using hp
    rw [List.mem_singleton.mp hp]
    refine ⟨ha, I.hok.fresh (Nat.le_of_lt hag), Nat.ne_of_gt hag, fun hm => ?_, hgo⟩
    rcases List.mem_cons.mp (I.stkSub a hm) with z | z
    · have h1 := I.lt
      rw [← z] at h1
      exact absurd (Nat.lt_trans h1 hag) (Nat.lt_irrefl _)
    · exact I.nofs (Nat.le_of_lt hag) z
end

/-! ### the trace of what is drawn -/
inductive Tr (g : List (Nat × MO)) (p : Pat) (c : VEnv → Mem → R Bool) (e : VEnv → Mem → R Pw.D) (ρ : VEnv) (its : List Pw.D) (Me : Mem) : Bool → Nat → Mem → List Pw.D → Prop where
  | stop {i : Nat} : its.length ≤ i → still g Me = true → Tr g p c e ρ its Me true i Me []
  | cut {i : Nat} : Tr g p c e ρ its Me false i Me []
  | skip {b : Bool} {i : Nat} {M M1 : Mem} {ρ1 : VEnv} {x : Pw.D} {ys : List Pw.D} : its[i]? = some x → still g M = true → bindPat p x ρ = some ρ1 → c ρ1 M = some (false, M1) → (b = true ∨ ys ≠ []) → Tr g p c e ρ its Me b (i + 1) M1 ys → Tr g p c e ρ its Me b i M ys
  | yld {b : Bool} {i : Nat} {M M1 M2 : Mem} {ρ1 : VEnv} {x d : Pw.D} {ys : List Pw.D} : its[i]? = some x → still g M = true → bindPat p x ρ = some ρ1 → c ρ1 M = some (true, M1) → e ρ1 M1 = some (d, M2) → Tr g p c e ρ its Me b (i + 1) M2 ys → Tr g p c e ρ its Me b i M (d :: ys)
theorem Tr.at_cut {g : List (Nat × MO)} {p : Pat} {c : VEnv → Mem → R Bool} {e : VEnv → Mem → R Pw.D} {ρ : VEnv} {its : List Pw.D} {Me M : Mem} {i : Nat} (h : Tr g p c e ρ its Me false i M []) : M = Me := by
  cases h with
  | cut => rfl
  | skip _ _ _ _ h _ => rcases h with h | h <;> simp at h
/-- one element for each item -/
def one (e : VEnv → Mem → R Pw.D) : VEnv → Mem → R (List Pw.D) := fun ρ M => bnd (e ρ M) fun y M => some ([y], M)
theorem tr_turns {g : List (Nat × MO)} {p : Pat} {c : VEnv → Mem → R Bool} {e : VEnv → Mem → R Pw.D} {ρ : VEnv} {its : List Pw.D} {Me : Mem} : ∀ (n i : Nat) (M : Mem) (ys : List Pw.D), its.length - i = n → turns g p c (one e) ρ (its.drop i) M = some (ys, Me) → Tr g p c e ρ its Me true i M ys := by
  intro n
  induction n with
  | zero =>
    intro i M ys hn h
    rw [List.drop_eq_nil_of_le (by omega)] at h
    unfold turns at h
    split at h
    · rename_i hs
      cases h
      exact .stop (by omega) hs
    · cases h
  | succ n ih =>
    intro i M ys hn h
    have hi : i < its.length := by omega
    rw [List.drop_eq_getElem_cons hi] at h
    unfold turns at h
    split at h
    · rename_i hs
      split at h
      · cases h
      · rename_i ρ1 hρ
        obtain ⟨ok, M1, hc, h⟩ := bnd_some_of h
        cases ok with
        | false =>
          simp only [Bool.false_eq_true, if_false] at h
          exact .skip (List.getElem?_eq_getElem hi) hs hρ hc (.inl rfl) (ih (i + 1) M1 ys (by omega) h)
        | true =>
          simp only [if_true] at h
          obtain ⟨y1, M2, hb, h⟩ := bnd_some_of h
          obtain ⟨zs, M3, ht, h⟩ := bnd_some_of h
          cases h
          unfold one at hb
          obtain ⟨d, M4, he, hb⟩ := bnd_some_of hb
          cases hb
          exact .yld (List.getElem?_eq_getElem hi) hs hρ hc he (ih (i + 1) _ zs (by omega) ht)
    · cases h
/-- the element is a truth value -/
theorem tr_seek {want : Bool} {g : List (Nat × MO)} {p : Pat} {c : VEnv → Mem → R Bool} {e : VEnv → Mem → R Pw.D} {ρ : VEnv} {its : List Pw.D} {Me : Mem} {r : Bool} : ∀ (n i : Nat) (M : Mem), its.length - i = n → seek want g p c (fun ρ M => boolR (e ρ M)) ρ (its.drop i) M = some (r, Me) →
    ∃ b bs, Tr g p c e ρ its Me b i M (bs.map Pw.D.bl) ∧ ((b = true ∧ (∀ x ∈ bs, x = !want) ∧ r = !want) ∨ (b = false ∧ (∃ init, bs = init ++ [want] ∧ ∀ x ∈ init, x = !want) ∧ r = want)) := by
  intro n
  induction n with
  | zero =>
    intro i M hn h
    rw [List.drop_eq_nil_of_le (by omega)] at h
    unfold seek at h
    split at h
    · rename_i hs
      cases h
      exact ⟨true, [], .stop (by omega) hs, .inl ⟨rfl, (fun _ h => by cases h), rfl⟩⟩
    · cases h
  | succ n ih =>
    intro i M hn h
    have hi : i < its.length := by omega
    rw [List.drop_eq_getElem_cons hi] at h
    unfold seek at h
    split at h
    · rename_i hs
      split at h
      · cases h
      · rename_i ρ1 hρ
        obtain ⟨ok, M1, hc, h⟩ := bnd_some_of h
        cases ok with
        | false =>
          simp only [Bool.false_eq_true, if_false] at h
          obtain ⟨b, bs, h1, h2⟩ := ih (i + 1) M1 (by omega) h
          refine ⟨b, bs, .skip (List.getElem?_eq_getElem hi) hs hρ hc ?_ h1, h2⟩
          rcases h2 with h2 | ⟨_, ⟨init, h2, _⟩, _⟩
          · exact .inl h2.1
          · exact .inr (by rw [h2]; simp)
        | true =>
          simp only [if_true] at h
          obtain ⟨y1, M2, hb, h⟩ := bnd_some_of h
          obtain ⟨d, M4, he, hb⟩ := bnd_some_of hb
          cases d with
          | bl t =>
            cases hb
            split at h
            · rename_i hw
              cases h
              exact ⟨false, [y1], .yld (List.getElem?_eq_getElem hi) hs hρ hc he .cut, .inr ⟨rfl, ⟨[], by rw [hw]; rfl, fun _ h => by cases h⟩, rfl⟩⟩
            · rename_i hw
              have hw2 : y1 = !want := by cases y1 <;> cases want <;> simp_all
              obtain ⟨b, bs, h1, h2⟩ := ih (i + 1) _ (by omega) h
              refine ⟨b, y1 :: bs, .yld (List.getElem?_eq_getElem hi) hs hρ hc he h1, ?_⟩
              rcases h2 with ⟨h3, h4, h5⟩ | ⟨h3, ⟨init, h4, h6⟩, h5⟩
              · exact .inl ⟨h3, fun x hx => (List.mem_cons.mp hx).elim (fun z => z.trans hw2) (h4 x), h5⟩
              · exact .inr ⟨h3, ⟨y1 :: init, by rw [h4]; rfl, fun x hx => (List.mem_cons.mp hx).elim (fun z => z.trans hw2) (h6 x)⟩, h5⟩
          | _ => cases hb
    · cases h
end Pw

end
section
set_option maxHeartbeats 1000000
/-! SndG2: the generator's run, piece by piece. -/
namespace Pw
open PySem PySem.Spec PyProof.Rows L2

/-- meanwhile the consumer has worked, on its own things alone -/
structure SleptG (wr : List Addr) (s s' : Shared) : Prop where
  os : s'.os = s.os
  bare : AllBare s'.gens
  keep : ∀ b o, b ∉ wr → s.heap.get? b = some o → s'.heap.get? b = some o
  own : ∀ b ∈ wr, ∃ o, s'.heap.get? b = some o ∧ ∀ v, o.data ≠ .cell v
structure WrOk (X : Cx) (wr : List Addr) : Prop where
  ok : ∀ b ∈ wr, X.s_0.heap.objs.size ≤ b ∧ b ≠ X.env.locals ∧ (∀ x c, X.env.cells.lookup x = some c → c ≠ b) ∧ (∀ p ∈ X.pn, p.1 ≠ b) ∧ b ∉ X.ex
theorem slept_inv {X : Cx} {wr : List Addr} {σ : L2.St} {H : Hp} {s0 s s' : Shared} (I : Inv X (pinsAt wr s0.heap) σ H s) (h0 : ∀ b ∈ wr, ∃ o, s0.heap.get? b = some o ∧ ∀ v, o.data ≠ .cell v) (W : WrOk X wr) (z : SleptG wr s s') : Inv X (pinsAt wr s'.heap) σ H s' := by
  have hH : ∀ b ∈ wr, H b = none ∧ b ≠ X.env.locals ∧ b ∉ X.fs := fun b hb => by
    obtain ⟨o, e, _⟩ := h0 b hb
    obtain ⟨_, h1, h2, h3, _⟩ := I.pin (b, o) (List.mem_append_right _ (mem_pinsAt hb e))
    exact ⟨h1, h2, h3⟩
  have I0 : Inv X [] σ H s := I.pins_of fun p hp => nomatch hp
  obtain ⟨hh, g, d, t, o⟩ := s'
  have ho : o = s.os := z.os
  subst ho
  have nt : ∀ b u, H b = some u → b ∉ wr := fun b u e hb => by rw [(hH b hb).1] at e; cases e
  have J : Inv X [] σ H { s with heap := hh, gens := g, drawn := d, toks := t } := by
    refine I0.step (g' := g) (t' := t) (d' := d) (ch := wr) (fun b hb => ?_)
      (fun b ob _ _ hc q _ => z.keep b ob hc q) (fun b ob _ _ hc q _ => ⟨ob.slots, z.keep b ob hc q⟩) (fun _ _ _ _ n => n) (fun b ob hc q => ⟨ob, z.keep b ob hc q⟩)
      (fun _ _ q => q) (fun _ _ _ q => q) (fun b ps q => ⟨#[], by rw [q]; simp⟩) (fun m hm => ?_) (fun b u q => ?_) z.bare
    · obtain ⟨h1, h2, h3, h4, _⟩ := W.ok b hb
      exact ⟨.inr h1, h2, h3, fun p hp => h4 p (by simpa using hp)⟩
    · obtain ⟨ob, es, ep, ho, r⟩ := hm
      exact ⟨ob, es, ep, z.keep _ ob (fun hm => (hH _ hm).2.1 rfl) ho, r⟩
    · refine (I0.hok b u q).stay (fun c v hc y => z.keep c v ?_ y) (fun _ y => y) fun _ _ y => y
      rcases hc with y | y
      · rw [y]; exact nt b u q
      · exact nt c _ y
  refine J.pins_of fun p hp => ?_
  obtain ⟨hb, e⟩ := of_pinsAt hp
  obtain ⟨h1, h2, h3⟩ := hH p.1 hb
  obtain ⟨o', e', hn⟩ := z.own p.1 hb
  have e : hh.get? p.1 = some p.2 := e
  have e' : hh.get? p.1 = some o' := e'
  rw [e] at e'; cases e'
  exact ⟨e, h1, h2, h3, hn⟩

theorem over_gen {A : Around} {elt tg iter : Expr} {ifs : List Expr} {scope : Scope} {pos : Pos} {it : Value} {env : Env} : A.over (.compLoop (.GeneratorExp elt [⟨tg, iter, ifs, 0⟩] scope pos) 0 it .none env) [] = A.deeper env := by
  first
    | rfl
    | (obtain ⟨hd, d, fr, gs, u⟩ := A; simp [Around.over, Around.deeper, marksOver, frameCount, unitsOf, envsOf, guardsOf, pushEnvs, pushGuards, Code.envs, Code.env?, Code.isFrame, Code.guards, Code.isGuard, Code.weight, Code.frames, Code.isCreation, Code.isCaller, Code.cUnits])

/-- what a generator's end and its items tell -/
structure GenP where
  C : PC
  X : Cx
  wr : List Addr
  /-- what the consumer's own things hold, by what it was given -/
  Own : List V → Heap → Prop
  full : List Pw.D
  ended : Bool
  Me : Mem
  α0 : List Addr
  H0 : Hp
  a : Addr
  gi : Nat
  go : Obj
def GenP.R (G : GenP) : Nat → Shared → Shared → Prop := fun n s0 s => n = 0 ∧ G.ended = true ∧ ∃ σ H α acc, Inv G.X (pinsAt G.wr s0.heap) σ H s ∧ RS G.C α G.Me H ∧ Step G.α0 α G.H0 H ∧ RDs G.C.sa α H G.full acc ∧ G.Own acc s0.heap
def GenP.Y (G : GenP) : Protocol := fun n s0 v s kap => ∃ σ H α M ys pre d acc x, n = ys.length ∧ Inv G.X (pinsAt G.wr s0.heap) σ H s ∧ RS G.C α M H ∧ Step G.α0 α G.H0 H ∧ RDs G.C.sa α H (pre ++ [d]) (acc ++ [x]) ∧ RelV x v ∧ RD G.C.sa α H d x ∧ G.Own acc s0.heap ∧
  G.full = pre ++ d :: ys ∧ (G.ended = false → ys = [] → M = G.Me) ∧ ((G.ended = true ∨ ys ≠ []) → ∀ s', SleptG G.wr s s' → G.Own (acc ++ [x]) s'.heap → kap (.send .none) s')

section
variable {G : GenP} {A : Around} {elt tg iter : Expr} {ifs : List Expr} {scope : Scope} {gpos : Pos} {J : It} {fp : List Addr} {it : Addr} {tn : Nat → Heap → Prop} {its : List Pw.D} {g : List (Nat × MO)} {p : Pat} {vs : List Nat} {c : VEnv → Mem → R Bool} {e : VEnv → Mem → R Pw.D} {ρ : VEnv}
theorem seg_turns (T : Turn G.X.prog G.X.w G.X.K tg J fp it tn) (jok : JOk G.C J G.α0 G.H0 (its, g)) (hc : G.X.calm = true) (hA : G.X.A = A.deeper G.X.env) (hex : G.X.ex = fp) (hpn : ∀ q ∈ G.X.pn, q.1 ∉ fp) (hxe : G.X.xe = fun _ _ => False) (W : WrOk G.X G.wr)
    (hco : G.X.env.scope.isCoroutine = false) (hp : ∀ i ∈ patVars p, i ∈ vs) (hg : PG G.X tg (gOf G.C p)) (ht : LTs G.C G.X ifs c) (he : LE G.C G.X elt e) :
    ∀ {b : Bool} {i : Nat} {M : Mem} {ys : List Pw.D}, Tr g p c e ρ its G.Me b i M ys → ∀ (σ : L2.St) (α : List Addr) (H : Hp) (s s0 : Shared) (pre : List Pw.D) (acc : List V), b = G.ended → G.full = pre ++ ys → (b = true ∨ ys ≠ []) →
      Inv G.X (pinsAt G.wr s0.heap) σ H s → (∀ b ∈ G.wr, ∃ o, s0.heap.get? b = some o ∧ ∀ v, o.data ≠ .cell v) → tn i s.heap → (∀ b ∈ fp, H b = none) → RS G.C α M H → Step G.α0 α G.H0 H → RE G.C.sa α H ρ (wipe σ vs) → RDs G.C.sa α H pre acc → G.Own acc s0.heap →
      Seg (model G.X.prog G.X.w) A (fun n s0 r s => r = .ok .next ∧ G.R n s0 s) G.Y ys.length s0 (.compLoop (.GeneratorExp elt [⟨tg, iter, ifs, 0⟩] scope gpos) 0 (.ref it) .none G.X.env) ((model G.X.prog G.X.w).den (.compLoop (.GeneratorExp elt [⟨tg, iter, ifs, 0⟩] scope gpos) 0 (.ref it) .none G.X.env)) [] s := by
  have hov : A.over (.compLoop (.GeneratorExp elt [⟨tg, iter, ifs, 0⟩] scope gpos) 0 (.ref it) .none G.X.env) [] = G.X.A := by rw [hA]; exact over_gen
  have stat : ∀ {σ' : L2.St} {H' : Hp} {s' s0 : Shared}, Inv G.X (pinsAt G.wr s0.heap) σ' H' s' → (∀ b ∈ fp, H' b = none) → ∀ b ∈ fp, FpOk G.X (pinsAt G.wr s0.heap) H' b := fun {σ' H' s' s0} I' hn b hb =>
    ⟨hn b hb, (I'.ok.exf b (by rw [hex]; exact hb)).1, I'.ok.exfs b (by rw [hex]; exact hb), .inl (by rw [hex]; exact hb), fun x c e => (I'.ok.exf b (by rw [hex]; exact hb)).2 x c e, fun q hq z => by
      rcases List.mem_append.mp hq with hq | hq
      · exact hpn q hq (z ▸ hb)
      · obtain ⟨h1, _⟩ := of_pinsAt hq
        exact (W.ok q.1 h1).2.2.2.2 (by rw [hex, z]; exact hb)⟩
  -- one turn up to its test
  have turn : ∀ {i : Nat} {M M1 : Mem} {x : Pw.D} {ρ1 : VEnv} {t : Bool} (σ : L2.St) (α : List Addr) (H : Hp) (s s0 : Shared) (n : Nat), its[i]? = some x → still g M = true → bindPat p x ρ = some ρ1 → c ρ1 M = some (t, M1) →
      Inv G.X (pinsAt G.wr s0.heap) σ H s → tn i s.heap → (∀ b ∈ fp, H b = none) → RS G.C α M H → Step G.α0 α G.H0 H → RE G.C.sa α H ρ (wipe σ vs) →
      (∀ (σ1 : L2.St) (α1 : List Addr) (H1 : Hp) (s1 s2 : Shared), Inv G.X (pinsAt G.wr s0.heap ++ pinsAt fp s2.heap) σ1 H1 s1 → tn (i + 1) s2.heap → (∀ b ∈ fp, ∃ o, s2.heap.get? b = some o ∧ ∀ v, o.data ≠ .cell v) → Step α α1 H H1 → RS G.C α1 M1 H1 → RE G.C.sa α1 H1 ρ1 σ1 → wipe σ1 vs = wipe σ vs →
        Seg (model G.X.prog G.X.w) A (fun n s0 r s => r = .ok .next ∧ G.R n s0 s) G.Y n s0 (.compLoop (.GeneratorExp elt [⟨tg, iter, ifs, 0⟩] scope gpos) 0 (.ref it) .none G.X.env)
          ((if t = true then (do (do let v ← eval elt G.X.env; standAt elt.pos; let _ ← yieldOut G.X.env v); again (.compLoop (.GeneratorExp elt [⟨tg, iter, ifs, 0⟩] scope gpos) 0 (.ref it) .none G.X.env)) else (do pure (); again (.compLoop (.GeneratorExp elt [⟨tg, iter, ifs, 0⟩] scope gpos) 0 (.ref it) .none G.X.env)) : Sem PySem.Fin).wrap .pure (fun x => (leaving G.X.env x).bind fun _ => .raise x) id id) [] s1) →
      Seg (model G.X.prog G.X.w) A (fun n s0 r s => r = .ok .next ∧ G.R n s0 s) G.Y n s0 (.compLoop (.GeneratorExp elt [⟨tg, iter, ifs, 0⟩] scope gpos) 0 (.ref it) .none G.X.env) ((model G.X.prog G.X.w).den (.compLoop (.GeneratorExp elt [⟨tg, iter, ifs, 0⟩] scope gpos) 0 (.ref it) .none G.X.env)) [] s := by
    intro i M M1 x ρ1 t σ α H s s0 n hx hst hρ hcc I st hn S stp re fin
    show Seg _ A _ _ _ s0 _ ((compTurn (.GeneratorExp elt [⟨tg, iter, ifs, 0⟩] scope gpos) 0 (.ref it) .none G.X.env).onRaise (leaving G.X.env)) [] s
    rw [compTurn_gen, Sem.onRaise_eq_wrap]
    refine seg_bind_wrap (wpAny_standAt ?_)
    obtain ⟨jgo, -⟩ := jok i α M H stp S hst
    obtain ⟨go, yl⟩ := jgo x hx
    refine seg_bind_wrap ?_
    rw [hov]
    refine thnF (T.item G.X rfl rfl rfl hc i (pinsAt G.wr s0.heap) s σ H (fun _ _ => False) I (stat I hn) st go) fun r s6 ⟨u, hr, h6⟩ => ?_
    subst hr
    refine seg_bind_wrap ?_
    rw [hov]
    refine thnF h6 fun _ s7 ⟨xv, H7, I7, r7, y7, st7, n7⟩ => ?_
    obtain ⟨t3, s3, r3⟩ := yl xv H7 y7
    have ho7 := T.obj _ _ st7
    have I7' := I7.pinned (stat I7 n7) ho7
    have re3 : RE G.C.sa α H7 ρ (wipe σ vs) := re.mono S t3
    refine seg_bind_wrap ?_
    rw [hov]
    have I7w : Inv G.X (pinsAt G.wr s0.heap ++ pinsAt fp s7.heap) (wipe σ vs) H7 s7 := I7'.weak (wipe_length _ _) fun j v e => (wipe_some e).1
    have pg := hg.run _ s7 _ H7 xv u _ I7w r7 (pat_ok (k := fun σ1 H1 => H1 = H7 ∧ RE G.C.sa α H7 ρ1 σ1 ∧ wipe σ1 vs = wipe σ vs) p x xv ρ ρ1 (wipe σ vs) s3 r3 re3 hρ fun σ1 re1 hw1 => ⟨rfl, re1, (hw1 vs hp).trans (wipe_wipe σ vs)⟩)
    rw [hxe] at pg
    refine thnF pg fun _ s8 ⟨σ8, H8, I8, hH8, re8, hw8⟩ => ?_
    subst hH8
    refine seg_bind_wrap ?_
    rw [hov]
    have pt := ht.run _ s8 σ8 H8 (fun bb H9 => bb = t ∧ ∃ α9, Step α α9 H8 H9 ∧ RS G.C α9 M1 H9) I8 ⟨α, ρ1, M, t, M1, s3, re8, hcc, fun α9 H9 t9 s9 => ⟨rfl, α9, t9, s9⟩⟩
    rw [hxe] at pt
    refine thnF pt fun bb s9 ⟨H9, I9, hb9, α9, t9, s9'⟩ => ?_
    subst hb9
    exact fin σ8 α9 H9 s9 s7 I9 st7 ho7 (t3.trans t9) s9' (re8.mono s3 t9) hw8
  intro b i M ys tr
  induction tr with
  | @stop i hi hst =>
    intro σ α H s s0 pre acc hb hfull hgo I h0 st hn S stp re rs own
    show Seg _ A _ _ _ s0 _ ((compTurn (.GeneratorExp elt [⟨tg, iter, ifs, 0⟩] scope gpos) 0 (.ref it) .none G.X.env).onRaise (leaving G.X.env)) [] s
    rw [compTurn_gen, Sem.onRaise_eq_wrap]
    refine seg_bind_wrap (wpAny_standAt ?_)
    refine seg_bind_wrap ?_
    rw [hov]
    obtain ⟨-, jst⟩ := jok i α G.Me H stp S hst
    refine thnF (T.done G.X rfl rfl rfl hc i (pinsAt G.wr s0.heap) s σ H (fun _ _ => False) I (stat I hn) st (jst hi)) fun r s6 ⟨hr, I6⟩ => ?_
    subst hr
    rw [List.append_nil] at hfull
    subst hfull
    exact seg_end (.ok .next) ⟨rfl, rfl, hb.symm, σ, H, α, acc, I6, S, stp, rs, own⟩
  | cut =>
    intro σ α H s s0 pre acc hb hfull hgo I h0 st hn S stp re rs own
    rcases hgo with h | h
    · cases h
    · exact absurd rfl h
  | @skip b i M M1 ρ1 x ys hx hst hρ hcc hne tr ih =>
    intro σ α H s s0 pre acc hb hfull hgo I h0 st hn S stp re rs own
    refine turn σ α H s s0 _ hx hst hρ hcc I st hn S stp re fun σ1 α1 H1 s1 s2 I1 st2 ho2 t1 S1 re1 hw1 => ?_
    simp only [Bool.false_eq_true, if_false]
    have pin' : ∀ b ∈ fp, ∀ o, s2.heap.get? b = some o → s1.heap.get? b = some o ∧ H1 b = none := fun b hb o e =>
      let z := I1.pin (b, o) (List.mem_append_right _ (List.mem_append_right _ (mem_pinsAt hb e)))
      ⟨z.1, z.2.1⟩
    exact seg_again rfl (ih σ1 α1 H1 s1 s0 pre acc hb hfull hne I1.unpinned h0 (T.keep _ _ _ st2 fun b hb o e => (pin' b hb o e).1) (fun b hb => by obtain ⟨o, e, _⟩ := ho2 b hb; exact (pin' b hb o e).2) S1 (stp.trans t1) (by rw [hw1]; exact re.mono S t1) (rs.mono S t1) own)
  | @yld b i M M1 M2 ρ1 x d ys hx hst hρ hcc hee tr ih =>
    intro σ α H s s0 pre acc hb hfull hgo I h0 st hn S stp re rs own
    refine turn σ α H s s0 _ hx hst hρ hcc I st hn S stp re fun σ1 α1 H1 s1 s2 I1 st2 ho2 t1 S1 re1 hw1 => ?_
    simp only [if_true]
    have hy : ∀ v, yieldOut G.X.env v = yieldValue v := fun v => by simp only [yieldOut, hco, Bool.false_eq_true, if_false]
    simp only [hy]
    rw [Sem.bind_eq_wrap', Sem.bind_eq_wrap', Sem.wrap_wrap, Sem.wrap_wrap]
    refine seg_wrap ?_
    rw [hov]
    have pe := he.run _ s1 σ1 H1 (fun yv H9 => ∃ α9, Step α1 α9 H1 H9 ∧ RS G.C α9 M2 H9 ∧ RD G.C.sa α9 H9 d yv) I1 ⟨α1, ρ1, M1, d, M2, S1, re1, hee, fun α9 v H9 t9 s9 r9 => ⟨α9, t9, s9, r9⟩⟩
    rw [hxe] at pe
    refine thnF pe fun y s4 ⟨yv, H4, I4, r4, α4, t4, S4, rd4⟩ => ?_
    have pin' : ∀ b ∈ fp, ∀ o, s2.heap.get? b = some o → s4.heap.get? b = some o ∧ H4 b = none := fun b hb o e =>
      let z := I4.pin (b, o) (List.mem_append_right _ (List.mem_append_right _ (mem_pinsAt hb e)))
      ⟨z.1, z.2.1⟩
    have I4' := I4.unpinned
    have rs4 : RDs G.C.sa α4 H4 (pre ++ [d]) (acc ++ [yv]) := ((rs.mono S t1).mono S1 t4).append (.cons rd4 .nil)
    refine seg_at (seg_yield rfl rfl rfl ⟨σ1, H4, α4, M2, ys, pre, d, acc, yv, rfl, I4', S4, (stp.trans t1).trans t4, rs4, r4, rd4, own, hfull, fun h1 h2 => ?_, fun hmore s' hs own' => ?_⟩)
    · subst h2
      rw [← hb] at h1
      subst h1
      exact tr.at_cut
    · have I5 := slept_inv I4' h0 W hs
      refine seg_again rfl (ih σ1 α4 H4 s' s' (pre ++ [d]) (acc ++ [yv]) hb (by rw [hfull]; simp) (by rw [hb]; exact hmore) I5 hs.own (T.keep _ _ _ st2 fun b hbf o eo => ?_) (fun b hb => by obtain ⟨o, e, _⟩ := ho2 b hb; exact (pin' b hb o e).2) S4 ((stp.trans t1).trans t4) (by rw [hw1]; exact (re.mono S t1).mono S1 t4) rs4 own')
      exact hs.keep b o (fun hw => (W.ok b hw).2.2.2.2 (by rw [hex]; exact hbf)) (pin' b hbf o eo).1
end
end Pw

end
section
set_option maxHeartbeats 1000000
/-! SndG3: what draws from a generator: next, collect, any, all, sum. -/
namespace Pw
open PySem PySem.Spec PyProof.Rows L2

/-- what the consumer keeps to -/
structure GenC (G : GenP) : Prop where
  pn : G.X.pn = [(G.a, G.go)]
  gen : ∀ h : Heap, h.get? G.a = some G.go → h.IsGen G.a G.gi
  own : ∀ acc (h h' : Heap), (∀ b ∈ G.wr, ∀ o, h.get? b = some o → h'.get? b = some o) → (∀ b ∈ G.wr, ∃ o, h.get? b = some o) → G.Own acc h → G.Own acc h'
  ex : ∀ acc x (s : Shared), AllBare s.gens → G.Own acc s.heap → (∀ b ∈ G.wr, ∃ o, s.heap.get? b = some o ∧ ∀ v, o.data ≠ .cell v) → ∃ s', SleptG G.wr s s' ∧ G.Own (acc ++ [x]) s'.heap
structure OutG (G : GenP) (H : Hp) (s : Shared) : Prop where
  os : s.os = G.X.s_0.os
  bare : AllBare s.gens
  un : Un G.X.fs G.X.ex G.X.H_0 H G.X.s_0.heap s.heap
  hok : HOk G.X.prog G.X.w H s.heap
  lim : s.heap.NoLimit
  gen : s.heap.IsGen G.a G.gi
theorem OutG.of {G : GenP} (c : GenC G) {pins : List (Addr × Obj)} {σ : L2.St} {H : Hp} {s : Shared} (I : Inv G.X pins σ H s) : OutG G H s :=
  ⟨I.os, I.bare, I.base, I.hok, I.nolimit, c.gen _ (I.pin (G.a, G.go) (List.mem_append_left _ (by rw [c.pn]; exact List.mem_singleton.mpr rfl))).1⟩
/-- ready to hand out the rest -/
structure GSt (G : GenP) (A : Around) (rest : List Pw.D) (acc : List V) (s : Shared) : Prop where
  isg : s.heap.IsGen G.a G.gi
  gs : ∃ gs, s.gens[G.gi]? = some gs ∧ ((G.ended = true ∨ rest ≠ []) → ∀ s', SleptG G.wr s s' → G.Own acc s'.heap → gs.Goes (model G.X.prog G.X.w) A.in1 (fun n s0 r s => r = .ok .next ∧ G.R n s0 s) G.Y rest.length (.send .none) s')
  suf : ∃ pre, G.full = pre ++ rest ∧ acc.length = pre.length
theorem GSt.slept {G : GenP} {A : Around} {rest : List Pw.D} {acc : List V} {s s' : Shared} (st : GSt G A rest acc s) (h : s'.gens = s.gens) (hk : ∀ b o, b ∉ G.wr → s.heap.get? b = some o → s'.heap.get? b = some o) (ho : s'.os = s.os) (ha : G.a ∉ G.wr) : GSt G A rest acc s' := by
  obtain ⟨⟨o, nm, qn, e, r⟩, ⟨gs, h1, h2⟩, h3⟩ := st
  refine ⟨⟨o, nm, qn, hk _ _ ha e, r⟩, ⟨gs, by rw [h]; exact h1, fun hm s2 z own => h2 hm s2 ⟨z.os.trans ho, z.bare, fun b o hb e => z.keep b o hb (hk b o hb e), z.own⟩ own⟩, h3⟩

section
variable {G : GenP} {A : Around} {rest : List Pw.D} {acc : List V} {s : Shared} {E : Value → Shared → Prop}
theorem g_next (c : GenC G) (hh : A.handled = none) (hroom : A.depth < recursionLimit) (hl : s.heap.NoLimit) (hb : AllBare s.gens) (hw : ∀ b ∈ G.wr, ∃ o, s.heap.get? b = some o ∧ ∀ v, o.data ≠ .cell v) (st : GSt G A rest acc s) (own : G.Own acc s.heap) (hmore : G.ended = true ∨ rest ≠ []) :
    wpAny (model G.X.prog G.X.w) A (pyNext (.ref G.a)) (fun r s' => (∀ b ∈ G.wr, ∀ o, s.heap.get? b = some o → s'.heap.get? b = some o) ∧ ∃ H α M acc', OutG G H s' ∧ RS G.C α M H ∧ Step G.α0 α G.H0 H ∧ G.Own acc' s.heap ∧ (∀ b ∈ G.wr, H b = none) ∧
      match rest with
      | [] => r = none ∧ M = G.Me ∧ RDs G.C.sa α H G.full acc'
      | d :: ys => ∃ v x, r = some v ∧ RelV x v ∧ RD G.C.sa α H d x ∧ GSt G A ys (acc' ++ [x]) s' ∧ (G.ended = false → ys = [] → M = G.Me)) E s := by
  obtain ⟨isg, ⟨gs, hgs, hgo⟩, pre0, hsuf, hlen⟩ := st
  have hlt : G.gi < s.gens.size := by
    rcases Nat.lt_or_ge G.gi s.gens.size with h | h
    · exact h
    · rw [Array.getElem?_eq_none h] at hgs; cases hgs
  have go := hgo hmore (s.setGen G.gi .running) ⟨rfl, allBare_setGen hb rfl, fun b o _ e => e, hw⟩ own
  refine GenW.wpAny_gsz (n := G.gi + 1) hlt ?_
  have pinH : ∀ {σ' H' s'}, Inv G.X (pinsAt G.wr (s.setGen G.gi .running).heap) σ' H' s' → (∀ b ∈ G.wr, ∀ o, s.heap.get? b = some o → s'.heap.get? b = some o) ∧ ∀ b ∈ G.wr, H' b = none := fun {σ' H' s'} I => by
    refine ⟨fun b hb o e => (I.pin (b, o) (List.mem_append_right _ (mem_pinsAt hb e))).1, fun b hb => ?_⟩
    obtain ⟨o, e, _⟩ := hw b hb
    exact (I.pin (b, o) (List.mem_append_right _ (mem_pinsAt hb e))).2.1
  refine wpAny_pyNext_genexpQ (P := G.R) hh hl hroom isg hgs go (fun v s1 gs' hbr hY => ?_) (fun s1 hR h' hk hsz => ?_)
  · intro hsz
    obtain ⟨σ', H, α, M, ys, pre, d, acc', x, hn, I, S, stp, rs, rx, rd, own', hfull, hcut, kap⟩ := hY
    obtain ⟨k1, k2⟩ := pinH I
    have bare' : AllBare (s1.setGen G.gi gs').gens := allBare_setGen I.bare hbr
    have out : OutG G H (s1.setGen G.gi gs') := by
      obtain ⟨a1, a2, a3, a4, a5, a6⟩ := OutG.of c I
      exact ⟨a1, bare', a3, a4, a5, a6⟩
    have hlen2 := rs.length
    have hf := congrArg List.length hfull
    simp only [List.length_append, List.length_cons, List.length_nil] at hlen2 hf
    cases rest with
    | nil =>
      -- no item may come
      exfalso
      have hwr1 : ∀ b ∈ G.wr, ∃ o, s1.heap.get? b = some o ∧ ∀ v, o.data ≠ .cell v := fun b hb => by
        obtain ⟨o, e, hc⟩ := hw b hb
        exact ⟨o, k1 b hb o e, hc⟩
      obtain ⟨s', z1, z2⟩ := c.ex acc' x s1 I.bare (c.own acc' _ _ k1 (fun b hb => let ⟨o, e, _⟩ := hw b hb; ⟨o, e⟩) own') hwr1
      exact kap (.inl (by rcases hmore with h | h; exact h; exact absurd rfl h)) s' z1 z2
    | cons d0 ys0 =>
      have hn : ys0.length = ys.length := by simpa using hn
      have hs2 := List.append_inj' (hsuf.symm.trans hfull) (by simp [hn])
      obtain ⟨hp1, hs3⟩ := hs2
      obtain ⟨rfl, rfl⟩ := List.cons.inj hs3
      refine ⟨k1, H, α, M, acc', out, S, stp, own', k2, v, x, rfl, rx, rd, ⟨out.gen, ⟨gs', setGen_at (by rw [GenW.setGen_size] at hsz; omega), fun hm s' z own2 => ?_⟩, pre ++ [d0], by rw [hfull]; simp, by simp; omega⟩, hcut⟩
      exact kap hm s' ⟨z.os, z.bare, z.keep, z.own⟩ own2
  · obtain ⟨hn, hend, σ', H, α, acc', I, S, stp, rs, own'⟩ := hR
    obtain ⟨k1, k2⟩ := pinH I
    have bare' : AllBare (s1.setGen G.gi .finished).gens := allBare_setGen I.bare rfl
    have I2 := I.kept (h' := h') (t' := s1.toks) hk
    have out : OutG G H ({ s1.setGen G.gi .finished with heap := h' }) := by
      obtain ⟨a1, a2, a3, a4, a5, a6⟩ := OutG.of c I2
      exact ⟨a1, bare', a3, a4, a5, a6⟩
    cases rest with
    | nil => exact ⟨fun b hb o e => hk b o (k1 b hb o e), H, α, G.Me, acc', out, S, stp, own', k2, rfl, rfl, rs⟩
    | cons d ys => exact absurd hn (by simp)
end
end Pw

end
section
set_option maxHeartbeats 1000000
/-! SndG4: collect, any, all, sum over a generator. -/
namespace Pw
open PySem PySem.Spec PyProof.Rows L2

def ownL (S : Addr) (acc : List V) (h : Heap) : Prop := ∃ (av : Array Value) (c : Nat), h.get? S = some (lstObj av c) ∧ Vals acc av.toList
section
variable {G : GenP} {A : Around} {S : Addr} {R : Result → Shared → Prop} {res : Value}
theorem lim_at {h h' : Heap} (hl : h.NoLimit) (k : ∀ o, h.get? cStatics = some o → h'.get? cStatics = some o) : h'.NoLimit := let ⟨mc, hns, hnn⟩ := hl; ⟨mc, hns.at' fun o e => k o e, hnn⟩
theorem own_ex (hwr : G.wr = [S]) (hOwn : G.Own = ownL S) {acc : List V} {h : Heap} (own : G.Own acc h) : ∀ b ∈ G.wr, ∃ o, h.get? b = some o ∧ ∀ v, o.data ≠ .cell v := fun b hb => by
  rw [hwr] at hb
  rw [List.mem_singleton.mp hb]
  rw [hOwn] at own
  obtain ⟨av, c, e, _⟩ := own
  exact ⟨_, e, fun v z => by cases z⟩
theorem loop_g (c : GenC G) (hwr : G.wr = [S]) (hOwn : G.Own = ownL S) (haS : G.a ≠ S) (hSc : S ≠ cStatics) (hend : G.ended = true) (hlen : G.full.length ≤ sizeLine) (hh : A.handled = none) (hroom : A.depth < recursionLimit)
    (hR : ∀ s' H α acc av cc, OutG G H s' → RS G.C α G.Me H → Step G.α0 α G.H0 H → RDs G.C.sa α H G.full acc → s'.heap.get? S = some (lstObj av cc) → Vals acc av.toList → H S = none → R (.ok (.ret res)) s') :
    ∀ (rest : List Pw.D) (acc : List V) (s : Shared), GSt G A.in1 rest acc s → G.Own acc s.heap → AllBare s.gens → s.heap.NoLimit → codeAny (model G.X.prog G.X.w) A (.builtin "list.extend.loop" ⟨[.ref S, .ref G.a, res], []⟩) R s := by
  intro rest
  induction rest with
  | nil =>
    intro acc s st own hb hl
    refine codeAny_builtin F.entry_extend_loop ?_
    rw [Around.under_plainId F.plain_extend_loop _]
    show wpAny _ A.in1 (pyNext (.ref G.a) >>= _) _ _ s
    refine wpAny_bind (thn (g_next (A := A.in1) c hh hroom hl hb (own_ex hwr hOwn own) st own (.inl hend)) fun r s' h => ?_)
    obtain ⟨k, H, α, M, acc', out, rs, stp, own', hn, hr, hM, rds⟩ := h
    subst hr hM
    rw [hOwn] at own'
    obtain ⟨av, cc, e, v⟩ := own'
    exact wpAny_pure (hR s' H α acc' av cc out rs stp rds (k S (by rw [hwr]; exact List.mem_singleton.mpr rfl) _ e) v (hn S (by rw [hwr]; exact List.mem_singleton.mpr rfl)))
  | cons d ys ih =>
    intro acc s st own hb hl
    refine codeAny_builtin F.entry_extend_loop ?_
    rw [Around.under_plainId F.plain_extend_loop _]
    show wpAny _ A.in1 (pyNext (.ref G.a) >>= _) _ _ s
    refine wpAny_bind (thn (g_next (A := A.in1) c hh hroom hl hb (own_ex hwr hOwn own) st own (.inl hend)) fun r s' h => ?_)
    obtain ⟨k, H, α, M, acc', out, rs, stp, own', hn, v, x, hr, rx, rd, st', _⟩ := h
    subst hr
    rw [hOwn] at own'
    obtain ⟨av, cc, e, vv⟩ := own'
    have hS' := k S (by rw [hwr]; exact List.mem_singleton.mpr rfl) _ e
    have hsz : av.size < G.full.length := by
      obtain ⟨pre, h1, h2⟩ := st'.suf
      have h3 := congrArg List.length h1
      have h4 := vv.length
      simp only [List.length_append, List.length_cons, List.length_nil, Array.length_toList] at h2 h3 h4
      obtain ⟨pre1, g1, g2⟩ := st.suf
      have g3 := congrArg List.length g1
      simp only [List.length_append, List.length_cons] at g3
      omega
    show wpAny _ A.in1 (updateSeq S (·.push v) >>= _) _ _ _
    refine wpAny_bind ?_
    refine wpAny_updateSeq hS' rfl (wpAny_pure ⟨plainId_quiet F.plain_extend_loop _, ih (acc' ++ [x]) _ (st'.slept rfl (fun b o hb e => ?_) rfl (by rw [hwr]; simp [haS])) ?_ out.bare (lim_at out.lim fun o e => ?_)⟩)
      (by omega) (by show (av.push v).size ≤ sizeLine + 1; rw [Array.size_push]; omega)
    · rw [hwr] at hb
      exact (Heap.get?_update_other _ _ (fun z : S = b => hb (List.mem_singleton.mpr z.symm))).trans e
    · rw [hOwn]
      refine ⟨av.push v, _, Heap.get?_update_self _ hS' rfl, ?_⟩
      rw [Array.toList_push]
      exact vv.append (.cons rx .nil)
    · exact (Heap.get?_update_other _ _ hSc).trans e
theorem collect_g {E : Value → Shared → Prop} {s : Shared} {Q : List Value → Shared → Prop} (c : GenC G) (hS : S = s.heap.objs.size) (hwr : G.wr = [S]) (hOwn : G.Own = ownL S) (hend : G.ended = true) (hlen : G.full.length ≤ sizeLine) (hh : A.handled = none) (hroom : A.depth < recursionLimit)
    (hb : AllBare s.gens) (hl : s.heap.NoLimit) (hg : s.heap.IsGen G.a G.gi)
    (st : ∀ s' : Shared, s'.os = s.os → s'.gens = s.gens → (∀ b o, b ≠ S → s.heap.get? b = some o → s'.heap.get? b = some o) → GSt G A.in1 G.full [] s')
    (hQ : ∀ s' H α acc av, OutG G H s' → RS G.C α G.Me H → Step G.α0 α G.H0 H → RDs G.C.sa α H G.full acc → Vals acc av → H S = none → Q av s') :
    wpAny (model G.X.prog G.X.w) A (collect (.ref G.a)) Q E s := by
  have haS : G.a ≠ S := fun z => by
    obtain ⟨o, _, _, e, _⟩ := hg
    have := Heap.lt_size e
    rw [z, hS] at this
    exact Nat.lt_irrefl _ this
  have hSc : S ≠ cStatics := by
    have : cStatics < s.heap.objs.size := let ⟨_, hn, _⟩ := hl; hn.lt
    rw [hS]; exact Nat.ne_of_gt this
  have hSI : S ≠ G.a := Ne.symm haS
  have gty : ∀ {s' : Shared}, (∀ b o, b ≠ S → s.heap.get? b = some o → s'.heap.get? b = some o) → s'.TypeIs (.ref G.a) "generator" := fun {s'} k => by
    obtain ⟨o, nm, qn, e, r⟩ := hg
    exact Heap.IsGen.typeIs (s := s') (g := G.gi) ⟨o, nm, qn, k _ _ haS e, r⟩
  have gis : ∀ {s' : Shared}, (∀ b o, b ≠ S → s.heap.get? b = some o → s'.heap.get? b = some o) → s'.heap.IsGen G.a G.gi := fun {s'} k => by
    obtain ⟨o, nm, qn, e, r⟩ := hg
    exact ⟨o, nm, qn, k _ _ haS e, r⟩
  unfold collect
  refine wpAny_bind (wpAny_runValue (codeAny_builtin F.entry_proto_collect ?_))
  rw [Around.under_plainId F.plain_proto_collect _]
  show wpAny _ A.in1 (newList [] >>= fun l => again (.builtin "list.__iadd__" ⟨[l, .ref G.a], []⟩)) _ _ s
  refine wpAny_bind (wpAny_newObj_type ?_ (by show 0 ≤ sizeLine; decide))
  refine wpAny_pure ⟨plainId_quiet F.plain_list_iadd _, codeAny_builtin F.entry_list_iadd ?_⟩
  rw [Around.under_plainId F.plain_list_iadd _]
  rw [← hS]
  have k1 : ∀ b o, b ≠ S → s.heap.get? b = some o → (s.heap.push { cls := .type "list", data := .seq ([] : List Value).toArray }).get? b = some o := fun b o _ e => Heap.get?_push_of_some _ e
  have hS1 : (s.heap.push { cls := .type "list", data := .seq ([] : List Value).toArray }).get? S = some { cls := .type "list", data := .seq ([] : List Value).toArray } := by rw [hS]; exact Heap.get?_push_size _ rfl
  show wpAny _ A.in1 (Builtin.List.listExtendWith (.ref S) (.ref G.a) (.ref S)) _ _ _
  unfold Builtin.List.listExtendWith
  refine wpAny_bind (wpAny_typeOf (gty (s' := { s with heap := _ }) k1) ?_)
  have h1 : Builtin.List.listSameRef (.ref S) (.ref G.a) = false := by simp [Builtin.List.listSameRef, hSI]
  have h2 : (Value.type "generator" == Value.type "list") = false := by decide
  have h3 : (Value.type "generator" == Value.type "tuple") = false := by decide
  simp only [h1, h2, h3, Bool.or_false, Bool.false_eq_true, if_false]
  refine wpAny_bind (wpAny_pyIter_gen (s := { s with heap := _ }) (gis (s' := { s with heap := _ }) k1) ?_)
  refine wpAny_bind (wpAny_holding ?_)
  unfold Builtin.List.listLengthHint
  refine wpAny_bind (wpAny_specialOf (gty (s' := { s with heap := _ }) k1) F.gen_no_len ?_)
  show wpAny _ A.in1 (specialOf (Value.ref G.a) (Str.ofString "__length_hint__") >>= _) _ _ _
  refine wpAny_bind (wpAny_specialOf (gty (s' := { s with heap := _ }) k1) F.gen_no_hint ?_)
  refine wpAny_pure ?_
  show wpAny _ A.in1 (rule "list.extend.makes-room" >>= fun _ => Builtin.List.listTouch (.ref S) >>= fun _ =>
    again (.builtin "list.extend.loop" ⟨[.ref S, .ref G.a, .ref S], []⟩)) _ _ _
  refine wpAny_bind (wpAny_rule ?_)
  refine wpAny_bind ?_
  show wpAny _ A.in1 (updateSeq S (·.push .none) >>= fun _ => updateSeq S (·.pop)) _ _ _
  refine wpAny_bind (wpAny_updateSeq hS1 rfl ?_)
  have hS2 := Heap.get?_update_self (Obj.mapSeq (·.push Value.none)) hS1 rfl
  refine wpAny_updateSeq hS2 rfl ?_
  have hS3 := Heap.get?_update_self (Obj.mapSeq (·.pop)) hS2 rfl
  have k3 : ∀ b o, b ≠ S → s.heap.get? b = some o → (((s.heap.push { cls := .type "list", data := .seq ([] : List Value).toArray }).update S (Obj.mapSeq (·.push Value.none))).update S (Obj.mapSeq (·.pop))).get? b = some o :=
    fun b o hb e => (Heap.get?_update_other _ _ (Ne.symm hb)).trans ((Heap.get?_update_other _ _ (Ne.symm hb)).trans (k1 b o hb e))
  refine wpAny_pure ⟨plainId_quiet F.plain_extend_loop _, loop_g c hwr hOwn haS hSc hend hlen hh hroom (fun s' H α acc av cc out rs stp rds e v hn => ?_) G.full [] _ (st { s with heap := _ } rfl rfl k3) ?_ hb (lim_at hl fun o e => k3 _ _ (Ne.symm hSc) e)⟩
  · show wpAny _ A (load S >>= _) _ _ s'
    exact wpAny_bind (wpAny_load e (wpAny_pure (hQ s' H α acc av.toList out rs stp rds v hn)))
  · rw [hOwn]
    exact ⟨_, _, hS3, .nil⟩

/-! ### any, all -/
/-- what is still to come of truth values, where want ends the search -/
def SkOk (want ended : Bool) (bs : List Bool) : Prop := (ended = true ∧ ∀ x ∈ bs, x = !want) ∨ (ended = false ∧ ∃ init, bs = init ++ [want] ∧ ∀ x ∈ init, x = !want)
theorem own_nil {h : Heap} (hwr : G.wr = []) : ∀ b ∈ G.wr, ∃ o, h.get? b = some o ∧ ∀ v, o.data ≠ .cell v := fun b hb => by rw [hwr] at hb; cases hb
theorem any_loop_g (c : GenC G) (hwr : G.wr = []) (hOwn : G.Own = fun _ _ => True) (hh : A.handled = none) (hroom : A.depth < recursionLimit)
    (hR : ∀ s' H α r, OutG G H s' → RS G.C α G.Me H → Step G.α0 α G.H0 H → r = !G.ended → R (.ok (.ret (.bool r))) s') :
    ∀ (bs : List Bool) (acc : List V) (s : Shared), SkOk true G.ended bs → GSt G A.in1 (bs.map Pw.D.bl) acc s → AllBare s.gens → s.heap.NoLimit → codeAny (model G.X.prog G.X.w) A (.builtin "any.loop" ⟨[.ref G.a], []⟩) R s := by
  have hO : ∀ acc h, G.Own acc h := fun acc h => by rw [hOwn]; trivial
  intro bs
  induction bs with
  | nil =>
    intro acc s sk st hb hl
    have hend : G.ended = true := by
      rcases sk with h | ⟨_, init, h, _⟩
      · exact h.1
      · simp at h
    refine codeAny_builtin F.entry_any_loop ?_
    rw [Around.under_plainId F.plain_any_loop _]
    show wpAny _ A.in1 (pyNext (.ref G.a) >>= _) _ _ s
    refine wpAny_bind (thn (g_next (A := A.in1) c hh hroom hl hb (own_nil hwr) st (hO _ _) (.inl hend)) fun r s' h => ?_)
    obtain ⟨k, H, α, M, acc', out, rs, stp, own', hn, hr, hM, rds⟩ := h
    subst hr hM
    exact wpAny_bind (wpAny_rule (wpAny_pure (hR s' H α false out rs stp (by rw [hend]; rfl))))
  | cons b bs ih =>
    intro acc s sk st hb hl
    refine codeAny_builtin F.entry_any_loop ?_
    rw [Around.under_plainId F.plain_any_loop _]
    show wpAny _ A.in1 (pyNext (.ref G.a) >>= _) _ _ s
    refine wpAny_bind (thn (g_next (A := A.in1) c hh hroom hl hb (own_nil hwr) st (hO _ _) (.inr (by simp))) fun r s' h => ?_)
    obtain ⟨k, H, α, M, acc', out, rs, stp, own', hn, v, x, hr, rx, rd, st', hcut⟩ := h
    subst hr
    cases rd
    obtain rfl : v = Value.bool b := rx
    refine wpAny_bind (wpAny_holding (wpAny_truthy_bool ?_))
    refine wpAny_bind (wpAny_letGo ?_)
    cases b with
    | false =>
      simp only [Bool.false_eq_true, if_false]
      refine wpAny_pure ⟨plainId_quiet F.plain_any_loop _, ih _ s' ?_ st' out.bare out.lim⟩
      rcases sk with ⟨h1, h2⟩ | ⟨h1, init, h2, h3⟩
      · exact .inl ⟨h1, fun x hx => h2 x (List.mem_cons_of_mem _ hx)⟩
      · cases init with
        | nil => simp at h2
        | cons i0 init => exact .inr ⟨h1, init, (List.cons.inj h2).2, fun x hx => h3 x (List.mem_cons_of_mem _ hx)⟩
    | true =>
      simp only [if_true]
      have hsk : G.ended = false ∧ bs = [] := by
        rcases sk with ⟨_, h2⟩ | ⟨h1, init, h2, h3⟩
        · exact absurd (h2 true List.mem_cons_self) (by simp)
        · cases init with
          | nil => exact ⟨h1, (List.cons.inj h2).2⟩
          | cons i0 init =>
            have h4 := (List.cons.inj h2).1
            have h5 := h3 i0 List.mem_cons_self
            rw [← h4] at h5; simp at h5
      have hM := hcut hsk.1 (by rw [hsk.2]; rfl)
      subst hM
      exact wpAny_bind (wpAny_rule (wpAny_pure (hR s' H α true out rs stp (by rw [hsk.1]; rfl))))
theorem all_loop_g (c : GenC G) (hwr : G.wr = []) (hOwn : G.Own = fun _ _ => True) (hh : A.handled = none) (hroom : A.depth < recursionLimit)
    (hR : ∀ s' H α r, OutG G H s' → RS G.C α G.Me H → Step G.α0 α G.H0 H → r = G.ended → R (.ok (.ret (.bool r))) s') :
    ∀ (bs : List Bool) (acc : List V) (s : Shared), SkOk false G.ended bs → GSt G A.in1 (bs.map Pw.D.bl) acc s → AllBare s.gens → s.heap.NoLimit → codeAny (model G.X.prog G.X.w) A (.builtin "all.loop" ⟨[.ref G.a], []⟩) R s := by
  have hO : ∀ acc h, G.Own acc h := fun acc h => by rw [hOwn]; trivial
  intro bs
  induction bs with
  | nil =>
    intro acc s sk st hb hl
    have hend : G.ended = true := by
      rcases sk with h | ⟨_, init, h, _⟩
      · exact h.1
      · simp at h
    refine codeAny_builtin F.entry_all_loop ?_
    rw [Around.under_plainId F.plain_all_loop _]
    show wpAny _ A.in1 (pyNext (.ref G.a) >>= _) _ _ s
    refine wpAny_bind (thn (g_next (A := A.in1) c hh hroom hl hb (own_nil hwr) st (hO _ _) (.inl hend)) fun r s' h => ?_)
    obtain ⟨k, H, α, M, acc', out, rs, stp, own', hn, hr, hM, rds⟩ := h
    subst hr hM
    exact wpAny_bind (wpAny_rule (wpAny_pure (hR s' H α true out rs stp (by rw [hend]))))
  | cons b bs ih =>
    intro acc s sk st hb hl
    refine codeAny_builtin F.entry_all_loop ?_
    rw [Around.under_plainId F.plain_all_loop _]
    show wpAny _ A.in1 (pyNext (.ref G.a) >>= _) _ _ s
    refine wpAny_bind (thn (g_next (A := A.in1) c hh hroom hl hb (own_nil hwr) st (hO _ _) (.inr (by simp))) fun r s' h => ?_)
    obtain ⟨k, H, α, M, acc', out, rs, stp, own', hn, v, x, hr, rx, rd, st', hcut⟩ := h
    subst hr
    cases rd
    obtain rfl : v = Value.bool b := rx
    refine wpAny_bind (wpAny_holding (wpAny_truthy_bool ?_))
    refine wpAny_bind (wpAny_letGo ?_)
    cases b with
    | true =>
      simp only [if_true, Bool.not_true, Bool.false_eq_true, if_false]
      refine wpAny_pure ⟨plainId_quiet F.plain_all_loop _, ih _ s' ?_ st' out.bare out.lim⟩
      rcases sk with ⟨h1, h2⟩ | ⟨h1, init, h2, h3⟩
      · exact .inl ⟨h1, fun x hx => h2 x (List.mem_cons_of_mem _ hx)⟩
      · cases init with
        | nil => simp at h2
        | cons i0 init => exact .inr ⟨h1, init, (List.cons.inj h2).2, fun x hx => h3 x (List.mem_cons_of_mem _ hx)⟩
    | false =>
      simp only [if_true, Bool.not_false, Bool.false_eq_true, if_false]
      have hsk : G.ended = false ∧ bs = [] := by
        rcases sk with ⟨_, h2⟩ | ⟨h1, init, h2, h3⟩
        · exact absurd (h2 false List.mem_cons_self) (by simp)
        · cases init with
          | nil => exact ⟨h1, (List.cons.inj h2).2⟩
          | cons i0 init =>
            have h4 := (List.cons.inj h2).1
            have h5 := h3 i0 List.mem_cons_self
            rw [← h4] at h5; simp at h5
      have hM := hcut hsk.1 (by rw [hsk.2]; rfl)
      subst hM
      exact wpAny_bind (wpAny_rule (wpAny_pure (hR s' H α false out rs stp (by rw [hsk.1]))))
theorem call_any_g {E : Value → Shared → Prop} {s : Shared} {Q : Value → Shared → Prop} {bs : List Bool} (c : GenC G) (hwr : G.wr = []) (hOwn : G.Own = fun _ _ => True) (hh : A.handled = none) (hroom : A.depth < recursionLimit) (sk : SkOk true G.ended bs) (st : GSt G A.in1 (bs.map Pw.D.bl) [] s)
    (hb : AllBare s.gens) (hl : s.heap.NoLimit) (hQ : ∀ s' H α, OutG G H s' → RS G.C α G.Me H → Step G.α0 α G.H0 H → Q (.bool (!G.ended)) s') : wpAny (model G.X.prog G.X.w) A (call (.builtin "any") [.ref G.a]) Q E s := by
  refine call_function_tree F.kind_any F.plain_any F.entry_any (F.args_any1 _) ?_
  unfold Builtin.«any»
  refine wpAny_bind (m := oneArg "any" _) (wpAny_pure ?_)
  refine wpAny_bind (wpAny_pyIter_gen st.isg ?_)
  exact wpAny_pure ⟨plainId_quiet F.plain_any_loop _, any_loop_g (A := A) c hwr hOwn hh hroom (fun s' H α r o rs stp hr => by subst hr; exact hQ s' H α o rs stp) bs [] s sk st hb hl⟩
theorem call_all_g {E : Value → Shared → Prop} {s : Shared} {Q : Value → Shared → Prop} {bs : List Bool} (c : GenC G) (hwr : G.wr = []) (hOwn : G.Own = fun _ _ => True) (hh : A.handled = none) (hroom : A.depth < recursionLimit) (sk : SkOk false G.ended bs) (st : GSt G A.in1 (bs.map Pw.D.bl) [] s)
    (hb : AllBare s.gens) (hl : s.heap.NoLimit) (hQ : ∀ s' H α, OutG G H s' → RS G.C α G.Me H → Step G.α0 α G.H0 H → Q (.bool G.ended) s') : wpAny (model G.X.prog G.X.w) A (call (.builtin "all") [.ref G.a]) Q E s := by
  refine call_function_tree F.kind_all F.plain_all F.entry_all (F.args_all1 _) ?_
  unfold Builtin.«all»
  refine wpAny_bind (m := oneArg "all" _) (wpAny_pure ?_)
  refine wpAny_bind (wpAny_pyIter_gen st.isg ?_)
  exact wpAny_pure ⟨plainId_quiet F.plain_all_loop _, all_loop_g (A := A) c hwr hOwn hh hroom (fun s' H α r o rs stp hr => by subst hr; exact hQ s' H α o rs stp) bs [] s sk st hb hl⟩
end
end Pw

end
section
set_option maxHeartbeats 1000000
/-! SndG5: a generator is made; it is ready for whoever draws from it. -/
namespace Pw
open PySem PySem.Spec PyProof.Rows L2

structure Made (X : Cx) (pins : List (Addr × Obj)) (σ : L2.St) (P : Addr) (elt tg iter : Expr) (ifs : List Expr) (scope : Scope) (gpos : Pos) (J : It) (H1 : Hp) (u : Value) (s5 : Shared) : Prop where
  ok : ∃ (H2 : Hp) (it : Addr) (fp : List Addr) (tn : Nat → Heap → Prop) (s4 : Shared) (code : Value) (a gi : Nat) (go : Obj), u = .ref a ∧ GxR.Tabbed P H1 H2 ∧ Inv X pins σ H2 s4 ∧ Turn X.prog X.w X.K tg J fp it tn ∧ tn 0 s4.heap ∧ (∀ b ∈ fp, FpOk X pins H2 b ∧ b < s4.heap.objs.size) ∧
    s5.os = s4.os ∧ AllBare s5.gens ∧ (∀ b o, s4.heap.get? b = some o → s5.heap.get? b = some o) ∧ s5.heap.Ns s4.heap.objs.size (fun y => if y = ".0" then some (.ref it) else none) ∧ s4.heap.objs.size < a ∧ a < s5.heap.objs.size ∧ s5.heap.get? a = some go ∧ (∀ h : Heap, h.get? a = some go → h.IsGen a gi) ∧ (∀ v, go.data ≠ .cell v) ∧
    s5.gens[gi]? = some (.fresh (.compStart (.GeneratorExp elt [⟨tg, iter, ifs, 0⟩] scope gpos) 0 (.ref it) .none (gEnv X scope s4.heap.objs.size code)))
section
variable {X : Cx} {pins : List (Addr × Obj)} {σ : L2.St} {H : Hp} {s : Shared}
theorem gen_make {c P : Addr} {elt tg iter : Expr} {ifs : List Expr} {scope : Scope} {gpos : Pos} {vs : List Nat} {wi : TI} {k : Nat} {Rr : It → Hp → Prop}
    (hr : Room k X.A) (TB : GxR.TabB X.base X.mg c P) (hcode : X.env.code = .ref c) (B : GenB X.N X.env.scope scope vs) (hi : PI X tg iter wi) (hs : ∀ v, genFold iter X.env v = pure v) (I : Inv X pins σ H s)
    (h : wi σ H fun J H1 => GxR.TabG H1 P ∧ Rr J H1) :
    wpAny (model X.prog X.w) X.A (eval (.GeneratorExp elt [⟨tg, iter, ifs, 0⟩] scope gpos) X.env) (fun u s5 => ∃ J H1, Rr J H1 ∧ Made X pins σ P elt tg iter ifs scope gpos J H1 u s5) X.xe s := by
  have hfree := B.has I
  refine wpAny_GeneratorExp_make B.co (closure_ok hfree) B.cell B.dot B.kind (by have := hr.dp; omega) ?_ hs
  refine thn (hi.run pins s σ H _ I h) fun xv s1 hx => thn hx fun itv s2 h2 => ?_
  obtain ⟨it, fp, tn, J, H1, e, I2, T, st2, f2, ⟨ps, hP, ht⟩, q⟩ := h2
  subst e
  have hPs : s2.heap.get? P = some { cls := .none, data := .fields ps } := I2.hok P _ hP
  have cd : PySem.W.CodeHd s2.heap c P := TB.code.keeps fun b u e => I2.bk b u e
  have sz : ∀ b ∈ fp, b < s2.heap.objs.size := fun b hb => by
    obtain ⟨o, e, _⟩ := T.obj _ _ st2 b hb
    exact Heap.lt_size e
  have nP : ∀ b, H1 b = none → b ≠ P := fun b e z => by rw [z, hP] at e; cases e
  have cont : ∀ (code : Value) (h3 : Heap) (tk : Nat) (ps' : Array Value), Heap.ExtBut P s2.heap h3 → s2.heap.objs.size ≤ h3.objs.size → h3.get? P = some { cls := .none, data := .fields ps' } → (∃ more, ps' = ps ++ more) → TriplesOk ps'.toList →
      wpAny (model X.prog X.w) X.A (builtinsFor X.env.globals X.env.builtins) (fun bi s₄ =>
        ∀ h', h'.Ns s₄.heap.objs.size (fun y => if y = ".0" then some (.ref it) else none) → Heap.SameBut s₄.heap.objs.size (s₄.heap.push { cls := .type "frame", data := .dict #[] }) h' →
          ∃ J H1, Rr J H1 ∧ Made X pins σ P elt tg iter ifs scope gpos J H1 (.ref h'.objs.size) { s₄ with
            gens := s₄.gens.push (.fresh (.compStart (.GeneratorExp elt [⟨tg, iter, ifs, 0⟩] scope gpos) 0 (.ref it) .none (genEnv scope (cloFrom X.env.cells scope.names []) s₄.heap.objs.size code bi X.env))),
            toks := s₄.toks + 1 + 1 + 1,
            heap := h'.push { cls := .type "generator", data := .fields #[.int s₄.gens.size 0, .str "<genexpr>" (s₄.toks + 1), .str (X.env.qual ++ "<genexpr>") (s₄.toks + 1 + 1)] } }) X.xe { s2 with heap := h3, toks := tk } := by
    intro code h3 tk ps' hx3 hsz hP3 hmore ht3
    obtain ⟨more, em⟩ := hmore
    obtain ⟨bm, ob, e1, e2, e3, e4, e5, e6, e7, e8⟩ := TB.bm
    have keep3 : ∀ b u, b ≠ P → s2.heap.get? b = some u → h3.get? b = some u := fun b u hb e => hx3 b u hb e
    refine wpAny_builtinsFor (m := X.mg) (by rw [I2.ok.glob]; exact (I2.mod.glob.keeps I2.bk).extBut hx3 TB.gP) e1 e2 (keep3 _ _ e4 (I2.bk _ _ e5)) e6 e7 e8 ?_
    intro h' hns hsb
    have I4 : Inv X pins σ (upd H1 P (.tbl (ps ++ more))) { s2 with heap := h3, toks := tk } := GxR.inv_tab (g' := s2.gens) (d' := s2.drawn) (t' := tk) I2 hP keep3 (by rw [← em]; exact hP3) I2.bare
    have hsz' : h'.objs.size = h3.objs.size + 1 := by
      have := hsb.1
      rw [this]
      show (h3.push _).objs.size = _
      rw [Heap.size_push]
    refine ⟨J, H1, q, ⟨upd H1 P (.tbl (ps ++ more)), it, fp, tn, { s2 with heap := h3, toks := tk }, code, h'.objs.size, s2.gens.size, _, rfl, ⟨⟨ps ++ more, upd_same, by rw [← em]; exact ht3⟩, fun b hb => upd_ne hb⟩, I4, T, T.keep _ _ _ st2 fun b hb o e => keep3 b o (nP b (f2 b hb).1) e, fun b hb => ⟨⟨?_, (f2 b hb).2⟩, ?_⟩, rfl, AllBare.push I2.bare rfl, fun b o e => ?_, hns.push _, ?_, ?_, Heap.get?_push_size _ rfl, fun h eo => ⟨_, .str (Str.ofString "<genexpr>") (tk + 1), .str (X.env.qual ++ Str.ofString "<genexpr>") (tk + 1 + 1), eo, rfl, rfl, rfl⟩, (fun v z => by cases z), by simp⟩⟩
    · rw [upd_ne (nP b (f2 b hb).1)]; exact (f2 b hb).1
    · exact Nat.lt_of_lt_of_le (sz b hb) hsz
    · refine Heap.get?_push_of_some _ ?_
      exact hsb.extBut b o (Nat.ne_of_lt (Heap.lt_size e)) (Heap.get?_push_of_some _ e)
    · show h3.objs.size < h'.objs.size
      omega
    · show h'.objs.size < (h'.push _).objs.size
      rw [Heap.size_push]; omega
  refine ⟨I2.nolimit, ?_⟩
  cases hf : codeAmong gpos ps.toList with
  | none =>
    refine wpAny_genexprCodeX hcode (cd.code hPs ht) (cd.tab hPs) hf fun c' h' tk hx hge hlt hco' _ htab' _ => ?_
    obtain ⟨o1, vs, f1, tf, fl, tg, inF, tx, tt, op, _, _, _, _, _, _, _, _, _, htr, _⟩ := hco'
    exact cont _ h' tk _ hx (Nat.le_trans hge (Nat.le_of_lt hlt)) htab'.2 ⟨_, rfl⟩ htr
  | some cv =>
    refine wpAny_genexprCode_hit hcode (cd.code hPs ht) hf ?_
    exact cont cv s2.heap s2.toks ps (Heap.ExtBut.refl _ _) (Nat.le_refl _) hPs ⟨#[], by simp⟩ ht
end
end Pw

end
section
set_option maxHeartbeats 1000000
/-! SndG6: tuple, any, all of a generator expression. -/
namespace Pw
open PySem PySem.Spec PyProof.Rows L2

section
variable {C : PC} {α α1 : List Addr} {M M1 : Mem} {H H1 H2 : Hp} {P : Addr}
theorem RS.tabbed (s : RS C α M H1) (hP : GxR.TabG H1 P) (t : GxR.Tabbed P H1 H2) : Step α α H1 H2 ∧ RS C α M H2 := by
  obtain ⟨⟨ps', hP', ht'⟩, oth⟩ := t
  obtain ⟨ps, hP, ht⟩ := hP
  have st : Step α α H1 H2 := by
    refine ⟨⟨[], by simp⟩, fun _ h => .inl h, fun a o e _ => ?_⟩
    by_cases hb : a = P
    · subst hb
      rw [hP] at e; cases e
      exact ⟨_, hP', .inr ⟨_, _, rfl, rfl⟩⟩
    · exact ⟨o, by rw [oth a hb]; exact e, .inl rfl⟩
  refine ⟨st, s.len, s.nd, fun n o e => ?_, s.sc_keep st, fun q hq => ?_⟩
  · obtain ⟨a, ho, h1, h2, r⟩ := s.ob n o e
    refine ⟨a, ho, h1, ?_, r.mono s st⟩
    have : a ≠ P := fun z => by
      rw [z, hP] at h2
      exact r.nottab ps (Option.some.inj h2).symm
    rw [oth a this]; exact h2
  · by_cases hb : q.2 = P
    · exact ⟨ps', by rw [hb]; exact hP', ht'⟩
    · obtain ⟨p2, e, k⟩ := s.tab q hq
      exact ⟨p2, by rw [oth _ hb]; exact e, k⟩
theorem JOk.mono {J : It} {α' : List Addr} {H' : Hp} {its : Items} (h : JOk C J α H its) (t : Step α α' H H') : JOk C J α' H' its := fun i α2 M2 H2 t2 s2 st => h i α2 M2 H2 (t.trans t2) s2 st
end

section
variable {C : PC} {X : Cx} {pins : List (Addr × Obj)} {σ : L2.St} {P : Addr} {elt tg iter : Expr} {ifs : List Expr} {scope : Scope} {gpos : Pos} {J : It} {H1 : Hp} {u : Value} {s5 : Shared} {vs : List Nat} {p : Pat}
/-- the generator that was made, for a consumer -/
structure GenRdy (C : PC) (X : Cx) (pins : List (Addr × Obj)) (σ : L2.St) (full : List Pw.D) (ended : Bool) (Me : Mem) (α1 : List Addr) (H2 : Hp) (u : Value) (s5 : Shared) : Prop where
  ok : ∃ (a : Addr) (gi : Nat) (go : Obj), u = .ref a ∧ a < s5.heap.objs.size ∧ s5.heap.IsGen a gi ∧ AllBare s5.gens ∧ s5.heap.NoLimit ∧
    ∀ (A : Around) (wr : List Addr) (Own : List V → Heap → Prop), A.handled = none → A.frames = X.A.frames → A.depth ≤ X.A.depth → A.units ≤ X.A.units + 9 → (∀ b ∈ wr, s5.heap.objs.size ≤ b) →
      ∃ G : GenP, G.wr = wr ∧ G.Own = Own ∧ G.full = full ∧ G.ended = ended ∧ G.Me = Me ∧ G.α0 = α1 ∧ G.H0 = H2 ∧ G.a = a ∧ G.gi = gi ∧ G.C = C ∧ G.X.prog = X.prog ∧ G.X.w = X.w ∧ G.X.pn = [(a, go)] ∧ (∀ h : Heap, h.get? a = some go → h.IsGen a gi) ∧
        (∀ s' : Shared, s'.os = s5.os → s'.gens = s5.gens → (∀ b o, b ∉ wr → s5.heap.get? b = some o → s'.heap.get? b = some o) → GSt G A full [] s') ∧
        (∀ H' s', OutG G H' s' → Inv X pins σ H' s') ∧ G.go = go
theorem gen_ready {k : Nat} {S : Sx} {c : VEnv → Mem → R Bool} {e : VEnv → Mem → R Pw.D} {ρ : VEnv} {its : Items} {M1 Me : Mem} {full : List Pw.D} {ended : Bool} {α1 : List Addr}
    (ok : OkX C k S X) (hr : RoomG k X.A) (B : GenB X.N X.env.scope scope vs) (hp : ∀ i ∈ patVars p, i ∈ vs) (hg : ∀ X', OkX C k (S.gen scope) X' → PG X' tg (gOf C p)) (ht : ∀ X', OkX C k (S.gen scope) X' → LTs C X' ifs c) (he : ∀ X', OkX C k (S.gen scope) X' → LE C X' elt e)
    (hP : GxR.TabG H1 P) (jok : JOk C J α1 H1 its) (S1 : RS C α1 M1 H1) (re : RE C.sa α1 H1 ρ (wipe σ vs)) (tr : Tr its.2 p c e ρ its.1 Me ended 0 M1 full) (hgo : ended = true ∨ full ≠ []) (m : Made X pins σ P elt tg iter ifs scope gpos J H1 u s5) :
    ∃ H2, Step α1 α1 H1 H2 ∧ GenRdy C X pins σ full ended Me α1 H2 u s5 := by
  obtain ⟨H2, it, fp, tn, s4, code, a, gi, go, rfl, hT, I4, T, st4, hfp, hos, hb, hk, hns, ha1, ha2, hgo5, hgen, hnc, hfresh⟩ := m
  obtain ⟨stp, S2⟩ := S1.tabbed hP hT
  refine ⟨H2, stp, ⟨a, gi, go, rfl, ha2, hgen _ hgo5, hb, I4.nolimit.keeps hk, fun A wr Own hAh hAf hAd hAu hwr => ?_⟩⟩
  let genv := gEnv X scope s4.heap.objs.size code
  let X' := gCx X (A.in1.deeper genv) s4 H2 scope code a go fp
  have hroom : Room k (A.in1.deeper genv) := by
    refine ⟨hAh, ?_, ?_⟩
    · have h1 := hr.dp
      show A.depth + 1 + 3 * k + 5 < _
      omega
    · have h1 := hr.un
      show A.units + 1 + 3 + 16 * k + 200 < _
      omega
  have okX : OkX C k (S.gen scope) X' := ok.gen hroom s4 H2 scope code a go fp
  refine ⟨⟨C, X', wr, Own, full, ended, Me, α1, H2, a, gi, go⟩, rfl, rfl, rfl, rfl, rfl, rfl, rfl, rfl, rfl, rfl, rfl, rfl, rfl, hgen, fun s' ho' hg' hk' => ?_, fun H' s' o => ?_, rfl⟩
  · have hna : a ∉ wr := fun hm => absurd ha2 (Nat.not_lt.mpr (hwr a hm))
    refine ⟨hgen _ (hk' _ _ hna hgo5), ⟨.fresh (.compStart (.GeneratorExp elt [⟨tg, iter, ifs, 0⟩] scope gpos) 0 (.ref it) .none genv), by rw [hg']; exact hfresh, fun hmore s6 z own => And.intro rfl ?_⟩, [], rfl, rfl⟩
    have h46 : ∀ b o, s4.heap.get? b = some o → s6.heap.get? b = some o := fun b o eo => by
      have hb5 := hk b o eo
      have hnw : b ∉ wr := fun hm => absurd (Heap.lt_size hb5) (Nat.not_lt.mpr (hwr b hm))
      exact z.keep b o hnw (hk' b o hnw hb5)
    have h56 : ∀ b o, s5.heap.get? b = some o → s6.heap.get? b = some o := fun b o eo => by
      have hnw : b ∉ wr := fun hm => absurd (Heap.lt_size eo) (Nat.not_lt.mpr (hwr b hm))
      exact z.keep b o hnw (hk' b o hnw eo)
    have hC6 : s6.heap.Ns s4.heap.objs.size (fun y => if y = ".0" then some (.ref it) else none) := hns.keeps h56
    have I6 : Inv X' [] (wipe σ vs) H2 s6 := g_inv (A := A.in1.deeper genv) B I4 hAh (by
        show (A.in1.deeper genv).frames = some (genv :: X.stack)
        exact Around.frames_deeper (show A.in1.frames = some X.stack from by rw [show A.in1.frames = A.frames from rfl, hAf]; exact I4.ok.frames)) (z.os.trans (ho'.trans hos)) z.bare h46 hC6 (h56 _ _ hgo5) ha1 hnc hfp
    have s54 : s4.heap.objs.size < s5.heap.objs.size := Nat.lt_trans ha1 ha2
    have W : WrOk X' wr := ⟨fun b hbw => by
      have h5 := hwr b hbw
      refine ⟨Nat.le_of_lt (Nat.lt_of_lt_of_le s54 h5), Nat.ne_of_gt (Nat.lt_of_lt_of_le s54 h5), fun x c0 e0 zz => ?_, fun q hq => ?_, fun hm => ?_⟩
      · obtain ⟨v, hcell⟩ := I4.cell x c0 (clo_lookup_inv (B.has I4) e0)
        have := hcell.lt
        rw [zz] at this
        exact absurd (Nat.lt_trans this s54) (Nat.not_lt.mpr h5)
      · have hq : q ∈ [(a, go)] := hq
        rw [List.mem_singleton.mp hq]
        exact fun zz => absurd ha2 (Nat.not_lt.mpr (by rw [show a = b from zz]; exact h5))
      · exact absurd (Nat.lt_trans (hfp b hm).2 s54) (Nat.not_lt.mpr h5)⟩
    have FpW : ∀ b ∈ wr, FpOk X' [] H2 b := fun b hbw => by
      obtain ⟨w1, w2, w3, w4, w5⟩ := W.ok b hbw
      have h5 := hwr b hbw
      have hfr : s4.heap.objs.size ≤ b := Nat.le_of_lt (Nat.lt_of_lt_of_le s54 h5)
      refine ⟨I4.hok.fresh hfr, w2, fun hm => ?_, .inr w1, w3, fun q hq => w4 q (by simpa using hq)⟩
      rcases List.mem_cons.mp (I4.stkSub b hm) with zz | zz
      · have := I4.lt
        rw [← zz] at this
        exact absurd this (Nat.not_lt.mpr hfr)
      · exact I4.nofs hfr zz
    have I7 : Inv X' (pinsAt wr s6.heap) (wipe σ vs) H2 s6 := by
      have := I6.pinned FpW z.own
      simpa using this
    have loop := seg_turns (G := ⟨C, X', wr, Own, full, ended, Me, α1, H2, a, gi, go⟩) (A := A.in1) (scope := scope) (gpos := gpos) (iter := iter) T (jok.mono stp) ok.calm rfl rfl (fun q hq hm => by
        have hq : q ∈ [(a, go)] := hq
        rw [List.mem_singleton.mp hq] at hm
        exact absurd (hfp a hm).2 (Nat.not_lt.mpr (Nat.le_of_lt ha1))) rfl W B.co hp (hg _ okX) (ht _ okX) (he _ okX) tr (wipe σ vs) α1 H2 s6 s6 [] [] rfl rfl hgo I7 z.own (T.keep _ _ _ st4 fun b _ o eo => h46 b o eo) (fun b hb => (hfp b hb).1.1) S2 (Step.refl _ _) (by rw [wipe_wipe]; exact re.mono S1 stp) .nil own
    show Seg _ A.in1 _ _ _ s6 _ ((compStart (.GeneratorExp elt [⟨tg, iter, ifs, 0⟩] scope gpos) 0 (.ref it) .none genv).onRaise (leaving genv)) [] s6
    unfold compStart
    rw [Sem.onRaise_eq_wrap]
    show Seg _ A.in1 _ _ _ s6 _ ((ask >>= _).wrap _ _ _ _) [] s6
    refine seg_bind_wrap (wpAny_askSetting ?_)
    split
    · exact seg_again rfl loop
    · first
        | exact seg_bind_wrap (wpAny_rule (seg_bind_wrap (wpAny_standAt (seg_bind_wrap (T.self _ 0 s6 _ _ (T.keep _ _ _ st4 fun b _ o eo => h46 b o eo) (seg_again rfl loop))))))
        | (refine seg_bind_wrap (wpAny_rule ?_); show Seg _ A.in1 _ _ _ s6 _ ((standAt iter.pos >>= _).wrap _ _ _ _) [] s6; exact seg_bind_wrap (wpAny_standAt (seg_bind_wrap (T.self _ 0 s6 _ _ (T.keep _ _ _ st4 fun b _ o eo => h46 b o eo) (seg_again rfl loop)))))
  · exact I4.call' (ch := fp) o.os o.un o.hok o.bare fun b hbf => ⟨(hfp b hbf).1.2.2.2.1, (hfp b hbf).1.2.1, (hfp b hbf).1.2.2.2.2.1, (hfp b hbf).1.2.2.2.2.2⟩
end
end Pw

end
section
set_option maxHeartbeats 1000000
/-! SndG7: tuple(.. for ..), any(.. for ..), all(.. for ..) as expressions. -/
namespace Pw
open PySem PySem.Spec PyProof.Rows L2

section
variable {prog : Program} {w : World} {A : Around} {E : Value → Shared → Prop} {s : Shared} {a : Addr} {Qc : List Value → Shared → Prop}
theorem code_tuple_new_g {Q₁ : Value → Shared → Prop} (hTI : s.TypeIs (.ref a) "generator") (hcol : ∀ Q' : List Value → Shared → Prop, (∀ av s', Qc av s' → Q' av s') → wpAny (model prog w) A.in1 (collect (.ref a)) Q' E s)
    (hsz : ∀ av s', Qc av s' → av.length ≤ sizeLine) (h : ∀ av s', Qc av s' → Q₁ (.ref s'.heap.objs.size) { s' with heap := s'.heap.push { cls := .type "tuple", data := .seq av.toArray } }) :
    codeAny (model prog w) A (.call (.builtin "tuple.__new__") ⟨[.type "tuple", .ref a], []⟩) (wants Q₁ E) s := by
  refine codeAny_of_tree ?_
  show wpAny _ A.in1 (do checkBuiltinCall "tuple.__new__" ⟨[.type "tuple", .ref a], []⟩; again (.builtin "tuple.__new__" ⟨[.type "tuple", .ref a], []⟩)) _ _ s
  refine wpAny_bind (wpAny_of_eq (F.newCall_tuple_1 _) (wpAny_pure ⟨plainId_quiet F.plain_tuple_new _, codeAny_builtin F.entry_tuple_new ?_⟩))
  rw [Around.under_plainId F.plain_tuple_new _]
  have hsub := sub_tuple_self
  have hinit := init_tuple_lookup
  have hmh := madeHere_tuple
  wp_walk using wpAny_typeOf hTI, hcol _
  intro av s' hq
  show wpAny _ _ (Builtin.Tuple.tupleExact av.toArray >>= fun v => ret v) _ _ _
  unfold Builtin.Tuple.tupleExact
  refine wpAny_bind (wpAny_newObj_type ?_ (by show av.toArray.size ≤ sizeLine; simpa using hsz av s' hq))
  exact wpAny_pure (h av s' hq)
theorem call_tuple_g {Q : Value → Shared → Prop} (hTI : s.TypeIs (.ref a) "generator") (hcol : ∀ Q' : List Value → Shared → Prop, (∀ av s', Qc av s' → Q' av s') → wpAny (model prog w) A.in1.in1 (collect (.ref a)) Q' E s)
    (hsz : ∀ av s', Qc av s' → av.length ≤ sizeLine) (h : ∀ av s', Qc av s' → Q (.ref s'.heap.objs.size) { s' with heap := s'.heap.push { cls := .type "tuple", data := .seq av.toArray } }) :
    wpAny (model prog w) A (call (.type "tuple") [.ref a]) Q E s := by
  refine callType_codes (Q₁ := fun obj s₁ => s₁.TypeIs obj "tuple" ∧ Q obj s₁) F.called_tuple (F.typeCall_tuple_1 _) F.entry_object_init
    (code_tuple_new_g (Qc := Qc) hTI hcol hsz fun av s' hq => ⟨⟨_, Heap.get?_push_size _ rfl, rfl⟩, h av s' hq⟩) fun obj s₁ h₁ => ?_
  exact ⟨h₁.1, F.args_object_init_2 obj _, object_init_meets F.called_tuple.init.lookup F.called_tuple.made (by decide) prog w A.in1 _ s₁ ⟨h₁.1, rfl, h₁.2⟩⟩
end

def isListE : Expr → Bool
  | .List .. => true
  | _ => false
theorem noFoldG {iter : Expr} (h : isSet iter = false) (h2 : isListE iter = false) (env : Env) (x : Value) : genFold iter env x = pure x := by
  have := noFold h env x
  cases iter <;> first | exact this | exact absurd h2 (by simp [isListE])

section
variable {C : PC} {X : Cx} {k : Nat} {S : Sx} {F : FT} {elt tg iter : Expr} {ifs : List Expr} {scope : Scope} {gpos p1 pos : Pos} {vs : List Nat} {p : Pat} {it c x : E}
/-- what is known of a generator expression's parts -/
structure GxP (C : PC) (k : Nat) (F : FT) (S : Sx) (X : Cx) (elt tg iter : Expr) (ifs : List Expr) (scope : Scope) (vs : List Nat) (p : Pat) (it c x : E) : Prop where
  tb : ∃ cp, S.tb = some cp
  B : GenB S.N S.sc scope vs
  hp : ∀ i ∈ patVars p, i ∈ vs
  hs : ∀ v, genFold iter X.env v = pure v
  hi : LI C X F tg iter it
  hg : ∀ X', OkX C k (S.gen scope) X' → PG X' tg (gOf C p)
  ht : ∀ X', OkX C k (S.gen scope) X' → LTs C X' ifs (fun ρ M => truthR (evE F c ρ M))
  he : ∀ X', OkX C k (S.gen scope) X' → LE C X' elt (evE F x)
theorem gen_arg (ok : OkX C k S X) (gx : GxP C k F S X elt tg iter ifs scope vs p it c x) {pins : List (Addr × Obj)} {σ : L2.St} {H : Hp} {s : Shared} (I : Inv X pins σ H s) {α : List Addr} {M M1 Me : Mem} {ρ : VEnv} {its : Items} {ended : Bool} {full : List Pw.D}
    (Sr : RS C α M H) (re : RE C.sa α H ρ σ) (hit : evIt F it ρ M = some (its, M1)) (tr : Tr its.2 p (fun ρ M => truthR (evE F c ρ M)) (evE F x) (wipeE ρ vs) its.1 Me ended 0 M1 full) (hgo : ended = true ∨ full ≠ []) :
    wpAny (model X.prog X.w) X.A (eval (.GeneratorExp elt [⟨tg, iter, ifs, 0⟩] scope gpos) X.env) (fun u s5 => ∃ α1 H2, Step α α1 H H2 ∧ GenRdy C X pins σ full ended Me α1 H2 u s5) X.xe s := by
  obtain ⟨cp, htb⟩ := gx.tb
  obtain ⟨hcode, TB, hcp, hrg⟩ := ok.tb cp htb
  obtain ⟨wi, pi, hwi⟩ := gx.hi.ok
  have B : GenB X.N X.env.scope scope vs := by rw [ok.hN, ok.hsc]; exact gx.B
  refine thn (gen_make (gpos := gpos) (elt := elt) (ifs := ifs) (Rr := fun J H1 => ∃ α1, Step α α1 H H1 ∧ RS C α1 M1 H1 ∧ JOk C J α1 H1 its ∧ GxR.TabG H1 cp.2) ok.room TB hcode B pi gx.hs I (hwi σ H _ ⟨α, ρ, M, its, M1, Sr, re, hit, fun α1 H1 J t1 s1 jok => ⟨s1.tab cp hcp, α1, t1, s1, jok, s1.tab cp hcp⟩⟩)) fun u s5 ⟨J, H1, ⟨α1, t1, s1, jok, hP⟩, m⟩ => ?_
  obtain ⟨H2, st2, rdy⟩ := gen_ready ok hrg B gx.hp gx.hg gx.ht gx.he hP jok s1 (((re.wipe vs).mono Sr t1)) tr hgo m
  exact ⟨α1, H2, t1.trans st2, rdy⟩
theorem le_gtup (ok : OkX C k S X) (gx : GxP C k F S X elt tg iter ifs scope vs p it c x) (hb : BuOk C X (Str.ofString "tuple")) :
    LE C X (.Call (.Name (Str.ofString "tuple") p1) [.GeneratorExp elt [⟨tg, iter, ifs, 0⟩] scope gpos] [] pos) (evE F (.gtup (.for1 vs p it c (.cons x .nil)))) := by
  have hm := hb.mg
  rw [← ok.hmg] at hm
  refine ⟨fun pins s σ H Q I h => ?_⟩
  obtain ⟨α, ρ, M, d, M', Sr, re, h, q⟩ := h
  simp only [evE, evEs] at h
  obtain ⟨xs, M2, h1, h⟩ := bnd_some_of h
  obtain ⟨its, M1, hit, h1⟩ := bnd_some_of h1
  split at h
  rotate_left
  · cases h
  rename_i hlen
  cases h
  have tr := tr_turns (its := its.1) (e := evE F x) its.1.length 0 M1 xs (by simp) (by
    rw [List.drop_zero]
    have e1 : one (evE F x) = fun ρ M => bnd (evE F x ρ M) fun x M => bnd (some ([], M)) fun xs M => some (x :: xs, M) := by
      funext ρ M; unfold one; cases evE F x ρ M <;> rfl
    rw [e1]; exact h1)
  refine wpAny_Call_Name_kw (ld_blt I hb.gl hm boot_tuple ?_)
  refine PyProof.Rows.callWith_type1 ?_ rfl (by rfl)
  rw [show starEach [.GeneratorExp elt [⟨tg, iter, ifs, 0⟩] scope gpos] X.env = (false, eval (.GeneratorExp elt [⟨tg, iter, ifs, 0⟩] scope gpos) X.env) :: starEach [] X.env from rfl]
  show wpAny _ _ (spliced ((false, eval (.GeneratorExp elt [⟨tg, iter, ifs, 0⟩] scope gpos) X.env) :: backTo pos (starEach [] X.env))) _ _ s
  refine Calls.spliced_cons (thn (gen_arg ok gx I Sr re hit tr (.inl rfl)) fun u s5 ⟨α1, H2, t1, rdy⟩ => ?_)
  refine Calls.spliced_nil ?_
  obtain ⟨a, gi, go, rfl, ha, hg5, hb5, hl5, mk⟩ := rdy.ok
  obtain ⟨G, g1, g2, g3, g4, g5, g6, g7, g8, g9, g10, g11, g12, g13, g14, g15, g16, g17⟩ := mk X.A.in1.in1.in1 [s5.heap.objs.size] (ownL s5.heap.objs.size) (ok.room.hd) rfl (Nat.le_refl _) (by show X.A.units + 1 + 1 + 1 ≤ _; omega) (fun b hb => by rw [List.mem_singleton.mp hb]; exact Nat.le_refl _)
  have hmod : model G.X.prog G.X.w = model X.prog X.w := by rw [g11, g12]
  have cc : GenC G := by
    refine ⟨by rw [g13, g8, g17], fun h e => by rw [g9]; rw [g8, g17] at e; rw [g8]; exact g14 h e, fun acc h h' k _ own => ?_, fun acc v s0 hbr own hw => ?_⟩
    · rw [g2] at own ⊢
      obtain ⟨av, cc, e, vv⟩ := own
      exact ⟨av, cc, k _ (by rw [g1]; exact List.mem_singleton.mpr rfl) _ e, vv⟩
    · rw [g2] at own
      obtain ⟨av, cc, e, vv⟩ := own
      obtain ⟨u, ru⟩ : ∃ u, RelV v u := by
        cases v with
        | non => exact ⟨_, rfl⟩
        | bl b => exact ⟨_, rfl⟩
        | int i => exact ⟨.int i 0, 0, rfl⟩
        | str x => exact ⟨.str x 0, 0, rfl⟩
        | byt b => exact ⟨.bytes b 0, 0, rfl⟩
        | flt b => exact ⟨.float b 0, 0, rfl⟩
        | ref a => exact ⟨_, rfl⟩
        | ty n => exact ⟨_, rfl⟩
      refine ⟨{ s0 with heap := s0.heap.update s5.heap.objs.size (Obj.mapSeq (·.push u)) }, ⟨rfl, hbr, fun b o hb e => ?_, fun b hb => ?_⟩, ?_⟩
      · rw [g1] at hb
        exact (Heap.get?_update_other _ _ (fun z => hb (List.mem_singleton.mpr z.symm))).trans e
      · rw [g1] at hb
        rw [List.mem_singleton.mp hb]
        exact ⟨_, Heap.get?_update_self _ e rfl, fun v z => by cases z⟩
      · rw [g2]
        refine ⟨av.push u, _, Heap.get?_update_self _ e rfl, ?_⟩
        rw [Array.toList_push]
        exact vv.append (.cons ru .nil)
  have hLIM : G.full.length ≤ sizeLine := by rw [g3, line_eq]; exact Nat.le_of_lt hlen
  have col : ∀ Q' : List Value → Shared → Prop, (∀ av s', (∃ H' α' acc, OutG G H' s' ∧ RS C α' M' H' ∧ Step α1 α' H2 H' ∧ RDs C.sa α' H' xs acc ∧ Vals acc av) → Q' av s') → wpAny (model X.prog X.w) X.A.in1.in1 (collect (.ref a)) Q' X.xe s5 := fun Q' hQ' => by
    have := collect_g (G := G) (A := X.A.in1.in1) (E := X.xe) (s := s5) (Q := Q') (S := s5.heap.objs.size) cc rfl g1 g2 g4 hLIM ok.room.hd (by have := ok.room.dp; show X.A.depth < _; omega) hb5 hl5 (by rw [g8, g9]; exact hg5) (fun s' o1 o2 o3 => by
      rw [g3]
      exact g15 s' o1 o2 fun b o hb e => o3 b o (fun z => hb (by rw [z]; exact List.mem_singleton.mpr rfl)) e) (fun s' H' α' acc av out rs stp rds vv hn => by
        rw [g10, g5] at rs
        rw [g6, g7] at stp
        rw [g10, g3] at rds
        exact hQ' av s' ⟨H', α', acc, out, rs, stp, rds, vv⟩)
    rw [hmod, g8] at this
    exact this
  refine call_tuple_g (Qc := fun av s' => ∃ H' α' acc, OutG G H' s' ∧ RS C α' M' H' ∧ Step α1 α' H2 H' ∧ RDs C.sa α' H' xs acc ∧ Vals acc av) (Heap.IsGen.typeIs (s := s5) hg5) col (fun av s' ⟨H', α', acc, _, _, _, rds, vv⟩ => ?_) (fun av s' ⟨H', α', acc, out, rs, stp, rds, vv⟩ => ?_)
  · rw [← vv.length, ← rds.length, line_eq]; exact Nat.le_of_lt hlen
  · have I2 := g16 H' s' out
    have hnone : H' s'.heap.objs.size = none := I2.hok.fresh (Nat.le_refl _)
    refine ⟨.ref s'.heap.objs.size, upd H' s'.heap.objs.size (.tup acc), I2.laid (t' := s'.toks) (fun b o e => Heap.get?_push_of_some _ e) (Nat.le_refl _) ⟨by rw [← rds.length, line_eq]; exact Nat.le_of_lt hlen, av, vv, _, Heap.get?_push_size _ rfl, rfl, _, rfl⟩, rfl, ?_⟩
    exact done_tup rs rds hnone fun α3 v H3 t3 => q α3 v H3 ((t1.trans stp).trans t3)
end
end Pw

end
section
set_option maxHeartbeats 1000000
/-! SndG8: any(.. for ..), all(.. for ..), sep.join(.. for ..). -/
namespace Pw
open PySem PySem.Spec PyProof.Rows L2
section
variable {C : PC} {X : Cx} {k : Nat} {S : Sx} {F : FT} {elt tg iter : Expr} {ifs : List Expr} {scope : Scope} {gpos p1 pos apos : Pos} {vs : List Nat} {p : Pat} {it c x : E}
theorem genC_nil {G : GenP} {a : Addr} {go : Obj} {gi : Nat} (g1 : G.wr = []) (g2 : G.Own = fun _ _ => True) (g13 : G.X.pn = [(a, go)]) (g8 : G.a = a) (g9 : G.gi = gi) (g17 : G.go = go) (g14 : ∀ h : Heap, h.get? a = some go → h.IsGen a gi) : GenC G :=
  ⟨by rw [g13, g8, g17], fun h e => by rw [g9]; rw [g8, g17] at e; rw [g8]; exact g14 h e, fun acc h h' k _ own => by rw [g2]; trivial,
    fun acc v s0 hbr own hw => ⟨s0, ⟨rfl, hbr, fun _ _ _ e => e, hw⟩, by rw [g2]; trivial⟩⟩
theorem sk_of {want ended : Bool} {bs : List Bool} {r : Bool} (h : (ended = true ∧ (∀ x ∈ bs, x = !want) ∧ r = !want) ∨ (ended = false ∧ (∃ init, bs = init ++ [want] ∧ ∀ x ∈ init, x = !want) ∧ r = want)) : SkOk want ended bs ∧ (ended = true ∨ bs.map Pw.D.bl ≠ []) := by
  rcases h with ⟨h1, h2, _⟩ | ⟨h1, ⟨init, h2, h3⟩, _⟩
  · exact ⟨.inl ⟨h1, h2⟩, .inl h1⟩
  · exact ⟨.inr ⟨h1, init, h2, h3⟩, .inr (by rw [h2]; simp)⟩
theorem le_gany (ok : OkX C k S X) (gx : GxP C k F S X elt tg iter ifs scope vs p it c x) (hb : BuOk C X (Str.ofString "any")) :
    LE C X (.Call (.Name (Str.ofString "any") p1) [.GeneratorExp elt [⟨tg, iter, ifs, 0⟩] scope gpos] [] pos) (evE F (.gany (.for1 vs p it c (.cons x .nil)))) := by
  have hm := hb.mg
  rw [← ok.hmg] at hm
  refine ⟨fun pins s σ H Q I h => ?_⟩
  obtain ⟨α, ρ, M, d, M', Sr, re, h, q⟩ := h
  simp only [evE, evSk] at h
  obtain ⟨r, M2, h1, h⟩ := bnd_some_of h
  obtain ⟨its, M1, hit, h1⟩ := bnd_some_of h1
  cases h
  obtain ⟨ended, bs, tr, hb2⟩ := tr_seek (its := its.1) (e := evE F x) its.1.length 0 M1 (by simp) (by rw [List.drop_zero]; exact h1)
  obtain ⟨sk, hgo⟩ := sk_of hb2
  refine wpAny_Call_Name_kw (ld_blt I hb.gl hm boot_any ?_)
  refine PyProof.Rows.callWith_builtin1 ?_ rfl (by rfl)
  rw [show starEach [.GeneratorExp elt [⟨tg, iter, ifs, 0⟩] scope gpos] X.env = (false, eval (.GeneratorExp elt [⟨tg, iter, ifs, 0⟩] scope gpos) X.env) :: starEach [] X.env from rfl]
  show wpAny _ _ (spliced ((false, eval (.GeneratorExp elt [⟨tg, iter, ifs, 0⟩] scope gpos) X.env) :: backTo pos (starEach [] X.env))) _ _ s
  refine Calls.spliced_cons (thn (gen_arg ok gx I Sr re hit tr hgo) fun u s5 ⟨α1, H2, t1, rdy⟩ => ?_)
  refine Calls.spliced_nil ?_
  obtain ⟨a, gi, go, rfl, ha, hg5, hb5, hl5, mk⟩ := rdy.ok
  obtain ⟨G, g1, g2, g3, g4, g5, g6, g7, g8, g9, g10, g11, g12, g13, g14, g15, g16, g17⟩ := mk X.A.in1 [] (fun _ _ => True) (ok.room.hd) rfl (Nat.le_refl _) (by show X.A.units + 1 ≤ _; omega) (fun b hb => by cases hb)
  have cc := genC_nil g1 g2 g13 g8 g9 g17 g14
  have hmod : model G.X.prog G.X.w = model X.prog X.w := by rw [g11, g12]
  have := call_any_g (G := G) (A := X.A) (E := X.xe) (s := s5) (Q := EP X pins σ Q) (bs := bs) cc g1 g2 ok.room.hd (by have := ok.room.dp; omega) (by rw [g4]; exact sk) (by
      have := g15 s5 rfl rfl fun b o _ e => e
      exact this) hb5 hl5 (fun s' H' α' out rs stp => by
    rw [g10, g5] at rs
    rw [g6, g7] at stp
    refine ⟨.bl (!G.ended), H', g16 H' s' out, rfl, q α' _ H' (t1.trans stp) rs ?_⟩
    have : (!G.ended) = r := by
      rw [g4]
      rcases hb2 with ⟨h1, _, h3⟩ | ⟨h1, _, h3⟩ <;> rw [h1, h3] <;> rfl
    rw [this]
    exact .bl r)
  rw [hmod, g8] at this
  exact this
theorem le_gall (ok : OkX C k S X) (gx : GxP C k F S X elt tg iter ifs scope vs p it c x) (hb : BuOk C X (Str.ofString "all")) :
    LE C X (.Call (.Name (Str.ofString "all") p1) [.GeneratorExp elt [⟨tg, iter, ifs, 0⟩] scope gpos] [] pos) (evE F (.gall (.for1 vs p it c (.cons x .nil)))) := by
  have hm := hb.mg
  rw [← ok.hmg] at hm
  refine ⟨fun pins s σ H Q I h => ?_⟩
  obtain ⟨α, ρ, M, d, M', Sr, re, h, q⟩ := h
  simp only [evE, evSk] at h
  obtain ⟨r, M2, h1, h⟩ := bnd_some_of h
  obtain ⟨its, M1, hit, h1⟩ := bnd_some_of h1
  cases h
  obtain ⟨ended, bs, tr, hb2⟩ := tr_seek (its := its.1) (e := evE F x) its.1.length 0 M1 (by simp) (by rw [List.drop_zero]; exact h1)
  obtain ⟨sk, hgo⟩ := sk_of hb2
  refine wpAny_Call_Name_kw (ld_blt I hb.gl hm boot_all ?_)
  refine PyProof.Rows.callWith_builtin1 ?_ rfl (by rfl)
  rw [show starEach [.GeneratorExp elt [⟨tg, iter, ifs, 0⟩] scope gpos] X.env = (false, eval (.GeneratorExp elt [⟨tg, iter, ifs, 0⟩] scope gpos) X.env) :: starEach [] X.env from rfl]
  show wpAny _ _ (spliced ((false, eval (.GeneratorExp elt [⟨tg, iter, ifs, 0⟩] scope gpos) X.env) :: backTo pos (starEach [] X.env))) _ _ s
  refine Calls.spliced_cons (thn (gen_arg ok gx I Sr re hit tr hgo) fun u s5 ⟨α1, H2, t1, rdy⟩ => ?_)
  refine Calls.spliced_nil ?_
  obtain ⟨a, gi, go, rfl, ha, hg5, hb5, hl5, mk⟩ := rdy.ok
  obtain ⟨G, g1, g2, g3, g4, g5, g6, g7, g8, g9, g10, g11, g12, g13, g14, g15, g16, g17⟩ := mk X.A.in1 [] (fun _ _ => True) (ok.room.hd) rfl (Nat.le_refl _) (by show X.A.units + 1 ≤ _; omega) (fun b hb => by cases hb)
  have cc := genC_nil g1 g2 g13 g8 g9 g17 g14
  have hmod : model G.X.prog G.X.w = model X.prog X.w := by rw [g11, g12]
  have := call_all_g (G := G) (A := X.A) (E := X.xe) (s := s5) (Q := EP X pins σ Q) (bs := bs) cc g1 g2 ok.room.hd (by have := ok.room.dp; omega) (by rw [g4]; exact sk) (by
      have := g15 s5 rfl rfl fun b o _ e => e
      exact this) hb5 hl5 (fun s' H' α' out rs stp => by
    rw [g10, g5] at rs
    rw [g6, g7] at stp
    refine ⟨.bl G.ended, H', g16 H' s' out, rfl, q α' _ H' (t1.trans stp) rs ?_⟩
    have : G.ended = r := by
      rw [g4]
      rcases hb2 with ⟨h1, _, h3⟩ | ⟨h1, _, h3⟩ <;> rw [h1, h3] <;> rfl
    rw [this]
    exact .bl r)
  rw [hmod, g8] at this
  exact this
end
end Pw

end
section
set_option maxHeartbeats 1000000
/-! SndH1: {}, enumerate over a tuple or a list. -/
namespace Pw
open PySem PySem.Spec PyProof.Rows L2

section
variable {C : PC} {X : Cx} {F : FT} {pos : Pos}
theorem le_dic0 (hP : X.prog = C.prog) (hw : X.w = C.w) : LE C X (.Dict [] [] pos) (evE F (.dic .nil)) := by
  refine ⟨fun pins s σ H Q I h => ?_⟩
  obtain ⟨α, ρ, M, d, M', Sr, re, h, q⟩ := h
  simp only [evE, evEs, bnd_some, pairsOf, List.all_nil, if_true] at h
  cases h
  refine wpAny_Dict_empty ?_
  have hn : H s.heap.objs.size = none := I.hok.fresh (Nat.le_refl _)
  have big := I.big
  have hd : dictAt X.prog X.w s.heap.objs.size [] (s.heap.push { cls := .type "dict", data := .dict #[] }) :=
    .inl ⟨[], .nil, Heap.DictOf.new s.heap⟩
  have I1 : Inv X pins σ (upd H s.heap.objs.size (dictHO X.prog X.w s.heap.objs.size [])) { s with heap := s.heap.push { cls := .type "dict", data := .dict #[] } } :=
    I.laid (t' := s.toks) (fun _ _ e => Heap.get?_push_of_some _ e) (Nat.le_refl _) hd.ok
  rw [hP, hw] at I1
  refine ⟨.ref s.heap.objs.size, _, I1, rfl, ?_⟩
  exact q (α ++ [s.heap.objs.size]) _ _ (new_step hn) (Sr.new hn (.dic .nil List.nodup_nil rfl (Nat.zero_le _) (beq_eq_false_iff_ne.mpr (Ne.symm (Nat.ne_of_lt big))))) (.ref (by rw [List.getElem?_append_right (by rw [Sr.len]; exact Nat.le_refl _)]; simp [Sr.len]))
end

/-! ### enumerate -/
/-- the tuple at a, each item in a new pair -/
def IteT (K : PySem.W.Frag) (a : Addr) : It :=
  ⟨fun i H => ∃ (xs : List V) (x : V), SqT K H a xs ∧ xs[i]? = some x, fun i H v H' => ∃ T x, v = .ref T ∧ H T = none ∧ H' = upd H T (.tup [.int (i : Nat), x]) ∧ ∀ xs, SqT K H a xs → xs[i]? = some x, fun i H => ∃ xs : List V, SqT K H a xs ∧ xs.length ≤ i⟩
theorem turn_enumT {P : Program} {w : World} {K : PySem.W.Frag} {elts : List Expr} {kk : Nat} {tpos : Pos} (a e it : Addr) (hae : a ≠ e) (hai : a ≠ it) :
    Turn P w K (.Tuple elts kk tpos) (IteT K a) [e, it] e (fun i h => (∃ old, IsEnum h e it ((i : Nat) : Int) old) ∧ h.IsTupleIter it a i ∧ e ≠ it) where
  mem := List.mem_cons_self
  obj := fun i h st b hb => by
    obtain ⟨⟨old, he⟩, ⟨o, ho, hc, hd⟩, _⟩ := st
    rcases List.mem_cons.mp hb with z | z
    · rw [z]; exact ⟨_, he, fun v q => nomatch q⟩
    · rw [List.mem_singleton.mp z]; exact ⟨o, ho, fun v q => by rw [hd] at q; cases q⟩
  keep := fun i h h' st k => let ⟨⟨old, he⟩, hi, hne⟩ := st; ⟨⟨old, k e List.mem_cons_self _ he⟩, hi.at fun o q => k it (List.mem_cons_of_mem _ List.mem_cons_self) o q, hne⟩
  item := by
    intro X hP hw hK hc i pins s σ H E I hf st hg
    subst hP hw hK
    obtain ⟨⟨old, he⟩, hit, hne⟩ := st
    obtain ⟨xs, x, hq, hx⟩ := hg
    obtain ⟨its, rv, p, hz⟩ := I.tuple hq
    obtain ⟨u, hu, ru⟩ := rv.get hx
    have hel : e < s.heap.objs.size := Heap.lt_size he
    have hil : it < s.heap.objs.size := by obtain ⟨_, q, _⟩ := hit; exact Heap.lt_size q
    have hti : s.heap.IsTuple a its.toArray := p
    have hlt : i < its.toArray.size := by
      have := (List.getElem?_eq_some_iff.mp hu).1
      simpa using this
    refine wpAny_pyNext_enum_itemD (Draws.tuple (prog := X.prog) (w := X.w) (A := X.A.in1) (I.ok.hd hc) it a hai its.toArray) he ⟨hit, hti⟩ hlt hne (by simp [hne, Ne.symm hae]) fun y h' tk hy ho hit' hT hsz hk => ?_
    have hyu : y = u := by
      have h2 : its.toArray[i]? = some u := by simpa using hu
      exact Option.some.inj (hy.symm.trans h2)
    subst hyu
    refine ⟨_, rfl, wpAny_letOwnedTupleGo_enum (s := { s with heap := h', toks := tk + 1 }) ho fun h'' he' sb => ?_⟩
    have hT2 : h''.get? s.heap.objs.size = some { cls := .type "tuple", data := .seq #[.int i tk, y] } := (sb.2 _ (Nat.ne_of_gt hel)).trans hT
    have new : ObjOk X.prog X.w (upd H s.heap.objs.size (.tup [.int (i : Nat), x])) h'' s.heap.objs.size (.tup [.int (i : Nat), x]) :=
      ⟨by show 2 ≤ sizeLine; decide, [.int i tk, y], .cons ⟨_, rfl⟩ (.cons ru .nil), ⟨_, hT2, rfl, _, rfl⟩⟩
    have I1 : Inv X pins σ (upd H s.heap.objs.size (.tup [.int (i : Nat), x])) { s with heap := h'', toks := tk + 1 } :=
      I.turnedNew (ch := [e, it]) (fun b ob hb q => (sb.2 b (fun z => hb (by simp [z]))).trans (hk b ob (fun z => hb (by simp [z])) (fun z => hb (by simp [z])) q)) hf (Nat.le_refl _) new
    refine ⟨.ref s.heap.objs.size, _, I1, rfl, ⟨_, x, rfl, I.hok.fresh (Nat.le_refl _), rfl, fun ys hy2 => by rw [I.tuple_inj hy2 hq]; exact hx⟩, ⟨⟨y, ?_⟩, hit'.1.at fun o q => (sb.2 it (Ne.symm hne)).trans q, hne⟩, fun b hb => ?_⟩
    · have e1 : ((i + 1 : Nat) : Int) = (i : Int) + 1 := by omega
      rw [e1]; exact he'
    · have hb' : b < s.heap.objs.size := by
        rcases List.mem_cons.mp hb with z | z
        · rw [z]; exact hel
        · rw [List.mem_singleton.mp z]; exact hil
      rw [upd_ne (Nat.ne_of_lt hb')]
      exact (hf b hb).1
  done := by
    intro X hP hw hK hc i pins s σ H E I hf st hg
    subst hP hw hK
    obtain ⟨⟨old, he⟩, hit, hne⟩ := st
    obtain ⟨xs, hq, hx⟩ := hg
    obtain ⟨its, rv, p, hz⟩ := I.tuple hq
    obtain ⟨f0, f1, f2, f3, f4, f5⟩ := hf it (List.mem_cons_of_mem _ List.mem_cons_self)
    have hl := rv.length
    have D : Draws X.prog X.w X.A.in1 it [it, a] i (fun _ _ => True) (fun j h => j = i ∧ h.IsTupleIter it a i ∧ h.IsTuple a its.toArray) := by
      refine ⟨fun _ _ st => let ⟨o, ho, _⟩ := st.2.1; ⟨o, ho⟩, fun _ _ _ st hk => ⟨st.1, st.2.1.at fun o e => hk it List.mem_cons_self o e, st.2.2.at fun o e => hk a (List.mem_cons_of_mem _ List.mem_cons_self) o e⟩, fun j s Q E hj hst _ => ?_, fun s Q E hst hE => ?_⟩
      · exact absurd hst.1 (Nat.ne_of_lt hj)
      · exact wpAny_nextOf_tuple_end (I.ok.hd hc) hst.2.1 hst.2.2 (by simp; omega) hE
    exact wpAny_pyNext_enum_endD D he ⟨rfl, hit, p⟩ fun h' eb => ⟨rfl, I.turned (t' := s.toks) (fun b o hb q => eb b o hb q) f0 f1 f3 f4 f5⟩
  self := fun A i s Q E st h => let ⟨⟨_, he⟩, _⟩ := st; wpAny_pyIter_enum he h
end Pw

end
section
set_option maxHeartbeats 1000000
/-! SndH2: enumerate as an iterable. -/
namespace Pw
open PySem PySem.Spec PyProof.Rows L2

theorem meets_enum1 {v : Value} {o : Obj} {Hs : Heap → Prop} (B : Begins v o Hs) :
    Meets (Builtin.«enumerate.__new__» ⟨[.type "enumerate", v], []⟩) (fun _ R s => Hs s.heap ∧
      R (.ok (.ret (.ref (s.heap.push o).objs.size))) { s with heap := (s.heap.push o).push { cls := .type "enumerate", data := .fields #[.none, .bool false, .ref s.heap.objs.size, rawInt 0, .none, .none] } }) :=
  .of_wp fun prog w A R s h => by
    obtain ⟨hp, g, d, tk, os⟩ := s
    obtain ⟨h1, h2⟩ := h
    have hsub := sub_enumerate
    have q1 : ∀ {A' : Around} {E Q : Value → Shared → Prop}, Q (.ref hp.objs.size) ⟨hp.push o, g, d, tk, os⟩ → wpAny (model prog w) A' (pyIter v) Q E ⟨hp, g, d, tk, os⟩ := fun q => B.iter prog w _ _ ⟨hp, g, d, tk, os⟩ _ h1 q
    wp_walk using q1
    refine wpAny_stack_any fun st => wpAny_pure ?_
    split
    · rename_i c _ _ _ _ _
      cases (c == Value.type "enumerate") <;> (wp_walk using q1; exact ⟨_, rfl, h2⟩)
    · wp_walk using q1
      exact ⟨_, rfl, h2⟩
theorem enum_new1 {prog : Program} {w : World} {A : Around} {E : Value → Shared → Prop} {s : Shared} {v : Value} {o : Obj} {Hs : Heap → Prop} {Q : Value → Shared → Prop} (B : Begins v o Hs) (h1 : Hs s.heap)
    (h : ∀ h', IsEnum h' (s.heap.objs.size + 1) s.heap.objs.size 0 .none → h'.get? s.heap.objs.size = some o → (∀ b o, s.heap.get? b = some o → h'.get? b = some o) → Q (.ref (s.heap.objs.size + 1)) { s with heap := h' }) :
    wpAny (model prog w) A (call (.type "enumerate") [v]) Q E s := by
  refine callType_new F.called_enumerate (by decide) (F.typeCall_enumerate_1 _) (F.newCall_enumerate_1 _) (fun obj => F.args_object_init_2 obj _) F.entry_enumerate_new (meets_enum1 B) ⟨h1, ?_⟩
  have hz : (s.heap.push o).objs.size = s.heap.objs.size + 1 := Heap.size_push ..
  show _ ∧ _
  rw [hz]
  have he : IsEnum ((s.heap.push o).push { cls := .type "enumerate", data := .fields #[.none, .bool false, .ref s.heap.objs.size, rawInt 0, .none, .none] }) (s.heap.objs.size + 1) s.heap.objs.size 0 .none := by
    have := Heap.get?_push_size (s.heap.push o) (o := { cls := .type "enumerate", data := .fields #[.none, .bool false, .ref s.heap.objs.size, rawInt 0, .none, .none] }) rfl
    rw [hz] at this; exact this
  exact ⟨⟨_, he, rfl⟩, h _ he (Heap.get?_push_of_some _ (Heap.get?_push_size _ B.free)) fun b o x => Heap.get?_push_of_some _ (Heap.get?_push_of_some _ x)⟩

def iEnumA (K : PySem.W.Frag) (ta : TA) : TI := fun σ H R => ta σ H fun vs H1 => ∃ a, vs = [.ref a] ∧ (((∃ xs, SqL K H1 a xs) ∧ R (Ite K a) H1) ∨ ((∃ xs, SqT K H1 a xs) ∧ R (IteT K a) H1))
section
variable {C : PC} {X : Cx} {F : FT} {pos p tpos : Pos}
theorem pi_enumA {e : Expr} {ta : TA} {elts : List Expr} {kk : Nat} (hg : Gl X "enumerate") (hm : X.mg "enumerate" = none) (ha : PA X [e] ta) (hs : starEach [e] X.env = [(false, eval e X.env)]) :
    PI X (.Tuple elts kk tpos) (.Call (.Name "enumerate" p) [e] [] pos) (iEnumA X.K ta) := by
  refine ⟨fun pins s σ H R I h => ?_⟩
  refine Call_ (ld_blt I hg hm boot_enumerate (PyProof.Rows.callWith_type1 (thn (ha.run pos pins s σ H _ I h) fun us s1 ⟨vs, H1, I1, r1, q1⟩ => ?_) hs rfl))
  obtain ⟨a, ex, q1⟩ := q1
  subst ex
  cases r1 with
  | cons r rr =>
    cases rr
    cases r
    have fpk : ∀ b ∈ [s1.heap.objs.size + 1, s1.heap.objs.size], FpOk X pins H1 b := fun b hb => by
      have hle : s1.heap.objs.size ≤ b := by
        rcases List.mem_cons.mp hb with z | z
        · rw [z]; exact Nat.le_add_right _ _
        · rw [List.mem_singleton.mp z]; exact Nat.le_refl _
      exact I1.fpOk hle (I1.hok.fresh hle)
    rcases q1 with ⟨⟨xs, hq⟩, q⟩ | ⟨⟨xs, hq⟩, q⟩
    · obtain ⟨its, rv, p', hz⟩ := I1.list hq
      refine call_enumerate_list p'.isList fun h' he hit hsz hk => wpAny_pyIter_enum he ?_
      exact ⟨_, _, _, _, H1, rfl, I1.kept (t' := s1.toks) hk, turn_enum a (s1.heap.objs.size + 1) s1.heap.objs.size, ⟨⟨.none, he⟩, hit, Nat.succ_ne_self _⟩, fpk, q⟩
    · obtain ⟨its, rv, p', hz⟩ := I1.tuple hq
      have ht : s1.heap.IsTuple a its.toArray := p'
      have hlt : a < s1.heap.objs.size := by obtain ⟨o, e, _⟩ := id ht; exact Heap.lt_size e
      refine enum_new1 (begins_tuple a its.toArray) ht fun h' he ho hk => wpAny_pyIter_enum he ?_
      exact ⟨_, _, _, _, H1, rfl, I1.kept (t' := s1.toks) hk, turn_enumT a (s1.heap.objs.size + 1) s1.heap.objs.size (Nat.ne_of_lt (Nat.lt_succ_of_lt hlt)) (Nat.ne_of_lt hlt), ⟨⟨.none, he⟩, ⟨_, ho, rfl, rfl⟩, Nat.succ_ne_self _⟩, fpk, q⟩
theorem zipIdx_get {xs : List Pw.D} {i : Nat} {d : Pw.D} (h : (xs.zipIdx.map fun p => Pw.D.tup [.int p.2, p.1])[i]? = some d) : ∃ x, xs[i]? = some x ∧ d = .tup [.int (i : Nat), x] := by
  rw [List.getElem?_map] at h
  obtain ⟨p, hp, e⟩ := Option.map_eq_some_iff.mp h
  rw [List.getElem?_zipIdx] at hp
  obtain ⟨x, hx, e2⟩ := Option.map_eq_some_iff.mp hp
  subst e2
  exact ⟨x, hx, by rw [← e]; simp⟩
theorem li_enum {k : Nat} {S : Sx} {e : Expr} {x : E} {elts : List Expr} {kk : Nat} (ok : OkX C k S X) (hg : BuOk C X (Str.ofString "enumerate")) (hn : notStar e = true) (h : LE C X e (evE F x)) :
    LI C X F (.Tuple elts kk tpos) (.Call (.Name (Str.ofString "enumerate") p) [e] [] pos) (.enum x) := by
  have hm := hg.mg
  rw [← ok.hmg] at hm
  refine ⟨_, pi_enumA hg.gl hm (la_cons hn h la_nil) (star_cons hn [] _), ?_⟩
  rintro σ H R ⟨α, ρ, M, its, M', s, re, hev, q⟩
  simp only [evIt] at hev
  obtain ⟨dx, M1, g1, hev⟩ := bnd_some_of hev
  obtain ⟨it, hit, e2⟩ := Option.map_eq_some_iff.mp hev
  cases e2
  refine ⟨α, ρ, M, [dx], M', s, re, by simp only [evEs, g1, bnd_some], fun α1 vs H1 t1 s1 r1 => ?_⟩
  obtain ⟨v, rfl, rv⟩ := one_arg r1
  rw [ok.hK]
  have fin : ∀ {J : It} {a : Addr}, (∀ i α2 M2 H2, Step α1 α2 H1 H2 → RS C α2 M2 H2 → still it.2 M2 = true → (∀ x0, it.1[i]? = some x0 → J.go i H2 ∧ ∀ v H3, J.yld i H2 v H3 → ∃ T y, v = .ref T ∧ H2 T = none ∧ H3 = upd H2 T (.tup [.int (i : Nat), y]) ∧ RD C.sa α2 H2 x0 y) ∧ (it.1.length ≤ i → J.stop i H2)) →
      JOk C J α1 H1 (it.1.zipIdx.map fun p => Pw.D.tup [.int p.2, p.1], it.2) := by
    intro J a hj i α2 M2 H2 t2 s2 st
    obtain ⟨j1, j2⟩ := hj i α2 M2 H2 t2 s2 st
    refine ⟨fun d hd => ?_, fun hl => j2 (by simpa using hl)⟩
    obtain ⟨x0, hx0, rfl⟩ := zipIdx_get hd
    obtain ⟨go, yl⟩ := j1 x0 hx0
    refine ⟨go, fun v H3 y => ?_⟩
    obtain ⟨T, w, rfl, hT, rfl, rd⟩ := yl v H3 y
    have st3 : Step α2 α2 H2 (upd H2 T (.tup [.int (i : Nat), w])) := upd_step hT
    exact ⟨st3, s2.other hT, .tup upd_same (.cons (.int _) (.cons (rd.mono s2 st3) .nil))⟩
  rcases items_seq s1 rv hit with ⟨a', vs, rfl, h1, h2, h3, _⟩ | ⟨n, a', vs, rfl, rfl, h0, h1, h2, h3, h4⟩
  · refine ⟨a', rfl, .inr ⟨⟨vs, .inl (.inl h1)⟩, q α1 H1 _ t1 s1 (fin (a := a') fun i α2 M2 H2 t2 s2 st => ?_)⟩⟩
    have ha2 := s1.tup_keep t2 h1
    refine ⟨fun x0 hx0 => ?_, fun hl => ⟨vs, .inl (.inl ha2), by rw [← h2.length]; exact hl⟩⟩
    obtain ⟨w, hw, rw'⟩ := h2.get hx0
    refine ⟨⟨vs, w, .inl (.inl ha2), hw⟩, fun v H3 y => ?_⟩
    obtain ⟨T, x', e1, e2, e3, e4⟩ := y
    have e5 := e4 vs (.inl (.inl ha2))
    rw [hw] at e5
    cases e5
    exact ⟨T, w, e1, e2, e3, rw'.mono s1 t2⟩
  · refine ⟨a', rfl, .inl ⟨⟨vs, .inl (.inl h2)⟩, q α1 H1 _ t1 s1 (fin (a := a') fun i α2 M2 H2 t2 s2 st => ?_)⟩⟩
    rw [h4] at st
    have e0 := still_one st
    obtain ⟨a2, ws, q1, q2, q3, rs⟩ := s2.lst (v := .ref a') e0 (.ref (t2.get h0))
    cases q1
    refine ⟨fun x0 hx0 => ?_, fun hl => ⟨ws, .inl (.inl q3), by rw [← rs.length]; exact hl⟩⟩
    obtain ⟨w, hw, rw'⟩ := rs.get hx0
    refine ⟨⟨ws, w, .inl (.inl q3), hw⟩, fun v H3 y => ?_⟩
    obtain ⟨T, x', e1, e2, e3, e4⟩ := y
    have e5 := e4 ws (.inl (.inl q3))
    rw [hw] at e5
    cases e5
    exact ⟨T, w, e1, e2, e3, rw'⟩
end
end Pw

end
section
set_option maxHeartbeats 1000000
/-! SndH3: dict comprehensions (the core follows dc_core of HandS.DictComp; keys of any form that keyOk takes). -/
namespace Pw
open PySem PySem.Spec PyProof.Rows L2

section
variable {C : PC} {X : Cx} {k : Nat}
/-- the new dict at D takes y: z, and then Nx is so -/
def SetAt (C : PC) (k : Nat) (D : Addr) (y z : V) (H : Hp) (Nx : Hp → Prop) : Prop :=
  ∀ (X : Cx) (pins : List (Addr × Obj)) (σ : L2.St) (s : Shared) (u uv : Value) (Q : Unit → Shared → Prop) (E : Value → Shared → Prop), X.prog = C.prog → X.w = C.w → Room k X.A → Inv X pins σ H s → RelV y u → RelV z uv →
    (∀ s' H', Inv X pins σ H' s' → Nx H' → Q () s') → wpAny (model X.prog X.w) X.A (dictSet D u uv) Q E s
/-- {k: v for target in iter if ..}: D the new dict -/
def tDcT (C : PC) (k : Nat) (wi : TI) (g : TG) (tt : TT) (tk tv : TE) (vs : List Nat) : TE := fun σ H Q =>
  wi σ H fun J H1 => ∀ D, H1 D = none → (D == sysModules) = false → ∃ W : Nat → Nat → Hp → Prop,
    (∃ m, W 0 m (upd H1 D (dictHO C.prog C.w D []))) ∧ ∀ i m H, W i m H →
    (J.stop i H ∧ Q (.ref D) H) ∨
    (J.go i H ∧ ∃ Nx : Hp → Prop, (∀ H', Nx H' → ∃ m', m' < m ∧ W (i + 1) m' H') ∧
      ∀ x H', J.yld i H x H' → g x (wipe σ vs) H' fun σ2 H2 => wipe σ2 vs = wipe σ vs ∧
        tt σ2 H2 fun b H3 => if b = true then tk σ2 H3 fun y H4 => tv σ2 H4 fun z H5 => SetAt C k D y z H5 Nx else Nx H3)
theorem dcT_core {pins : List (Addr × Obj)} {s : Shared} {σ : L2.St} {H : Hp} {Q : VK} {kx vx tg iter : Expr} {ifs : List Expr} {scope : Scope}
    {own : List (Str × Nat)} {pos pos' : Pos} {wi : TI} {g : TG} {tt : TT} {tk tv : TE}
    {use : Option (Value → Sem Unit)} {Qf : Value → Shared → Prop}
    (hP : X.prog = C.prog) (hw : X.w = C.w) (hR : Room k X.A)
    (hc : X.calm = true) (hN : X.N.Nodup) (I : Inv X pins σ H s) (hi : PI X tg iter wi) (ok : BlkOk X.N X.env.scope scope own)
    (hg : ∀ (t : Shared) (G : Hp) (L : Addr) (cl : List (Str × Addr)) (fr : List Addr), PG (X.blk t G scope (compEnvC scope cl L X.env) fr) tg g)
    (ht : ∀ (t : Shared) (G : Hp) (L : Addr) (cl : List (Str × Addr)) (fr : List Addr), PTs (X.blk t G scope (compEnvC scope cl L X.env) fr) ifs tt)
    (hk : ∀ (t : Shared) (G : Hp) (L : Addr) (cl : List (Str × Addr)) (fr : List Addr), PE (X.blk t G scope (compEnvC scope cl L X.env) fr) kx tk)
    (he : ∀ (t : Shared) (G : Hp) (L : Addr) (cl : List (Str × Addr)) (fr : List Addr), PE (X.blk t G scope (compEnvC scope cl L X.env) fr) vx tv)
    (hs : ∀ x, foldedSetIterable iter X.env x = pure x)
    (h : tDcT C k wi g tt tk tv (own.map (·.2)) σ H Q)
    (fini : ∀ D L s' m H', Inv X pins σ H' s' → Q (.ref D) H' → s'.heap.Ns L m → FpOk X pins H' L →
      compPost (model X.prog X.w) X.A X.xe use Qf (.ref D) L (.ok .next) s') :
    wpAny (model X.prog X.w) X.A (comprehension (.DictComp kx vx [⟨tg, iter, ifs, 0⟩] scope pos) scope X.env pos' newDict false
      (eval iter X.env) use) Qf X.xe s := by
  have frees : ∀ y ∈ scope.names, y.2 = .free → ∃ c, X.env.cells.lookup y.1 = some c := fun y hy e => by
    rcases ok.free y hy e with k | k
    · exact I.ok.has _ (.inl k)
    · exact I.ok.has _ (.inr k)
  refine wpAny_comprehension_free (use := use) rfl hs (closure_ok frees) ok.kind (fun y hy e => by rw [ok.uniq y hy, e])
    (thn (hi.run pins s σ H _ I h) fun xv u1 hx_ => thn hx_ fun itv u2 hh2 => ?_)
  obtain ⟨it, fr, tn, J, G2, e, J2, T, stt2, fq2, q⟩ := hh2
  subst e
  refine wpAny_newObj_type (newEnv_comp ?_)
  generalize hDn0 : u2.heap.objs.size = Dn
  have hDm : G2 Dn = none := J2.hok.fresh (Nat.le_of_eq hDn0)
  obtain ⟨W, ⟨m0, w0⟩, turn⟩ := q Dn hDm (by rw [← hDn0]; exact beq_eq_false_iff_ne.mpr (Ne.symm (Nat.ne_of_lt J2.big)))
  -- the new list
  generalize hs3 : ({ u2 with heap := u2.heap.push { cls := .type "dict", data := .dict #[] } } : Shared) = u3
  have J3 : Inv X pins σ (upd G2 Dn (dictHO C.prog C.w Dn [])) u3 := by
    rw [← hs3]
    refine J2.laid (t' := u2.toks) (fun b o e => Heap.get?_push_of_some _ e) (Nat.le_of_eq hDn0) ?_
    rw [← hDn0]
    rw [← hP, ← hw]
    exact dictAt.ok (.inl ⟨[], .nil, Heap.DictOf.new u2.heap⟩)
  have hh3 : u3.heap = u2.heap.push { cls := .type "dict", data := .dict #[] } := by rw [← hs3]
  have sz : ∀ b ∈ fr, b < u2.heap.objs.size := fun b hb => by
    obtain ⟨o, e, _⟩ := T.obj _ _ stt2 b hb
    exact Heap.lt_size e
  have fq3 : ∀ b ∈ fr, FpOk X pins (upd G2 Dn (dictHO C.prog C.w Dn [])) b ∧ b < u3.heap.objs.size := fun b hb => by
    have hlt := sz b hb
    refine ⟨⟨?_, (fq2 b hb).2⟩, by rw [hh3, Heap.size_push]; exact Nat.lt_succ_of_lt hlt⟩
    rw [upd_ne (by rw [← hDn0]; exact Nat.ne_of_lt hlt)]
    exact (fq2 b hb).1
  have stt3 : tn 0 u3.heap := T.keep _ _ _ stt2 fun b _ o e => by rw [hh3]; exact Heap.get?_push_of_some _ e
  have J4 := block_start J3 ok hN fq3
  have pg := hg u3 (upd G2 Dn (dictHO C.prog C.w Dn [])) u3.heap.objs.size (cellsFrom (u3.heap.objs.size + 1) scope.names (cloFrom X.env.cells scope.names [])) fr
  have pt := ht u3 (upd G2 Dn (dictHO C.prog C.w Dn [])) u3.heap.objs.size (cellsFrom (u3.heap.objs.size + 1) scope.names (cloFrom X.env.cells scope.names [])) fr
  have pk := hk u3 (upd G2 Dn (dictHO C.prog C.w Dn [])) u3.heap.objs.size (cellsFrom (u3.heap.objs.size + 1) scope.names (cloFrom X.env.cells scope.names [])) fr
  have pe := he u3 (upd G2 Dn (dictHO C.prog C.w Dn [])) u3.heap.objs.size (cellsFrom (u3.heap.objs.size + 1) scope.names (cloFrom X.env.cells scope.names [])) fr
  show codeAny _ _ (.compStart (.DictComp kx vx [⟨tg, iter, ifs, 0⟩] scope pos) 0 (.ref it) (.ref Dn) (compEnvC scope (cellsFrom (u3.heap.objs.size + 1) scope.names (cloFrom X.env.cells scope.names [])) u3.heap.objs.size X.env)) (compPost (model X.prog X.w) X.A X.xe use Qf (.ref Dn) u3.heap.objs.size) { u3 with heap := pushCells (u3.heap.push { cls := .type "dict", data := .dict #[] }) scope.names }
  have nof : ∀ b ∈ fr, (upd G2 Dn (dictHO C.prog C.w Dn [])) b = none := fun b hb => (fq3 b hb).1.1
  generalize hcx : compEnvC scope (cellsFrom (u3.heap.objs.size + 1) scope.names (cloFrom X.env.cells scope.names [])) u3.heap.objs.size X.env = ec at J4 pg pt pk pe ⊢
  have cL : ec.locals = u3.heap.objs.size := by subst hcx; rfl
  generalize hH3 : upd G2 Dn (dictHO C.prog C.w Dn []) = G3 at J3 J4 pg pt pk pe w0 nof fq3
  generalize hs4 : ({ u3 with heap := pushCells (u3.heap.push { cls := .type "dict", data := .dict #[] }) scope.names } : Shared) = u4 at J4 ⊢
  have stt4 : tn 0 u4.heap := T.keep _ _ _ stt3 fun b _ o e => by rw [← hs4]; exact pushCells_keeps _ _ _ _ (Heap.get?_push_of_some _ e)
  have same : ∀ {σ' : L2.St} {H' : Hp} {s' : Shared}, Inv (X.blk u3 G3 scope ec fr) [] σ' H' s' → (∀ b ∈ fr, H' b = none) → ∀ b ∈ fr, FpOk (X.blk u3 G3 scope ec fr) [] H' b := fun {σ' H' s'} I' hn b hb =>
    ⟨hn b hb, (I'.ok.exf b hb).1, I'.ok.exfs b hb, .inl hb, fun x c e => (I'.ok.exf b hb).2 x c e, fun p hp => absurd (show p ∈ ([] : List (Addr × Obj)) ++ [] from hp) (by simp)⟩
  have turns_ : codeAny (model X.prog X.w) X.A (.compLoop (.DictComp kx vx [⟨tg, iter, ifs, 0⟩] scope pos) 0 (.ref it) (.ref Dn) ec) (compPost (model X.prog X.w) X.A X.xe use Qf (.ref Dn) u3.heap.objs.size) u4 := by
    refine compLoop_anyD (fun n s' => ∃ i H', Inv (X.blk u3 G3 scope ec fr) [] (wipe σ (own.map (·.2))) H' s' ∧ tn i s'.heap ∧ (∀ b ∈ fr, H' b = none) ∧ W i n H') ?_ m0 ⟨0, G3, J4, stt4, nof, w0⟩
    rintro n u5 ⟨i, G5, J5, stt5, n5, wv5⟩
    rcases turn i n G5 wv5 with ⟨stop, qq⟩ | ⟨go, Nx, hNx, step⟩
    · have td := T.done (X.blk u3 G3 scope ec fr) rfl rfl rfl hc i [] u5 _ G5 (fun _ _ => False) J5 (same J5 n5) stt5 stop
      refine thnF td fun r u6 ⟨hr, J6⟩ => ?_
      subst hr
      -- back in the def's context
      have J7 : Inv X pins σ G5 u6 := J3.call' (ch := fr) J6.os J6.base J6.hok J6.bare fun b hb => ⟨(fq3 b hb).1.2.2.2.1, (fq3 b hb).1.2.1, (fq3 b hb).1.2.2.2.2.1, (fq3 b hb).1.2.2.2.2.2⟩
      have nC : G5 u3.heap.objs.size = none := by
        have z : G5 ec.locals = none := J6.free
        rw [cL] at z
        exact z
      obtain ⟨m, hn, _⟩ := J6.loc
      have hn : u6.heap.Ns ec.locals m := hn
      rw [cL] at hn
      exact fini Dn u3.heap.objs.size u6 m G5 J7 qq hn (J3.fpOk (Nat.le_refl _) nC)
    · have ti := T.item (X.blk u3 G3 scope ec fr) rfl rfl rfl hc i [] u5 _ G5 (fun _ _ => False) J5 (same J5 n5) stt5 go
      refine thnF ti fun r u6 ⟨u, hr, hh6⟩ => ?_
      subst hr
      refine thnF hh6 fun _ u7 ⟨x, G7, J7, r7, y7, stt7, n7⟩ => ?_
      have J7' := J7.pinned (same J7 n7) (T.obj _ _ stt7)
      refine thnF (pg.run _ u7 _ G7 x u _ J7' r7 (step x G7 y7)) fun _ u8 ⟨σ8, G8, J8, hw8, q8⟩ => ?_
      refine thnF (pt.run _ u8 σ8 G8 _ J8 q8) fun b u9 ⟨G9, J9, q9⟩ => ?_
      -- the turn's end
      have fin : ∀ {s' : Shared} {H' : Hp}, Inv (X.blk u3 G3 scope ec fr) ([] ++ pinsAt fr u7.heap) σ8 H' s' → Nx H' → ∃ m, m < n ∧ ∃ i H', Inv (X.blk u3 G3 scope ec fr) [] (wipe σ (own.map (·.2))) H' s' ∧ tn i s'.heap ∧ (∀ b ∈ fr, H' b = none) ∧ W i m H' := fun {s' H'} I' nx => by
        obtain ⟨m', hm, w'⟩ := hNx H' nx
        have pin' : ∀ b ∈ fr, ∀ o, u7.heap.get? b = some o → s'.heap.get? b = some o ∧ H' b = none := fun b hb o e =>
          let z := I'.pin (b, o) (List.mem_append_right _ (List.mem_append_right _ (mem_pinsAt hb e)))
          ⟨z.1, z.2.1⟩
        have hl : (wipe σ (own.map (·.2))).length = σ8.length := by rw [← hw8, wipe_length]
        refine ⟨m', hm, i + 1, H', (I'.unpinned (pins := [])).weak hl (fun j v e => ?_), T.keep _ _ _ stt7 fun b hb o e => (pin' b hb o e).1, fun b hb => ?_, w'⟩
        · rw [← hw8] at e
          exact (wipe_some e).1
        · obtain ⟨o, e, _⟩ := T.obj _ _ stt7 b hb
          exact (pin' b hb o e).2
      cases b with
      | false =>
        simp only [Bool.false_eq_true, if_false] at q9 ⊢
        exact fin J9 q9
      | true =>
        simp only [if_true] at q9 ⊢
        refine thnF (pk.run _ u9 σ8 G9 _ J9 q9) fun z u10 ⟨yk, G10, J10, r10, q10⟩ => ?_
        refine thnF (pe.run _ u10 σ8 G10 _ J10 q10) fun z2 u11 ⟨yv, G11, J11, r11, nx⟩ => ?_
        exact nx (X.blk u3 G3 scope ec fr) _ σ8 u11 z z2 _ _ hP hw hR J11 r10 r11 fun s12 G12 J12 n12 => fin J12 n12
  exact codeAny_compStart_dict turns_ (T.self X.A 0 _ _ _ stt4 turns_)
theorem pe_dcT {kx vx tg iter : Expr} {ifs : List Expr} {scope : Scope} {own : List (Str × Nat)} {pos : Pos} {wi : TI} {g : TG} {tt : TT} {tk tv : TE}
    (hP : X.prog = C.prog) (hw : X.w = C.w) (hR : Room k X.A) (hc : X.calm = true) (hN : X.N.Nodup) (hi : PI X tg iter wi) (ok : BlkOk X.N X.env.scope scope own)
    (hg : ∀ (t : Shared) (G : Hp) (L : Addr) (cl : List (Str × Addr)) (fr : List Addr), PG (X.blk t G scope (compEnvC scope cl L X.env) fr) tg g)
    (ht : ∀ (t : Shared) (G : Hp) (L : Addr) (cl : List (Str × Addr)) (fr : List Addr), PTs (X.blk t G scope (compEnvC scope cl L X.env) fr) ifs tt)
    (hk : ∀ (t : Shared) (G : Hp) (L : Addr) (cl : List (Str × Addr)) (fr : List Addr), PE (X.blk t G scope (compEnvC scope cl L X.env) fr) kx tk)
    (he : ∀ (t : Shared) (G : Hp) (L : Addr) (cl : List (Str × Addr)) (fr : List Addr), PE (X.blk t G scope (compEnvC scope cl L X.env) fr) vx tv)
    (hs : ∀ x, foldedSetIterable iter X.env x = pure x) :
    PE X (.DictComp kx vx [⟨tg, iter, ifs, 0⟩] scope pos) (tDcT C k wi g tt tk tv (own.map (·.2))) := by
  refine ⟨fun pins s σ H Q I h => ?_⟩
  rw [arm_eval_DictComp]
  refine dcT_core hP hw hR hc hN I hi ok hg ht hk he hs h fun D L s' m H' I' q hn f => ⟨m, hn, fun h'' sb => ?_⟩
  obtain ⟨f0, f1, f2, f3, f4, f5⟩ := f
  exact ⟨.ref D, H', I'.turned (t' := s'.toks) (fun b o hb e => (sb.2 b hb).trans e) f0 f1 f3 f4 f5, rfl, q⟩

/-! ### the evaluator's dict comprehension -/
def AllK (t : Bool) (kvs : List (D × D)) : Prop := ∀ p ∈ kvs, p.1.key 8 = true ∧ p.1.isTup = t
theorem allK_of {kvs : List (D × D)} (h : kvs.all (fun p => keyOk kvs p.1) = true) : ∃ t, AllK t kvs := by
  cases kvs with
  | nil => exact ⟨true, fun p hp => by cases hp⟩
  | cons a r =>
    refine ⟨a.1.isTup, fun p hp => ?_⟩
    have := List.all_eq_true.mp h p hp
    simp only [keyOk, Bool.and_eq_true, beq_iff_eq] at this
    exact ⟨this.1, this.2.symm⟩
theorem AllK.keyOk {t : Bool} {kvs : List (D × D)} (h : AllK t kvs) {x : D} (h8 : x.key 8 = true) (ht : x.isTup = t) : Pw.keyOk kvs x = true := by
  cases kvs with
  | nil => simp [Pw.keyOk, h8]
  | cons a r =>
    have := (h a List.mem_cons_self).2
    simp [Pw.keyOk, h8, ht, this]
theorem AllK.all {t : Bool} {kvs : List (D × D)} (h : AllK t kvs) : kvs.all (fun p => Pw.keyOk kvs p.1) = true :=
  List.all_eq_true.mpr fun p hp => h.keyOk (h p hp).1 (h p hp).2
theorem AllK.put {t : Bool} {x v : D} (h8 : x.key 8 = true) (ht : x.isTup = t) : ∀ {kvs : List (D × D)}, AllK t kvs → AllK t (dput x v kvs)
  | [], _ => fun p hp => by rw [List.mem_singleton.mp hp]; exact ⟨h8, ht⟩
  | (a, w) :: r, h => by
    unfold dput
    by_cases e : a = x
    · rw [if_pos e]
      intro p hp
      rcases List.mem_cons.mp hp with z | z
      · rw [z]; exact h (a, w) List.mem_cons_self
      · exact h p (List.mem_cons_of_mem _ z)
    · rw [if_neg e]
      intro p hp
      rcases List.mem_cons.mp hp with z | z
      · rw [z]; exact h (a, w) List.mem_cons_self
      · exact AllK.put h8 ht (fun p hp => h p (List.mem_cons_of_mem _ hp)) p z
theorem dputs_snoc (l : List (D × D)) (p : D × D) : dputs (l ++ [p]) [] = dput p.1 p.2 (dputs l []) := by simp [dputs]
end
end Pw

end
section
set_option maxHeartbeats 1000000
/-! SndH4: dict comprehensions, as the evaluator has them. -/
namespace Pw
open PySem PySem.Spec PyProof.Rows L2

section
variable {C : PC} {X : Cx} {k : Nat} {α : List Addr} {M : Mem} {H : Hp}
theorem setAt_raw {kvs : List (D × D)} {q : List (D × V × V)} {Dn : Addr} (S : RS C α M H) (hn : Dn ∉ α) (scd : ScD C Dn) (hD : H Dn = some (dictHO C.prog C.w Dn q)) (rk0 : RK C.sa α H kvs q)
    (nd : (kvs.map (·.1)).Nodup) (ok : kvs.all (fun p => keyOk kvs p.1) = true) (sm : (Dn == sysModules) = false) (hl : kvs.length < LIM)
    {key w : D} {y v : V} (hk : keyOk kvs key = true) (rk : RD C.sa α H key y) (rw' : RD C.sa α H w v) {Nx : Hp → Prop} (h : Nx (upd H Dn (dictHO C.prog C.w Dn (qput key y v q)))) : SetAt C k Dn y v H Nx := by
  intro X pins σ s u uv Q E hP hw hr I ru rv hQ
  have S' : RS C (α ++ [Dn]) (M ++ [.dic kvs]) H := S.adopt hn scd hD (.dic rk0 nd ok (Nat.le_of_lt hl) sm)
  have d : DCell C (α ++ [Dn]) (M ++ [.dic kvs]) H M.length Dn kvs q :=
    ⟨by rw [List.getElem?_append_right (Nat.le_refl _)]; simp, by rw [List.getElem?_append_right (by rw [S.len]; exact Nat.le_refl _)]; simp [S.len], hD, RK.wide rk0, nd, ok, Nat.le_of_lt hl, sm⟩
  have rkw : RD C.sa (α ++ [Dn]) H key y := rk.wide
  have hu : X.A.units + 16 < cLine := by have := hr.un; omega
  have hq := d.rk.keys
  have fin : ∀ {h' : Heap} {t : Nat}, dictAt C.prog C.w Dn (qput key y v q) h' → Heap.SameBut Dn s.heap h' → Q () { s with heap := h', toks := t } := by
    intro h' t da sb
    have I' : Inv X pins σ (upd H Dn (dictHO C.prog C.w Dn (qput key y v q))) { s with heap := h', toks := t } := by
      refine I.write (x := Dn) (e := Dn) (by rw [hD]; trivial) (.inl rfl) (fun b ob hb e => (sb.2 b hb).trans e) da.there ?_
      rw [hP, hw]
      exact da.ok
    exact hQ _ _ I' h
  have ndq : (q.map (·.1)).Nodup := by rw [hq]; exact nd
  cases ht : key.isTup with
  | false =>
    obtain ⟨vs, r, dd⟩ := d.flat I hP hk ht
    obtain ⟨l, hl2⟩ := leafK_of ((keyOk_iff _ _).mp hk).1 ht
    have hlen : vs.length ≤ sizeLine := by
      have e1 := Paired.length r
      have e2 := d.rk.length
      rw [line_eq]
      omega
    rw [hP, hw]
    refine wpAny_dictSet_pairs (knd := flatKind C.prog C.w) (k := l) (hsz := hlen) (flat_is hl2 rkw ru) dd fun h' dh sb => ?_
    rw [← hP, ← hw] at *
    exact fin (.inl ⟨_, fq_put hl2 rv ndq r, dh⟩) sb
  | true =>
    obtain ⟨xs, r, dd⟩ := d.tup I hP hk ht
    have hk8 := ((keyOk_iff _ _).mp hk).1
    obtain ⟨b, rfl⟩ := key_ref ht rkw
    cases ru
    have hlen : xs.length ≤ sizeLine := by
      have e1 := Paired.length r
      have e2 := d.rk.length
      rw [line_eq]
      omega
    have hi : (nestedKind C.prog C.w).is s.heap (nk key) b := ⟨nk_is I 8 key _ _ hk8 rkw rfl, nk_depth 8 key hk8⟩
    have ha8 : q.all (fun p => p.1.key 8) = true := by
      have := d.keys
      rw [List.all_eq_true] at this ⊢
      intro p hp
      have hm : p.1 ∈ kvs.map (·.1) := by rw [← hq]; exact List.mem_map_of_mem hp
      obtain ⟨p', h1, h2⟩ := List.mem_map.mp hm
      rw [← h2]; exact this p' h1
    rw [hP, hw]
    refine wpAny_dictSet_heap (knd := nestedKind C.prog C.w) (k := nk key) (hsz := hlen) (by show X.A.units + 8 < cLine; omega) hi (d.ofH I r dd) fun h' dh sb => ?_
    obtain ⟨o, es, ep, g1, g2, g3, g4, g5, g6⟩ := dh
    exact fin (.inr ⟨_, tq_put hk8 ht rv ha8 ndq r, o, es, ep, g1, g2, g3, g4, g6⟩) sb
/-- what is so before turn i of a dict comprehension -/
structure DcI (C : PC) (g : List (Nat × MO)) (p : Pat) (c : VEnv → Mem → R Bool) (b : VEnv → Mem → R (List Pw.D)) (ρ : VEnv) (its : List Pw.D) (kvs : List (D × D)) (M2 : Mem) (α1 : List Addr) (H1 : Hp) (Dn : Addr) (i : Nat) (H : Hp) : Prop where
  ok : ∃ α M l r zs q, Step α1 α H1 H ∧ RS C α M H ∧ Dn ∉ α ∧ H Dn = some (dictHO C.prog C.w Dn q) ∧ RK C.sa α H (dputs l []) q ∧ ((dputs l []).map (·.1)).Nodup ∧
    turns g p c b ρ (its.drop i) M = some (zs, M2) ∧ pairsOf zs = some r ∧ l ++ r = kvs
theorem dputs_allK {t : Bool} : ∀ (l : List (D × D)) {acc : List (D × D)}, AllK t l → AllK t acc → AllK t (dputs l acc)
  | [], acc, _, h => h
  | p :: l, acc, hl, h => by
    show AllK t (dputs l (dput p.1 p.2 acc))
    exact dputs_allK l (fun x hx => hl x (List.mem_cons_of_mem _ hx)) (AllK.put (hl p List.mem_cons_self).1 (hl p List.mem_cons_self).2 h)
theorem dputs_len : ∀ (l : List (D × D)) {acc : List (D × D)}, (dputs l acc).length ≤ l.length + acc.length
  | [], acc => by simp [dputs]
  | p :: l, acc => by
    have h1 := dputs_len l (acc := dput p.1 p.2 acc)
    have h2 := dput_length p.1 p.2 acc
    show (dputs l (dput p.1 p.2 acc)).length ≤ _
    simp only [List.length_cons]
    omega
theorem dc_lift {F : FT} {tg iter : Expr} {vs : List Nat} {p : Pat} {it c x y : E} {wi : TI} (hp : ∀ i ∈ patVars p, i ∈ vs)
    (hwi : ∀ σ H R, (∃ α ρ M its M', RS C α M H ∧ RE C.sa α H ρ σ ∧ evIt F it ρ M = some (its, M') ∧ ∀ α' H' J, Step α α' H H' → RS C α' M' H' → JOk C J α' H' its → R J H') → wi σ H R) :
    ∀ σ H Q, tV C (evE F (.dcomp (.for1 vs p it c (.cons x (.cons y .nil))))) σ H Q → tDcT C k wi (gOf C p) (tBo C (fun ρ M => truthR (evE F c ρ M))) (tV C (evE F x)) (tV C (evE F y)) vs σ H Q := by
  rintro σ H Q ⟨α, ρ, M, d, M', s, e, h, q⟩
  simp only [evE, evEs] at h
  obtain ⟨xs, M2, h1, h⟩ := bnd_some_of h
  obtain ⟨its, M1, hit, h1⟩ := bnd_some_of h1
  split at h
  · rename_i kvs hkvs
    split at h
    · rename_i hlen
      cases h
      obtain ⟨t, hall⟩ := allK_of hlen.1
      refine hwi σ H _ ⟨α, ρ, M, its, M1, s, e, hit, fun α1 H1 J t1 s1 jok D hD hsm => ?_⟩
      have scd := s1.scD hD
      have hD0 : H D = none := t1.before s hD s1
      refine ⟨fun i m Hc => m = its.1.length - i ∧ i ≤ its.1.length ∧ DcI C its.2 p (fun ρ M => truthR (evE F c ρ M)) (fun ρ M => bnd (evE F x ρ M) fun u M => bnd (bnd (evE F y ρ M) fun v M => bnd (evEs F .nil ρ M) fun ys M => some (v :: ys, M)) fun ys M => some (u :: ys, M)) (wipeE ρ vs) its.1 kvs M2 α1 H1 D i Hc,
        ⟨its.1.length, by simp, Nat.zero_le _, ⟨α1, M1, [], kvs, xs, [], upd_step hD, s1.other hD, s1.free hD, upd_same, .nil, List.nodup_nil, by simpa [evEs] using h1, hkvs, rfl⟩⟩, ?_⟩
      rintro i m Hc ⟨rfl, hi, ⟨αc, Mc, l, r, zs, qq, tc, sc, hn, hDc, rc, ndl, hturn, hzs, hlr⟩⟩
      have notup : NoTup Hc D := fun vs z => by rw [hDc] at z; cases z
      have hal : AllK t (dputs l []) := dputs_allK l (fun x hx => hall x (by rw [← hlr]; exact List.mem_append_left _ hx)) (fun p hp => by cases hp)
      have hll := dputs_len l (acc := [])
      have hltot : l.length + r.length ≤ LIM := by have := hlen.2; rw [← hlr] at this; simpa using this
      simp only [List.length_nil, Nat.add_zero] at hll
      by_cases hlt : i < its.1.length
      · right
        rw [List.drop_eq_getElem_cons hlt] at hturn
        unfold turns at hturn
        split at hturn
        · rename_i hst
          obtain ⟨jgo, -⟩ := jok i αc Mc Hc tc sc hst
          obtain ⟨go, yl⟩ := jgo its.1[i] (List.getElem?_eq_getElem hlt)
          split at hturn
          · cases hturn
          · rename_i ρ1 hρ1
            refine ⟨go, fun H' => DcI C its.2 p (fun ρ M => truthR (evE F c ρ M)) (fun ρ M => bnd (evE F x ρ M) fun u M => bnd (bnd (evE F y ρ M) fun v M => bnd (evEs F .nil ρ M) fun ys M => some (v :: ys, M)) fun ys M => some (u :: ys, M)) (wipeE ρ vs) its.1 kvs M2 α1 H1 D (i + 1) H',
              fun H' w => ⟨its.1.length - (i + 1), by omega, rfl, hlt, w⟩, fun xv H3 yy => ?_⟩
            obtain ⟨t3, s3, r3⟩ := yl xv H3 yy
            have re3 : RE C.sa αc H3 (wipeE ρ vs) (wipe σ vs) := (((e.wipe vs).mono s t1).mono s1 tc).mono sc t3
            refine pat_ok p its.1[i] xv (wipeE ρ vs) ρ1 (wipe σ vs) _ s3 r3 re3 hρ1 fun σ1 re1 hw1 => ⟨hw1 vs hp |>.trans (wipe_wipe σ vs), ?_⟩
            obtain ⟨okb, M3, hc, hturn⟩ := bnd_some_of hturn
            refine ⟨αc, ρ1, Mc, okb, M3, s3, re1, hc, fun α4 H4 t4 s4 => ?_⟩
            obtain ⟨n3, e3⟩ := t3.out hDc hn (fun ps z => by cases z)
            obtain ⟨n4, e4⟩ := t4.out e3 n3 (fun ps z => by cases z)
            have rc3 := rc.mono sc t3
            have rc4 := rc3.mono s3 t4
            cases okb with
            | false =>
              simp only [Bool.false_eq_true, if_false] at hturn ⊢
              exact ⟨α4, M3, l, r, zs, qq, (tc.trans t3).trans t4, s4, n4, e4, rc4, ndl, hturn, hzs, hlr⟩
            | true =>
              simp only [if_true] at hturn ⊢
              obtain ⟨ys, M4, hb1, hturn⟩ := bnd_some_of hturn
              obtain ⟨yd, M5, hb2, hb1⟩ := bnd_some_of hb1
              obtain ⟨ys2, M6, hb3, hb1⟩ := bnd_some_of hb1
              obtain ⟨vd, M7, hb4, hb3⟩ := bnd_some_of hb3
              simp only [evEs, bnd_some] at hb3
              cases hb3
              cases hb1
              obtain ⟨zs', M8, ht1, hturn⟩ := bnd_some_of hturn
              cases hturn
              refine ⟨α4, ρ1, M3, yd, M5, s4, re1.mono s3 t4, hb2, fun α5 yv H5 t5 s5 r5 => ?_⟩
              refine ⟨α5, ρ1, M5, vd, M4, s5, (re1.mono s3 t4).mono s4 t5, hb4, fun α6 vv H6 t6 s6 r6 => ?_⟩
              obtain ⟨n5, e5⟩ := t5.out e4 n4 (fun ps z => by cases z)
              obtain ⟨n6, e6⟩ := t6.out e5 n5 (fun ps z => by cases z)
              have nt6 : NoTup H6 D := fun vs z => by rw [e6] at z; cases z
              have hz : ∃ r', pairsOf zs' = some r' ∧ r = (yd, vd) :: r' := by
                have z : pairsOf (yd :: vd :: zs') = some r := hzs
                simp only [pairsOf, Option.map_eq_some_iff] at z
                obtain ⟨r', h1, h2⟩ := z
                exact ⟨r', h1, h2.symm⟩
              obtain ⟨r', hz1, rfl⟩ := hz
              have hm := hall (yd, vd) (by rw [← hlr]; simp)
              have rc6 := (rc4.mono s4 t5).mono s5 t6
              have r5' := r5.mono s5 t6
              refine setAt_raw s6 n6 scd e6 rc6 ndl hal.all hsm (by simp at hltot; omega) (hal.keyOk hm.1 hm.2) r5' r6 ?_
              exact ⟨α6, M4, l ++ [(yd, vd)], r', zs', _, ((((tc.trans t3).trans t4).trans t5).trans t6).poke hD _, s6.poke nt6 n6 scd _ (fun ps z => by rw [e6] at z; cases z), n6, upd_same,
                by rw [dputs_snoc]; exact RK.poke nt6 _ (RK.put r5' r6 rc6), by rw [dputs_snoc]; exact dput_nodup ndl, ht1, hz1, by rw [← hlr]; simp⟩
        · cases hturn
      · left
        have e0 : i = its.1.length := by omega
        subst e0
        rw [List.drop_length] at hturn
        unfold turns at hturn
        split at hturn
        · rename_i hst
          cases hturn
          obtain ⟨-, jst⟩ := jok its.1.length αc M2 Hc tc sc hst
          refine ⟨jst (Nat.le_refl _), ?_⟩
          simp only [pairsOf, Option.some.injEq] at hzs
          subst hzs
          rw [List.append_nil] at hlr
          subst hlr
          exact q (αc ++ [D]) (.ref D) Hc ((t1.trans tc).adopt hD0) (sc.adopt hn scd hDc (.dic rc ndl hal.all (Nat.le_trans hll hlen.2) hsm)) (.ref (by rw [List.getElem?_append_right (by rw [sc.len]; exact Nat.le_refl _)]; simp [sc.len]))
        · cases hturn
    · cases h
  · cases h
theorem le_dcomp {S : Sx} {F : FT} {kx vx tg iter : Expr} {ifs : List Expr} {scope : Scope} {pos : Pos} {own : List (Str × Nat)} {vs : List Nat} {p : Pat} {it c x y : E}
    (ok : OkX C k S X) (hb : BlkOk S.N S.sc scope own) (hv : own.map (·.2) = vs) (hp : ∀ i ∈ patVars p, i ∈ vs) (hset : isSet iter = false) (hi : LI C X F tg iter it)
    (hg : ∀ X', OkX C k (S.blk scope) X' → PG X' tg (gOf C p)) (ht : ∀ X', OkX C k (S.blk scope) X' → LTs C X' ifs (fun ρ M => truthR (evE F c ρ M)))
    (hk : ∀ X', OkX C k (S.blk scope) X' → LE C X' kx (evE F x)) (he : ∀ X', OkX C k (S.blk scope) X' → LE C X' vx (evE F y)) :
    LE C X (.DictComp kx vx [⟨tg, iter, ifs, 0⟩] scope pos) (evE F (.dcomp (.for1 vs p it c (.cons x (.cons y .nil))))) := by
  obtain ⟨wi, pi, hwi⟩ := hi.ok
  have h := pe_dcT (pos := pos) ok.hP ok.hw ok.room ok.calm (by rw [ok.hN]; exact ok.nd) pi (own := own) (by rw [ok.hN, ok.hsc]; exact hb)
    (fun s H L cl fp => hg _ (ok.blk scope s H cl L fp)) (fun s H L cl fp => ht _ (ok.blk scope s H cl L fp)) (fun s H L cl fp => hk _ (ok.blk scope s H cl L fp)) (fun s H L cl fp => he _ (ok.blk scope s H cl L fp)) (noFold hset X.env)
  rw [hv] at h
  exact PE.imp h (dc_lift (tg := tg) (iter := iter) hp hwi)
end
end Pw

end
section
set_option maxHeartbeats 1000000
/-! SndH5: list(..) of a range, a tuple, a list. -/
namespace Pw
open PySem PySem.Spec PyProof.Rows L2

section
variable {C : PC} {X : Cx} {k : Nat} {S : Sx} {F : FT} {p1 p2 pos pos2 : Pos}
theorem rds_rg {sa : Addr} {α : List Addr} {H : Hp} (a : Int) : ∀ (l : List Nat), RDs sa α H (l.map fun k : Nat => .int (a + (k : Int))) (l.map fun i => V.int (a + (i : Nat)))
  | [] => .nil
  | x :: l => .cons (.int _) (rds_rg a l)
theorem new_list {α : List Addr} {M : Mem} {H : Hp} (s : RS C α M H) {Q : V → Hp → Prop} {xs : List D} {vs : List V} (r : RDs C.sa α H xs vs) (q : ∀ α' v H', Step α α' H H' → RS C α' (M ++ [.lst xs]) H' → RD C.sa α' H' (.ref M.length) v → Q v H') : ∀ p, H p = none → Q (.ref p) (upd H p (.lst vs)) := by
  intro p hn
  exact done_lst s r hn q
theorem lst_of_coll {M : Mem} {xs : List D} {d : D} {M' : Mem} (h : collD M .list xs = some (d, M')) : xs.length ≤ LIM ∧ d = .ref M.length ∧ M' = M ++ [.lst xs] := by
  unfold collD at h
  simp only at h
  split at h
  · cases h; exact ⟨by assumption, rfl, rfl⟩
  · cases h
theorem rg_ok {a b : Int} (h1 : -(2 ^ 61) < a) (h2 : a < 2 ^ 61) (h3 : -(2 ^ 61) < b) (h4 : b < 2 ^ 61) (h : ((List.range (b - a).toNat).map fun k : Nat => D.int (a + (k : Int))).length ≤ LIM) : RgOk a b := by
  simp only [List.length_map, List.length_range] at h
  exact ⟨by omega, by omega, by omega, by omega, h⟩
theorem le_listRg1 {a : Expr} {x : E} (ok : OkX C k S X) (hl : BuOk C X (Str.ofString "list")) (hr : BuOk C X (Str.ofString "range")) (hs : notStar a = true) (ha : LE C X a (evE F x)) :
    LE C X (.Call (.Name (Str.ofString "list") p1) [.Call (.Name (Str.ofString "range") p2) [a] [] pos2] [] pos) (evE F (.coll .list (.range (.cons x .nil)))) := by
  have hm := hl.mg
  have hm2 := hr.mg
  rw [← ok.hmg] at hm hm2
  refine PE.imp (pe_listRg ok.calm hl.gl hm (prg_1 hr.gl hm2 ha (star_cons hs [] _))) ?_
  rintro σ H Q ⟨α, ρ, M, d, M', s, e, h, q⟩
  simp only [evE, evIt, evEs] at h
  obtain ⟨it, M1, g1, h⟩ := bnd_some_of h
  obtain ⟨ds, M2, g2, g1⟩ := bnd_some_of g1
  obtain ⟨dx, M3, g3, g2⟩ := bnd_some_of g2
  simp only [bnd_some] at g2
  cases g2
  obtain ⟨l, hl2, e2⟩ := Option.map_eq_some_iff.mp g1
  cases e2
  obtain ⟨hlen, rfl, rfl⟩ := lst_of_coll h
  refine ⟨α, ρ, M, dx, _, s, e, g3, fun α1 v1 H1 t1 s1 r1 => ?_⟩
  rcases rangeD_case hl2 with ⟨i, e3, g4⟩ | ⟨i, j, e3, g4⟩ | ⟨i, j, c, e3, g4⟩ <;> try (simp at e3; done)
  simp only [List.cons.injEq, and_true] at e3
  subst e3
  cases r1
  obtain ⟨b1, b2, b3, b4, ⟨_, rfl⟩ | ⟨b5, _⟩⟩ := rangeL_case g4
  · exact ⟨i, rfl, rg_ok b1 b2 b3 b4 hlen, new_list s1 (rds_rg _ _) fun α' v H' t => q α' v H' (t1.trans t)⟩
  · exact absurd b5 (by decide)
theorem le_listRg2 {a b : Expr} {x y : E} (ok : OkX C k S X) (hl : BuOk C X (Str.ofString "list")) (hr : BuOk C X (Str.ofString "range")) (hs : notStar a = true) (hs2 : notStar b = true) (ha : LE C X a (evE F x)) (hb : LE C X b (evE F y)) :
    LE C X (.Call (.Name (Str.ofString "list") p1) [.Call (.Name (Str.ofString "range") p2) [a, b] [] pos2] [] pos) (evE F (.coll .list (.range (.cons x (.cons y .nil))))) := by
  have hm := hl.mg
  have hm2 := hr.mg
  rw [← ok.hmg] at hm hm2
  refine PE.imp (pe_listRg ok.calm hl.gl hm (prg_2 hr.gl hm2 ha hb (by rw [star_cons hs]) (by rw [star_cons hs2]) (by rw [star_cons hs2]; rfl))) ?_
  rintro σ H Q ⟨α, ρ, M, d, M', s, e, h, q⟩
  simp only [evE, evIt, evEs] at h
  obtain ⟨it, M1, g1, h⟩ := bnd_some_of h
  obtain ⟨ds, M2, g2, g1⟩ := bnd_some_of g1
  obtain ⟨dx, M3, g3, g2⟩ := bnd_some_of g2
  obtain ⟨ds2, M4, g4, g2⟩ := bnd_some_of g2
  obtain ⟨dy, M5, g5, g4⟩ := bnd_some_of g4
  simp only [bnd_some] at g4 g2
  cases g4
  cases g2
  obtain ⟨l, hl2, e2⟩ := Option.map_eq_some_iff.mp g1
  cases e2
  obtain ⟨hlen, rfl, rfl⟩ := lst_of_coll h
  refine ⟨α, ρ, M, dx, _, s, e, g3, fun α1 v1 H1 t1 s1 r1 => ?_⟩
  refine ⟨α1, ρ, M3, dy, _, s1, e.mono s t1, g5, fun α2 v2 H2 t2 s2 r2 => ?_⟩
  rcases rangeD_case hl2 with ⟨i, e3, g6⟩ | ⟨i, j, e3, g6⟩ | ⟨i, j, c, e3, g6⟩ <;> try (simp at e3; done)
  simp only [List.cons.injEq, and_true] at e3
  obtain ⟨rfl, rfl⟩ := e3
  cases r1
  cases r2
  obtain ⟨b1, b2, b3, b4, ⟨_, rfl⟩ | ⟨b5, _⟩⟩ := rangeL_case g6
  · exact ⟨i, j, rfl, rfl, rg_ok b1 b2 b3 b4 hlen, new_list s2 (rds_rg _ _) fun α' v H' t => q α' v H' ((t1.trans t2).trans t)⟩
  · exact absurd b5 (by decide)
/-- list(x), x a tuple or a list -/
def kLstS (K : PySem.W.Frag) (x : V) (H : Hp) (Q : VK) : Prop := ∃ (p : Addr) (vs : List V), x = .ref p ∧ (SqT K H p vs ∨ SqL K H p vs) ∧ ∀ q, H q = none → Q (.ref q) (upd H q (.lst vs))
theorem rl_listS (pins : List (Addr × Obj)) (s : Shared) (σ : L2.St) (H : Hp) (x : V) (v : Value) (Q : VK) (I : Inv X pins σ H s) (r : RelV x v) (h : kLstS X.K x H Q) :
    wpAny (model X.prog X.w) X.A (call (.type "list") [v]) (fun u s' => ∃ y H', Inv X pins σ H' s' ∧ RelV y u ∧ Q y H') X.xe s := by
  obtain ⟨p, vs, rfl, hs, q⟩ := h
  obtain rfl : v = .ref p := r
  have fin : ∀ {T : String} {o : Obj} {its : Array Value} {n : Nat} , (T = "list" ∨ T = "tuple") → s.heap.get? p = some o → o.cls = .type T → o.data = .seq its n → Vals vs its.toList → its.size ≤ sizeLine →
      wpAny (model X.prog X.w) X.A (call (.type "list") [.ref p]) (fun u s' => ∃ y H', Inv X pins σ H' s' ∧ RelV y u ∧ Q y H') X.xe s := by
    intro T o its n hT ho hc hd rv hz
    refine call_list_seq p hT ho hc hd (fun h' c' hk hn => ?_) hz
    refine ⟨.ref s.heap.objs.size, upd H s.heap.objs.size (.lst vs), I.laid (t' := s.toks) hk (Nat.le_refl _) (show ObjOk X.prog X.w _ _ _ (.lst vs) from ⟨?_, its.toList, c', rv, ?_⟩), rfl, q _ (I.hok.fresh (Nat.le_refl _))⟩
    · rw [rv.length]; simpa using hz
    · simpa using hn
  rcases hs with hs | hs
  · obtain ⟨its, rv, pl, hz⟩ := I.tuple hs
    obtain ⟨o, ho, hc, n, hd⟩ := pl
    exact fin (.inr rfl) ho hc hd (by simpa using rv) (by have := rv.length; simp; omega)
  · obtain ⟨its, rv, pl, hz⟩ := I.list hs
    obtain ⟨o, ho, hc, n, hd⟩ := pl.isList
    exact fin (.inl rfl) ho hc hd (by simpa using rv) (by have := rv.length; simp; omega)
theorem le_listOf {a : Expr} {x : E} (ok : OkX C k S X) (hg : BuOk C X (Str.ofString "list")) (hs : notStar a = true) (ha : LE C X a (evE F x)) :
    LE C X (.Call (.Name (Str.ofString "list") p1) [a] [] pos) (evE F (.coll .list (.cons x .nil))) := by
  have hm := hg.mg
  rw [← ok.hmg] at hm
  have hpe : PE X (.Call (.Name (Str.ofString "list") p1) [a] [] pos) (tThen (tV C (evE F x)) (kLstS X.K)) := by
    refine ⟨fun pins s σ H Q I h => ?_⟩
    exact Call_ (ld_blt I hg.gl hm boot_list (PyProof.Rows.callWith_type1 (L2.one_arg ha I h (fun v s2 x H2 I2 r q => rl_listS pins s2 σ H2 x v Q I2 r q) (star_cons hs [] _)) (star_cons hs [] _)))
  refine PE.imp hpe ?_
  rintro σ H Q ⟨α, ρ, M, d, M', s, e, h, q⟩
  simp only [evE, evIt] at h
  obtain ⟨it, M1, g1, h⟩ := bnd_some_of h
  obtain ⟨dx, M2, g2, g1⟩ := bnd_some_of g1
  obtain ⟨it', hit, e2⟩ := Option.map_eq_some_iff.mp g1
  cases e2
  obtain ⟨hlen, rfl, rfl⟩ := lst_of_coll h
  refine ⟨α, ρ, M, dx, _, s, e, g2, fun α1 v1 H1 t1 s1 r1 => ?_⟩
  rcases items_seq s1 r1 hit with ⟨a', vs, rfl, h1, h2, h3, _⟩ | ⟨n, a', vs, rfl, rfl, h0, h1, h2, h3, h4⟩
  · exact ⟨a', vs, rfl, .inl (.inl (.inl h1)), new_list s1 h2 fun α' v H' t => q α' v H' (t1.trans t)⟩
  · exact ⟨a', vs, rfl, .inr (.inl (.inl h2)), new_list s1 h3 fun α' v H' t => q α' v H' (t1.trans t)⟩
end
end Pw

end
section
set_option maxHeartbeats 1000000
/-! Snd14: statements. -/
namespace Pw
open PySem PySem.Spec PyProof.Rows L2

section
variable {C : PC} {k : Nat} {sx : Sx} {X : Cx} {F : FT} {a b c : Expr} {pos p2 p3 : Pos} {x y z : E} {sm : Stmt} {sts : List Stmt}
abbrev LS (C : PC) (X : Cx) (sm : Stmt) (f : VEnv → Mem → R Out) : Prop := PS X sm (tX C f)
abbrev LSs (C : PC) (X : Cx) (sts : List Stmt) (f : VEnv → Mem → R Out) : Prop := PSs X sts (tX C f)
theorem ls_skip : LSs C X [] (evS F .skip) := by
  refine PSs.imp pss_nil ?_
  rintro D σ H ⟨α, ρ, M, o, M', s, e, h, q⟩
  simp only [evS] at h
  cases h
  exact q α H (Step.refl _ _) s σ e
theorem ls_one {f : VEnv → Mem → R Out} (h : LS C X sm f) : LSs C X [sm] f := pss_one h
theorem OutR.nx_change {α : List Addr} {H : Hp} {D D' : Ends} {o : Out} (hn : ∀ ρ, o ≠ .nx ρ) (e1 : D'.rt = D.rt) (e2 : D'.bk = D.bk) (e3 : D'.ct = D.ct) (h : OutR C α H D o) : OutR C α H D' o := by
  cases o with
  | nx ρ => exact absurd rfl (hn ρ)
  | rt d => show ∀ v, _ → D'.rt v H; rw [e1]; exact h
  | bk ρ => show ∀ σ, _ → D'.bk σ H; rw [e2]; exact h
  | ct ρ => show ∀ σ, _ → D'.ct σ H; rw [e3]; exact h
/-- from a later state on -/
theorem OutR.of {α : List Addr} {H : Hp} {D : Ends} {o : Out} (h : OutR C α H D o) : OutR C α H D o := h
def evSeq (fa fb : VEnv → Mem → R Out) : VEnv → Mem → R Out := fun ρ M => bnd (fa ρ M) fun o M => match o with
  | .nx ρ => fb ρ M
  | o => some (o, M)
theorem ls_seq {fa fb : VEnv → Mem → R Out} (ha : LS C X sm fa) (hb : LSs C X sts fb) : LSs C X (sm :: sts) (evSeq fa fb) := by
  refine PSs.imp (pss_cons ha hb) ?_
  rintro D σ H ⟨α, ρ, M, o, M', s, e, h, q⟩
  obtain ⟨o1, M1, h1, h⟩ := bnd_some_of h
  refine ⟨α, ρ, M, o1, M1, s, e, h1, fun α1 H1 t1 s1 => ?_⟩
  cases o1 with
  | nx ρ1 => exact fun σ1 e1 => ⟨α1, ρ1, M1, o, M', s1, e1, h, fun α2 H2 t2 => q α2 H2 (t1.trans t2)⟩
  | rt d => cases h; exact q α1 H1 t1 s1
  | bk ρ1 => cases h; exact q α1 H1 t1 s1
  | ct ρ1 => cases h; exact q α1 H1 t1 s1
/-- a text alone, or pass: nothing -/
def isDoc : Stmt → Bool
  | .Expr (.Constant (.str _) _ _) _ => true
  | .Pass _ => true
  | _ => false
theorem ls_doc {f : VEnv → Mem → R Out} (hd : isDoc sm = true) (h : LSs C X sts f) : LSs C X (sm :: sts) f := by
  have h1 : PS X sm tNext := by
    unfold isDoc at hd
    split at hd
    · exact ps_doc
    · exact ps_pass
    · cases hd
  exact PSs.imp (pss_cons h1 h) fun D σ H q => q
def isComp : Expr → Bool
  | .ListComp .. => true
  | .SetComp .. => true
  | .DictComp .. => true
  | _ => false
theorem noSwap {e : Expr} (h : isComp e = false) (t : Option Expr) (l : Nat) (env : Env) : swapsWith e t l env = pure false := by
  cases e <;> first | rfl | exact absurd h (by simp [isComp])
theorem noSwapS {e : Expr} (h : isComp e = false) (t : Expr) (l : Nat) (env : Env) : swapsWithSole [t] e l env = pure false := noSwap h _ _ _
def isTupE : Expr → Bool
  | .Tuple .. => true
  | _ => false
theorem noStores {e : Expr} (h : isTupE e = false) (t : Expr) (env : Env) : swappedStores [t] e env = pure none := by
  cases e <;> cases t <;> first | rfl | exact absurd h (by simp [isTupE])
theorem ls_expr (hc : isComp a = false) (ha : LE C X a (evE F x)) : LS C X (.Expr a pos) (evS F (.expr x)) := by
  refine PS.imp (ps_expr ha (noSwap hc _ _ _)) ?_
  rintro D σ H ⟨α, ρ, M, o, M', s, e, h, q⟩
  simp only [evS] at h
  obtain ⟨d, M1, h1, h⟩ := bnd_some_of h
  cases h
  exact ⟨α, ρ, M, d, _, s, e, h1, fun α1 v H1 t1 s1 _ => q α1 H1 t1 s1 σ (e.mono s t1)⟩
theorem ls_ret (ha : LE C X a (evE F x)) : LS C X (.Return (some a) pos) (evS F (.ret x)) := by
  refine PS.imp (ps_ret ha) ?_
  rintro D σ H ⟨α, ρ, M, o, M', s, e, h, q⟩
  simp only [evS] at h
  obtain ⟨d, M1, h1, h⟩ := bnd_some_of h
  cases h
  exact ⟨α, ρ, M, d, _, s, e, h1, fun α1 v H1 t1 s1 r => q α1 H1 t1 s1 v r⟩
theorem ls_retN : LS C X (.Return none pos) (evS F (.ret .non)) := by
  refine PS.imp ps_retN ?_
  rintro D σ H ⟨α, ρ, M, o, M', s, e, h, q⟩
  simp only [evS, evE, bnd_some] at h
  cases h
  exact q α H (Step.refl _ _) s _ .non
theorem ls_brk : LS C X (.Break pos) (evS F .brk) := by
  refine PS.imp ps_break ?_
  rintro D σ H ⟨α, ρ, M, o, M', s, e, h, q⟩
  simp only [evS] at h
  cases h
  exact q α H (Step.refl _ _) s σ e
theorem ls_cont : LS C X (.Continue pos) (evS F .cont) := by
  refine PS.imp ps_continue ?_
  rintro D σ H ⟨α, ρ, M, o, M', s, e, h, q⟩
  simp only [evS] at h
  cases h
  exact q α H (Step.refl _ _) s σ e
theorem ls_ite {A B : List Stmt} {fc : VEnv → Mem → R Bool} {fa fb : VEnv → Mem → R Out} (hc : LT C X c fc) (ha : LSs C X A fa) (hb : LSs C X B fb) : LS C X (.If c A B pos) (fun ρ M => bnd (fc ρ M) fun t M => if t = true then fa ρ M else fb ρ M) := by
  refine PS.imp (ps_if hc ha hb) ?_
  rintro D σ H ⟨α, ρ, M, o, M', s, e, h, q⟩
  obtain ⟨t, M1, h1, h⟩ := bnd_some_of h
  refine ⟨α, ρ, M, t, M1, s, e, h1, fun α1 H1 t1 s1 => ?_⟩
  cases t with
  | true => exact ⟨α1, ρ, M1, o, M', s1, e.mono s t1, h, fun α2 H2 t2 => q α2 H2 (t1.trans t2)⟩
  | false => exact ⟨α1, ρ, M1, o, M', s1, e.mono s t1, h, fun α2 H2 t2 => q α2 H2 (t1.trans t2)⟩

/-! ### stores -/
theorem asg_name {i : Nat} {ρ : VEnv} {M : Mem} {o : Out} {M' : Mem} (h : evS F (.asg (.name i) x) ρ M = some (o, M')) : ∃ d, evE F x ρ M = some (d, M') ∧ o = .nx (ρ.set i (some d)) := by
  simp only [evS] at h
  obtain ⟨d, M1, h1, h⟩ := bnd_some_of h
  simp only [bindPat, Option.map_some] at h
  cases h
  exact ⟨d, h1, rfl⟩
theorem asg_lift {i : Nat} {te : TE} (hl : ∀ σ H Q, tV C (evE F x) σ H Q → te σ H Q) : ∀ D σ H, tX C (evS F (.asg (.name i) x)) D σ H → tAsg te (gName i) D σ H := by
  rintro D σ H ⟨α, ρ, M, o, M', s, e, h, q⟩
  obtain ⟨d, h1, rfl⟩ := asg_name h
  exact hl _ _ _ ⟨α, ρ, M, d, M', s, e, h1, fun α1 v H1 t1 s1 r1 => q α1 H1 t1 s1 _ ((e.mono s t1).set r1 i)⟩
theorem ls_asg {i : Nat} {n : Str} (hN : X.N.Nodup) (hs : Sto X i n) (hc : isComp a = false) (ha : LE C X a (evE F x)) : LS C X (.Assign [.Name n p2] a pos) (evS F (.asg (.name i) x)) :=
  PS.imp (ps_set hN hs.1 hs.2.1 ha (noSwap hc _ _ _) hs.2.2) (asg_lift fun _ _ _ h => h)
theorem pg_or {tg : Expr} {g g' : TG} (h : PG X tg g) (h' : PG X tg g') : PG X tg (fun v σ H Q => g v σ H Q ∨ g' v σ H Q) :=
  ⟨fun pins s σ H v u Q I r q => q.elim (h.run pins s σ H v u Q I r) (h'.run pins s σ H v u Q I r)⟩
theorem ls_asgT {is : List Nat} {es : List Expr} {kk : Nat} (ok : OkX C k sx X) (hs : Stos X is es) (hc : isComp a = false) (ht : isTupE a = false) (ha : LE C X a (evE F x)) : LS C X (.Assign [.Tuple es kk p2] a pos) (evS F (.asg (.tup is) x)) := by
  have hN : X.N.Nodup := by rw [ok.hN]; exact ok.nd
  obtain ⟨h1, h2, h3⟩ := pgs_names hN hs
  have g2 : PG X (.Tuple es kk p2) (gLst X.K is.length (gNames is)) := pg_lst ok.calm h1 h2 h3
  have g1 : PG X (.Tuple es kk p2) (gOf C (.tup is)) := pg_tupP hN ok.calm ok.hK hs
  rw [ok.hK] at g2
  refine PS.imp (ps_asg ha (pg_or g1 g2) (noSwapS hc _ _ _) (noStores ht _ _) rfl) ?_
  rintro D σ H ⟨α, ρ, M, o, M', s, e, h, q⟩
  simp only [evS] at h
  obtain ⟨d, M1, h1, h⟩ := bnd_some_of h
  refine ⟨α, ρ, M, d, M1, s, e, h1, fun α1 v H1 t1 s1 r1 => ?_⟩
  have re := e.mono s t1
  cases d with
  | ref n =>
    right
    simp only at h
    cases e1 : M1[n]? with
    | none => rw [e1] at h; cases h
    | some o1 =>
      rw [e1] at h
      cases o1 with
      | lst xs =>
        obtain ⟨ρ1, h2, e2⟩ := Option.map_eq_some_iff.mp h
        cases e2
        simp only [bindPat] at h2
        split at h2
        · rename_i hl
          cases h2
          obtain ⟨a', vs, rfl, q2, q3, rs⟩ := s1.lst e1 r1
          exact ⟨a', vs, rfl, .inl (.inl q3), by rw [← rs.length]; exact hl.symm, names_ok hl rs re fun σ1 r2 _ => q α1 H1 t1 s1 σ1 r2⟩
        · cases h2
      | _ => cases h
  | tup xs =>
    left
    obtain ⟨ρ1, h2, e2⟩ := Option.map_eq_some_iff.mp h
    cases e2
    exact pat_ok (.tup is) (.tup xs) v ρ ρ1 σ _ s1 r1 re h2 fun σ1 r2 _ => q α1 H1 t1 s1 σ1 r2
  | _ => simp [bindPat] at h

/-! ### while, for -/
theorem ls_while {B : List Stmt} {x : E} {f : VEnv → Mem → R Out} (hx : X.xe = fun _ _ => False) (hc : LT C X c (fun ρ M => truthR (evE F x ρ M))) (hb : LSs C X B f) : LS C X (.While c B [] pos) (fun ρ M => whileL (fun ρ M => truthR (evE F x ρ M)) f F.wl ρ M) := by
  refine PS.imp (ps_while (by rw [hx]; exact PassesOwn.never) hc hb) ?_
  rintro D σ H ⟨α, ρ, M, o, M', s, e, h, q⟩
  refine ⟨fun m σc Hc => ∃ αc ρc Mc, Step α αc H Hc ∧ RS C αc Mc Hc ∧ RE C.sa αc Hc ρc σc ∧ whileL (fun ρ M => truthR (evE F x ρ M)) f m ρc Mc = some (o, M'), ⟨F.wl, α, ρ, M, Step.refl _ _, s, e, h⟩, ?_⟩
  rintro m σc Hc ⟨αc, ρc, Mc, tc, sc, ec, hw⟩
  cases m with
  | zero => simp [whileL] at hw
  | succ m =>
    unfold whileL at hw
    obtain ⟨t, M1, h1, hw⟩ := bnd_some_of hw
    refine ⟨αc, ρc, Mc, t, M1, sc, ec, h1, fun α1 H1 t1 s1 => ?_⟩
    cases t with
    | false =>
      simp only [Bool.false_eq_true, if_false] at hw ⊢
      cases hw
      exact q α1 H1 (tc.trans t1) s1 σc (ec.mono sc t1)
    | true =>
      simp only [if_true] at hw ⊢
      obtain ⟨o2, M2, h2, hw⟩ := bnd_some_of hw
      refine ⟨fun σ' H' => ∃ αd ρd Md, Step α αd H H' ∧ RS C αd Md H' ∧ RE C.sa αd H' ρd σ' ∧ whileL (fun ρ M => truthR (evE F x ρ M)) f m ρd Md = some (o, M'), fun σ' H' w => ⟨m, Nat.lt_succ_self m, w⟩, ⟨α1, ρc, M1, o2, M2, s1, ec.mono sc t1, h2, fun α2 H2 t2 s2 => ?_⟩⟩
      cases o2 with
      | nx ρ2 => exact fun σ2 e2 => ⟨α2, ρ2, M2, (tc.trans t1).trans t2, s2, e2, hw⟩
      | ct ρ2 => exact fun σ2 e2 => ⟨α2, ρ2, M2, (tc.trans t1).trans t2, s2, e2, hw⟩
      | bk ρ2 => cases hw; exact q α2 H2 ((tc.trans t1).trans t2) s2
      | rt d => cases hw; exact q α2 H2 ((tc.trans t1).trans t2) s2
theorem ls_for {tg iter : Expr} {B : List Stmt} {p : Pat} {it : E} {f : VEnv → Mem → R Out} (ok : OkX C k sx X) (hset : isSet iter = false) (hi : LI C X F tg iter it) (hg : PG X tg (gOf C p)) (hb : LSs C X B f) :
    LS C X (.For tg iter B [] pos) (fun ρ M => bnd (evIt F it ρ M) fun xs M => forL xs.2 p f xs.1 ρ M) := by
  obtain ⟨wi, pi, hwi⟩ := hi.ok
  refine PS.imp (ps_for (by rw [ok.hxe]; exact PassesOwn.never) ok.calm pi hg hb (noFold hset _)) ?_
  rintro D σ H ⟨α, ρ, M, o, M', s, e, h, q⟩
  obtain ⟨its, M1, hit, h⟩ := bnd_some_of h
  refine hwi σ H _ ⟨α, ρ, M, its, M1, s, e, hit, fun α1 H1 J t1 s1 jok => ?_⟩
  refine ⟨fun i m σc Hc => m = its.1.length - i ∧ i ≤ its.1.length ∧ ∃ αc ρc Mc, Step α1 αc H1 Hc ∧ RS C αc Mc Hc ∧ RE C.sa αc Hc ρc σc ∧ forL its.2 p f (its.1.drop i) ρc Mc = some (o, M'), ⟨its.1.length, by simp, Nat.zero_le _, α1, ρ, M1, Step.refl _ _, s1, e.mono s t1, h⟩, ?_⟩
  rintro i m σc Hc ⟨rfl, hi, αc, ρc, Mc, tc, sc, ec, hw⟩
  by_cases hlt : i < its.1.length
  · right
    rw [List.drop_eq_getElem_cons hlt] at hw
    unfold forL at hw
    split at hw
    · rename_i hst
      obtain ⟨jgo, -⟩ := jok i αc Mc Hc tc sc hst
      obtain ⟨go, yl⟩ := jgo its.1[i] (List.getElem?_eq_getElem hlt)
      split at hw
      · cases hw
      · rename_i ρ1 hρ1
        obtain ⟨o2, M2, h2, hw⟩ := bnd_some_of hw
        refine ⟨go, fun σ' H' => ∃ αd ρd Md, Step α1 αd H1 H' ∧ RS C αd Md H' ∧ RE C.sa αd H' ρd σ' ∧ forL its.2 p f (its.1.drop (i + 1)) ρd Md = some (o, M'), fun σ' H' w => ⟨its.1.length - (i + 1), by omega, rfl, hlt, w⟩, fun xv H3 y => ?_⟩
        obtain ⟨t3, s3, r3⟩ := yl xv H3 y
        refine pat_ok p its.1[i] xv ρc ρ1 σc _ s3 r3 (ec.mono sc t3) hρ1 fun σ1 re1 _ => ⟨αc, ρ1, Mc, o2, M2, s3, re1, h2, fun α4 H4 t4 s4 => ?_⟩
        have tt := (tc.trans t3).trans t4
        cases o2 with
        | nx ρ2 => exact fun σ2 e2 => ⟨α4, ρ2, M2, tt, s4, e2, hw⟩
        | ct ρ2 => exact fun σ2 e2 => ⟨α4, ρ2, M2, tt, s4, e2, hw⟩
        | bk ρ2 => cases hw; exact q α4 H4 (t1.trans tt) s4
        | rt d => cases hw; exact q α4 H4 (t1.trans tt) s4
    · cases hw
  · left
    have e0 : i = its.1.length := by omega
    subst e0
    rw [List.drop_length] at hw
    unfold forL at hw
    split at hw
    · rename_i hst
      cases hw
      obtain ⟨-, jst⟩ := jok its.1.length αc M' Hc tc sc hst
      exact ⟨jst (Nat.le_refl _), q αc Hc (t1.trans tc) sc σc ec⟩
    · cases hw
end
end Pw

end
section
set_option maxHeartbeats 1000000
/-! Snd15: stores into attributes, lists, dicts; augmented stores. -/
namespace Pw
open PySem PySem.Spec PyProof.Rows L2

section
variable {C : PC} {k : Nat} {sx : Sx} {X : Cx} {F : FT} {a b c : Expr} {pos p2 p3 : Pos} {x y z : E}
theorem RF.put {sa : Addr} {α : List Addr} {H : Hp} {f : String} {d : D} {v : V} (hd : RD sa α H d v) : ∀ {fs : List (String × D)} {vs : List (Str × V)}, RF sa α H fs vs → RF sa α H (fput f d fs) (putF (Str.ofString f) v vs)
  | _, _, .nil => .cons hd .nil
  | _, _, .cons (f := g) h r => by
    by_cases hg : g = f
    · subst hg
      simp only [fput, if_true]
      unfold putF
      rw [if_pos rfl]
      exact .cons hd r
    · simp only [fput, if_neg hg]
      unfold putF
      rw [if_neg fun e => hg (ofString_inj e)]
      exact .cons h (RF.put hd r)
theorem RF.length {sa : Addr} {α : List Addr} {H : Hp} : ∀ {fs : List (String × D)} {vs : List (Str × V)}, RF sa α H fs vs → vs.length = fs.length
  | _, _, .nil => rfl
  | _, _, .cons _ r => by simp [RF.length r]
/-- an instance changed -/
theorem RS.putIns {α : List Addr} {M : Mem} {H : Hp} (s : RS C α M H) {n : Nat} {a Ca dx : Addr} {c : String} {fs : List (String × D)} {vs : List (Str × V)} (hn : α[n]? = some a) (hc : C.ca c = some Ca) (r : RF C.sa α H fs vs) :
    Step α α H (upd H a (.ins Ca dx vs)) ∧ RS C α (M.set n (.ins c fs)) (upd H a (.ins Ca dx vs)) :=
  ⟨set_step s hn, s.set hn (.ins hc (r.mono s (set_step s hn)))⟩
theorem noSwapA (v o : Expr) (f : Str) (p : Pos) (l : Nat) (env : Env) : swapsWith v (some (.Attribute o f p)) l env = pure false := by cases v <;> rfl
theorem ls_setattr {f : String} (ok : OkX C k sx X) (hf : AtOk C f) (ha : LE C X a (evE F x)) (hb : LE C X b (evE F y)) : LS C X (.Assign [.Attribute a (Str.ofString f) p2] b pos) (evS F (.setattr x f y)) := by
  refine PS.imp (ps_fld ha hb (noSwapA _ _ _ _ _ _)) ?_
  rintro D σ H ⟨α, ρ, M, o, M', s, e, h, q⟩
  simp only [evS] at h
  obtain ⟨v, M1, h1, h⟩ := bnd_some_of h
  obtain ⟨xo, M2, h2, h⟩ := bnd_some_of h
  refine ⟨α, ρ, M, v, M1, s, e, h1, fun α1 w H1 t1 s1 r1 => ?_⟩
  refine ⟨α1, ρ, M1, xo, M2, s1, e.mono s t1, h2, fun α2 u H2 t2 s2 r2 => ?_⟩
  cases xo with
  | ref p =>
    simp only at h
    cases e1 : M2[p]? with
    | none => rw [e1] at h; cases h
    | some o1 =>
      rw [e1] at h
      cases o1 with
      | ins c fs =>
        simp only at h
        split at h
        · rename_i hl
          cases h
          obtain ⟨a', Ca, dx, vs, rfl, g2, g3, g4, g5⟩ := s2.ins e1 r2
          obtain ⟨k1, k2⟩ := hf.ok c Ca g4
          rw [ok.hK]
          obtain ⟨t3, s3⟩ := s2.putIns (dx := dx) g2 g4 (g5.put (f := f) (r1.mono s1 t2))
          exact ⟨a', Ca, dx, vs, rfl, g3, k1, k2, by rw [g5.length]; exact hl, q α2 _ ((t1.trans t2).trans t3) s3 σ (((e.mono s t1).mono s1 t2).mono s2 t3)⟩
        · cases h
      | _ => cases h
  | _ => cases h

/-! ### o[i] = v -/
def rSet (C : PC) : TSet := fun o i v H Q => ∃ α M d e w M', RS C α M H ∧ RD C.sa α H d o ∧ RD C.sa α H e i ∧ RD C.sa α H w v ∧ setD M d e w = some M' ∧ ∀ α' H', Step α α' H H' → RS C α' M' H' → Q H'
theorem dicSet_ok {pins : List (Addr × Obj)} {s : Shared} {σ : L2.St} {H : Hp} {α : List Addr} {M : Mem} {n : Nat} {a : Addr} {kvs : List (D × D)} {q : List (D × V × V)} (hP : X.prog = C.prog) (hw : X.w = C.w) (hr : Room k X.A) (I : Inv X pins σ H s) (S : RS C α M H) (d : DCell C α M H n a kvs q)
    {key w : D} {y v : V} {u uv : Value} (hk : keyOk kvs key = true) (hl : kvs.length < LIM) (rk : RD C.sa α H key y) (ru : RelV y u) (rw' : RD C.sa α H w v) (rv : RelV v uv) {Q : Hp → Prop}
    (h : ∀ α' H', Step α α' H H' → RS C α' (M.set n (.dic (dput key w kvs))) H' → Q H') : wpAny (model X.prog X.w) X.A (setItem (.ref a) u uv) (fun _ s' => ∃ H', Inv X pins σ H' s' ∧ Q H') X.xe s := by
  have hu : X.A.units + 16 < cLine := by have := hr.un; omega
  have nd := d.nd
  have hq := d.rk.keys
  have fin : ∀ {h' : Heap} {t : Nat}, dictAt C.prog C.w a (qput key y v q) h' → Heap.SameBut a s.heap h' → ∃ H', Inv X pins σ H' { s with heap := h', toks := t } ∧ Q H' := by
    intro h' t da sb
    have I' : Inv X pins σ (upd H a (dictHO C.prog C.w a (qput key y v q))) { s with heap := h', toks := t } := by
      refine I.write (x := a) (e := a) (by rw [d.h]; trivial) (.inl rfl) (fun b ob hb e => (sb.2 b hb).trans e) da.there ?_
      rw [hP, hw]
      exact da.ok
    refine ⟨_, I', h α _ (set_step S d.at_) (S.set d.at_ ?_)⟩
    have r2 := (RK.put rk rw' d.rk).mono S (set_step S d.at_ (ho := dictHO C.prog C.w a (qput key y v q)))
    exact .dic r2 (dput_nodup nd) (dput_ok hk d.ok) (Nat.le_trans (dput_length _ _ _) hl) d.sm
  have ndq : (q.map (·.1)).Nodup := by rw [hq]; exact nd
  cases ht : key.isTup with
  | false =>
    obtain ⟨vs, r, dd⟩ := d.flat I hP hk ht
    obtain ⟨l, hl2⟩ := leafK_of ((keyOk_iff _ _).mp hk).1 ht
    have hlen : vs.length ≤ sizeLine := by
      have e1 := Paired.length r
      have e2 := d.rk.length
      rw [line_eq]
      omega
    rw [hP, hw]
    refine wpAny_setItem_pairs (knd := flatKind C.prog C.w) (k := l) (flat_is hl2 rk ru) dd (fun h' dh sb => ?_) hlen
    rw [← hP, ← hw] at *
    exact fin (.inl ⟨_, fq_put hl2 rv ndq r, dh⟩) sb
  | true =>
    obtain ⟨xs, r, dd⟩ := d.tup I hP hk ht
    have hk8 := ((keyOk_iff _ _).mp hk).1
    obtain ⟨b, rfl⟩ := key_ref ht rk
    cases ru
    have hlen : xs.length ≤ sizeLine := by
      have e1 := Paired.length r
      have e2 := d.rk.length
      rw [line_eq]
      omega
    have hr : (nestedKind C.prog C.w).room X.A.in1 := by show X.A.units + 1 + 8 < cLine; omega
    have hi : (nestedKind C.prog C.w).is s.heap (nk key) b := ⟨nk_is I 8 key _ _ hk8 rk rfl, nk_depth 8 key hk8⟩
    have ha8 : q.all (fun p => p.1.key 8) = true := by
      have := d.keys
      rw [List.all_eq_true] at this ⊢
      intro p hp
      have hm : p.1 ∈ kvs.map (·.1) := by rw [← hq]; exact List.mem_map_of_mem hp
      obtain ⟨p', h1, h2⟩ := List.mem_map.mp hm
      rw [← h2]; exact this p' h1
    rw [hP, hw]
    refine wpAny_setItem_heap (knd := nestedKind C.prog C.w) (k := nk key) hr hi (d.ofH I r dd) (fun h' dh sb => ?_) hlen
    obtain ⟨o, es, ep, g1, g2, g3, g4, g5, g6⟩ := dh
    exact fin (.inr ⟨_, tq_put hk8 ht rv ha8 ndq r, o, es, ep, g1, g2, g3, g4, g6⟩) sb
theorem set_any (ok : OkX C k sx X) : PSet X (rSet C) := by
  intro pins s σ H o i v ov iv uv Q I ro ri rv h
  obtain ⟨α, M, d, e, w, M', S, rd, re, rw', h, q⟩ := h
  cases rd with
  | @ref n a ha =>
    simp only [setD] at h
    cases e1 : M[n]? with
    | none => rw [e1] at h; cases h
    | some o1 =>
      rw [e1] at h
      cases o1 with
      | lst xs =>
        cases e with
        | int j =>
          cases re
          simp only at h
          split at h
          · rename_i m hm
            cases h
            obtain ⟨a', vs, q1, q2, q3, r⟩ := S.lst (v := .ref a) e1 (.ref ha)
            cases q1
            rw [pyIx_ixN, r.length] at hm
            refine set_list pins s σ H _ _ v ov iv uv Q I ro ri rv ⟨a, vs, j, m, rfl, rfl, q3, hm, ?_⟩
            exact q α _ (set_step S ha) (S.set ha (.lst ((RDs.set rw' m r).mono S (set_step S ha))))
          · cases h
        | _ => cases h
      | dic kvs =>
        simp only at h
        split at h
        · rename_i hk
          cases h
          obtain ⟨a', q0, q1, dc⟩ := S.dic (v := .ref a) e1 (.ref ha)
          cases q1
          cases ro
          exact dicSet_ok ok.hP ok.hw ok.room I S dc hk.1 hk.2 re ri rw' rv q
        · cases h
      | ins _ _ => cases h
  | _ => simp [setD] at h
theorem sub_tree {o i : Expr} {env : Env} (h : notSlice i = true) (v : Value) : assign (.Subscript o i pos) env v = (do
      let ov ← holding [v] (eval o env)
      let iv ← holding [v, ov] (eval i env)
      standAt pos
      holding [v, ov, iv] (setItem ov iv v)
      release [v, ov, iv] []) := by
  cases i <;> first | rfl | exact absurd h (by simp [notSlice])
theorem ls_setidx (ok : OkX C k sx X) (hs : notSlice b = true) (hc : isComp c = false) (ht : isTupE c = false) (ha : LE C X a (evE F x)) (hb : LE C X b (evE F y)) (hv : LE C X c (evE F z)) : LS C X (.Assign [.Subscript a b p2] c pos) (evS F (.setidx x y z)) := by
  refine PS.imp (ps_asg hv (pg_sub ha hb (set_any ok) fun v => sub_tree hs v) (noSwapS hc _ _ _) (noStores ht _ _) rfl) ?_
  rintro D σ H ⟨α, ρ, M, o, M', s, e, h, q⟩
  simp only [evS] at h
  obtain ⟨dv, M1, h1, h⟩ := bnd_some_of h
  obtain ⟨dx, M2, h2, h⟩ := bnd_some_of h
  obtain ⟨di, M3, h3, h⟩ := bnd_some_of h
  obtain ⟨M4, h4, e4⟩ := Option.map_eq_some_iff.mp h
  cases e4
  refine ⟨α, ρ, M, dv, M1, s, e, h1, fun α1 w H1 t1 s1 r1 => ?_⟩
  refine ⟨α1, ρ, M1, dx, M2, s1, e.mono s t1, h2, fun α2 u H2 t2 s2 r2 => ?_⟩
  refine ⟨α2, ρ, M2, di, M3, s2, (e.mono s t1).mono s1 t2, h3, fun α3 j H3 t3 s3 r3 => ?_⟩
  refine ⟨α3, M3, dx, di, dv, M', s3, r2.mono s2 t3, r3, (r1.mono s1 t2).mono s2 t3, h4, fun α4 H4 t4 s4 => ?_⟩
  exact q α4 H4 (((t1.trans t2).trans t3).trans t4) s4 σ ((((e.mono s t1).mono s1 t2).mono s2 t3).mono s3 t4)

/-! ### op= -/
theorem noI_tuple : typeLookup (.type "tuple") (dunderI "add") = pure none := by rw [typeLookup_type, builtinLookup_eq_fast]; kernel_rfl
theorem icat_tup {s : Shared} {A : Around} {E : Value → Shared → Prop} {Q : Value → Shared → Prop} {t b : Addr} {vs ws : List Value} (ht : IsTup s.heap t vs.toArray) (hb : IsTup s.heap b ws.toArray)
    (h0 : vs = [] → Q (.ref b) s) (h1 : vs ≠ [] → ws = [] → Q (.ref t) s) (h2 : vs ≠ [] → ws ≠ [] → Q (.ref s.heap.objs.size) { s with heap := s.heap.push { cls := .type "tuple", data := .seq (vs ++ ws).toArray } })
    (hsz : vs.length + ws.length ≤ sizeLine) : wpAny (model X.prog X.w) A (inplaceOp .Add (.ref t) (.ref b)) Q E s := by
  rcases ht with ⟨⟨c1, d1, t1, s1⟩, ho, hc, n, hd⟩
  rcases hb with ⟨⟨c2, d2, t2, s2⟩, ho2, hc2, n2, hd2⟩
  simp only at hc hd hc2 hd2
  subst hc hd hc2 hd2
  refine wpAny_inplaceOp_concat (T := "tuple") ⟨_, ho, rfl⟩ ⟨_, ho2, rfl⟩ noI_tuple noFill_tuple_add seq_tuple_add ?_
  by_cases hv : vs = []
  · exact call_meets PySem.F.slot_tuple_add ⟨_, ho, rfl⟩ PySem.F.entry_tuple_add (PySem.F.args_tuple_add_2 _ _) (tuple_addW0 t b vs.toArray ws.toArray n n2 d1 d2 s1 s2 (by simp [hv])) ⟨ho, ho2, h0 hv⟩
  · by_cases hw : ws = []
    · exact call_meets PySem.F.slot_tuple_add ⟨_, ho, rfl⟩ PySem.F.entry_tuple_add (PySem.F.args_tuple_add_2 _ _) (tuple_addW1 t b vs.toArray ws.toArray n n2 d1 d2 s1 s2 (by simpa using hv) (by simp [hw])) ⟨ho, ho2, h1 hv hw⟩
    · refine call_meets PySem.F.slot_tuple_add ⟨_, ho, rfl⟩ PySem.F.entry_tuple_add (PySem.F.args_tuple_add_2 _ _) (tuple_addW2 t b vs.toArray ws.toArray n n2 d1 d2 s1 s2 (by simpa using hv) (by simpa using hw) (by simpa using hsz)) ⟨ho, ho2, ?_⟩
      have e : vs.toArray ++ ws.toArray = (vs ++ ws).toArray := by simp
      rw [e]
      exact h2 hv hw
def rAug (C : PC) (op : BOp) : R2 := fun x y H Q => ∃ α M d e z M', RS C α M H ∧ RD C.sa α H d x ∧ RD C.sa α H e y ∧ augD M op d e = some (z, M') ∧ ∀ α' v H', Step α α' H H' → RS C α' M' H' → RD C.sa α' H' z v → Q v H'
theorem op_aug (op : BOp) : OpR X (inplaceOp (bop op)) (rAug C op) := by
  intro pins s σ H x y v u Q I rx ry h
  obtain ⟨α, M, d, e, z, M', S, rd, re, h, q⟩ := h
  cases op with
  | add =>
    cases rd with
    | int i =>
      cases re with
      | int j => simp only [augD, binD] at h; cases h; exact iop_add pins s σ H _ _ v u Q I rx ry ⟨i, j, rfl, rfl, done S (.int _) q⟩
      | _ => simp [augD, binD] at h
    | @str x hx =>
      cases re with
      | @str y hy =>
        simp only [augD, binD] at h
        split at h
        · rename_i hl
          cases h
          refine iop_add_str pins s σ H _ _ v u Q I rx ry ⟨_, _, rfl, rfl, by rw [ofString_length, ofString_length, line_eq]; exact hl, ?_⟩
          rw [← ofString_append]
          exact done S (.str (by rw [lenS_append]; exact hl)) q
        · cases h
      | _ => simp [augD, binD] at h
    | @tup a ds vs ha r =>
      cases re with
      | @tup b es us hb r2 =>
        simp only [augD, binD] at h
        split at h
        · rename_i hl
          cases h
          cases rx; cases ry
          obtain ⟨_, i1, v1, p1⟩ := I.hok a _ ha
          obtain ⟨_, i2, v2, p2⟩ := I.hok b _ hb
          have l1 := r.length
          have l2 := r2.length
          have l3 := v1.length
          have l4 := v2.length
          refine icat_tup p1 p2 (fun z => ?_) (fun _ z => ?_) (fun _ _ => ?_) (by rw [line_eq]; omega)
          · subst z
            cases v1; cases r
            exact ⟨.ref b, H, I, rfl, done S (.tup hb r2) q⟩
          · subst z
            cases v2; cases r2
            exact ⟨.ref a, H, I, rfl, done S (.tup ha r) (by simpa using q)⟩
          · refine ⟨.ref s.heap.objs.size, _, I.laid (t' := s.toks) (o := .tup (vs ++ us)) (fun c ob z => Heap.get?_push_of_some _ z) (Nat.le_refl _) ?_, rfl, done_tup S (r.append r2) (I.hok.fresh (Nat.le_refl _)) q⟩
            exact ⟨by rw [List.length_append, line_eq]; omega, _, v1.append v2, IsTup.new _ _⟩
        · cases h
      | _ => simp [augD, binD] at h
    | _ => simp [augD] at h
  | sub =>
    cases rd with
    | int i =>
      cases re with
      | int j => simp only [augD, binD] at h; cases h; exact iop_sub pins s σ H _ _ v u Q I rx ry ⟨i, j, rfl, rfl, done S (.int _) q⟩
      | _ => simp [augD, binD] at h
    | _ => simp [augD] at h
  | _ => simp [augD] at h
theorem ls_aug {i : Nat} {n : Str} (op : BOp) (hN : X.N.Nodup) (hs : Sto X i n) (ha : LE C X a (evE F x)) : LS C X (.AugAssign (.Name n p2) (bop op) a pos) (evS F (.aug i op x)) := by
  refine PS.imp (ps_aug hN hs.1 hs.2.1 ha (op_aug (C := C) op) hs.2.2) ?_
  rintro D σ H ⟨α, ρ, M, o, M', s, e, h, q⟩
  simp only [evS] at h
  split at h
  · rename_i d hd
    obtain ⟨w, hw1, hw2⟩ := e.at_ i d hd
    obtain ⟨dy, M1, h1, h⟩ := bnd_some_of h
    obtain ⟨dz, M2, h2, h⟩ := bnd_some_of h
    cases h
    refine ⟨w, hw1, α, ρ, M, dy, M1, s, e, h1, fun α1 v H1 t1 s1 r1 => ?_⟩
    exact ⟨α1, M1, d, dy, dz, _, s1, hw2.mono s t1, r1, h2, fun α2 v2 H2 t2 s2 r2 => q α2 H2 (t1.trans t2) s2 _ (((e.mono s t1).mono s1 t2).set r2 i)⟩
  · cases h
theorem ls_augattr {f : String} (op : BOp) (ok : OkX C k sx X) (hf : AtOk C f) (ha : LE C X a (evE F x)) (hb : LE C X b (evE F y)) : LS C X (.AugAssign (.Attribute a (Str.ofString f) p2) (bop op) b pos) (evS F (.augattr x f op y)) := by
  refine PS.imp (ps_fldaug ha hb (fun pins s σ H x y u v Q I rx ry h => op_aug (C := C) op pins s σ H x y u v Q I rx ry h)) ?_
  rintro D σ H ⟨α, ρ, M, o, M', s, e, h, q⟩
  simp only [evS] at h
  obtain ⟨xo, M1, h1, h⟩ := bnd_some_of h
  refine ⟨α, ρ, M, xo, M1, s, e, h1, fun α1 w H1 t1 s1 r1 => ?_⟩
  cases xo with
  | ref p =>
    simp only at h
    cases e1 : M1[p]? with
    | none => rw [e1] at h; cases h
    | some o1 =>
      rw [e1] at h
      cases o1 with
      | ins c fs =>
        simp only at h
        obtain ⟨a', Ca, dx, vs, rfl, g2, g3, g4, g5⟩ := s1.ins e1 r1
        cases e2 : fget f fs with
        | none => rw [e2] at h; cases h
        | some old =>
          rw [e2] at h
          simp only at h
          obtain ⟨dy, M2, h2, h⟩ := bnd_some_of h
          obtain ⟨dz, M3, h3, h⟩ := bnd_some_of h
          obtain ⟨ov, g6, g7⟩ := (g5.look (f := f)).1 _ e2
          obtain ⟨k1, k2⟩ := hf.ok c Ca g4
          rw [ok.hK]
          refine ⟨a', Ca, dx, vs, ov, rfl, g3, k1, k2, g6, α1, ρ, M1, dy, M2, s1, e.mono s t1, h2, fun α2 v2 H2 t2 s2 r2 => ?_⟩
          refine ⟨α2, M2, old, dy, dz, M3, s2, g7.mono s1 t2, r2, h3, fun α3 v3 H3 t3 s3 r3 => ?_⟩
          cases e3 : M3[p]? with
          | none => rw [e3] at h; cases h
          | some o3 =>
            rw [e3] at h
            cases o3 with
            | ins c' fs' =>
              simp only at h
              split at h
              · rename_i hl
                cases h
                obtain ⟨a2, Ca2, dx2, vs2, j1, j2, j3, j4, j5⟩ := s3.ins e3 (.ref (t3.get (t2.get g2)))
                cases j1
                obtain ⟨rfl, hl⟩ := hl
                rw [g4] at j4
                cases j4
                obtain ⟨t4, s4⟩ := s3.putIns (dx := dx2) j2 g4 (j5.put (f := f) r3)
                exact ⟨dx2, vs2, j3, by rw [j5.length]; exact hl, q α3 _ (((t1.trans t2).trans t3).trans t4) s4 σ ((((e.mono s t1).mono s1 t2).mono s2 t3).mono s3 t4)⟩
              · cases h
            | _ => cases h
      | _ => cases h
  | _ => cases h
end
end Pw

end
section
set_option maxHeartbeats 1000000
/-! Snd16: the checker: a term of the evaluator's syntax is the text's. -/
namespace Pw
open PySem PySem.Spec PyProof.Rows L2

/-- names that the facts are about -/
structure Tb where
  fns : List String
  cls : List String
  ats : List String
  mts : List String
def lkS (S : Sx) (x : Str) : Option NameKind := S.sc.names.lookup x
def visB (S : Sx) (x : Str) : Bool := match lkS S x with
  | some .local => true
  | some .cell => true
  | some .free => true
  | _ => false
def locB (S : Sx) (x : Str) : Bool := match lkS S x with
  | some .local => true
  | some .cell => true
  | _ => false
def isLoc (S : Sx) (x : Str) : Bool := match lkS S x with
  | some .local => true
  | _ => false
def glB (S : Sx) (x : Str) : Bool := match lkS S x with
  | some .globalImplicit => true
  | _ => false
def okNm (x : Str) : Bool := !(x == ("__debug__" : Str)) && !(x == ("__classdict__" : Str))
def stoB (S : Sx) (i : Nat) (x : Str) : Bool := decide (S.N[i]? = some x) && locB S x && (S.fn x || isLoc S x)
def namesB (S : Sx) : List Nat → List Expr → Bool
  | [], [] => true
  | i :: is, .Name x _ :: es => stoB S i x && namesB S is es
  | _, _ => false
def patB (S : Sx) : Pat → Expr → Bool
  | .name i, .Name x _ => stoB S i x
  | .tup is, .Tuple es _ _ => namesB S is es
  | _, _ => false
def isNil : E → Bool
  | .nil => true
  | _ => false
def isNon : E → Bool
  | .non => true
  | _ => false
def isTru : E → Bool
  | .bl true => true
  | _ => false
def ownOf (S : Sx) (vs : List Nat) : List (Str × Nat) := vs.map fun i => ((S.N[i]?).getD (Str.ofString ""), i)
/-- the scope of a generator expression -/
def genC (N : List Str) (sc scope : Scope) (vs : List Nat) : Bool :=
  decide (scope.kind = .function) && !scope.isCoroutine && scope.names.all (fun y => !decide (y.2 = .cell)) && decide (scope.names.lookup (".0" : Str) = some NameKind.local) &&
  scope.names.all (fun y => !decide (y.2 = .free) || (decide (sc.names.lookup y.1 = some .cell) || decide (sc.names.lookup y.1 = some .free))) &&
  N.zipIdx.all (fun z => !decide (scope.names.lookup z.1 = some .local) || vs.contains z.2)
mutual
def ckE (T : Tb) : E → Sx → Expr → Bool
  | .var i, S, x => match x with
    | .Name n _ => decide (S.N[i]? = some n) && visB S n && okNm n
    | _ => false
  | .int i, S, x => match x with
    | .Constant (.int j) _ _ => decide (i = j)
    | _ => false
  | .bl b, S, x => match x with
    | .Constant (.bool c) _ _ => b == c
    | _ => false
  | .non, S, x => match x with
    | .Constant .none _ _ => true
    | _ => false
  | .str s, S, x => match x with
    | .Constant (.str n) _ _ => decide (n = Str.ofString s) && decide (lenS s ≤ 1000)
    | _ => false
  | .tup r, S, x => match x with
    | .Tuple es _ _ => ckEs T r S es && decide (es.length ≤ 1000)
    | _ => false
  | .lst r, S, x => match x with
    | .List es _ => ckEs T r S es && decide (es.length ≤ 1000)
    | _ => false
  | .bin op a b, S, x => match x with
    | .BinOp l o r _ => decide (o = bop op) && ckE T a S l && ckE T b S r
    | _ => false
  | .neg a, S, x => match x with
    | .UnaryOp .USub l _ => ckE T a S l
    | _ => false
  | .no a, S, x => match x with
    | .UnaryOp .Not l _ => ckE T a S l
    | _ => false
  | .and a b, S, x => match x with
    | .BoolOp .And (l :: r :: rest) p => ckE T a S l && (match rest with
      | [] => ckE T b S r
      | _ :: _ => ckE T b S (.BoolOp .And (r :: rest) p))
    | _ => false
  | .or a b, S, x => match x with
    | .BoolOp .Or (l :: r :: rest) p => ckE T a S l && (match rest with
      | [] => ckE T b S r
      | _ :: _ => ckE T b S (.BoolOp .Or (r :: rest) p))
    | _ => false
  | .cmp op a b, S, x => match x with
    | .Compare l [o] [r] _ => decide (o = cop op) && decide (op ≠ .ltl) && !isSet r && ckE T a S l && ckE T b S r
    | _ => false
  | .isN a, S, x => match x with
    | .Compare l [.Is] [.Constant .none _ _] _ => ckE T a S l
    | _ => false
  | .notN a, S, x => match x with
    | .Compare l [.IsNot] [.Constant .none _ _] _ => ckE T a S l
    | _ => false
  | .ite c a b, S, x => match x with
    | .IfExp t l r _ => ckE T c S t && ckE T a S l && ckE T b S r
    | _ => false
  | .idx a i, S, x => match x with
    | .Subscript l j _ => notSlice j && ckE T a S l && ckE T i S j
    | _ => false
  | .slice a lo hi, S, x => match x with
    | .Subscript l (.Slice u v none _) _ => ckE T a S l && (match u with
      | none => isNon lo
      | some u => !isNon lo && ckE T lo S u) && (match v with
      | none => isNon hi
      | some v => !isNon hi && ckE T hi S v)
    | _ => false
  | .attr a f, S, x => match x with
    | .Attribute l g _ => decide (g = Str.ofString f) && T.ats.contains f && notSuper l && ckE T a S l
    | _ => false
  | .call f r, S, x => match x with
    | .Call (.Name n _) es [] _ => decide (n = Str.ofString f) && T.fns.contains f && glB S n && okNm n && noStars es && ckEs T r S es
    | _ => false
  | .new f r, S, x => match x with
    | .Call (.Name n _) es [] _ => decide (n = Str.ofString f) && T.cls.contains f && glB S n && okNm n && noStars es && ckEs T r S es
    | _ => false
  | .meth a m r, S, x => match x with
    | .Call (.Attribute l g ap) es [] p => decide (g = Str.ofString m) && T.mts.contains m && notSuper l && noStars es && decide (es.length < 30) && (ap.endLine == p.line) && ckE T a S l && ckEs T r S es
    | _ => false
  | .glob f, S, x => match x with
    | .Name n _ => decide (n = Str.ofString f) && glB S n && okNm n
    | _ => false
  | .bi b r, S, x => match x with
    | .Call (.Name n _) (e :: es) [] _ => decide (n = Str.ofString (biName b)) && glB S n && noStars (e :: es) && ckEs T r S (e :: es)
    | _ => false
  | .isi a t, S, x => match x with
    | .Call (.Name n _) [l, .Name m _] [] _ => decide (n = Str.ofString "isinstance") && decide (m = Str.ofString (tyName t)) && glB S n && glB S m && notStar l && ckE T a S l
    | _ => false
  | .bm m a r, S, x => match x with
    | .Call (.Attribute l g ap) es [] p => bmSup m && decide (g = Str.ofString (bmName m)) && notSuper l && noStars es && decide (es.length < 30) && (ap.endLine == p.line) && ckE T a S l && ckEs T r S es
    | _ => false
  | .coll .tuple (.cons a r), S, x => match x with
    | .Call (.Name n _) [l] [] _ => decide (n = Str.ofString "tuple") && glB S n && notStar l && isNil r && ckE T a S l
    | _ => false
  | .coll .list (.cons a r), S, x => match x with
    | .Call (.Name n _) [l] [] _ => decide (n = Str.ofString "list") && glB S n && notStar l && isNil r && ckE T a S l
    | _ => false
  | .coll .list (.range (.cons a .nil)), S, x => match x with
    | .Call (.Name n _) [.Call (.Name m _) [e] [] _] [] _ => decide (n = Str.ofString "list") && decide (m = Str.ofString "range") && glB S n && glB S m && notStar e && ckE T a S e
    | _ => false
  | .coll .list (.range (.cons a (.cons b .nil))), S, x => match x with
    | .Call (.Name n _) [.Call (.Name m _) [e, e2] [] _] [] _ => decide (n = Str.ofString "list") && decide (m = Str.ofString "range") && glB S n && glB S m && notStar e && notStar e2 && ckE T a S e && ckE T b S e2
    | _ => false
  | .lcomp (.for1 vs p it c (.cons a r)), S, x => match x with
    | .ListComp elt [⟨tg, iter, ifs, as⟩] scope _ => decide (as = 0) && isNil r && blkC S.N S.sc scope (ownOf S vs) && (patVars p).all (vs.contains ·) && !isSet iter && ckIt T it S iter tg && patB (S.blk scope) p tg && (match ifs with
      | [] => isTru c
      | [t] => ckE T c (S.blk scope) t
      | _ => false) && ckE T a (S.blk scope) elt
    | _ => false
  | .dcomp (.for1 vs p it c (.cons a (.cons b r))), S, x => match x with
    | .DictComp kx vx [⟨tg, iter, ifs, as⟩] scope _ => decide (as = 0) && isNil r && blkC S.N S.sc scope (ownOf S vs) && (patVars p).all (vs.contains ·) && !isSet iter && ckIt T it S iter tg && patB (S.blk scope) p tg && (match ifs with
      | [] => isTru c
      | [t] => ckE T c (S.blk scope) t
      | _ => false) && ckE T a (S.blk scope) kx && ckE T b (S.blk scope) vx
    | _ => false
  | .gtup (.for1 vs p it c (.cons a r)), S, x => match x with
    | .Call (.Name n _) [.GeneratorExp elt [⟨tg, iter, ifs, as⟩] scope _] [] _ => decide (n = Str.ofString "tuple") && glB S n && (decide (as = 0) && isNil r && S.tb.isSome && genC S.N S.sc scope vs && (patVars p).all (vs.contains ·) && !isSet iter && !isListE iter && ckIt T it S iter tg && patB (S.gen scope) p tg && (match ifs with
      | [] => isTru c
      | [t] => ckE T c (S.gen scope) t
      | _ => false) && ckE T a (S.gen scope) elt)
    | _ => false
  | .gany (.for1 vs p it c (.cons a r)), S, x => match x with
    | .Call (.Name n _) [.GeneratorExp elt [⟨tg, iter, ifs, as⟩] scope _] [] _ => decide (n = Str.ofString "any") && glB S n && (decide (as = 0) && isNil r && S.tb.isSome && genC S.N S.sc scope vs && (patVars p).all (vs.contains ·) && !isSet iter && !isListE iter && ckIt T it S iter tg && patB (S.gen scope) p tg && (match ifs with
      | [] => isTru c
      | [t] => ckE T c (S.gen scope) t
      | _ => false) && ckE T a (S.gen scope) elt)
    | _ => false
  | .gall (.for1 vs p it c (.cons a r)), S, x => match x with
    | .Call (.Name n _) [.GeneratorExp elt [⟨tg, iter, ifs, as⟩] scope _] [] _ => decide (n = Str.ofString "all") && glB S n && (decide (as = 0) && isNil r && S.tb.isSome && genC S.N S.sc scope vs && (patVars p).all (vs.contains ·) && !isSet iter && !isListE iter && ckIt T it S iter tg && patB (S.gen scope) p tg && (match ifs with
      | [] => isTru c
      | [t] => ckE T c (S.gen scope) t
      | _ => false) && ckE T a (S.gen scope) elt)
    | _ => false
  | .dic r, S, x => match x with
    | .Dict [] [] _ => isNil r
    | _ => false
  | _, _, _ => false
def ckEs (T : Tb) : E → Sx → List Expr → Bool
  | .nil, _, es => match es with
    | [] => true
    | _ => false
  | .cons a r, S, es => match es with
    | e :: es => notStar e && ckE T a S e && ckEs T r S es
    | _ => false
  | _, _, _ => false
def ckIt (T : Tb) : E → Sx → Expr → Expr → Bool
  | .range r, S, x, _ => match x with
    | .Call (.Name n _) es [] _ => decide (n = Str.ofString "range") && glB S n && noStars es && (es.length == 1 || es.length == 2 || es.length == 3) && ckEs T r S es
    | _ => false
  | .enum a, S, x, tg => match x with
    | .Call (.Name n _) [l] [] _ => decide (n = Str.ofString "enumerate") && glB S n && notStar l && isTupE tg && ckE T a S l
    | _ => false
  | .cons a r, S, x, _ => isNil r && ckE T a S x
  | _, _, _, _ => false
end
/-- does a list comprehension go straight to its name -/
def isLcE : E → Bool
  | .lcomp (.for1 _ _ _ _ (.cons _ _)) => true
  | _ => false
def isSimple : S → Bool
  | .seq _ _ => false
  | .skip => false
  | _ => true
def lcB (S : Sx) (n : Str) (np : Pos) (e : E) : Expr → Bool
  | .ListComp _ _ scope pos => isLcE e && isLoc S n && decide (S.sc.kind = .function) && (np.line == pos.line) && !(scope.names.any fun (m, k) => m == n && (k == .local || k == .cell))
  | x => !isComp x
def ckSs (T : Tb) : S → Sx → List Stmt → Bool
  | .skip, _, sts => (sts.dropWhile isDoc).isEmpty
  | .seq a b, S, sts => match sts.dropWhile isDoc with
    | st :: rest => isSimple a && ckSs T a S [st] && ckSs T b S rest
    | _ => false
  | .expr e, S, sts => match sts.dropWhile isDoc with
    | [.Expr x _] => !isComp x && ckE T e S x
    | _ => false
  | .asg p e, S, sts => match sts.dropWhile isDoc with
    | [.Assign [tg] x _] => (match p, tg with
      | .name i, .Name n np => stoB S i n && lcB S n np e x
      | .tup is, .Tuple es _ _ => namesB S is es && !isComp x && !isTupE x
      | _, _ => false) && ckE T e S x
    | _ => false
  | .setattr o f e, S, sts => match sts.dropWhile isDoc with
    | [.Assign [.Attribute l g _] x _] => decide (g = Str.ofString f) && T.ats.contains f && ckE T o S l && ckE T e S x
    | _ => false
  | .setidx o i e, S, sts => match sts.dropWhile isDoc with
    | [.Assign [.Subscript l j _] x _] => notSlice j && !isComp x && !isTupE x && ckE T o S l && ckE T i S j && ckE T e S x
    | _ => false
  | .aug i op e, S, sts => match sts.dropWhile isDoc with
    | [.AugAssign (.Name n _) o x _] => decide (o = bop op) && stoB S i n && ckE T e S x
    | _ => false
  | .augattr o f op e, S, sts => match sts.dropWhile isDoc with
    | [.AugAssign (.Attribute l g _) oo x _] => decide (oo = bop op) && decide (g = Str.ofString f) && T.ats.contains f && ckE T o S l && ckE T e S x
    | _ => false
  | .ite c a b, S, sts => match sts.dropWhile isDoc with
    | [.If t A B _] => ckE T c S t && ckSs T a S A && ckSs T b S B
    | _ => false
  | .while c b, S, sts => match sts.dropWhile isDoc with
    | [.While t B [] _] => ckE T c S t && ckSs T b S B
    | _ => false
  | .for p it b, S, sts => match sts.dropWhile isDoc with
    | [.For tg iter B [] _] => !isSet iter && ckIt T it S iter tg && patB S p tg && ckSs T b S B
    | _ => false
  | .ret e, S, sts => match sts.dropWhile isDoc with
    | [.Return (some x) _] => ckE T e S x
    | [.Return none _] => isNon e
    | _ => false
  | .brk, S, sts => match sts.dropWhile isDoc with
    | [.Break _] => true
    | _ => false
  | .cont, S, sts => match sts.dropWhile isDoc with
    | [.Continue _] => true
    | _ => false
end Pw

end
section
set_option maxHeartbeats 2000000
/-! Snd17: the checker is right: expressions. -/
namespace Pw
open PySem PySem.Spec PyProof.Rows L2

structure Facts (C : PC) (k : Nat) (F : FT) (T : Tb) : Prop where
  P : F.P = C.P
  cal : ∀ f, T.fns.contains f = true → CalC C k F f
  new : ∀ c, T.cls.contains c = true → ∃ j, j + 1 ≤ k ∧ NewC C j F c
  at_ : ∀ f, T.ats.contains f = true → AtOk C f
  met : ∀ m, T.mts.contains m = true → MetOk C k F m
  gl : ∀ x d, C.P.glob x = some d → GlOk C x d
  bu : ∀ x, ["len", "str", "int", "bool", "max", "min", "isinstance", "tuple", "list", "range", "enumerate", "zip", "sorted", "set", "sum", "dict", "any", "all"].contains x = true → C.mg (Str.ofString x) = none
  tb : ∀ p ∈ C.tabs, GxR.TabB C.base C.mg p.1 p.2

section
variable {C : PC} {k : Nat} {S : Sx} {X : Cx} {F : FT} {T : Tb}
theorem vis_of (ok : OkX C k S X) {x : Str} (h : visB S x = true) : Vis X.env.scope x := by
  unfold visB lkS at h
  rw [← ok.hsc] at h
  split at h
  · exact .inl (by assumption)
  · exact .inr (.inl (by assumption))
  · exact .inr (.inr (by assumption))
  · cases h
theorem loc_of (ok : OkX C k S X) {x : Str} (h : locB S x = true) : Loc X.env.scope x := by
  unfold locB lkS at h
  rw [← ok.hsc] at h
  split at h
  · exact .inl (by assumption)
  · exact .inr (by assumption)
  · cases h
theorem isLoc_of {x : Str} (h : isLoc S x = true) : S.sc.names.lookup x = some .local := by
  unfold isLoc lkS at h
  split at h
  · assumption
  · cases h
theorem gl_of (ok : OkX C k S X) {x : Str} (h : glB S x = true) : Gl X x := by
  unfold glB lkS at h
  rw [← ok.hsc] at h
  split at h
  · assumption
  · cases h
theorem okNm_of {x : Str} (h : okNm x = true) : (x == ("__debug__" : Str)) = false ∧ (x == ("__classdict__" : Str)) = false := by
  unfold okNm at h
  simpa using h
theorem sto_of (ok : OkX C k S X) {i : Nat} {x : Str} (h : stoB S i x = true) : Sto X i x := by
  unfold stoB at h
  simp only [Bool.and_eq_true, Bool.or_eq_true, decide_eq_true_eq] at h
  obtain ⟨⟨h1, h2⟩, h3⟩ := h
  refine ⟨by rw [ok.hN]; exact h1, loc_of ok h2, ?_⟩
  rcases h3 with h3 | h3
  · exact .inl (by rw [ok.hfn]; exact h3)
  · exact .inr (by rw [ok.hsc]; exact isLoc_of h3)
theorem names_of (ok : OkX C k S X) : ∀ {is : List Nat} {es : List Expr}, namesB S is es = true → Stos X is es
  | [], [], _ => .nil
  | [], _ :: _, h => by cases h
  | _ :: _, [], h => by cases h
  | i :: is, e :: es, h => by
    cases e with
    | Name x p =>
      simp only [namesB, Bool.and_eq_true] at h
      exact .cons (sto_of ok h.1) (names_of ok h.2)
    | _ => cases h
theorem pat_of (ok : OkX C k S X) {p : Pat} {tg : Expr} (h : patB S p tg = true) : PG X tg (gOf C p) := by
  have hN : X.N.Nodup := by rw [ok.hN]; exact ok.nd
  unfold patB at h
  split at h
  · exact pg_nameP hN (sto_of ok h)
  · exact pg_tupP hN ok.calm ok.hK (names_of ok h)
  · cases h
theorem bu_of (ok : OkX C k S X) (Fa : Facts C k F T) {n : Str} {x : String} (hn : n = Str.ofString x) (hg : glB S n = true) (hx : ["len", "str", "int", "bool", "max", "min", "isinstance", "tuple", "list", "range", "enumerate", "zip", "sorted", "set", "sum", "dict", "any", "all"].contains x = true) : BuOk C X (Str.ofString x) :=
  ⟨by rw [← hn]; exact gl_of ok hg, Fa.bu x hx⟩
theorem evE_and (a b : E) : evE F (.and a b) = evAnd (evE F a) (evE F b) := by funext ρ M; simp only [evE, evAnd] <;> rfl
theorem evE_or (a b : E) : evE F (.or a b) = evOr (evE F a) (evE F b) := by funext ρ M; simp only [evE, evOr] <;> rfl
theorem evE_ite (c a b : E) : evE F (.ite c a b) = evIf (evE F c) (evE F a) (evE F b) := by funext ρ M; simp only [evE, evIf] <;> rfl
def P1 (C : PC) (k : Nat) (F : FT) (T : Tb) (e : E) : Prop := ∀ (S : Sx) (X : Cx) (x : Expr), OkX C k S X → ckE T e S x = true →
  LE C X x (evE F e) ∧ LT C X x (fun ρ M => truthR (evE F e ρ M)) ∧ ∀ op es p, x = .BoolOp op es p → LW C X x (fun ρ M => truthR (evE F e ρ M))
def P2 (C : PC) (k : Nat) (F : FT) (T : Tb) (e : E) : Prop := ∀ (S : Sx) (X : Cx) (es : List Expr), OkX C k S X → ckEs T e S es = true → LA C X es (evEs F e) ∧ rowLen e = some es.length
def P3 (C : PC) (k : Nat) (F : FT) (T : Tb) (e : E) : Prop := ∀ (S : Sx) (X : Cx) (x : Expr), OkX C k S X → ∀ tg, ckIt T e S x tg = true → LI C X F tg x e
theorem p1_of {x : Expr} {f : VEnv → Mem → R D} (ok : OkX C k S X) (h : LE C X x f) (hp : plainTest x = true) : LE C X x f ∧ LT C X x (fun ρ M => truthR (f ρ M)) ∧ ∀ op es p, x = .BoolOp op es p → LW C X x (fun ρ M => truthR (f ρ M)) :=
  ⟨h, lt_truth ok.hK h hp, fun op es p e => by subst e; cases hp⟩
theorem p1_not {x : Expr} {f : VEnv → Mem → R D} (h : LE C X x f) (ht : LT C X x (fun ρ M => truthR (f ρ M))) (hb : ∀ op es p, x ≠ .BoolOp op es p) : LE C X x f ∧ LT C X x (fun ρ M => truthR (f ρ M)) ∧ ∀ op es p, x = .BoolOp op es p → LW C X x (fun ρ M => truthR (f ρ M)) :=
  ⟨h, ht, fun op es p e => absurd e (hb op es p)⟩
theorem p1_bool {x : Expr} {f : VEnv → Mem → R D} (h : LE C X x f) (ht : LW C X x (fun ρ M => truthR (f ρ M))) : LE C X x f ∧ LT C X x (fun ρ M => truthR (f ρ M)) ∧ ∀ op es p, x = .BoolOp op es p → LW C X x (fun ρ M => truthR (f ρ M)) :=
  ⟨h, ht.pt, fun op es p e => ht⟩
/-- the rest of an and, of an or -/
theorem bool_tail {op : BoolOp} {b : E} {r : Expr} {rest : List Expr} {p : Pos} (ok : OkX C k S X) (hb : P1 C k F T b) (h : (match rest with
      | [] => ckE T b S r
      | _ :: _ => ckE T b S (.BoolOp op (r :: rest) p)) = true) : LE C X (.BoolOp op (r :: rest) p) (evE F b) ∧ LW C X (.BoolOp op (r :: rest) p) (fun ρ M => truthR (evE F b ρ M)) := by
  cases rest with
  | nil =>
    obtain ⟨h1, h2, _⟩ := hb S X r ok h
    exact ⟨pe_one h1, lw_one h2⟩
  | cons q qs =>
    obtain ⟨h1, h2, h3⟩ := hb S X _ ok h
    exact ⟨h1, h3 _ _ _ rfl⟩
theorem isNil_of {r : E} (h : isNil r = true) : r = .nil := by cases r <;> first | rfl | cases h
theorem isNon_of {r : E} (h : isNon r = true) : r = .non := by cases r <;> first | rfl | cases h
theorem isNon_no {r : E} (h : (!isNon r) = true) : r ≠ .non := by intro e; subst e; cases h
theorem isTru_of {r : E} (h : isTru r = true) : r = .bl true := by
  cases r with
  | bl b => cases b <;> first | rfl | cases h
  | _ => cases h

theorem ownOf_map (S : Sx) (vs : List Nat) : (ownOf S vs).map (·.2) = vs := by
  unfold ownOf
  rw [List.map_map]
  exact List.map_id _
/-- a list comprehension's parts -/
structure LcP (C : PC) (k : Nat) (F : FT) (T : Tb) (S : Sx) (X : Cx) (elt tg iter : Expr) (ifs : List Expr) (scope : Scope) (vs : List Nat) (p : Pat) (it c a : E) : Prop where
  hb : BlkOk S.N S.sc scope (ownOf S vs)
  hp : ∀ i ∈ patVars p, i ∈ vs
  hset : isSet iter = false
  hi : LI C X F tg iter it
  hg : ∀ X', OkX C k (S.blk scope) X' → PG X' tg (gOf C p)
  ht : ∀ X', OkX C k (S.blk scope) X' → LTs C X' ifs (fun ρ M => truthR (evE F c ρ M))
  he : ∀ X', OkX C k (S.blk scope) X' → LE C X' elt (evE F a)
theorem lc_parts {elt tg iter : Expr} {ifs : List Expr} {as : Int} {scope : Scope} {vs : List Nat} {p : Pat} {it c a r : E} (hi : P3 C k F T it) (hc : P1 C k F T c) (ha : P1 C k F T a) (ok : OkX C k S X)
    (h : (decide (as = 0) && isNil r && blkC S.N S.sc scope (ownOf S vs) && (patVars p).all (vs.contains ·) && !isSet iter && ckIt T it S iter tg && patB (S.blk scope) p tg && (match ifs with
      | [] => isTru c
      | [t] => ckE T c (S.blk scope) t
      | _ => false) && ckE T a (S.blk scope) elt) = true) : as = 0 ∧ r = .nil ∧ LcP C k F T S X elt tg iter ifs scope vs p it c a := by
  simp only [Bool.and_eq_true, decide_eq_true_eq, Bool.not_eq_true', List.all_eq_true, List.contains_iff_mem] at h
  obtain ⟨⟨⟨⟨⟨⟨⟨⟨h1, h2⟩, h3⟩, h4⟩, h5⟩, h6⟩, h7⟩, h8⟩, h9⟩ := h
  refine ⟨h1, isNil_of h2, ⟨blkOk_by h3, h4, h5, hi S X _ ok tg h6, fun X' ok' => pat_of ok' h7, fun X' ok' => ?_, fun X' ok' => (ha _ X' _ ok' h9).1⟩⟩
  split at h8
  · rw [isTru_of h8]; exact lts_nil
  · exact lts_one (hc _ X' _ ok' h8).2.1
  · cases h8
theorem genB_of {N : List Str} {sc scope : Scope} {vs : List Nat} (h : genC N sc scope vs = true) : GenB N sc scope vs := by
  unfold genC at h
  simp only [Bool.and_eq_true, decide_eq_true_eq, Bool.not_eq_true', List.all_eq_true, Bool.or_eq_true, decide_eq_false_iff_not, List.contains_iff_mem] at h
  obtain ⟨⟨⟨⟨⟨h1, h2⟩, h3⟩, h4⟩, h5⟩, h6⟩ := h
  refine ⟨h1, h2, h3, h4, fun y hy e => ?_, fun i x hx hl => ?_⟩
  · rcases h5 y hy with z | z
    · exact absurd e z
    · exact z
  · rcases h6 (x, i) (by rw [List.mem_zipIdx_iff_getElem?]; simpa using hx) with z | z
    · exact absurd hl z
    · exact z
/-- a generator expression's parts -/
theorem gx_parts {elt tg iter : Expr} {ifs : List Expr} {as : Int} {scope : Scope} {vs : List Nat} {p : Pat} {it c a r : E} (hi : P3 C k F T it) (hc : P1 C k F T c) (ha : P1 C k F T a) (ok : OkX C k S X)
    (h : (decide (as = 0) && isNil r && S.tb.isSome && genC S.N S.sc scope vs && (patVars p).all (vs.contains ·) && !isSet iter && !isListE iter && ckIt T it S iter tg && patB (S.gen scope) p tg && (match ifs with
      | [] => isTru c
      | [t] => ckE T c (S.gen scope) t
      | _ => false) && ckE T a (S.gen scope) elt) = true) : as = 0 ∧ r = .nil ∧ GxP C k F S X elt tg iter ifs scope vs p it c a := by
  simp only [Bool.and_eq_true, decide_eq_true_eq, Bool.not_eq_true', List.all_eq_true, List.contains_iff_mem] at h
  obtain ⟨⟨⟨⟨⟨⟨⟨⟨⟨⟨h1, h2⟩, h3⟩, h4⟩, h5⟩, h6⟩, h7⟩, h8⟩, h9⟩, h10⟩, h11⟩ := h
  refine ⟨h1, isNil_of h2, ⟨Option.isSome_iff_exists.mp h3, genB_of h4, h5, noFoldG h6 h7 X.env, hi S X _ ok tg h8, fun X' ok' => pat_of ok' h9, fun X' ok' => ?_, fun X' ok' => (ha _ X' _ ok' h11).1⟩⟩
  split at h10
  · rw [isTru_of h10]; exact lts_nil
  · exact lts_one (hc _ X' _ ok' h10).2.1
  · cases h10
theorem isTupE_of {e : Expr} (h : isTupE e = true) : ∃ es k p, e = .Tuple es k p := by
  cases e <;> first | exact ⟨_, _, _, rfl⟩ | exact absurd h (by simp [isTupE])
theorem snd_all (Fa : Facts C k F T) : ∀ (n : Nat) (e : E), sizeOf e < n → P1 C k F T e ∧ P2 C k F T e ∧ P3 C k F T e := by
  intro n
  induction n with
  | zero => intro e h; exact absurd h (Nat.not_lt_zero _)
  | succ n ih =>
    intro e hsz
    refine ⟨?_, ?_, ?_⟩
    · intro S X x ok h
      cases e with
      | var i =>
        simp only [ckE] at h
        split at h
        · simp only [Bool.and_eq_true, decide_eq_true_eq] at h
          obtain ⟨⟨h1, h2⟩, h3⟩ := h
          exact p1_of ok (le_var (by rw [ok.hN]; exact h1) (vis_of ok h2) (okNm_of h3).1 (okNm_of h3).2) rfl
        · cases h
      | int i =>
        simp only [ckE] at h
        split at h
        · simp only [decide_eq_true_eq] at h
          subst h
          exact p1_of ok le_int rfl
        · cases h
      | bl b =>
        simp only [ckE] at h
        split at h
        · simp only [beq_iff_eq] at h
          subst h
          exact p1_of ok le_bl rfl
        · cases h
      | non =>
        simp only [ckE] at h
        split at h
        · exact p1_of ok le_non rfl
        · cases h
      | str s =>
        simp only [ckE] at h
        split at h
        · simp only [Bool.and_eq_true, decide_eq_true_eq] at h
          obtain ⟨rfl, h2⟩ := h
          exact p1_of ok (le_str (Nat.le_trans h2 (by decide))) rfl
        · cases h
      | tup r =>
        simp only [ckE] at h
        split at h
        · simp only [Bool.and_eq_true, decide_eq_true_eq] at h
          obtain ⟨h1, h2⟩ := (ih r (by simp at hsz; omega)).2.1 S X _ ok h.1
          exact p1_of ok (le_tup h2 (Nat.le_trans h.2 (by decide)) h1) rfl
        · cases h
      | lst r =>
        simp only [ckE] at h
        split at h
        · simp only [Bool.and_eq_true, decide_eq_true_eq] at h
          obtain ⟨h1, h2⟩ := (ih r (by simp at hsz; omega)).2.1 S X _ ok h.1
          exact p1_of ok (le_lst h2 (Nat.le_trans h.2 (by decide)) h1) rfl
        · cases h
      | bin op a b =>
        simp only [ckE] at h
        split at h
        · simp only [Bool.and_eq_true, decide_eq_true_eq] at h
          obtain ⟨⟨rfl, h1⟩, h2⟩ := h
          exact p1_of ok (le_bin ok.hK op ((ih a (by simp at hsz; omega)).1 S X _ ok h1).1 ((ih b (by simp at hsz; omega)).1 S X _ ok h2).1) rfl
        · cases h
      | neg a =>
        simp only [ckE] at h
        split at h
        · exact p1_of ok (le_neg ((ih a (by simp at hsz; omega)).1 S X _ ok h).1) rfl
        · cases h
      | no a =>
        simp only [ckE] at h
        split at h
        · obtain ⟨h1, h2, _⟩ := (ih a (by simp at hsz; omega)).1 S X _ ok h
          refine p1_not (le_no ok.hK h1) ?_ (fun _ _ _ e => by cases e)
          have := lt_no (C := C) (pos := by assumption) h2
          simpa only [evE] using this
        · cases h
      | and a b =>
        simp only [ckE] at h
        split at h
        · simp only [Bool.and_eq_true] at h
          obtain ⟨h1, h2, _⟩ := (ih a (by simp at hsz; omega)).1 S X _ ok h.1
          obtain ⟨h3, h4⟩ := bool_tail (op := .And) ok (ih b (by simp at hsz; omega)).1 h.2
          rw [evE_and]
          exact p1_bool (le_and ok.hK h1 h3) (lw_and h2 h4)
        · cases h
      | or a b =>
        simp only [ckE] at h
        split at h
        · simp only [Bool.and_eq_true] at h
          obtain ⟨h1, h2, _⟩ := (ih a (by simp at hsz; omega)).1 S X _ ok h.1
          obtain ⟨h3, h4⟩ := bool_tail (op := .Or) ok (ih b (by simp at hsz; omega)).1 h.2
          rw [evE_or]
          exact p1_bool (le_or ok.hK h1 h3) (lw_or h2 h4)
        · cases h
      | cmp op a b =>
        simp only [ckE] at h
        split at h
        · simp only [Bool.and_eq_true, decide_eq_true_eq, Bool.not_eq_true'] at h
          obtain ⟨⟨⟨⟨rfl, h0⟩, h1⟩, h2⟩, h3⟩ := h
          have ha := ((ih a (by simp at hsz; omega)).1 S X _ ok h2).1
          have hb := ((ih b (by simp at hsz; omega)).1 S X _ ok h3).1
          exact p1_not (le_cmp ok.hP ok.hK ok.hw ok.room op h0 h1 ha hb) (lt_cmp ok.hP ok.hK ok.hw ok.room op h0 h1 ha hb) (fun _ _ _ e => by cases e)
        · cases h
      | isN a =>
        simp only [ckE] at h
        split at h
        · have ha := ((ih a (by simp at hsz; omega)).1 S X _ ok h).1
          exact p1_not (le_isN ha) (lt_isN ha) (fun _ _ _ e => by cases e)
        · cases h
      | notN a =>
        simp only [ckE] at h
        split at h
        · have ha := ((ih a (by simp at hsz; omega)).1 S X _ ok h).1
          exact p1_not (le_notN ha) (lt_notN ha) (fun _ _ _ e => by cases e)
        · cases h
      | ite c a b =>
        simp only [ckE] at h
        split at h
        · simp only [Bool.and_eq_true] at h
          obtain ⟨_, c2, _⟩ := (ih c (by simp at hsz; omega)).1 S X _ ok h.1.1
          obtain ⟨a1, a2, _⟩ := (ih a (by simp at hsz; omega)).1 S X _ ok h.1.2
          obtain ⟨b1, b2, _⟩ := (ih b (by simp at hsz; omega)).1 S X _ ok h.2
          rw [evE_ite]
          exact p1_not (le_ite c2 a1 b1) (lt_ite c2 a2 b2) (fun _ _ _ e => by cases e)
        · cases h
      | idx a i =>
        simp only [ckE] at h
        split at h
        · simp only [Bool.and_eq_true] at h
          exact p1_of ok (le_idx ok.hP ok.hK ok.hw ok.room h.1.1 ((ih a (by simp at hsz; omega)).1 S X _ ok h.1.2).1 ((ih i (by simp at hsz; omega)).1 S X _ ok h.2).1 Fa.P) rfl
        · cases h
      | slice a lo hi =>
        simp only [ckE] at h
        split at h
        · rename_i l u v _ _
          simp only [Bool.and_eq_true] at h
          have ha := ((ih a (by simp at hsz; omega)).1 S X _ ok h.1.1).1
          have hl : LO C X F u lo := by
            have h1 := h.1.2
            cases u with
            | none => rw [isNon_of h1]; exact lo_none
            | some u =>
              simp only [Bool.and_eq_true] at h1
              exact lo_some ((ih lo (by simp at hsz; omega)).1 S X _ ok h1.2).1 (isNon_no h1.1)
          have hh : LO C X F v hi := by
            have h1 := h.2
            cases v with
            | none => rw [isNon_of h1]; exact lo_none
            | some u =>
              simp only [Bool.and_eq_true] at h1
              exact lo_some ((ih hi (by simp at hsz; omega)).1 S X _ ok h1.2).1 (isNon_no h1.1)
          exact p1_of ok (le_slice ok.hK ha hl hh) rfl
        · cases h
      | attr a f =>
        simp only [ckE] at h
        split at h
        · simp only [Bool.and_eq_true, decide_eq_true_eq] at h
          obtain ⟨⟨⟨rfl, h1⟩, h2⟩, h3⟩ := h
          exact p1_of ok (le_attr ok.hK h2 (Fa.at_ f h1) ((ih a (by simp at hsz; omega)).1 S X _ ok h3).1) rfl
        · cases h
      | call f r =>
        simp only [ckE] at h
        split at h
        · simp only [Bool.and_eq_true, decide_eq_true_eq] at h
          obtain ⟨⟨⟨⟨⟨rfl, h1⟩, h2⟩, h3⟩, h4⟩, h5⟩ := h
          obtain ⟨r1, r2⟩ := (ih r (by simp at hsz; omega)).2.1 S X _ ok h5
          exact p1_of ok (le_call ok (gl_of ok h2) (okNm_of h3).1 h4 r1 r2 (Fa.cal f h1)) rfl
        · cases h
      | new f r =>
        simp only [ckE] at h
        split at h
        · simp only [Bool.and_eq_true, decide_eq_true_eq] at h
          obtain ⟨⟨⟨⟨⟨rfl, h1⟩, h2⟩, h3⟩, h4⟩, h5⟩ := h
          obtain ⟨r1, r2⟩ := (ih r (by simp at hsz; omega)).2.1 S X _ ok h5
          obtain ⟨j, hj, hn⟩ := Fa.new f h1
          exact p1_of ok (le_new ok (gl_of ok h2) (okNm_of h3).1 h4 r1 r2 hj hn) rfl
        · cases h
      | meth a m r =>
        simp only [ckE] at h
        split at h
        · simp only [Bool.and_eq_true, decide_eq_true_eq] at h
          obtain ⟨⟨⟨⟨⟨⟨⟨rfl, h1⟩, h2⟩, h3⟩, h4⟩, h5⟩, h6⟩, h7⟩ := h
          obtain ⟨r1, r2⟩ := (ih r (by simp at hsz; omega)).2.1 S X _ ok h7
          exact p1_of ok (le_meth ok h2 h3 h4 h5 ((ih a (by simp at hsz; omega)).1 S X _ ok h6).1 r1 r2 (Fa.met m h1)) rfl
        · cases h
      | glob f =>
        simp only [ckE] at h
        split at h
        · simp only [Bool.and_eq_true, decide_eq_true_eq] at h
          obtain ⟨⟨rfl, h1⟩, h2⟩ := h
          exact p1_of ok (le_glob ok.hmg (gl_of ok h1) (okNm_of h2).1 Fa.P fun d hd => Fa.gl f d hd) rfl
        · cases h
      | bi b r =>
        simp only [ckE] at h
        split at h
        · simp only [Bool.and_eq_true, decide_eq_true_eq] at h
          obtain ⟨⟨⟨rfl, h1⟩, h2⟩, h3⟩ := h
          obtain ⟨r1, r2⟩ := (ih r (by simp at hsz; omega)).2.1 S X _ ok h3
          exact p1_of ok (le_bi b ok (bu_of ok Fa rfl h1 (by cases b <;> rfl)) h2 r1 Fa.P) rfl
        · cases h
      | isi a t =>
        simp only [ckE] at h
        split at h
        · simp only [Bool.and_eq_true, decide_eq_true_eq] at h
          obtain ⟨⟨⟨⟨⟨rfl, rfl⟩, h1⟩, h2⟩, h3⟩, h4⟩ := h
          exact p1_of ok (le_isi ok (bu_of ok Fa rfl h1 rfl) (bu_of ok Fa rfl h2 (by cases t <;> rfl)) h3 ((ih a (by simp at hsz; omega)).1 S X _ ok h4).1) rfl
        · cases h
      | bm m a r =>
        simp only [ckE] at h
        split at h
        · simp only [Bool.and_eq_true, decide_eq_true_eq] at h
          obtain ⟨⟨⟨⟨⟨⟨⟨h1, rfl⟩, h2⟩, h3⟩, h4⟩, h5⟩, h6⟩, h7⟩ := h
          obtain ⟨r1, r2⟩ := (ih r (by simp at hsz; omega)).2.1 S X _ ok h7
          exact p1_of ok (le_bm m h1 ok h2 h3 h4 h5 ((ih a (by simp at hsz; omega)).1 S X _ ok h6).1 r1 r2) rfl
        · cases h
      | coll kk it =>
        cases kk with
        | tuple =>
          cases it with
          | cons a r =>
            simp only [ckE] at h
            split at h
            · simp only [Bool.and_eq_true, decide_eq_true_eq] at h
              obtain ⟨⟨⟨⟨rfl, h1⟩, h2⟩, h3⟩, h4⟩ := h
              cases isNil_of h3
              exact p1_of ok (le_tupOf ok (bu_of ok Fa rfl h1 rfl) h2 ((ih _ (by simp at hsz; omega)).1 S X _ ok h4).1) rfl
            · cases h
          | _ => exact absurd (show false = true from h) Bool.false_ne_true
        | list =>
          cases it with
          | cons a r =>
            simp only [ckE] at h
            split at h
            · simp only [Bool.and_eq_true, decide_eq_true_eq] at h
              obtain ⟨⟨⟨⟨rfl, h1⟩, h2⟩, h3⟩, h4⟩ := h
              cases isNil_of h3
              exact p1_of ok (le_listOf ok (bu_of ok Fa rfl h1 rfl) h2 ((ih _ (by simp at hsz; omega)).1 S X _ ok h4).1) rfl
            · cases h
          | range r =>
            cases r with
            | cons a r =>
              cases r with
              | nil =>
                simp only [ckE] at h
                split at h
                · simp only [Bool.and_eq_true, decide_eq_true_eq] at h
                  obtain ⟨⟨⟨⟨⟨rfl, rfl⟩, h1⟩, h2⟩, h3⟩, h4⟩ := h
                  exact p1_of ok (le_listRg1 ok (bu_of ok Fa rfl h1 rfl) (bu_of ok Fa rfl h2 rfl) h3 ((ih a (by simp at hsz; omega)).1 S X _ ok h4).1) rfl
                · cases h
              | cons b r =>
                cases r with
                | nil =>
                  simp only [ckE] at h
                  split at h
                  · simp only [Bool.and_eq_true, decide_eq_true_eq] at h
                    obtain ⟨⟨⟨⟨⟨⟨⟨rfl, rfl⟩, h1⟩, h2⟩, h3⟩, h4⟩, h5⟩, h6⟩ := h
                    exact p1_of ok (le_listRg2 ok (bu_of ok Fa rfl h1 rfl) (bu_of ok Fa rfl h2 rfl) h3 h4 ((ih a (by simp at hsz; omega)).1 S X _ ok h5).1 ((ih b (by simp at hsz; omega)).1 S X _ ok h6).1) rfl
                  · cases h
                | _ => exact absurd (show false = true from h) Bool.false_ne_true
              | _ => exact absurd (show false = true from h) Bool.false_ne_true
            | _ => exact absurd (show false = true from h) Bool.false_ne_true
          | _ => exact absurd (show false = true from h) Bool.false_ne_true
        | _ => exact absurd (show false = true from h) Bool.false_ne_true
      | lcomp p =>
        cases p with
        | for1 vs p it c b =>
          cases b with
          | cons a r =>
            simp only [ckE] at h
            split at h
            · rename_i elt tg iter ifs as scope pos
              obtain ⟨rfl, rfl, L⟩ := lc_parts (ih it (by simp at hsz; omega)).2.2 (ih c (by simp at hsz; omega)).1 (ih a (by simp at hsz; omega)).1 ok h
              exact p1_of ok (le_lcomp ok L.hb (ownOf_map S vs) L.hp L.hset L.hi L.hg L.ht L.he) rfl
            · cases h
          | _ => exact absurd (show false = true from h) Bool.false_ne_true
        | _ => exact absurd (show false = true from h) Bool.false_ne_true
      | dcomp p =>
        cases p with
        | for1 vs p it c b =>
          cases b with
          | cons a b =>
            cases b with
            | cons b r =>
              simp only [ckE] at h
              split at h
              · rename_i kx vx tg iter ifs as scope pos
                rw [Bool.and_eq_true] at h
                obtain ⟨rfl, rfl, L⟩ := lc_parts (ih it (by simp at hsz; omega)).2.2 (ih c (by simp at hsz; omega)).1 (ih a (by simp at hsz; omega)).1 ok h.1
                exact p1_of ok (le_dcomp ok L.hb (ownOf_map S vs) L.hp L.hset L.hi L.hg L.ht L.he (fun X' ok' => ((ih b (by simp at hsz; omega)).1 _ X' _ ok' h.2).1)) rfl
              · cases h
            | _ => exact absurd (show false = true from h) Bool.false_ne_true
          | _ => exact absurd (show false = true from h) Bool.false_ne_true
        | _ => exact absurd (show false = true from h) Bool.false_ne_true
      | gtup p =>
        cases p with
        | for1 vs p it c b =>
          cases b with
          | cons a r =>
            simp only [ckE] at h
            split at h
            · rename_i n np elt tg iter ifs as scope gp pp
              rw [Bool.and_eq_true, Bool.and_eq_true, decide_eq_true_eq] at h
              obtain ⟨⟨rfl, hg⟩, h⟩ := h
              obtain ⟨rfl, rfl, G⟩ := gx_parts (ih it (by simp at hsz; omega)).2.2 (ih c (by simp at hsz; omega)).1 (ih a (by simp at hsz; omega)).1 ok h
              exact p1_of ok (le_gtup ok G (bu_of ok Fa rfl hg rfl)) rfl
            · cases h
          | _ => exact absurd (show false = true from h) Bool.false_ne_true
        | _ => exact absurd (show false = true from h) Bool.false_ne_true
      | gany p =>
        cases p with
        | for1 vs p it c b =>
          cases b with
          | cons a r =>
            simp only [ckE] at h
            split at h
            · rename_i n np elt tg iter ifs as scope gp pp
              rw [Bool.and_eq_true, Bool.and_eq_true, decide_eq_true_eq] at h
              obtain ⟨⟨rfl, hg⟩, h⟩ := h
              obtain ⟨rfl, rfl, G⟩ := gx_parts (ih it (by simp at hsz; omega)).2.2 (ih c (by simp at hsz; omega)).1 (ih a (by simp at hsz; omega)).1 ok h
              exact p1_of ok (le_gany ok G (bu_of ok Fa rfl hg rfl)) rfl
            · cases h
          | _ => exact absurd (show false = true from h) Bool.false_ne_true
        | _ => exact absurd (show false = true from h) Bool.false_ne_true
      | gall p =>
        cases p with
        | for1 vs p it c b =>
          cases b with
          | cons a r =>
            simp only [ckE] at h
            split at h
            · rename_i n np elt tg iter ifs as scope gp pp
              rw [Bool.and_eq_true, Bool.and_eq_true, decide_eq_true_eq] at h
              obtain ⟨⟨rfl, hg⟩, h⟩ := h
              obtain ⟨rfl, rfl, G⟩ := gx_parts (ih it (by simp at hsz; omega)).2.2 (ih c (by simp at hsz; omega)).1 (ih a (by simp at hsz; omega)).1 ok h
              exact p1_of ok (le_gall ok G (bu_of ok Fa rfl hg rfl)) rfl
            · cases h
          | _ => exact absurd (show false = true from h) Bool.false_ne_true
        | _ => exact absurd (show false = true from h) Bool.false_ne_true
      | dic r =>
        simp only [ckE] at h
        split at h
        · rw [isNil_of h]
          exact p1_of ok (le_dic0 ok.hP ok.hw) rfl
        · cases h
      | _ => exact absurd (show false = true from h) Bool.false_ne_true
    · intro S X es ok h
      cases e with
      | nil =>
        simp only [ckEs] at h
        split at h
        · exact ⟨la_nil, rfl⟩
        · cases h
      | cons a r =>
        simp only [ckEs] at h
        split at h
        · simp only [Bool.and_eq_true] at h
          obtain ⟨r1, r2⟩ := (ih r (by simp at hsz; omega)).2.1 S X _ ok h.2
          exact ⟨la_cons h.1.1 ((ih a (by simp at hsz; omega)).1 S X _ ok h.1.2).1 r1, by simp [rowLen, r2]⟩
        · cases h
      | _ => exact absurd (show false = true from h) Bool.false_ne_true
    · intro S X x ok tg h
      cases e with
      | range r =>
        simp only [ckIt] at h
        split at h
        · simp only [Bool.and_eq_true, Bool.or_eq_true, decide_eq_true_eq, beq_iff_eq] at h
          obtain ⟨⟨⟨⟨rfl, h1⟩, h2⟩, h3⟩, h4⟩ := h
          obtain ⟨r1, r2⟩ := (ih r (by simp at hsz; omega)).2.1 S X _ ok h4
          exact li_range ok (bu_of ok Fa rfl h1 rfl) h2 r1 r2 (by rcases h3 with (h | h) | h <;> simp [h])
        · cases h
      | enum a =>
        simp only [ckIt] at h
        split at h
        · simp only [Bool.and_eq_true, decide_eq_true_eq] at h
          obtain ⟨⟨⟨⟨rfl, h1⟩, h2⟩, h3⟩, h4⟩ := h
          obtain ⟨es, kk, tp, rfl⟩ := isTupE_of h3
          exact li_enum ok (bu_of ok Fa rfl h1 rfl) h2 ((ih a (by simp at hsz; omega)).1 S X _ ok h4).1
        · cases h
      | cons a r =>
        replace h : (isNil r && ckE T a S x) = true := h
        simp only [Bool.and_eq_true] at h
        rw [isNil_of h.1]
        exact li_seq ok.hK ((ih a (by simp at hsz; omega)).1 S X _ ok h.2).1
      | _ => exact absurd (show false = true from h) Bool.false_ne_true
end
end Pw

end
section
set_option maxHeartbeats 2000000
/-! Snd18: the checker is right: statements. -/
namespace Pw
open PySem PySem.Spec PyProof.Rows L2

section
variable {C : PC} {k : Nat} {sx : Sx} {X : Cx} {F : FT} {T : Tb}
theorem ls_drop {f : VEnv → Mem → R Out} : ∀ {sts : List Stmt}, LSs C X (sts.dropWhile isDoc) f → LSs C X sts f
  | [], h => h
  | s :: sts, h => by
    by_cases hd : isDoc s = true
    · rw [List.dropWhile_cons_of_pos hd] at h
      exact ls_doc hd (ls_drop h)
    · rw [List.dropWhile_cons_of_neg hd] at h
      exact h
theorem ls_to {sts : List Stmt} {sm : Stmt} {f : VEnv → Mem → R Out} (e : sts.dropWhile isDoc = [sm]) (h : LS C X sm f) : LSs C X sts f := ls_drop (by rw [e]; exact ls_one h)
theorem evS_seq (a b : S) : evS F (.seq a b) = evSeq (evS F a) (evS F b) := by funext ρ M; simp only [evS, evSeq] <;> rfl
theorem evS_ite (c : E) (a b : S) : evS F (.ite c a b) = fun ρ M => bnd (truthR (evE F c ρ M)) fun t M => if t = true then evS F a ρ M else evS F b ρ M := by funext ρ M; simp only [evS]
theorem evS_while (c : E) (b : S) : evS F (.while c b) = fun ρ M => whileL (fun ρ M => truthR (evE F c ρ M)) (evS F b) F.wl ρ M := by funext ρ M; simp only [evS]
theorem evS_for (p : Pat) (it : E) (b : S) : evS F (.for p it b) = fun ρ M => bnd (evIt F it ρ M) fun xs M => forL xs.2 p (evS F b) xs.1 ρ M := by funext ρ M; simp only [evS]
theorem p1 (Fa : Facts C k F T) (e : E) : P1 C k F T e := (snd_all Fa (sizeOf e + 1) e (Nat.lt_succ_self _)).1
theorem p3 (Fa : Facts C k F T) (e : E) : P3 C k F T e := (snd_all Fa (sizeOf e + 1) e (Nat.lt_succ_self _)).2.2
theorem ckSs_comp {e : E} {n : Str} {np : Pos} {x : Expr} (ok : OkX C k sx X) (Fa : Facts C k F T) {i : Nat} {pos : Pos} (hs : stoB sx i n = true) (h : lcB sx n np e x = true) (he : ckE T e sx x = true) : LS C X (.Assign [.Name n np] x pos) (evS F (.asg (.name i) e)) := by
  have hN : X.N.Nodup := by rw [ok.hN]; exact ok.nd
  by_cases hc : isComp x = false
  · exact ls_asg hN (sto_of ok hs) hc ((p1 Fa e) sx X x ok he).1
  · cases x with
    | ListComp elt gens scope cpos =>
      simp only [lcB, Bool.and_eq_true, decide_eq_true_eq, Bool.not_eq_true'] at h
      obtain ⟨⟨⟨⟨h0, h1⟩, h2⟩, h3⟩, h4⟩ := h
      have hsi : sx.N[i]? = some n := by
        unfold stoB at hs
        simp only [Bool.and_eq_true, decide_eq_true_eq] at hs
        exact hs.1.1
      cases e with
      | lcomp p =>
        cases p with
        | for1 vs p it c b =>
          cases b with
          | cons a r =>
            simp only [ckE] at he
            split at he
            · rename_i heq
              cases heq
              obtain ⟨rfl, rfl, L⟩ := lc_parts (p3 Fa it) (p1 Fa c) (p1 Fa a) ok he
              obtain ⟨te, hl, hps⟩ := ls_asgLc (spos := pos) (pos := cpos) (py := np) ok L.hb (ownOf_map sx vs) L.hp L.hset L.hi L.hg L.ht L.he hsi (isLoc_of h1) h2 h3 h4
              exact PS.imp hps (asg_lift hl)
            · cases he
          | _ => exact absurd (show false = true from h0) Bool.false_ne_true
        | _ => exact absurd (show false = true from h0) Bool.false_ne_true
      | _ => exact absurd (show false = true from h0) Bool.false_ne_true
    | SetComp => simp [lcB, isComp] at h
    | DictComp => simp [lcB, isComp] at h
    | _ => exact absurd rfl hc
def Q1 (C : PC) (k : Nat) (F : FT) (T : Tb) (s : S) : Prop := ∀ (sx : Sx) (X : Cx) (sts : List Stmt), OkX C k sx X → ckSs T s sx sts = true → LSs C X sts (evS F s) ∧ (isSimple s = true → ∃ sm, sts.dropWhile isDoc = [sm] ∧ LS C X sm (evS F s))
theorem q1_of {sts : List Stmt} {sm : Stmt} {f : VEnv → Mem → R Out} {b : Bool} (e : sts.dropWhile isDoc = [sm]) (h : LS C X sm f) : LSs C X sts f ∧ (b = true → ∃ sm, sts.dropWhile isDoc = [sm] ∧ LS C X sm f) := ⟨ls_to e h, fun _ => ⟨sm, e, h⟩⟩
theorem snd_s (Fa : Facts C k F T) : ∀ s : S, Q1 C k F T s := by
  intro s
  induction s with
  | skip =>
    intro sx X sts ok h
    simp only [ckSs, List.isEmpty_iff] at h
    exact ⟨ls_drop (by rw [h]; exact ls_skip), fun e => by cases e⟩
  | seq a b iha ihb =>
    intro sx X sts ok h
    simp only [ckSs] at h
    split at h
    · rename_i st rest e
      simp only [Bool.and_eq_true] at h
      obtain ⟨sm, e1, h1⟩ := (iha sx X _ ok h.1.2).2 h.1.1
      have e2 : sm = st := by
        by_cases hd : isDoc st = true
        · rw [List.dropWhile_cons_of_pos hd] at e1; cases e1
        · rw [List.dropWhile_cons_of_neg hd] at e1; cases e1; rfl
      subst e2
      refine ⟨ls_drop ?_, fun e => by cases e⟩
      rw [e, evS_seq]
      exact ls_seq h1 (ihb sx X _ ok h.2).1
    · cases h
  | expr e =>
    intro sx X sts ok h
    simp only [ckSs] at h
    split at h
    · rename_i e1
      simp only [Bool.and_eq_true, Bool.not_eq_true'] at h
      exact q1_of e1 (ls_expr h.1 (p1 Fa e sx X _ ok h.2).1)
    · cases h
  | asg p e =>
    intro sx X sts ok h
    simp only [ckSs] at h
    split at h
    · rename_i e1
      rw [Bool.and_eq_true] at h
      obtain ⟨h1, h2⟩ := h
      split at h1
      · simp only [Bool.and_eq_true] at h1
        exact q1_of e1 (ckSs_comp ok Fa h1.1 h1.2 h2)
      · simp only [Bool.and_eq_true, Bool.not_eq_true'] at h1
        exact q1_of e1 (ls_asgT ok (names_of ok h1.1.1) h1.1.2 h1.2 (p1 Fa e sx X _ ok h2).1)
      · cases h1
    · cases h
  | setattr o f e =>
    intro sx X sts ok h
    simp only [ckSs] at h
    split at h
    · rename_i e1
      simp only [Bool.and_eq_true, Bool.not_eq_true', decide_eq_true_eq] at h
      obtain ⟨⟨⟨rfl, h1⟩, h3⟩, h4⟩ := h
      exact q1_of e1 (ls_setattr ok (Fa.at_ f h1) (p1 Fa o sx X _ ok h3).1 (p1 Fa e sx X _ ok h4).1)
    · cases h
  | setidx o i e =>
    intro sx X sts ok h
    simp only [ckSs] at h
    split at h
    · rename_i e1
      simp only [Bool.and_eq_true, Bool.not_eq_true'] at h
      obtain ⟨⟨⟨⟨⟨h1, h2⟩, h3⟩, h4⟩, h5⟩, h6⟩ := h
      exact q1_of e1 (ls_setidx ok h1 h2 h3 (p1 Fa o sx X _ ok h4).1 (p1 Fa i sx X _ ok h5).1 (p1 Fa e sx X _ ok h6).1)
    · cases h
  | aug i op e =>
    intro sx X sts ok h
    simp only [ckSs] at h
    split at h
    · rename_i e1
      simp only [Bool.and_eq_true, decide_eq_true_eq] at h
      obtain ⟨⟨rfl, h1⟩, h2⟩ := h
      exact q1_of e1 (ls_aug op (by rw [ok.hN]; exact ok.nd) (sto_of ok h1) (p1 Fa e sx X _ ok h2).1)
    · cases h
  | augattr o f op e =>
    intro sx X sts ok h
    simp only [ckSs] at h
    split at h
    · rename_i e1
      simp only [Bool.and_eq_true, decide_eq_true_eq] at h
      obtain ⟨⟨⟨⟨rfl, rfl⟩, h1⟩, h2⟩, h3⟩ := h
      exact q1_of e1 (ls_augattr op ok (Fa.at_ f h1) (p1 Fa o sx X _ ok h2).1 (p1 Fa e sx X _ ok h3).1)
    · cases h
  | ite c a b iha ihb =>
    intro sx X sts ok h
    simp only [ckSs] at h
    split at h
    · rename_i e1
      simp only [Bool.and_eq_true] at h
      rw [evS_ite]
      exact q1_of e1 (ls_ite (p1 Fa c sx X _ ok h.1.1).2.1 (iha sx X _ ok h.1.2).1 (ihb sx X _ ok h.2).1)
    · cases h
  | «while» c b ihb =>
    intro sx X sts ok h
    simp only [ckSs] at h
    split at h
    · rename_i e1
      simp only [Bool.and_eq_true] at h
      rw [evS_while]
      exact q1_of e1 (ls_while ok.hxe (p1 Fa c sx X _ ok h.1).2.1 (ihb sx X _ ok h.2).1)
    · cases h
  | «for» p it b ihb =>
    intro sx X sts ok h
    simp only [ckSs] at h
    split at h
    · rename_i e1
      simp only [Bool.and_eq_true, Bool.not_eq_true'] at h
      rw [evS_for]
      exact q1_of e1 (ls_for ok h.1.1.1 (p3 Fa it sx X _ ok _ h.1.1.2) (pat_of ok h.1.2) (ihb sx X _ ok h.2).1)
    · cases h
  | ret e =>
    intro sx X sts ok h
    simp only [ckSs] at h
    split at h
    · rename_i e1
      exact q1_of e1 (ls_ret (p1 Fa e sx X _ ok h).1)
    · rename_i e1
      rw [isNon_of h]
      exact q1_of e1 ls_retN
    · cases h
  | brk =>
    intro sx X sts ok h
    simp only [ckSs] at h
    split at h
    · rename_i e1; exact q1_of e1 ls_brk
    · cases h
  | cont =>
    intro sx X sts ok h
    simp only [ckSs] at h
    split at h
    · rename_i e1; exact q1_of e1 ls_cont
    · cases h
end
end Pw

end
section
set_option maxHeartbeats 2000000
/-! Snd19: functions: what a call leaves behind; the promise of a def. -/
namespace Pw
open PySem PySem.Spec PyProof.Rows L2

section
variable {C : PC} {α α' : List Addr} {M M' : Mem} {H H' : Hp}
mutual
theorem RD.belN {sa : Addr} : ∀ {d : D} {v : V}, RD sa α H d v → d.bel α.length = true
  | _, _, .non => by simp [D.bel]
  | _, _, .bl b => by simp [D.bel]
  | _, _, .int i => by simp [D.bel]
  | _, _, .str h => by simp [D.bel]
  | _, _, .tup h r => by simp only [D.bel]; exact RDs.belN r
  | _, _, .ref h => by simp only [D.bel, decide_eq_true_eq]; exact (List.getElem?_eq_some_iff.mp h).1
  | _, _, .scr => by simp [D.bel]
theorem RDs.belN {sa : Addr} : ∀ {d : List D} {v : List V}, RDs sa α H d v → D.bels α.length d = true
  | _, _, .nil => by simp [D.bels]
  | _, _, .cons h r => by simp only [D.bels, Bool.and_eq_true]; exact ⟨RD.belN h, RDs.belN r⟩
end
theorem RF.belN {sa : Addr} : ∀ {fs : List (String × D)} {vs : List (Str × V)}, RF sa α H fs vs → fs.all (fun p => p.2.bel α.length) = true
  | _, _, .nil => rfl
  | _, _, .cons h r => by simp only [List.all_cons, Bool.and_eq_true]; exact ⟨h.belN, RF.belN r⟩
theorem RK.belN {sa : Addr} : ∀ {fs : List (D × D)} {vs : List (D × V × V)}, RK sa α H fs vs → fs.all (fun p => p.1.bel α.length && p.2.bel α.length) = true
  | _, _, .nil => rfl
  | _, _, .cons h h2 r => by simp only [List.all_cons, Bool.and_eq_true]; exact ⟨⟨h.belN, h2.belN⟩, RK.belN r⟩
theorem RO.belN {a : Addr} {o : MO} {ho : HO} (r : RO C α H a o ho) : o.bel α.length = true := by
  cases r with
  | lst h => exact h.belN
  | dic h _ _ _ _ => exact h.belN
  | ins _ h => exact h.belN
mutual
theorem RD.narrow {sa : Addr} {n : Nat} : ∀ {d : D} {v : V}, RD sa α H d v → d.bel n = true → RD sa (α.take n) H d v
  | _, _, .non, _ => .non
  | _, _, .bl b, _ => .bl b
  | _, _, .int i, _ => .int i
  | _, _, .str h, _ => .str h
  | _, _, .tup h r, hb => .tup h (RDs.narrow r (by simpa only [D.bel] using hb))
  | _, _, .ref h, hb => .ref (by rw [List.getElem?_take_of_lt (by simpa only [D.bel, decide_eq_true_eq] using hb)]; exact h)
  | _, _, .scr, _ => .scr
theorem RDs.narrow {sa : Addr} {n : Nat} : ∀ {d : List D} {v : List V}, RDs sa α H d v → D.bels n d = true → RDs sa (α.take n) H d v
  | _, _, .nil, _ => .nil
  | _, _, .cons h r, hb => by
    simp only [D.bels, Bool.and_eq_true] at hb
    exact .cons (RD.narrow h hb.1) (RDs.narrow r hb.2)
end
theorem RF.narrow {sa : Addr} {n : Nat} : ∀ {fs : List (String × D)} {vs : List (Str × V)}, RF sa α H fs vs → fs.all (fun p => p.2.bel n) = true → RF sa (α.take n) H fs vs
  | _, _, .nil, _ => .nil
  | _, _, .cons h r, hb => by
    simp only [List.all_cons, Bool.and_eq_true] at hb
    exact .cons (h.narrow hb.1) (RF.narrow r hb.2)
theorem RK.narrow {sa : Addr} {n : Nat} : ∀ {fs : List (D × D)} {vs : List (D × V × V)}, RK sa α H fs vs → fs.all (fun p => p.1.bel n && p.2.bel n) = true → RK sa (α.take n) H fs vs
  | _, _, .nil, _ => .nil
  | _, _, .cons h h2 r, hb => by
    simp only [List.all_cons, Bool.and_eq_true] at hb
    exact .cons (h.narrow hb.1.1) (h2.narrow hb.1.2) (RK.narrow r hb.2)
theorem RO.narrow {n : Nat} {a : Addr} {o : MO} {ho : HO} (r : RO C α H a o ho) (hb : o.bel n = true) : RO C (α.take n) H a o ho := by
  cases r with
  | lst h => exact .lst (h.narrow hb)
  | dic h h2 h3 h4 h5 => exact .dic (h.narrow hb) h2 h3 h4 h5
  | ins h0 h => exact .ins h0 (h.narrow hb)
theorem oldOk_get {n : Nat} : ∀ {M M' : Mem}, oldOk n M M' = true → ∀ (m : Nat) (o' : MO), m < M.length → M'[m]? = some o' → (∃ o, M[m]? = some o ∧ o = o') ∨ o'.bel n = true
  | [], _, _, m, o', h, _ => absurd h (by simp)
  | o :: M, [], h, m, o', _, e => by cases e
  | o :: M, o1 :: M', h, m, o', hm, e => by
    simp only [oldOk, Bool.and_eq_true, Bool.or_eq_true, decide_eq_true_eq] at h
    cases m with
    | zero =>
      cases e
      rcases h.1 with h | h
      · exact .inl ⟨o, rfl, h⟩
      · exact .inr h
    | succ m => exact oldOk_get h.2 m o' (by simpa using hm) (by simpa using e)
theorem gc_ok {d : D} {v : V} (s : RS C α M H) (t : Step α α' H H') (s' : RS C α' M' H') (r : RD C.sa α' H' d v) : ∃ α2, Step α α2 H H' ∧ RS C α2 (gc M d M').2 H' ∧ RD C.sa α2 H' (gc M d M').1 v := by
  have htake : α'.take M.length = α := by
    obtain ⟨q, rfl⟩ := t.pre
    rw [← s.len, List.take_left]
  have back : oldOk M.length M M' = true → Step α α H H' ∧ RS C α (M'.take M.length) H' := by
    intro ho
    refine ⟨⟨⟨[], by simp⟩, fun a ha => .inl ha, t.frame⟩, ?_⟩
    have := s'.forget M.length fun m o hm e a ho' ha ro => ?_
    · rw [htake] at this; exact this
    · refine ro.narrow ?_
      rcases oldOk_get ho m o hm e with ⟨o1, e1, e2⟩ | hb
      · subst e2
        obtain ⟨a1, h1, _, _, ro1⟩ := s.ob m o1 e1
        rw [← s.len]
        exact ro1.belN
      · exact hb
  unfold gc
  split
  · rename_i ho
    obtain ⟨t1, s1⟩ := back ho
    split
    · rename_i hb
      refine ⟨α, t1, s1, ?_⟩
      have := r.narrow hb
      rw [htake] at this
      exact this
    · rename_i hb
      split
      · rename_i n
        split
        · rename_i o e
          split
          · rename_i hob
            cases r with
            | @ref n a ha =>
              obtain ⟨a', hho, h1, h2, ro⟩ := s'.ob n o e
              rw [ha] at h1
              cases h1
              have hn : ¬ n < M.length := by simpa [D.bel] using hb
              have hout : a ∉ α := by
                intro hm
                obtain ⟨j, hj, ej⟩ := List.getElem_of_mem hm
                have e1 : α'[j]? = some a := t.get (by rw [List.getElem?_eq_getElem hj, ej])
                have := (List.getElem?_inj (List.getElem?_eq_some_iff.mp ha).1 s'.nd).mp (ha.trans e1.symm)
                have := s.len
                omega
              have hs : ScD C a := by
                rcases s'.sc with ⟨_, hno⟩ | hk
                · exact .inl fun z => hno (z ▸ List.mem_of_getElem? ha)
                · exact .inr hk
              have hnone : H a = none := by
                rcases t.new a (List.mem_of_getElem? ha) with z | z
                · exact absurd z hout
                · exact z
              have ro2 := ro.narrow hob
              rw [htake] at ro2
              refine ⟨α ++ [a], t1.adopt hnone, s1.adopt hout hs h2 ro2, .ref ?_⟩
              rw [List.getElem?_append_right (by rw [s.len]; exact Nat.le_refl _)]
              simp [s.len]
          · exact ⟨α', t, s', r⟩
        · exact ⟨α', t, s', r⟩
      · exact ⟨α', t, s', r⟩
  · exact ⟨α', t, s', r⟩
end

/-! ### the names at the entry -/
theorem start_at {sa : Addr} {α : List Addr} {H : Hp} {xs : List D} {vs : List V} (r : RDs sa α H xs vs) (m : Nat) : RE sa α H (xs.map some ++ List.replicate m none) (vs.map some ++ List.replicate m none) := by
  refine ⟨by simp [r.length], fun i d e => ?_⟩
  by_cases hi : i < xs.length
  · rw [List.getElem?_append_left (by simpa using hi), List.getElem?_map] at e
    cases q : xs[i]? with
    | none => rw [q] at e; cases e
    | some x =>
      rw [q] at e
      cases e
      obtain ⟨v, h1, h2⟩ := r.get q
      exact ⟨v, by rw [List.getElem?_append_left (by rw [List.length_map, ← r.length]; exact hi), List.getElem?_map, h1]; rfl, h2⟩
  · rw [List.getElem?_append_right (by simpa using hi), List.getElem?_replicate] at e
    split at e <;> cases e

section
variable {C : PC} {k : Nat} {T : Tb} {wl n : Nat} {key : FK} {fd : FDef}
theorem roomG_of {k : Nat} {A : Around} (h : Room (k + 1) A) : RoomG k A := ⟨h.hd, by have := h.dp; omega, by have := h.un; omega⟩
theorem fn_snd {f : Addr} {name qual : Str} {params : Arguments} {body : List Stmt} {scope : Scope} {dV kV doc pm cdv ct oc : Value} {an od : Option Addr} {osl : Array (Option Value)} {N ps : List Str}
    (lk : C.K.lookup f = some ⟨oc, od, .func (PySem.W.fnOf name qual params body scope dV kV doc pm an cdv ct), osl⟩) (hcd : PySem.W.codeIn C.K cdv qual = true) (Sc : FnScope N ps scope)
    (hfd : C.P.fdef key = some fd) (hp : ps.length = fd.params) (hs : N.length = fd.slots) {tb : Option (Addr × Addr)} (htb : ∀ p, tb = some p → cdv = .ref p.1 ∧ p ∈ C.tabs) (hk : ckSs T fd.body ⟨N, scope, fun _ => true, tb⟩ body = true) (Fa : Facts C k ⟨C.P, evF C.P wl n, wl⟩ T) :
    FnOk C.prog C.w C.K C.mg C.base CXn (k + 2) f (PySem.W.fnOf name qual params body scope dV kV doc pm an cdv ct) ps (spF C (evF C.P wl (n + 1) key) fd.params) := by
  refine fn_of lk hcd Sc (fun vs H Q E h => by rw [hp]; exact h.1) fun A outer s H vs Q E hr hsp => ?_
  obtain ⟨hl, α, M, xs, d, M', S, rs, h, q⟩ := hsp
  have ok : OkX C k ⟨N, scope, fun _ => true, tb⟩ (cxOf CXn C.prog C.w C.K C.mg C.base N qual scope f cdv A outer s H E).nox := ⟨rfl, rfl, rfl, rfl, rfl, rfl, Sc.nd, rfl, rfl, rfl, hr.mono (Nat.le_succ k), rfl, fun p h => ⟨(htb p h).1, Fa.tb p (htb p h).2, (htb p h).2, roomG_of hr⟩⟩
  refine ⟨_, PSs.nox ((snd_s Fa fd.body _ _ body ok hk).1), ?_⟩
  unfold evF at h
  rw [hfd] at h
  simp only at h
  split at h
  · rename_i hx
    have e1 : L2.start N vs = vs.map some ++ List.replicate (fd.slots - fd.params) none := by
      unfold L2.start
      rw [hs, ← rs.length, hx]
    rw [e1]
    have fin : ∀ {o : Out} {M2 : Mem} {d0 : D}, evS ⟨C.P, evF C.P wl n, wl⟩ fd.body (xs.map some ++ List.replicate (fd.slots - fd.params) none) M = some (o, M2) → some (gc M d0 M2) = some (d, M') → ∀ α' v H', Step α α' H H' → RS C α' M2 H' → RD C.sa α' H' d0 v → Q v H' := by
      intro o M2 d0 _ e2 α' v H' t s' r
      obtain ⟨α2, t2, s2, r2⟩ := gc_ok S t s' r
      have e3 := Option.some.inj e2
      rw [e3] at s2 r2
      exact q α2 v H' t2 s2 r2
    cases ho : evS ⟨C.P, evF C.P wl n, wl⟩ fd.body (xs.map some ++ List.replicate (fd.slots - fd.params) none) M with
    | none => rw [ho] at h; cases h
    | some p =>
      obtain ⟨o, M2⟩ := p
      rw [ho] at h
      refine ⟨α, _, M, o, M2, S, start_at rs _, ho, fun α' H' t s' => ?_⟩
      cases o with
      | rt d0 => exact fun v r => fin ho h α' v H' t s' r
      | nx ρ => exact fun σ _ => fin ho h α' .non H' t s' .non
      | bk ρ => cases h
      | ct ρ => cases h
  · cases h
end
end Pw

end
section
set_option maxHeartbeats 2000000
/-! Snd20: all functions of a law together, by fuel; the law's promise. -/
namespace Pw
open PySem PySem.Spec PyProof.Rows L2

section
variable {C : PC} {T : Tb} {wl n k : Nat} {key : FK} {fd : FDef}
/-- the def at a is the evaluator's fd -/
structure FnD (C : PC) (T : Tb) (fd : FDef) (a : Addr) : Prop where
  ok : ∃ (name qual : Str) (params : Arguments) (body : List Stmt) (scope : Scope) (dV kV doc pm cdv ct oc : Value) (an od : Option Addr) (osl : Array (Option Value)) (N ps : List Str) (tb : Option (Addr × Addr)),
    C.K.lookup a = some ⟨oc, od, .func (PySem.W.fnOf name qual params body scope dV kV doc pm an cdv ct), osl⟩ ∧ PySem.W.codeIn C.K cdv qual = true ∧ FnScope N ps scope ∧ ps.length = fd.params ∧ N.length = fd.slots ∧
    (∀ p, tb = some p → cdv = .ref p.1 ∧ p ∈ C.tabs) ∧ ckSs T fd.body ⟨N, scope, fun _ => true, tb⟩ body = true ∧ Binds C.K (PySem.W.fnOf name qual params body scope dV kV doc pm an cdv ct) ps []
theorem evF_len {P : Prog} {xs : List D} {M : Mem} {r : D × Mem} (hfd : P.fdef key = some fd) (h : evF P wl (n + 1) key xs M = some r) : xs.length = fd.params := by
  unfold evF at h
  rw [hfd] at h
  simp only at h
  split at h
  · assumption
  · cases h
theorem evF_no {P : Prog} (hfd : P.fdef key = none) (xs : List D) (M : Mem) : evF P wl (n + 1) key xs M = none := by
  unfold evF
  rw [hfd]
theorem FnD.fnc {a : Addr} (d : FnD C T fd a) (hfd : C.P.fdef key = some fd) (Fa : Facts C k ⟨C.P, evF C.P wl n, wl⟩ T) : FnC C (k + 2) (evF C.P wl (n + 1) key) fd.params a := by
  obtain ⟨name, qual, params, body, scope, dV, kV, doc, pm, cdv, ct, oc, an, od, osl, N, ps, tb, h1, h2, h3, h4, h5, h0, h6, h7⟩ := d.ok
  exact ⟨_, ps, fn_snd h1 h2 h3 hfd h4 h5 h0 h6 Fa, h7, fun xs M r h => evF_len hfd h⟩
theorem FnC.mono {j k : Nat} {call : List D → Mem → R D} {m : Nat} {a : Addr} (h : FnC C j call m a) (hjk : j ≤ k) : FnC C k call m a := by
  obtain ⟨fd, ps, h1, h2, h3⟩ := h.ok
  exact ⟨fd, ps, h1.mono hjk, h2, h3⟩
structure LawF (C : PC) (T : Tb) : Prop where
  fn : ∀ f fd, C.P.fdef (.fn f) = some fd → ∃ a, C.mg (Str.ofString f) = some (.ref a) ∧ PySem.W.keepIn C.K (.ref a) = true ∧ FnD C T fd a
  mt : ∀ c m fd, C.P.fdef (.mth c m) = some fd → m ≠ "__init__" → ∃ Ca a, C.ca c = some Ca ∧ Cls C.K Ca ∧ Meth C.K Ca (Str.ofString m) a ∧ FnD C T fd a
  ini : ∀ c fd, C.P.fdef (.mth c "__init__") = some fd → ∃ Ca a, C.ca c = some Ca ∧ C.mg (Str.ofString c) = some (.ref Ca) ∧ Mk C.K Ca a ∧ FnD C T fd a
  noIni : T.mts.contains "__init__" = false
  at_ : ∀ f, T.ats.contains f = true → AtOk C f
  gl : ∀ x d, C.P.glob x = some d → GlOk C x d
  bu : ∀ x, ["len", "str", "int", "bool", "max", "min", "isinstance", "tuple", "list", "range", "enumerate", "zip", "sorted", "set", "sum", "dict", "any", "all"].contains x = true → C.mg (Str.ofString x) = none
  tb : ∀ p ∈ C.tabs, GxR.TabB C.base C.mg p.1 p.2
theorem facts (L : LawF C T) : ∀ n : Nat, Facts C (3 * n + 1) ⟨C.P, evF C.P wl n, wl⟩ T := by
  intro n
  induction n with
  | zero => exact ⟨rfl, fun f _ => ⟨.inl fun _ _ => rfl⟩, fun c _ => ⟨0, by omega, ⟨.inl fun _ _ => rfl⟩⟩, L.at_, fun m _ => ⟨fun c Ca _ => .inl fun _ _ => rfl⟩, L.gl, L.bu, L.tb⟩
  | succ n ih =>
    refine ⟨rfl, fun f _ => ?_, fun c _ => ⟨3 * n + 3, by omega, ?_⟩, L.at_, fun m hm => ⟨fun c Ca hc => ?_⟩, L.gl, L.bu, L.tb⟩
    · cases e : C.P.fdef (.fn f) with
      | none => exact ⟨.inl fun xs M => evF_no e xs M⟩
      | some fd =>
        obtain ⟨a, h1, h2, h3⟩ := L.fn f fd e
        exact ⟨.inr ⟨a, fd.params, h1, h2, (h3.fnc e ih).mono (by omega)⟩⟩
    · cases e : C.P.fdef (.mth c "__init__") with
      | none => exact ⟨.inl fun xs M => evF_no e xs M⟩
      | some fd =>
        obtain ⟨Ca, a, h1, h2, h3, h4⟩ := L.ini c fd e
        exact ⟨.inr ⟨Ca, a, fd.params, h1, h2, h3, h4.fnc e ih⟩⟩
    · cases e : C.P.fdef (.mth c m) with
      | none => exact .inl fun xs M => evF_no e xs M
      | some fd =>
        have hne : m ≠ "__init__" := fun z => by
          subst z
          rw [L.noIni] at hm
          cases hm
        obtain ⟨Ca2, a, h1, h2, h3, h4⟩ := L.mt c m fd e hne
        rw [hc] at h1
        cases h1
        exact .inr ⟨h2, a, fd.params, h3, (h4.fnc e ih).mono (by omega)⟩
end

/-! ### the law -/
def spLaw (K : PySem.W.Frag) (cs : List (Addr × Addr)) : Sp := fun vs H Q _ => (∀ p ∈ cs, H p.2 = some (.tbl #[])) ∧ ∃ (a : Addr) (ns : List Int), vs = [.ref a] ∧ SqL K H a (ns.map V.int) ∧ ns.length ≤ 63 ∧ ∀ H', Q (.bl true) H'
theorem law_ok {P : Program} {w : World} {K : PySem.W.Frag} {mg : Str → Option Value} {base : Heap} {ca : String → Option Addr} {pr : List Int → Prog} {T : Tb} {cs : List (Addr × Addr)} {fd0 : FDef} {wl n : Nat}
    (hL : ∀ sa ns, LawF ⟨P, K, w, sa, ca, pr ns, mg, base, cs⟩ T) (hsc : ∀ ns, (pr ns).script = ns) (hlaw : ∀ ns, (pr ns).fdef (.fn "law") = some fd0)
    {f : Addr} {name qual : Str} {params : Arguments} {body : List Stmt} {scope : Scope} {dV kV doc pm cdv ct oc : Value} {an od : Option Addr} {osl : Array (Option Value)} {N : List Str} {x : Str}
    (lk : K.lookup f = some ⟨oc, od, .func (PySem.W.fnOf name qual params body scope dV kV doc pm an cdv ct), osl⟩) (hcd : PySem.W.codeIn K cdv qual = true) (Sc : FnScope N [x] scope)
    (hp : 1 = fd0.params) (hs : N.length = fd0.slots) {tb : Option (Addr × Addr)} (htb : ∀ p, tb = some p → cdv = .ref p.1 ∧ p ∈ cs) (hk : ckSs T fd0.body ⟨N, scope, fun _ => true, tb⟩ body = true)
    (hrun : ∀ ns : List Int, ns.length ≤ 63 → ∃ M, evF (pr ns) wl (n + 1) (.fn "law") [.scr] [] = some (.bl true, M)) :
    FnOk P w K mg base CXn (3 * n + 3) f (PySem.W.fnOf name qual params body scope dV kV doc pm an cdv ct) [x] (spLaw K cs) := by
  refine ⟨fun vs H Q E h => by obtain ⟨_, a, ns, rfl, _⟩ := h; rfl, fun A outer s H args us vs Q E hr e0 hb hv h => ?_⟩
  obtain ⟨htabs, a, ns, rfl, hS, hlen, q⟩ := h
  have L := hL a ns
  have F := fn_snd (C := ⟨P, K, w, a, ca, pr ns, mg, base, cs⟩) (key := .fn "law") (wl := wl) lk hcd Sc (hlaw ns) hp hs htb hk (facts L n)
  obtain ⟨M, hM⟩ := hrun ns hlen
  refine F.run A outer s H args us [.ref a] Q E hr e0 hb hv ⟨hp, [], [], [.scr], .bl true, M, ⟨rfl, List.nodup_nil, (fun m o e => by simp at e), ?_, fun p hp => ⟨#[], htabs p hp, trivial⟩⟩, .cons .scr .nil, hM, fun α' v H' _ _ r => ?_⟩
  · show ScOk ⟨P, K, w, a, ca, pr ns, mg, base, cs⟩ [] H
    unfold ScOk
    show (Rd H a (.lst ((pr ns).script.map V.int)) ∧ a ∉ ([] : List Addr)) ∨ ∃ (o : Obj) (its : Array Value) (n : Nat), K.lookup a = some o ∧ o.cls = .type "list" ∧ o.dict = none ∧ o.data = .seq its n ∧ its.size ≤ sizeLine ∧ Vals ((pr ns).script.map V.int) its.toList
    rw [hsc]
    rcases hS with h | h
    · exact .inl ⟨h, by simp⟩
    · exact .inr h
  · cases r
    exact q H'
end Pw
namespace Pw
open PySem PySem.Spec PyProof.Rows L2
/-- each entry of the table -/
inductive AllF (Q : FK → FDef → Prop) : List (FK × FDef) → Prop where
  | nil : AllF Q []
  | cons {k : FK} {fd : FDef} {l : List (FK × FDef)} : Q k fd → AllF Q l → AllF Q ((k, fd) :: l)
theorem AllF.get {Q : FK → FDef → Prop} {k : FK} {fd : FDef} : ∀ {l : List (FK × FDef)}, AllF Q l → l.lookup k = some fd → Q k fd
  | _, .nil, h => by cases h
  | _, .cons (k := j) q r, h => by
    rw [List.lookup_cons] at h
    split at h
    · rename_i e
      cases h
      rw [eq_of_beq e]
      exact q
    · exact AllF.get r h
def Qf (C : PC) (T : Tb) : FK → FDef → Prop
  | .fn f, fd => ∃ a, C.mg (Str.ofString f) = some (.ref a) ∧ PySem.W.keepIn C.K (.ref a) = true ∧ FnD C T fd a
  | .mth c m, fd => if m = "__init__" then ∃ Ca a, C.ca c = some Ca ∧ C.mg (Str.ofString c) = some (.ref Ca) ∧ Mk C.K Ca a ∧ FnD C T fd a
    else ∃ Ca a, C.ca c = some Ca ∧ Cls C.K Ca ∧ Meth C.K Ca (Str.ofString m) a ∧ FnD C T fd a
theorem lookup_mem {β : Type} {x : String} {d : β} : ∀ {l : List (String × β)}, l.lookup x = some d → (x, d) ∈ l
  | [], h => by cases h
  | (y, e) :: l, h => by
    rw [List.lookup_cons] at h
    split at h
    · rename_i q
      cases h
      rw [eq_of_beq q]
      exact List.mem_cons_self
    · exact List.mem_cons_of_mem _ (lookup_mem h)
theorem lawF_of {C : PC} {T : Tb} {tbl : List (FK × FDef)} (h : AllF (Qf C T) tbl) (hP : C.P.fdef = fun k => tbl.lookup k) (h1 : ∀ f, T.ats.contains f = true → AtOk C f) (h2 : ∀ x d, C.P.glob x = some d → GlOk C x d)
    (h3 : ∀ x, ["len", "str", "int", "bool", "max", "min", "isinstance", "tuple", "list", "range", "enumerate", "zip", "sorted", "set", "sum", "dict", "any", "all"].contains x = true → C.mg (Str.ofString x) = none) (h5 : ∀ p ∈ C.tabs, GxR.TabB C.base C.mg p.1 p.2) (h4 : T.mts.contains "__init__" = false := by rfl) : LawF C T := by
  refine ⟨fun f fd e => ?_, fun c m fd e hm => ?_, fun c fd e => ?_, h4, h1, h2, h3, h5⟩
  · rw [hP] at e
    exact h.get e
  · rw [hP] at e
    have := h.get e
    simp only [Qf, if_neg hm] at this
    exact this
  · rw [hP] at e
    have := h.get e
    simp only [Qf, if_true] at this
    exact this
end Pw

end
section
set_option maxHeartbeats 2000000
/-! SndT: the end of every law over a head by facts (HandS.HeadHook4): all facts of the law's functions from lists. -/
namespace Pw
open PySem PySem.Spec PyProof.Rows L2

/-- where a function stands -/
def atOf : FK → He.Defn
  | .fn f => (Str.ofString f, none)
  | .mth c m => (Str.ofString c, some (Str.ofString m))
/-- what is checked of one def, by its text alone -/
structure Good (T : Tb) (tf : List He.Defn) (key : FK) (fd : FDef) (d : He.DefD) : Prop where
  at_ : d.at_ = atOf key
  dfl : d.dfl = []
  kwd : d.kwd = []
  ok : ∃ N ps : List Str, FnScope N ps d.scope ∧ ps.length = fd.params ∧ N.length = fd.slots ∧
    (∀ (K : PySem.W.Frag) (f : Addr) (g : FuncData), FunD K d.name d.qual d.params d.body d.scope [] [] f g → Binds K g ps []) ∧
    (ckSs T fd.body ⟨N, d.scope, fun _ => true, none⟩ d.body = true ∨ (d.at_ ∈ tf ∧ ∀ p, ckSs T fd.body ⟨N, d.scope, fun _ => true, some p⟩ d.body = true))
/-- the facts that the head tells -/
def faKey : FK → List He.Fa
  | .fn f => [.glo (Str.ofString f)]
  | .mth c m => if m = "__init__" then [.mkr (Str.ofString c)] else [.meth (Str.ofString c) (Str.ofString m)]
theorem faKey_m {c m : String} (h : m ≠ "__init__") : He.Fa.meth (Str.ofString c) (Str.ofString m) ∈ faKey (.mth c m) := by simp [faKey, h]
theorem faKey_i {c : String} : He.Fa.mkr (Str.ofString c) ∈ faKey (.mth c "__init__") := by simp [faKey]
def BUs : List String := ["len", "str", "int", "bool", "max", "min", "isinstance", "tuple", "list", "range", "enumerate", "zip", "sorted", "set", "sum", "dict", "any", "all"]
def faOf (keys : List FK) (cls ats : List String) (cis : List (String × Int)) : List He.Fa :=
  keys.flatMap faKey ++ (cls.flatMap fun c => .glo (Str.ofString c) :: .cls (Str.ofString c) :: ats.map fun a => .noat (Str.ofString c) (Str.ofString a)) ++
    (cis.map fun q => .int (Str.ofString q.1) q.2) ++ BUs.map fun x => .free (Str.ofString x)
def caOf (K : PySem.W.Frag) (cls : List String) (c : String) : Option Addr := if cls.contains c = true then some (He.ga K (Str.ofString c)) else none
def keysIn (cls : List String) : List FK → Bool
  | [] => true
  | .fn _ :: r => keysIn cls r
  | .mth c _ :: r => cls.contains c && keysIn cls r
theorem keysIn_mem {cls : List String} {c m : String} : ∀ {l : List FK}, keysIn cls l = true → FK.mth c m ∈ l → cls.contains c = true
  | [], _, h => by cases h
  | .fn _ :: r, h, hm => by
    rcases List.mem_cons.mp hm with z | z
    · cases z
    · exact keysIn_mem (l := r) h z
  | .mth c' m' :: r, h, hm => by
    obtain ⟨h1, h2⟩ := Bool.and_eq_true_iff.mp (show (cls.contains c' && keysIn cls r) = true from h)
    rcases List.mem_cons.mp hm with z | z
    · cases z; exact h1
    · exact keysIn_mem h2 z
/-- each of them is good -/
inductive AllG (T : Tb) (tf : List He.Defn) : List (FK × FDef) → List He.DefD → Prop where
  | nil : AllG T tf [] []
  | cons {k : FK} {fd : FDef} {l : List (FK × FDef)} {d : He.DefD} {ds : List He.DefD} : Good T tf k fd d → AllG T tf l ds → AllG T tf ((k, fd) :: l) (d :: ds)
theorem AllG.get {T : Tb} {tf : List He.Defn} {k : FK} {fd : FDef} : ∀ {l : List (FK × FDef)} {ds : List He.DefD}, AllG T tf l ds → l.lookup k = some fd → ∃ d ∈ ds, Good T tf k fd d ∧ k ∈ l.map (·.1)
  | _, _, .nil, h => by cases h
  | _, _, .cons (k := j) q r, h => by
    rw [List.lookup_cons] at h
    split at h
    · rename_i e
      cases h
      rw [eq_of_beq e]
      exact ⟨_, List.mem_cons_self, q, List.mem_cons_self⟩
    · obtain ⟨d, h1, h2, h3⟩ := AllG.get r h
      exact ⟨d, List.mem_cons_of_mem _ h1, h2, List.mem_cons_of_mem _ h3⟩

section
variable {P : Program} {w : World} {K : PySem.W.Frag} {mg : Str → Option Value} {h base : Heap} {sa : Addr} {T : Tb} {tbl : List (FK × FDef)} {ds : List He.DefD} {tf : List He.Defn} {cls ats : List String} {cis : List (String × Int)} {ns : List Int}
abbrev pcOf (P : Program) (K : PySem.W.Frag) (w : World) (sa : Addr) (cls : List String) (tbl : List (FK × FDef)) (cis : List (String × Int)) (ns : List Int) (mg : Str → Option Value) (base : Heap) (tf : List He.Defn) : PC :=
  ⟨P, K, w, sa, caOf K cls, ⟨fun k => tbl.lookup k, fun x => (cis.lookup x).map D.int, ns⟩, mg, base, tf.map (He.cT K)⟩
theorem fnD_mk {C : PC} {key : FK} {fd : FDef} {d : He.DefD} {g : FuncData} {tf : List He.Defn} (hT : C.tabs = tf.map (He.cT C.K)) (G : Good T tf key fd d) (F : FunD C.K d.name d.qual d.params d.body d.scope (d.dvs C.K) (d.kws C.K) (He.fAd C.K d.at_) g) : FnD C T fd (He.fAd C.K d.at_) := by
  obtain ⟨h1, h2, h3, N, ps, h4, h5, h6, h7, h8⟩ := G
  have F0 : FunD C.K d.name d.qual d.params d.body d.scope [] [] (He.fAd C.K d.at_) g := by
    have e1 : d.dvs C.K = [] := by unfold He.DefD.dvs; rw [h2]; rfl
    have e2 : d.kws C.K = [] := by unfold He.DefD.kws; rw [h3]; rfl
    rw [e1, e2] at F
    exact F
  have hb := h7 _ _ _ F0
  obtain ⟨oc, od, dV, kV, doc, pm, an, cdv, ct, osl, rfl, lk, hcd, _, _⟩ := F.ex
  rcases h8 with h8 | ⟨h8, h9⟩
  · exact ⟨_, _, _, _, _, _, _, _, _, _, _, _, _, _, _, N, ps, none, lk, hcd, h4, h5, h6, (fun p e => by cases e), h8, hb⟩
  · obtain ⟨c, rfl⟩ := He.codeIn_ref hcd
    have e := He.codeOf_eq lk rfl
    refine ⟨_, _, _, _, _, _, _, _, _, _, _, _, _, _, _, N, ps, some (He.cT C.K d.at_), lk, hcd, h4, h5, h6, (fun p e2 => ?_), h9 _, hb⟩
    cases e2
    refine ⟨?_, by rw [hT]; exact List.mem_map_of_mem h8⟩
    show Value.ref c = .ref (He.codeOf C.K d.at_)
    rw [e]
theorem lawF_he (X : K.In h) (G : h.Ns mainGlobals mg) (c : He.SaysD (faOf (tbl.map (·.1)) cls ats cis) ds K) (hg : AllG T tf tbl ds) (hk : keysIn cls (tbl.map (·.1)) = true) (ha : ∀ x, T.ats.contains x = true → x ∈ ats) (h4 : T.mts.contains "__init__" = false)
    (hB : ∀ p ∈ tf.map (He.cT K), GxR.TabB base mg p.1 p.2) : LawF (pcOf P K w sa cls tbl cis ns mg base tf) T := by
  have fact : ∀ {f : He.Fa}, f ∈ faOf (tbl.map (·.1)) cls ats cis → f.ok K = true := fun hf => c.facts hf
  have fkey : ∀ {k : FK} {f : He.Fa}, k ∈ tbl.map (·.1) → f ∈ faKey k → f.ok K = true := fun hk hf =>
    fact (List.mem_append_left _ (List.mem_append_left _ (List.mem_append_left _ (List.mem_flatMap.mpr ⟨_, hk, hf⟩))))
  have fcls : ∀ {x : String} {f : He.Fa}, cls.contains x = true → f ∈ (He.Fa.glo (Str.ofString x) :: .cls (Str.ofString x) :: ats.map fun a => .noat (Str.ofString x) (Str.ofString a)) → f.ok K = true := fun hx hf =>
    fact (List.mem_append_left _ (List.mem_append_left _ (List.mem_append_right _ (List.mem_flatMap.mpr ⟨_, List.contains_iff_mem.mp hx, hf⟩))))
  have ca_of : ∀ {x : String} {Ca : Addr}, caOf K cls x = some Ca → cls.contains x = true ∧ Ca = He.ga K (Str.ofString x) := by
    intro x Ca e
    unfold caOf at e
    split at e
    · cases e; exact ⟨by assumption, rfl⟩
    · cases e
  have ca_to : ∀ {x : String}, cls.contains x = true → caOf K cls x = some (He.ga K (Str.ofString x)) := fun e => by unfold caOf; rw [if_pos e]
  have fnd : ∀ {k : FK} {fd : FDef} {d : He.DefD}, d ∈ ds → Good T tf k fd d → FnD (pcOf P K w sa cls tbl cis ns mg base tf) T fd (He.fAd K (atOf k)) := by
    intro k fd d hd gd
    obtain ⟨g, F⟩ := c.defs hd
    have := fnD_mk (C := pcOf P K w sa cls tbl cis ns mg base tf) rfl gd F
    rw [gd.at_] at this
    exact this
  refine ⟨fun f fd e => ?_, fun x m fd e hm => ?_, fun x fd e => ?_, h4, fun f hf => ⟨fun x Ca e => ?_⟩, fun x d e => ?_, fun x hx => ?_, hB⟩
  · obtain ⟨d, hd, gd, hkm⟩ := hg.get e
    refine ⟨He.ga K (Str.ofString f), He.glo_ok X G (fkey hkm List.mem_cons_self), ?_, fnd hd gd⟩
    obtain ⟨g, F⟩ := c.defs hd
    have := F.kp
    rw [gd.at_] at this
    exact this
  · obtain ⟨d, hd, gd, hkm⟩ := hg.get e
    have hc := keysIn_mem hk hkm
    refine ⟨_, _, ca_to hc, He.cls_ok (fcls hc (List.mem_cons_of_mem _ List.mem_cons_self)), He.meth_ok (fkey hkm (faKey_m hm)), fnd hd gd⟩
  · obtain ⟨d, hd, gd, hkm⟩ := hg.get e
    have hc := keysIn_mem hk hkm
    exact ⟨_, _, ca_to hc, He.glo_ok X G (fcls hc List.mem_cons_self), He.mkr_ok (fkey hkm faKey_i), fnd hd gd⟩
  · obtain ⟨hc, rfl⟩ := ca_of e
    exact ⟨He.cls_ok (fcls hc (List.mem_cons_of_mem _ List.mem_cons_self)), He.noat_ok (fcls hc (List.mem_cons_of_mem _ (List.mem_cons_of_mem _ (List.mem_map.mpr ⟨f, ha f hf, rfl⟩))))⟩
  · obtain ⟨i, e1, e2⟩ := Option.map_eq_some_iff.mp e
    obtain ⟨t, ht⟩ := He.int_ok X G (fact (f := .int (Str.ofString x) i) (List.mem_append_left _ (List.mem_append_right _ (List.mem_map.mpr ⟨(x, i), lookup_mem e1, rfl⟩))))
    subst e2
    exact ⟨_, .int _, ht, ⟨_, rfl⟩, fun _ _ => .int _⟩
  · exact He.free_ok X G (fact (List.mem_append_right _ (List.mem_map.mpr ⟨x, List.contains_iff_mem.mp hx, rfl⟩)))
/-- the law's promise at the head -/
theorem lawAt_he {l : PySem.W.OpenLaw} {fa : Addr} {ex : PySem.W.Frag → Bool} {fd0 : FDef} {dl : He.DefD} {x : Str} {wl : Nat} {N : List Str} (X : K.In h) (G : h.Ns mainGlobals mg) (c : He.SaysX (faOf (tbl.map (·.1)) cls ats cis) ds [] tf ex w h K) (hfa : mg "law" = some (.ref fa))
    (hg : AllG T tf tbl ds) (hk : keysIn cls (tbl.map (·.1)) = true) (ha : ∀ x, T.ats.contains x = true → x ∈ ats) (h4 : T.mts.contains "__init__" = false)
    (hlaw : tbl.lookup (.fn "law") = some fd0) (hdl : dl ∈ ds) (hat : dl.at_ = atOf (.fn "law")) (hd1 : dl.dfl = []) (hd2 : dl.kwd = []) (hp : 1 = fd0.params) (Sc : FnScope N [x] dl.scope) (hs : N.length = fd0.slots)
    (hck : ckSs T fd0.body ⟨N, dl.scope, fun _ => true, none⟩ dl.body = true ∨ (dl.at_ ∈ tf ∧ ∀ p, ckSs T fd0.body ⟨N, dl.scope, fun _ => true, some p⟩ dl.body = true))
    (hbx : ∀ g, FunD K dl.name dl.qual dl.params dl.body dl.scope [] [] fa g → ∀ (s : Shared) (u : Value), BindsTo s g ⟨[u], []⟩ [(x, u)])
    (hrun : ∀ ns : List Int, ns.length ≤ 63 → ∃ M, evF ⟨fun k => tbl.lookup k, fun x => (cis.lookup x).map D.int, ns⟩ wl 71 (.fn "law") [.scr] [] = some (.bl true, M)) :
    LamX.LawAtS l w K CXn 213 63 x mg fa h := by
  have hkl : FK.fn "law" ∈ tbl.map (·.1) := (hg.get hlaw).elim fun _ z => z.2.2
  have efa : He.ga K (Str.ofString "law") = fa := by
    have z := He.glo_ok X G (x := Str.ofString "law") (c.t.d.facts (List.mem_append_left _ (List.mem_append_left _ (List.mem_append_left _ (List.mem_flatMap.mpr ⟨_, hkl, List.mem_cons_self⟩)))))
    have z2 := z.symm.trans hfa
    cases z2
    rfl
  obtain ⟨g, F⟩ := c.t.d.defs hdl
  have F0 : FunD K dl.name dl.qual dl.params dl.body dl.scope [] [] fa g := by
    have e1 : dl.dvs K = [] := by unfold He.DefD.dvs; rw [hd1]; rfl
    have e2 : dl.kws K = [] := by unfold He.DefD.kws; rw [hd2]; rfl
    rw [e1, e2, hat] at F
    rw [← efa]
    exact F
  have hb := hbx g F0
  refine ⟨g, tf.map (He.cT K), spLaw K (tf.map (He.cT K)), fun p hp => ?_, fun p hp => ?_, fun p hp => ?_, hb, fun H a ns hl _ hH hS => ⟨hH, a, ns, rfl, hS, hl, fun _ => rfl⟩, fun base _ _ hB => ?_⟩
  · obtain ⟨q, hq, rfl⟩ := List.mem_map.mp hp
    exact c.empty q hq
  · obtain ⟨q, hq, rfl⟩ := List.mem_map.mp hp
    exact c.out q hq
  · obtain ⟨q, hq, rfl⟩ := List.mem_map.mp hp
    exact PySem.W.codeHd_of_K X (c.hd q hq)
  · have hB2 : ∀ p ∈ tf.map (He.cT K), GxR.TabB base mg p.1 p.2 := fun p hp => ⟨(hB p hp).code, (hB p hp).bm, (hB p hp).gP⟩
    obtain ⟨oc, od, dV, kV, doc, pm, an, cdv, ct, osl, rfl, lk, hcd, _, _⟩ := F0.ex
    rcases hck with hck | ⟨hm, hck⟩
    · exact law_ok (n := 70) (wl := wl) (T := T) (cs := tf.map (He.cT K)) (pr := fun ns => ⟨fun k => tbl.lookup k, fun x => (cis.lookup x).map D.int, ns⟩) (fun sa ns => lawF_he (ns := ns) (sa := sa) (P := l.prog) (w := w) X G c.t.d hg hk ha h4 hB2) (fun _ => rfl) (fun _ => hlaw) lk hcd Sc hp hs (tb := none) (fun p e => by cases e) hck hrun
    · obtain ⟨cc, rfl⟩ := He.codeIn_ref hcd
      have e := He.codeOf_eq (p := dl.at_) (by rw [hat]; show K.lookup (He.ga K (Str.ofString "law")) = _; rw [efa]; exact lk) rfl
      refine law_ok (n := 70) (wl := wl) (T := T) (cs := tf.map (He.cT K)) (pr := fun ns => ⟨fun k => tbl.lookup k, fun x => (cis.lookup x).map D.int, ns⟩) (fun sa ns => lawF_he (ns := ns) (sa := sa) (P := l.prog) (w := w) X G c.t.d hg hk ha h4 hB2) (fun _ => rfl) (fun _ => hlaw) lk hcd Sc hp hs (tb := some (He.cT K dl.at_)) (fun p e2 => ?_) (hck _) hrun
      cases e2
      refine ⟨?_, List.mem_map_of_mem hm⟩
      show Value.ref cc = .ref (He.codeOf K dl.at_)
      rw [e]
end
end Pw

end
section
namespace Pw
/-! template=0 -/
def F.blocks_of : FDef := ⟨1, 1,
  (.seq (.ite (.cmp .eq (.idx (.var 0) (.int (0))) (.str "box"))
  (.ret (.tup (.cons (.tup (.cons (.idx (.var 0) (.int (4))) (.cons (.tup .nil) .nil))) .nil)))
  .skip)
  (.seq (.ite (.cmp .eq (.idx (.var 0) (.int (0))) (.str "each"))
  (.ret (.tup (.cons (.tup (.cons (.idx (.var 0) (.int (2))) (.cons (.tup .nil) .nil))) .nil)))
  .skip)
  (.seq (.ite (.cmp .eq (.idx (.var 0) (.int (0))) (.str "when"))
  (.ret (.tup (.cons (.tup (.cons (.idx (.var 0) (.int (2))) (.cons (.tup (.cons (.int (0)) .nil)) .nil))) (.cons (.tup (.cons (.idx (.var 0) (.int (3))) (.cons (.tup (.cons (.int (1)) .nil)) .nil))) .nil))))
  .skip)
  (.ret (.tup .nil)))))⟩
/-! contents=0 before=1 around=2 found=3 number=4 template=5 place=6 block=7 more=8 -/
def F.listed : FDef := ⟨3, 9,
  (.seq (.asg (.name 3) (.lst .nil))
  (.seq (.for (.tup [4, 5]) (.enum (.var 0))
  (.seq (.asg (.name 6) (.bin .add (.var 1) (.tup (.cons (.var 4) .nil))))
  (.seq (.expr (.bm .append (.var 3) (.cons (.tup (.cons (.var 6) (.cons (.var 5) (.cons (.var 2) .nil)))) .nil)))
  (.for (.tup [7, 8]) (.cons (.call "blocks_of" (.cons (.var 5) .nil)) .nil)
  (.expr (.bm .extend (.var 3) (.cons (.call "listed" (.cons (.var 7) (.cons (.bin .add (.var 6) (.var 8)) (.cons (.bin .add (.var 2) (.tup (.cons (.idx (.var 5) (.int (0))) .nil))) .nil)))) .nil)))))))
  (.ret (.var 3))))⟩
/-! contents=0 place=1 template=2 around=3 -/
def F.templates : FDef := ⟨1, 4,
  (.ret (.gtup (.for1 [1, 2, 3] (.tup [1, 2, 3]) (.cons (.call "listed" (.cons (.var 0) (.cons (.tup .nil) (.cons (.tup .nil) .nil)))) .nil) (.bl true) (.cons (.tup (.cons (.var 1) (.cons (.var 2) .nil))) .nil))))⟩
/-! _law_script=0 _law_k=1 -/
def F.L_cell : FDef := ⟨2, 2,
  (.seq (.ite (.cmp .lt (.var 1) (.bi .len (.cons (.var 0) .nil)))
  (.ret (.idx (.var 0) (.var 1)))
  .skip)
  (.ret (.int (0))))⟩
/-! _law_script=0 _law_first=1 _law_last=2 _law_digits_here=3 _law_k=4 _law_cell_here=5 _law_turn=6 _law_seed=7 -/
def F.L_digits : FDef := ⟨3, 8,
  (.seq (.asg (.name 3) (.lst .nil))
  (.seq (.for (.name 4) (.range (.cons (.var 1) (.cons (.var 2) .nil)))
  (.seq (.asg (.name 5) (.call "_law_cell" (.cons (.var 0) (.cons (.var 4) .nil))))
  (.seq (.ite (.cmp .lt (.var 5) (.int (0)))
  (.asg (.name 5) (.bin .sub (.int (1)) (.bin .mul (.int (2)) (.var 5))))
  .skip)
  (.ite (.cmp .ge (.var 5) (.bin .pow (.int (10)) (.int (18))))
  (.for (.name 6) (.range (.cons (.int (60)) .nil))
  (.ite (.cmp .gt (.var 5) (.int (0)))
  (.seq (.expr (.bm .append (.var 3) (.cons (.bin .mod (.bi .int (.cons (.var 5) .nil)) (.int (1000))) .nil)))
  (.asg (.name 5) (.bin .fdiv (.var 5) (.int (1000)))))
  .skip))
  (.seq (.asg (.name 7) (.bin .mod (.bi .int (.cons (.bin .add (.bin .add (.bin .mul (.var 5) (.int (48271))) (.bin .mul (.var 4) (.int (69621)))) (.int (11))) .nil)) (.int (2147483647))))
  (.for (.name 6) (.range (.cons (.int (12)) .nil))
  (.seq (.asg (.name 7) (.bin .mod (.bi .int (.cons (.bin .add (.bin .add (.bin .mul (.var 7) (.int (16807))) (.bin .mul (.int (7)) (.var 6))) (.int (1))) .nil)) (.int (2147483647))))
  (.expr (.bm .append (.var 3) (.cons (.bin .mod (.bi .int (.cons (.bin .fdiv (.var 7) (.int (997))) .nil)) (.int (1000))) .nil))))))))))
  (.ret (.var 3))))⟩
/-! _law_box_here=0 _law_many=1 _law_at=2 -/
def F.L_draw : FDef := ⟨2, 3,
  (.seq (.asg (.name 2) (.idx (.var 0) (.int (1))))
  (.seq (.setidx (.var 0) (.int (1)) (.bin .add (.var 2) (.int (1))))
  (.seq (.ite (.cmp .lt (.var 2) (.bi .len (.cons (.idx (.var 0) (.int (0))) .nil)))
  (.ret (.bin .mod (.bi .int (.cons (.idx (.idx (.var 0) (.int (0))) (.var 2)) .nil)) (.var 1)))
  .skip)
  (.ret (.int (0))))))⟩
/-! _law_actual=0 _law_expected=1 _law_k=2 -/
def F.L_same : FDef := ⟨2, 3,
  (.seq (.ite (.isi (.var 1) .tuple)
  (.seq (.ite (.or (.no (.isi (.var 0) .tuple)) (.cmp .ne (.bi .len (.cons (.var 0) .nil)) (.bi .len (.cons (.var 1) .nil))))
  (.ret (.bl false))
  .skip)
  (.seq (.for (.name 2) (.range (.cons (.bi .len (.cons (.var 1) .nil)) .nil))
  (.ite (.no (.call "_law_same" (.cons (.idx (.var 0) (.var 2)) (.cons (.idx (.var 1) (.var 2)) .nil))))
  (.ret (.bl false))
  .skip))
  (.ret (.bl true))))
  .skip)
  (.seq (.ite (.isN (.var 1))
  (.ret (.isN (.var 0)))
  .skip)
  (.seq (.ite (.isi (.var 1) .bool)
  (.ret (.and (.isi (.var 0) .bool) (.cmp .eq (.var 0) (.var 1))))
  .skip)
  (.seq (.ite (.isi (.var 1) .int)
  (.ret (.and (.isi (.var 0) .int) (.and (.no (.isi (.var 0) .bool)) (.cmp .eq (.var 0) (.var 1)))))
  .skip)
  (.ret (.and (.isi (.var 0) .str) (.cmp .eq (.var 0) (.var 1))))))))⟩
/-! _law_box_here=0 _law_depth=1 _law_kind=2 _law_one=3 _law_two=4 _law_leaves=5 -/
def F.L_expr : FDef := ⟨2, 6,
  (.seq (.asg (.name 2) (.call "_law_draw" (.cons (.var 0) (.cons (.int (12)) .nil))))
  (.seq (.ite (.or (.cmp .eq (.var 1) (.int (0))) (.cmp .lt (.var 2) (.int (7))))
  (.seq (.asg (.name 5) (.lst (.cons (.tup (.cons (.str "cell") (.cons (.int (0)) .nil))) (.cons (.tup (.cons (.str "cell") (.cons (.int (1)) .nil))) (.cons (.tup (.cons (.str "prop") (.cons (.int (0)) .nil))) (.cons (.tup (.cons (.str "store") (.cons (.int (0)) .nil))) (.cons (.tup (.cons (.str "store") (.cons (.int (1)) .nil))) (.cons (.tup (.cons (.str "index") .nil)) .nil))))))))
  (.ret (.idx (.bin .add (.lst (.cons (.tup (.cons (.str "num") (.cons (.call "_law_draw" (.cons (.var 0) (.cons (.int (4)) .nil))) .nil))) .nil)) (.var 5)) (.bin .mod (.bi .int (.cons (.var 2) .nil)) (.int (7))))))
  .skip)
  (.seq (.asg (.name 3) (.call "_law_expr" (.cons (.var 0) (.cons (.bin .sub (.var 1) (.int (1))) .nil))))
  (.seq (.asg (.name 4) (.call "_law_expr" (.cons (.var 0) (.cons (.bin .sub (.var 1) (.int (1))) .nil))))
  (.seq (.ite (.cmp .eq (.var 2) (.int (11)))
  (.ret (.tup (.cons (.str "if") (.cons (.var 3) (.cons (.var 4) (.cons (.call "_law_expr" (.cons (.var 0) (.cons (.bin .sub (.var 1) (.int (1))) .nil))) .nil))))))
  .skip)
  (.ret (.tup (.cons (.idx (.lst (.cons (.str "plus") (.cons (.str "minus") (.cons (.str "same") (.cons (.str "less") .nil))))) (.bin .mod (.bi .int (.cons (.var 2) .nil)) (.int (4)))) (.cons (.var 3) (.cons (.var 4) .nil))))))))))⟩
/-! _law_box_here=0 -/
def F.L_key : FDef := ⟨1, 1,
  (.seq (.ite (.cmp .eq (.call "_law_draw" (.cons (.var 0) (.cons (.int (3)) .nil))) (.int (0)))
  (.ret (.call "_law_expr" (.cons (.var 0) (.cons (.int (1)) .nil))))
  .skip)
  (.ret .non))⟩
/-! _law_box_here=0 _law_own=1 _law_level=2 _law_last=3 _law_free=4 _law_kind=5 _law_action=6 _law_key_here=7 _law_tag=8 _law_test=9 _law_yes=10 _law_count=11 _law_props=12 _law_k=13 -/
def F.L_template : FDef := ⟨5, 14,
  (.seq (.setidx (.var 0) (.int (2)) (.bin .sub (.idx (.var 0) (.int (2))) (.int (1))))
  (.seq (.asg (.name 5) (.call "_law_draw" (.cons (.var 0) (.cons (.int (12)) .nil))))
  (.seq (.ite (.cmp .eq (.var 5) (.int (0)))
  (.ret (.tup (.cons (.str "text") (.cons (.idx (.lst (.cons (.str "a") (.cons (.str "b c") (.cons (.str "7") .nil)))) (.call "_law_draw" (.cons (.var 0) (.cons (.int (3)) .nil)))) .nil))))
  .skip)
  (.seq (.ite (.and (.cmp .lt (.var 5) (.int (5))) (.and (.cmp .lt (.var 2) (.int (3))) (.cmp .gt (.idx (.var 0) (.int (2))) (.int (0)))))
  (.seq (.asg (.name 6) (.idx (.lst (.cons .non (.cons (.int (0)) (.cons (.int (1)) (.cons (.int (2)) .nil))))) (.call "_law_draw" (.cons (.var 0) (.cons (.int (4)) .nil)))))
  (.seq (.asg (.name 7) (.call "_law_key" (.cons (.var 0) .nil)))
  (.seq (.asg (.name 8) (.idx (.lst (.cons (.str "p") (.cons (.str "div") (.cons (.str "li") .nil)))) (.call "_law_draw" (.cons (.var 0) (.cons (.int (3)) .nil)))))
  (.ret (.tup (.cons (.str "box") (.cons (.var 8) (.cons (.var 7) (.cons (.var 6) (.cons (.call "_law_contents" (.cons (.var 0) (.cons (.var 1) (.cons (.bin .add (.var 2) (.int (1))) (.cons (.var 3) (.cons (.var 4) .nil)))))) .nil))))))))))
  .skip)
  (.seq (.ite (.and (.cmp .eq (.var 5) (.int (5))) (.and (.cmp .lt (.var 2) (.int (3))) (.cmp .gt (.idx (.var 0) (.int (2))) (.int (0)))))
  (.seq (.asg (.name 9) (.call "_law_expr" (.cons (.var 0) (.cons (.int (1)) .nil))))
  (.seq (.asg (.name 10) (.call "_law_contents" (.cons (.var 0) (.cons (.var 1) (.cons (.bin .add (.var 2) (.int (1))) (.cons (.var 3) (.cons (.bl false) .nil)))))))
  (.ret (.tup (.cons (.str "when") (.cons (.var 9) (.cons (.var 10) (.cons (.call "_law_contents" (.cons (.var 0) (.cons (.var 1) (.cons (.bin .add (.var 2) (.int (1))) (.cons (.var 3) (.cons (.bl false) .nil)))))) .nil))))))))
  .skip)
  (.seq (.ite (.and (.cmp .eq (.var 5) (.int (6))) (.and (.cmp .lt (.var 2) (.int (3))) (.and (.cmp .gt (.idx (.var 0) (.int (2))) (.int (0))) (.cmp .gt (.idx (.var 0) (.int (4))) (.int (0))))))
  (.seq (.setidx (.var 0) (.int (4)) (.int (0)))
  (.seq (.asg (.name 11) (.tup (.cons (.str "plus") (.cons (.tup (.cons (.str "same") (.cons (.call "_law_expr" (.cons (.var 0) (.cons (.int (1)) .nil))) (.cons (.call "_law_expr" (.cons (.var 0) (.cons (.int (0)) .nil))) .nil)))) (.cons (.tup (.cons (.str "num") (.cons (.call "_law_draw" (.cons (.var 0) (.cons (.int (2)) .nil))) .nil))) .nil)))))
  (.ret (.tup (.cons (.str "each") (.cons (.var 11) (.cons (.call "_law_contents" (.cons (.var 0) (.cons (.var 1) (.cons (.bin .add (.var 2) (.int (1))) (.cons (.var 3) (.cons (.bl false) .nil)))))) .nil)))))))
  .skip)
  (.seq (.ite (.and (.cmp .lt (.var 5) (.int (9))) (.and (.cmp .lt (.var 1) (.var 3)) (.cmp .gt (.idx (.var 0) (.int (3))) (.int (0)))))
  (.seq (.setidx (.var 0) (.int (3)) (.bin .sub (.idx (.var 0) (.int (3))) (.int (1))))
  (.seq (.asg (.name 12) (.coll .tuple (.cons (.lcomp (.for1 [13] (.name 13) (.range (.cons (.call "_law_draw" (.cons (.var 0) (.cons (.int (3)) .nil))) .nil)) (.bl true) (.cons (.call "_law_expr" (.cons (.var 0) (.cons (.int (1)) .nil))) .nil))) .nil)))
  (.ret (.tup (.cons (.str "child") (.cons (.bin .add (.bin .add (.var 1) (.int (1))) (.call "_law_draw" (.cons (.var 0) (.cons (.bin .sub (.var 3) (.var 1)) .nil)))) (.cons (.call "_law_key" (.cons (.var 0) .nil)) (.cons (.var 12) .nil))))))))
  .skip)
  (.seq (.ite (.and (.cmp .eq (.var 5) (.int (9))) (.and (.cmp .eq (.var 1) (.int (0))) (.and (.var 4) (.cmp .gt (.bi .len (.cons (.idx (.var 0) (.int (5))) .nil)) (.int (0))))))
  (.ret (.tup (.cons (.str "part") (.cons (.bm .pop (.idx (.var 0) (.int (5))) .nil) .nil))))
  .skip)
  (.seq (.ite (.cmp .eq (.var 5) (.int (10)))
  (.ret (.tup (.cons (.str "input") (.cons (.str "q") (.cons (.call "_law_draw" (.cons (.var 0) (.cons (.int (3)) .nil))) .nil)))))
  .skip)
  (.ret (.tup (.cons (.str "show") (.cons (.call "_law_expr" (.cons (.var 0) (.cons (.int (1)) .nil))) .nil)))))))))))))⟩
/-! _law_box_here=0 _law_own=1 _law_level=2 _law_last=3 _law_free=4 _law_rows=5 _law_k=6 -/
def F.L_contents : FDef := ⟨5, 7,
  (.seq (.asg (.name 5) (.lst .nil))
  (.seq (.for (.name 6) (.range (.cons (.bin .add (.int (1)) (.call "_law_draw" (.cons (.var 0) (.cons (.int (3)) .nil)))) .nil))
  (.ite (.cmp .gt (.idx (.var 0) (.int (2))) (.int (0)))
  (.expr (.bm .append (.var 5) (.cons (.call "_law_template" (.cons (.var 0) (.cons (.var 1) (.cons (.var 2) (.cons (.var 3) (.cons (.var 4) .nil)))))) .nil)))
  .skip))
  (.ret (.coll .tuple (.cons (.var 5) .nil)))))⟩
/-! _law_box_here=0 _law_actions_here=1 _law_k=2 _law_steps=3 _law_j=4 _law_kind=5 -/
def F.L_actions : FDef := ⟨1, 6,
  (.seq (.asg (.name 1) (.lst .nil))
  (.seq (.for (.name 2) (.range (.cons (.int (2)) .nil))
  (.seq (.asg (.name 3) (.lst .nil))
  (.seq (.for (.name 4) (.range (.cons (.bin .add (.int (1)) (.call "_law_draw" (.cons (.var 0) (.cons (.int (2)) .nil)))) .nil))
  (.seq (.asg (.name 5) (.call "_law_draw" (.cons (.var 0) (.cons (.int (5)) .nil))))
  (.ite (.cmp .lt (.var 5) (.int (2)))
  (.expr (.bm .append (.var 3) (.cons (.tup (.cons (.str "set") (.cons (.call "_law_draw" (.cons (.var 0) (.cons (.int (2)) .nil))) (.cons (.call "_law_expr" (.cons (.var 0) (.cons (.int (1)) .nil))) .nil)))) .nil)))
  (.ite (.cmp .lt (.var 5) (.int (4)))
  (.expr (.bm .append (.var 3) (.cons (.tup (.cons (.str "put") (.cons (.call "_law_draw" (.cons (.var 0) (.cons (.int (2)) .nil))) (.cons (.call "_law_expr" (.cons (.var 0) (.cons (.int (1)) .nil))) .nil)))) .nil)))
  (.expr (.bm .append (.var 3) (.cons (.tup (.cons (.str "up") (.cons (.call "_law_draw" (.cons (.var 0) (.cons (.int (2)) .nil))) .nil))) .nil)))))))
  (.expr (.bm .append (.var 1) (.cons (.coll .tuple (.cons (.var 3) .nil)) .nil))))))
  (.ret (.coll .tuple (.cons (.var 1) .nil)))))⟩
/-! _law_box_here=0 _law_many=1 _law_parts=2 _law_components=3 _law_k=4 _law_store=5 _law_cells=6 _law_contents_here=7 _law_j=8 -/
def F.L_program : FDef := ⟨1, 9,
  (.seq (.asg (.name 1) (.bin .add (.int (1)) (.call "_law_draw" (.cons (.var 0) (.cons (.int (3)) .nil)))))
  (.seq (.asg (.name 2) (.lcomp (.for1 [4] (.name 4) (.range (.cons (.call "_law_draw" (.cons (.var 0) (.cons (.int (3)) .nil))) .nil)) (.bl true) (.cons (.bin .add (.int (1)) (.call "_law_draw" (.cons (.var 0) (.cons (.int (2)) .nil)))) .nil))))
  (.seq (.ite (.cmp .gt (.bi .len (.cons (.var 2) .nil)) (.int (0)))
  (.asg (.name 1) (.bi .max2 (.cons (.var 1) (.cons (.int (3)) .nil))))
  .skip)
  (.seq (.asg (.name 3) (.lst .nil))
  (.seq (.for (.name 4) (.range (.cons (.var 1) .nil))
  (.seq (.setidx (.var 0) (.int (2)) (.int (6)))
  (.seq (.setidx (.var 0) (.int (3)) (.int (2)))
  (.seq (.setidx (.var 0) (.int (4)) (.int (1)))
  (.seq (.setidx (.var 0) (.int (5)) (.coll .list (.range (.cons (.bi .len (.cons (.var 2) .nil)) .nil))))
  (.seq (.ite (.cmp .gt (.var 4) (.int (0)))
  (.setidx (.var 0) (.int (5)) (.lst .nil))
  .skip)
  (.seq (.asg (.name 6) (.coll .tuple (.cons (.lcomp (.for1 [8] (.name 8) (.range (.cons (.call "_law_draw" (.cons (.var 0) (.cons (.int (3)) .nil))) .nil)) (.bl true) (.cons (.call "_law_draw" (.cons (.var 0) (.cons (.int (4)) .nil))) .nil))) .nil)))
  (.seq (.asg (.name 7) (.bin .add (.call "_law_contents" (.cons (.var 0) (.cons (.var 4) (.cons (.int (0)) (.cons (.bin .sub (.var 1) (.int (1))) (.cons (.bl true) .nil)))))) (.call "_law_contents" (.cons (.var 0) (.cons (.var 4) (.cons (.int (0)) (.cons (.bin .sub (.var 1) (.int (1))) (.cons (.bl true) .nil))))))))
  (.seq (.asg (.name 7) (.bin .add (.var 7) (.coll .tuple (.cons (.lcomp (.for1 [8] (.name 8) (.cons (.idx (.var 0) (.int (5))) .nil) (.bl true) (.cons (.tup (.cons (.str "part") (.cons (.var 8) .nil))) .nil))) .nil))))
  (.expr (.bm .append (.var 3) (.cons (.tup (.cons (.str "component") (.cons (.var 6) (.cons (.var 7) (.cons (.call "_law_actions" (.cons (.var 0) .nil)) .nil))))) .nil))))))))))))
  (.seq (.asg (.name 5) (.coll .tuple (.cons (.lcomp (.for1 [4] (.name 4) (.range (.cons (.call "_law_draw" (.cons (.var 0) (.cons (.int (3)) .nil))) .nil)) (.bl true) (.cons (.call "_law_draw" (.cons (.var 0) (.cons (.int (4)) .nil))) .nil))) .nil)))
  (.ret (.tup (.cons (.str "program") (.cons (.coll .tuple (.cons (.var 3) .nil)) (.cons (.var 5) (.cons (.coll .tuple (.cons (.var 2) .nil)) .nil))))))))))))⟩
/-! _law_script=0 _law_first=1 _law_last=2 -/
def F.L_box : FDef := ⟨3, 3,
  (.ret (.lst (.cons (.call "_law_digits" (.cons (.var 0) (.cons (.var 1) (.cons (.var 2) .nil)))) (.cons (.int (0)) (.cons (.int (0)) (.cons (.int (0)) (.cons (.int (0)) (.cons (.lst .nil) .nil))))))))⟩
/-! _law_contents_here=0 _law_before=1 _law_around=2 _law_rows=3 _law_k=4 _law_row=5 _law_place=6 -/
def F.L_listed : FDef := ⟨3, 7,
  (.seq (.asg (.name 3) (.lst .nil))
  (.seq (.for (.name 4) (.range (.cons (.bi .len (.cons (.var 0) .nil)) .nil))
  (.seq (.asg (.name 5) (.idx (.var 0) (.var 4)))
  (.seq (.asg (.name 6) (.bin .add (.var 1) (.tup (.cons (.var 4) .nil))))
  (.seq (.expr (.bm .append (.var 3) (.cons (.lst (.cons (.var 6) (.cons (.var 5) (.cons (.var 2) .nil)))) .nil)))
  (.ite (.cmp .eq (.idx (.var 5) (.int (0))) (.str "box"))
  (.asg (.name 3) (.bin .add (.var 3) (.call "_law_listed" (.cons (.idx (.var 5) (.int (4))) (.cons (.var 6) (.cons (.bin .add (.var 2) (.lst (.cons (.str "box") .nil))) .nil))))))
  (.ite (.cmp .eq (.idx (.var 5) (.int (0))) (.str "each"))
  (.asg (.name 3) (.bin .add (.var 3) (.call "_law_listed" (.cons (.idx (.var 5) (.int (2))) (.cons (.var 6) (.cons (.bin .add (.var 2) (.lst (.cons (.str "each") .nil))) .nil))))))
  (.ite (.cmp .eq (.idx (.var 5) (.int (0))) (.str "when"))
  (.seq (.asg (.name 3) (.bin .add (.var 3) (.call "_law_listed" (.cons (.idx (.var 5) (.int (2))) (.cons (.bin .add (.var 6) (.tup (.cons (.int (0)) .nil))) (.cons (.bin .add (.var 2) (.lst (.cons (.str "when") .nil))) .nil))))))
  (.asg (.name 3) (.bin .add (.var 3) (.call "_law_listed" (.cons (.idx (.var 5) (.int (3))) (.cons (.bin .add (.var 6) (.tup (.cons (.int (1)) .nil))) (.cons (.bin .add (.var 2) (.lst (.cons (.str "when") .nil))) .nil)))))))
  .skip)))))))
  (.ret (.var 3))))⟩
/-! _law_script=0 _law_box_here=1 _law_program_here=2 _law_component=3 _law_due=4 _law_item=5 _law_row=6 -/
def F.law_k00 : FDef := ⟨1, 7,
  (.seq (.asg (.name 1) (.call "_law_box" (.cons (.var 0) (.cons (.int (0)) (.cons (.int (63)) .nil)))))
  (.seq (.asg (.name 2) (.call "_law_program" (.cons (.var 1) .nil)))
  (.seq (.for (.name 3) (.cons (.idx (.var 2) (.int (1))) .nil)
  (.seq (.asg (.name 4) (.coll .tuple (.cons (.lcomp (.for1 [6] (.name 6) (.cons (.call "_law_listed" (.cons (.idx (.var 3) (.int (2))) (.cons (.tup .nil) (.cons (.lst .nil) .nil)))) .nil) (.bl true) (.cons (.tup (.cons (.idx (.var 6) (.int (0))) (.cons (.idx (.var 6) (.int (1))) .nil))) .nil))) .nil)))
  (.seq (.ite (.no (.call "_law_same" (.cons (.call "templates" (.cons (.idx (.var 3) (.int (2))) .nil)) (.cons (.var 4) .nil))))
  (.ret (.bl false))
  .skip)
  (.for (.name 5) (.cons (.var 4) .nil)
  (.ite (.no (.call "_law_same" (.cons (.idx (.call "templates" (.cons (.tup (.cons (.idx (.var 5) (.int (1))) .nil)) .nil)) (.int (0))) (.cons (.tup (.cons (.tup (.cons (.int (0)) .nil)) (.cons (.idx (.var 5) (.int (1))) .nil))) .nil))))
  (.ret (.bl false))
  .skip)))))
  (.ret (.bl true)))))⟩
/-! _law_program_here=0 _law_number=1 _law_row=2 _law_seen=3 -/
def F.L_part_fault : FDef := ⟨4, 4,
  (.seq (.ite (.cmp .ge (.idx (.idx (.var 2) (.int (1))) (.int (1))) (.bi .len (.cons (.idx (.var 0) (.int (3))) .nil)))
  (.ret (.str "unknown part"))
  .skip)
  (.seq (.ite (.or (.cmp .ne (.var 1) (.int (0))) (.or (.cmp .isin (.str "when") (.idx (.var 2) (.int (2)))) (.cmp .isin (.str "each") (.idx (.var 2) (.int (2))))))
  (.ret (.str "part out of place"))
  .skip)
  (.seq (.ite (.cmp .isin (.idx (.idx (.var 2) (.int (1))) (.int (1))) (.var 3))
  (.ret (.str "part stands twice"))
  .skip)
  (.ret .non))))⟩
/-! _law_program_here=0 _law_many=1 _law_placed=2 _law_number=3 _law_k=4 _law_rows=5 _law_seen=6 _law_row=7 _law_reason=8 -/
def F.L_fault : FDef := ⟨1, 9,
  (.seq (.asg (.name 1) (.bi .len (.cons (.idx (.var 0) (.int (1))) .nil)))
  (.seq (.asg (.name 2) (.lst .nil))
  (.seq (.for (.name 3) (.range (.cons (.var 1) .nil))
  (.seq (.asg (.name 5) (.call "_law_listed" (.cons (.idx (.idx (.idx (.var 0) (.int (1))) (.var 3)) (.int (2))) (.cons (.tup .nil) (.cons (.lst .nil) .nil)))))
  (.seq (.asg (.name 6) (.lst .nil))
  (.seq (.for (.name 7) (.cons (.var 5) .nil)
  (.seq (.ite (.cmp .gt (.bi .len (.cons (.idx (.var 7) (.int (2))) .nil)) (.int (3)))
  (.ret (.tup (.cons (.var 3) (.cons (.idx (.var 7) (.int (0))) (.cons (.str "too deep") .nil)))))
  .skip)
  (.seq (.ite (.and (.cmp .eq (.idx (.idx (.var 7) (.int (1))) (.int (0))) (.str "child")) (.or (.cmp .le (.idx (.idx (.var 7) (.int (1))) (.int (1))) (.var 3)) (.cmp .ge (.idx (.idx (.var 7) (.int (1))) (.int (1))) (.var 1))))
  (.ret (.tup (.cons (.var 3) (.cons (.idx (.var 7) (.int (0))) (.cons (.str "unknown component") .nil)))))
  .skip)
  (.ite (.cmp .eq (.idx (.idx (.var 7) (.int (1))) (.int (0))) (.str "part"))
  (.seq (.asg (.name 8) (.call "_law_part_fault" (.cons (.var 0) (.cons (.var 3) (.cons (.var 7) (.cons (.var 6) .nil))))))
  (.seq (.ite (.notN (.var 8))
  (.ret (.tup (.cons (.var 3) (.cons (.idx (.var 7) (.int (0))) (.cons (.var 8) .nil)))))
  .skip)
  (.expr (.bm .append (.var 6) (.cons (.idx (.idx (.var 7) (.int (1))) (.int (1))) .nil)))))
  .skip))))
  (.seq (.ite (.cmp .gt (.bi .len (.cons (.var 5) .nil)) (.int (24)))
  (.ret (.tup (.cons (.var 3) (.cons (.tup .nil) (.cons (.str "too many templates") .nil)))))
  .skip)
  (.asg (.name 2) (.bin .add (.var 2) (.var 6))))))))
  (.seq (.for (.name 4) (.range (.cons (.bi .len (.cons (.idx (.var 0) (.int (3))) .nil)) .nil))
  (.seq (.ite (.or (.cmp .lt (.idx (.idx (.var 0) (.int (3))) (.var 4)) (.int (1))) (.cmp .ge (.idx (.idx (.var 0) (.int (3))) (.var 4)) (.var 1)))
  (.ret (.tup (.cons (.neg (.int (1))) (.cons (.tup (.cons (.var 4) .nil)) (.cons (.str "unknown component") .nil)))))
  .skip)
  (.ite (.cmp .notin (.var 4) (.var 2))
  (.ret (.tup (.cons (.neg (.int (1))) (.cons (.tup (.cons (.var 4) .nil)) (.cons (.str "part has no place") .nil)))))
  .skip)))
  (.ret .non)))))⟩
/-! _law_contents_here=0 _law_kinds=1 _law_kind=2 -/
def F.L_wrapped : FDef := ⟨2, 3,
  (.seq (.for (.name 2) (.cons (.var 1) .nil)
  (.ite (.cmp .eq (.var 2) (.int (0)))
  (.asg (.name 0) (.tup (.cons (.tup (.cons (.str "box") (.cons (.str "p") (.cons .non (.cons .non (.cons (.var 0) .nil)))))) .nil)))
  (.ite (.cmp .eq (.var 2) (.int (1)))
  (.asg (.name 0) (.tup (.cons (.tup (.cons (.str "when") (.cons (.tup (.cons (.str "cell") (.cons (.int (0)) .nil))) (.cons (.var 0) (.cons (.tup .nil) .nil))))) .nil)))
  (.asg (.name 0) (.tup (.cons (.tup (.cons (.str "when") (.cons (.tup (.cons (.str "num") (.cons (.int (1)) .nil))) (.cons (.tup (.cons (.tup (.cons (.str "text") (.cons (.str "a") .nil))) .nil)) (.cons (.tup (.cons (.tup (.cons (.str "each") (.cons (.tup (.cons (.str "num") (.cons (.int (2)) .nil))) (.cons (.var 0) .nil)))) .nil)) .nil))))) .nil))))))
  (.ret (.var 0)))⟩
/-! _law_box_here=0 _law_program_here=1 _law_number=2 _law_row=3 _law_contents_here=4 _law_parts=5 _law_kind=6 _law_k=7 -/
def F.L_changed : FDef := ⟨2, 8,
  (.seq (.asg (.name 2) (.call "_law_draw" (.cons (.var 0) (.cons (.bi .len (.cons (.idx (.var 1) (.int (1))) .nil)) .nil))))
  (.seq (.asg (.name 3) (.idx (.idx (.var 1) (.int (1))) (.var 2)))
  (.seq (.asg (.name 4) (.idx (.var 3) (.int (2))))
  (.seq (.asg (.name 5) (.idx (.var 1) (.int (3))))
  (.seq (.asg (.name 6) (.call "_law_draw" (.cons (.var 0) (.cons (.int (7)) .nil))))
  (.seq (.ite (.cmp .eq (.var 6) (.int (0)))
  (.asg (.name 4) (.bin .add (.var 4) (.tup (.cons (.tup (.cons (.str "child") (.cons (.call "_law_draw" (.cons (.var 0) (.cons (.int (5)) .nil))) (.cons .non (.cons (.tup .nil) .nil))))) .nil))))
  (.ite (.cmp .eq (.var 6) (.int (1)))
  (.asg (.name 4) (.bin .add (.var 4) (.tup (.cons (.tup (.cons (.str "part") (.cons (.call "_law_draw" (.cons (.var 0) (.cons (.int (4)) .nil))) .nil))) .nil))))
  (.ite (.cmp .eq (.var 6) (.int (2)))
  (.asg (.name 4) (.call "_law_wrapped" (.cons (.var 4) (.cons (.lcomp (.for1 [7] (.name 7) (.range (.cons (.bin .add (.int (1)) (.call "_law_draw" (.cons (.var 0) (.cons (.int (2)) .nil)))) .nil)) (.bl true) (.cons (.call "_law_draw" (.cons (.var 0) (.cons (.int (3)) .nil))) .nil))) .nil))))
  (.ite (.cmp .eq (.var 6) (.int (3)))
  (.asg (.name 4) (.bin .add (.var 4) (.coll .tuple (.cons (.bin .mul (.lst (.cons (.tup (.cons (.str "text") (.cons (.str "b") .nil))) .nil)) (.bin .add (.int (10)) (.call "_law_draw" (.cons (.var 0) (.cons (.int (16)) .nil))))) .nil))))
  (.ite (.cmp .eq (.var 6) (.int (4)))
  (.asg (.name 4) (.slice (.var 4) .non (.call "_law_draw" (.cons (.var 0) (.cons (.bin .add (.int (1)) (.bi .len (.cons (.var 4) .nil))) .nil)))))
  (.ite (.cmp .eq (.var 6) (.int (5)))
  (.asg (.name 5) (.bin .add (.var 5) (.tup (.cons (.call "_law_draw" (.cons (.var 0) (.cons (.int (5)) .nil))) .nil))))
  (.asg (.name 4) (.bin .add (.call "_law_wrapped" (.cons (.tup (.cons (.tup (.cons (.str "part") (.cons (.call "_law_draw" (.cons (.var 0) (.cons (.int (3)) .nil))) .nil))) .nil)) (.cons (.lst (.cons (.call "_law_draw" (.cons (.var 0) (.cons (.int (2)) .nil))) .nil)) .nil))) (.var 4)))))))))
  (.seq (.asg (.name 3) (.bin .add (.slice (.var 3) .non (.int (2))) (.tup (.cons (.var 4) (.cons (.idx (.var 3) (.int (3))) .nil)))))
  (.ret (.tup (.cons (.str "program") (.cons (.bin .add (.bin .add (.slice (.idx (.var 1) (.int (1))) .non (.var 2)) (.tup (.cons (.var 3) .nil))) (.slice (.idx (.var 1) (.int (1))) (.bin .add (.var 2) (.int (1))) .non)) (.cons (.idx (.var 1) (.int (2))) (.cons (.var 5) .nil)))))))))))))⟩
/-! row=0 number=1 -/
def F.at : FDef := ⟨2, 2,
  (.ret (.ite (.cmp .lt (.var 1) (.bi .len (.cons (.var 0) .nil))) (.idx (.var 0) (.var 1)) (.int (0))))⟩
/-! expression=0 scope=1 looked=2 kind=3 first=4 second=5 chosen=6 -/
def F.value : FDef := ⟨3, 7,
  (.seq (.asg (.name 3) (.idx (.var 0) (.int (0))))
  (.seq (.ite (.cmp .eq (.var 3) (.str "num"))
  (.ret (.idx (.var 0) (.int (1))))
  .skip)
  (.seq (.ite (.cmp .eq (.var 3) (.str "index"))
  (.ret (.idx (.var 1) (.int (4))))
  .skip)
  (.seq (.ite (.cmp .eq (.var 3) (.str "cell"))
  (.ret (.call "at" (.cons (.idx (.var 1) (.int (1))) (.cons (.idx (.var 0) (.int (1))) .nil))))
  .skip)
  (.seq (.ite (.cmp .eq (.var 3) (.str "prop"))
  (.ret (.call "at" (.cons (.idx (.var 1) (.int (2))) (.cons (.idx (.var 0) (.int (1))) .nil))))
  .skip)
  (.seq (.ite (.cmp .eq (.var 3) (.str "store"))
  (.seq (.ite (.cmp .lt (.idx (.var 0) (.int (1))) (.bi .len (.cons (.idx (.var 1) (.int (3))) .nil)))
  (.expr (.bm .append (.var 2) (.cons (.idx (.var 0) (.int (1))) .nil)))
  .skip)
  (.ret (.call "at" (.cons (.idx (.var 1) (.int (3))) (.cons (.idx (.var 0) (.int (1))) .nil)))))
  .skip)
  (.seq (.ite (.cmp .eq (.var 3) (.str "if"))
  (.seq (.asg (.name 6) (.ite (.cmp .ne (.call "value" (.cons (.idx (.var 0) (.int (1))) (.cons (.var 1) (.cons (.var 2) .nil)))) (.int (0))) (.idx (.var 0) (.int (2))) (.idx (.var 0) (.int (3)))))
  (.ret (.call "value" (.cons (.var 6) (.cons (.var 1) (.cons (.var 2) .nil))))))
  .skip)
  (.seq (.asg (.name 4) (.call "value" (.cons (.idx (.var 0) (.int (1))) (.cons (.var 1) (.cons (.var 2) .nil)))))
  (.seq (.asg (.name 5) (.call "value" (.cons (.idx (.var 0) (.int (2))) (.cons (.var 1) (.cons (.var 2) .nil)))))
  (.seq (.ite (.cmp .eq (.var 3) (.str "plus"))
  (.ret (.bin .mod (.bin .add (.var 4) (.var 5)) (.glob "WHOLE")))
  .skip)
  (.seq (.ite (.cmp .eq (.var 3) (.str "minus"))
  (.ret (.bin .mod (.bin .sub (.var 4) (.var 5)) (.glob "WHOLE")))
  .skip)
  (.seq (.ite (.cmp .eq (.var 3) (.str "same"))
  (.ret (.ite (.cmp .eq (.var 4) (.var 5)) (.int (1)) (.int (0))))
  .skip)
  (.ret (.ite (.cmp .lt (.var 4) (.var 5)) (.int (1)) (.int (0))))))))))))))))⟩
/-! _law_box=0 _law_many=1 _law_at=2 -/
def F.L_draw_2 : FDef := ⟨2, 3,
  (.seq (.asg (.name 2) (.idx (.var 0) (.int (1))))
  (.seq (.setidx (.var 0) (.int (1)) (.bin .add (.var 2) (.int (1))))
  (.seq (.ite (.cmp .lt (.var 2) (.bi .len (.cons (.idx (.var 0) (.int (0))) .nil)))
  (.ret (.bin .mod (.bi .int (.cons (.idx (.idx (.var 0) (.int (0))) (.var 2)) .nil)) (.var 1)))
  .skip)
  (.ret (.int (0))))))⟩
/-! _law_box=0 _law_depth=1 _law_kind=2 _law_one=3 _law_two=4 _law_leaves=5 -/
def F.L_wide : FDef := ⟨2, 6,
  (.seq (.asg (.name 2) (.call "_law_draw" (.cons (.var 0) (.cons (.int (12)) .nil))))
  (.seq (.ite (.or (.cmp .eq (.var 1) (.int (0))) (.cmp .lt (.var 2) (.int (6))))
  (.seq (.asg (.name 5) (.lst (.cons (.tup (.cons (.str "num") (.cons (.call "_law_draw" (.cons (.var 0) (.cons (.int (4)) .nil))) .nil))) (.cons (.tup (.cons (.str "num") (.cons (.bin .add (.int (996)) (.call "_law_draw" (.cons (.var 0) (.cons (.int (4)) .nil)))) .nil))) (.cons (.tup (.cons (.str "cell") (.cons (.call "_law_draw" (.cons (.var 0) (.cons (.int (5)) .nil))) .nil))) (.cons (.tup (.cons (.str "prop") (.cons (.call "_law_draw" (.cons (.var 0) (.cons (.int (4)) .nil))) .nil))) (.cons (.tup (.cons (.str "store") (.cons (.call "_law_draw" (.cons (.var 0) (.cons (.int (4)) .nil))) .nil))) (.cons (.tup (.cons (.str "index") .nil)) .nil))))))))
  (.ret (.idx (.var 5) (.bin .mod (.bi .int (.cons (.var 2) .nil)) (.int (6))))))
  .skip)
  (.seq (.asg (.name 3) (.call "_law_wide" (.cons (.var 0) (.cons (.bin .sub (.var 1) (.int (1))) .nil))))
  (.seq (.asg (.name 4) (.call "_law_wide" (.cons (.var 0) (.cons (.bin .sub (.var 1) (.int (1))) .nil))))
  (.seq (.ite (.cmp .gt (.var 2) (.int (9)))
  (.ret (.tup (.cons (.str "if") (.cons (.var 3) (.cons (.var 4) (.cons (.call "_law_wide" (.cons (.var 0) (.cons (.bin .sub (.var 1) (.int (1))) .nil))) .nil))))))
  .skip)
  (.ret (.tup (.cons (.idx (.lst (.cons (.str "plus") (.cons (.str "minus") (.cons (.str "same") (.cons (.str "less") .nil))))) (.bin .mod (.bi .int (.cons (.var 2) .nil)) (.int (4)))) (.cons (.var 3) (.cons (.var 4) .nil))))))))))⟩
/-! _law_e=0 _law_scope=1 _law_looked=2 _law_one=3 _law_two=4 _law_row=5 -/
def F.L_value : FDef := ⟨3, 6,
  (.seq (.ite (.cmp .eq (.idx (.var 0) (.int (0))) (.str "num"))
  (.ret (.idx (.var 0) (.int (1))))
  .skip)
  (.seq (.ite (.cmp .eq (.idx (.var 0) (.int (0))) (.str "index"))
  (.ret (.idx (.var 1) (.int (3))))
  .skip)
  (.seq (.ite (.cmp .isin (.idx (.var 0) (.int (0))) (.lst (.cons (.str "cell") (.cons (.str "prop") (.cons (.str "store") .nil)))))
  (.seq (.asg (.name 5) (.idx (.var 1) (.bm .index (.lst (.cons (.str "cell") (.cons (.str "prop") (.cons (.str "store") .nil)))) (.cons (.idx (.var 0) (.int (0))) .nil))))
  (.seq (.ite (.cmp .ge (.idx (.var 0) (.int (1))) (.bi .len (.cons (.var 5) .nil)))
  (.ret (.int (0)))
  .skip)
  (.seq (.ite (.cmp .eq (.idx (.var 0) (.int (0))) (.str "store"))
  (.expr (.bm .append (.var 2) (.cons (.idx (.var 0) (.int (1))) .nil)))
  .skip)
  (.ret (.idx (.var 5) (.idx (.var 0) (.int (1))))))))
  .skip)
  (.seq (.asg (.name 3) (.call "_law_value" (.cons (.idx (.var 0) (.int (1))) (.cons (.var 1) (.cons (.var 2) .nil)))))
  (.seq (.ite (.cmp .eq (.idx (.var 0) (.int (0))) (.str "if"))
  (.ret (.call "_law_value" (.cons (.idx (.var 0) (.idx (.lst (.cons (.int (3)) (.cons (.int (2)) .nil))) (.bi .int (.cons (.cmp .ne (.var 3) (.int (0))) .nil)))) (.cons (.var 1) (.cons (.var 2) .nil)))))
  .skip)
  (.seq (.asg (.name 4) (.call "_law_value" (.cons (.idx (.var 0) (.int (2))) (.cons (.var 1) (.cons (.var 2) .nil)))))
  (.seq (.ite (.cmp .eq (.idx (.var 0) (.int (0))) (.str "plus"))
  (.ret (.bin .mod (.bi .int (.cons (.bin .add (.var 3) (.var 4)) .nil)) (.int (1000))))
  .skip)
  (.seq (.ite (.cmp .eq (.idx (.var 0) (.int (0))) (.str "minus"))
  (.ret (.bin .mod (.bi .int (.cons (.bin .sub (.var 3) (.var 4)) .nil)) (.int (1000))))
  .skip)
  (.seq (.ite (.cmp .eq (.idx (.var 0) (.int (0))) (.str "same"))
  (.ret (.bi .int (.cons (.cmp .eq (.var 3) (.var 4)) .nil)))
  .skip)
  (.ret (.bi .int (.cons (.cmp .lt (.var 3) (.var 4)) .nil))))))))))))⟩
/-! _law_script=0 _law_box=1 _law_rows=2 _law_k=3 _law_index=4 _law_many=5 _law_e=6 _law_looked=7 _law_due=8 _law_expected=9 _law_j=10 -/
def F.law_k05 : FDef := ⟨1, 11,
  (.seq (.asg (.name 1) (.lst (.cons (.call "_law_digits" (.cons (.var 0) (.cons (.int (0)) (.cons (.int (63)) .nil)))) (.cons (.int (0)) .nil))))
  (.seq (.asg (.name 2) (.lst .nil))
  (.seq (.for (.name 3) (.range (.cons (.int (3)) .nil))
  (.seq (.asg (.name 5) (.call "_law_draw" (.cons (.var 1) (.cons (.int (4)) .nil))))
  (.expr (.bm .append (.var 2) (.cons (.coll .tuple (.cons (.lcomp (.for1 [10] (.name 10) (.range (.cons (.var 5) .nil)) (.bl true) (.cons (.idx (.lst (.cons (.call "_law_draw" (.cons (.var 1) (.cons (.int (4)) .nil))) (.cons (.call "_law_draw" (.cons (.var 1) (.cons (.int (1000)) .nil))) .nil))) (.call "_law_draw" (.cons (.var 1) (.cons (.int (2)) .nil)))) .nil))) .nil)) .nil)))))
  (.seq (.asg (.name 4) (.call "_law_draw" (.cons (.var 1) (.cons (.int (6)) .nil))))
  (.seq (.for (.name 3) (.range (.cons (.int (6)) .nil))
  (.seq (.asg (.name 6) (.call "_law_wide" (.cons (.var 1) (.cons (.int (3)) .nil))))
  (.seq (.asg (.name 7) (.lst (.cons (.int (7)) .nil)))
  (.seq (.asg (.name 8) (.lst (.cons (.int (7)) .nil)))
  (.seq (.asg (.name 9) (.call "_law_value" (.cons (.var 6) (.cons (.lst (.cons (.idx (.var 2) (.int (0))) (.cons (.idx (.var 2) (.int (1))) (.cons (.idx (.var 2) (.int (2))) (.cons (.var 4) .nil))))) (.cons (.var 8) .nil)))))
  (.seq (.ite (.no (.call "_law_same" (.cons (.call "value" (.cons (.var 6) (.cons (.tup (.cons (.str "scope") (.cons (.idx (.var 2) (.int (0))) (.cons (.idx (.var 2) (.int (1))) (.cons (.idx (.var 2) (.int (2))) (.cons (.var 4) .nil)))))) (.cons (.var 7) .nil)))) (.cons (.var 9) .nil))))
  (.ret (.bl false))
  .skip)
  (.ite (.cmp .ne (.var 7) (.var 8))
  (.ret (.bl false))
  .skip)))))))
  (.ret (.bl true)))))))⟩
/-! scope=0 index=1 -/
def F.with_index : FDef := ⟨2, 2,
  (.ret (.bin .add (.slice (.var 0) .non (.int (4))) (.tup (.cons (.var 1) .nil))))⟩
/-! self=0 looked=1 -/
def F.Row_init : FDef := ⟨2, 2,
  (.seq (.setattr (.var 0) "looked" (.var 1))
  (.setattr (.var 0) "nodes" (.lst .nil)))⟩
/-! self=0 template=1 place=2 repeats=3 scope=4 name=5 known=6 _=7 -/
def F.Row_name : FDef := ⟨5, 8,
  (.seq (.ite (.cmp .eq (.idx (.var 1) (.int (0))) (.str "part"))
  (.ret (.tup (.cons (.str "part") (.cons (.idx (.var 1) (.int (1))) .nil))))
  .skip)
  (.seq (.ite (.and (.cmp .isin (.idx (.var 1) (.int (0))) (.tup (.cons (.str "box") (.cons (.str "child") .nil)))) (.notN (.idx (.var 1) (.int (2)))))
  (.seq (.asg (.name 5) (.tup (.cons (.str "key") (.cons (.var 2) (.cons (.call "value" (.cons (.idx (.var 1) (.int (2))) (.cons (.var 4) (.cons (.attr (.var 0) "looked") .nil)))) .nil)))))
  (.ite (.gall (.for1 [6, 7] (.tup [6, 7, 7]) (.cons (.attr (.var 0) "nodes") .nil) (.bl true) (.cons (.cmp .ne (.var 5) (.var 6)) .nil)))
  (.ret (.var 5))
  .skip))
  .skip)
  (.ret (.tup (.cons (.str "at") (.cons (.var 2) (.cons (.var 3) .nil)))))))⟩
/-! self=0 contents=1 before=2 repeats=3 scope=4 number=5 template=6 place=7 other=8 turn=9 -/
def F.Row_lay : FDef := ⟨5, 10,
  (.for (.tup [5, 6]) (.enum (.var 1))
  (.seq (.asg (.name 7) (.bin .add (.var 2) (.tup (.cons (.var 5) .nil))))
  (.ite (.cmp .eq (.idx (.var 6) (.int (0))) (.str "when"))
  (.seq (.asg (.name 8) (.ite (.cmp .ne (.call "value" (.cons (.idx (.var 6) (.int (1))) (.cons (.var 4) (.cons (.attr (.var 0) "looked") .nil)))) (.int (0))) (.int (0)) (.int (1))))
  (.expr (.meth (.var 0) "lay" (.cons (.idx (.var 6) (.bin .add (.int (2)) (.var 8))) (.cons (.bin .add (.var 7) (.tup (.cons (.var 8) .nil))) (.cons (.var 3) (.cons (.var 4) .nil)))))))
  (.ite (.cmp .eq (.idx (.var 6) (.int (0))) (.str "each"))
  (.for (.name 9) (.range (.cons (.bin .mod (.call "value" (.cons (.idx (.var 6) (.int (1))) (.cons (.var 4) (.cons (.attr (.var 0) "looked") .nil)))) (.glob "MOST_REPEATS")) .nil))
  (.expr (.meth (.var 0) "lay" (.cons (.idx (.var 6) (.int (2))) (.cons (.var 7) (.cons (.bin .add (.var 3) (.tup (.cons (.var 9) .nil))) (.cons (.call "with_index" (.cons (.var 4) (.cons (.var 9) .nil))) .nil)))))))
  (.expr (.bm .append (.attr (.var 0) "nodes") (.cons (.tup (.cons (.meth (.var 0) "name" (.cons (.var 6) (.cons (.var 7) (.cons (.var 3) (.cons (.var 4) .nil))))) (.cons (.var 6) (.cons (.idx (.var 4) (.int (4))) .nil)))) .nil)))))))⟩
/-! contents=0 scope=1 looked=2 row=3 -/
def F.lay_out : FDef := ⟨3, 4,
  (.seq (.asg (.name 3) (.new "Row" (.cons (.var 2) .nil)))
  (.seq (.expr (.meth (.var 3) "lay" (.cons (.var 0) (.cons (.tup .nil) (.cons (.tup .nil) (.cons (.var 1) .nil))))))
  (.ret (.coll .tuple (.cons (.attr (.var 3) "nodes") .nil)))))⟩
/-! path=0 length=1 -/
def F.parts_of : FDef := ⟨1, 2,
  (.ret (.gtup (.for1 [1] (.name 1) (.range (.cons (.bi .len (.cons (.var 0) .nil)) .nil)) (.bl true) (.cons (.slice (.var 0) .non (.var 1)) .nil))))⟩
/-! _law_contents_here=0 _law_scope=1 _law_looked=2 _law_address=3 _law_repeats=4 _law_names=5 _law_rows=6 _law_k=7 _law_row=8 _law_here=9 _law_n=10 _law_name=11 _law_inner=12 _law_value_here=13 -/
def F.L_lay : FDef := ⟨6, 14,
  (.seq (.asg (.name 6) (.lst .nil))
  (.seq (.for (.name 7) (.range (.cons (.bi .len (.cons (.var 0) .nil)) .nil))
  (.seq (.asg (.name 8) (.idx (.var 0) (.var 7)))
  (.seq (.asg (.name 9) (.bin .add (.var 3) (.tup (.cons (.var 7) .nil))))
  (.ite (.cmp .eq (.idx (.var 8) (.int (0))) (.str "when"))
  (.ite (.cmp .ne (.call "_law_value" (.cons (.idx (.var 8) (.int (1))) (.cons (.var 1) (.cons (.var 2) .nil)))) (.int (0)))
  (.asg (.name 6) (.bin .add (.var 6) (.call "_law_lay" (.cons (.idx (.var 8) (.int (2))) (.cons (.var 1) (.cons (.var 2) (.cons (.bin .add (.var 9) (.tup (.cons (.int (0)) .nil))) (.cons (.var 4) (.cons (.var 5) .nil)))))))))
  (.asg (.name 6) (.bin .add (.var 6) (.call "_law_lay" (.cons (.idx (.var 8) (.int (3))) (.cons (.var 1) (.cons (.var 2) (.cons (.bin .add (.var 9) (.tup (.cons (.int (1)) .nil))) (.cons (.var 4) (.cons (.var 5) .nil))))))))))
  (.ite (.cmp .eq (.idx (.var 8) (.int (0))) (.str "each"))
  (.for (.name 10) (.range (.cons (.bin .mod (.bi .int (.cons (.call "_law_value" (.cons (.idx (.var 8) (.int (1))) (.cons (.var 1) (.cons (.var 2) .nil)))) .nil)) (.int (6))) .nil))
  (.seq (.asg (.name 12) (.lst (.cons (.idx (.var 1) (.int (0))) (.cons (.idx (.var 1) (.int (1))) (.cons (.idx (.var 1) (.int (2))) (.cons (.var 10) .nil))))))
  (.asg (.name 6) (.bin .add (.var 6) (.call "_law_lay" (.cons (.idx (.var 8) (.int (2))) (.cons (.var 12) (.cons (.var 2) (.cons (.var 9) (.cons (.bin .add (.var 4) (.tup (.cons (.var 10) .nil))) (.cons (.var 5) .nil)))))))))))
  (.seq (.asg (.name 11) (.tup (.cons (.str "at") (.cons (.var 9) (.cons (.var 4) .nil)))))
  (.seq (.ite (.cmp .eq (.idx (.var 8) (.int (0))) (.str "part"))
  (.asg (.name 11) (.tup (.cons (.str "part") (.cons (.idx (.var 8) (.int (1))) .nil))))
  (.ite (.and (.cmp .isin (.idx (.var 8) (.int (0))) (.lst (.cons (.str "box") (.cons (.str "child") .nil)))) (.notN (.idx (.var 8) (.int (2)))))
  (.seq (.asg (.name 13) (.call "_law_value" (.cons (.idx (.var 8) (.int (2))) (.cons (.var 1) (.cons (.var 2) .nil)))))
  (.ite (.cmp .notin (.tup (.cons (.str "key") (.cons (.var 9) (.cons (.var 13) .nil)))) (.var 5))
  (.asg (.name 11) (.tup (.cons (.str "key") (.cons (.var 9) (.cons (.var 13) .nil)))))
  .skip))
  .skip))
  (.seq (.expr (.bm .append (.var 5) (.cons (.var 11) .nil)))
  (.expr (.bm .append (.var 6) (.cons (.lst (.cons (.var 11) (.cons (.var 8) (.cons (.idx (.var 1) (.int (3))) .nil)))) .nil)))))))))))
  (.ret (.var 6))))⟩
/-! _law_script=0 _law_box_here=1 _law_program_here=2 _law_component=3 _law_rows=4 _law_k=5 _law_index=6 _law_looked=7 _law_due=8 _law_expected=9 _law_told=10 _law_names=11 _law_path=12 _law_item=13 _law_j=14 -/
def F.law_k10 : FDef := ⟨1, 15,
  (.seq (.asg (.name 1) (.call "_law_box" (.cons (.var 0) (.cons (.int (0)) (.cons (.int (63)) .nil)))))
  (.seq (.asg (.name 2) (.call "_law_program" (.cons (.var 1) .nil)))
  (.seq (.for (.name 3) (.cons (.idx (.var 2) (.int (1))) .nil)
  (.seq (.asg (.name 4) (.lst .nil))
  (.seq (.for (.name 5) (.range (.cons (.int (3)) .nil))
  (.expr (.bm .append (.var 4) (.cons (.coll .tuple (.cons (.lcomp (.for1 [14] (.name 14) (.range (.cons (.call "_law_draw" (.cons (.var 1) (.cons (.int (4)) .nil))) .nil)) (.bl true) (.cons (.call "_law_draw" (.cons (.var 1) (.cons (.int (4)) .nil))) .nil))) .nil)) .nil))))
  (.seq (.asg (.name 6) (.call "_law_draw" (.cons (.var 1) (.cons (.int (3)) .nil))))
  (.seq (.asg (.name 7) (.lst .nil))
  (.seq (.asg (.name 8) (.lst .nil))
  (.seq (.asg (.name 9) (.call "_law_lay" (.cons (.idx (.var 3) (.int (2))) (.cons (.lst (.cons (.idx (.var 4) (.int (0))) (.cons (.idx (.var 4) (.int (1))) (.cons (.idx (.var 4) (.int (2))) (.cons (.var 6) .nil))))) (.cons (.var 8) (.cons (.tup .nil) (.cons (.tup .nil) (.cons (.lst .nil) .nil))))))))
  (.seq (.asg (.name 10) (.call "lay_out" (.cons (.idx (.var 3) (.int (2))) (.cons (.tup (.cons (.str "scope") (.cons (.idx (.var 4) (.int (0))) (.cons (.idx (.var 4) (.int (1))) (.cons (.idx (.var 4) (.int (2))) (.cons (.var 6) .nil)))))) (.cons (.var 7) .nil)))))
  (.seq (.ite (.or (.no (.call "_law_same" (.cons (.var 10) (.cons (.coll .tuple (.cons (.lcomp (.for1 [13] (.name 13) (.cons (.var 9) .nil) (.bl true) (.cons (.tup (.cons (.idx (.var 13) (.int (0))) (.cons (.idx (.var 13) (.int (1))) (.cons (.idx (.var 13) (.int (2))) .nil)))) .nil))) .nil)) .nil)))) (.cmp .ne (.var 7) (.var 8)))
  (.ret (.bl false))
  .skip)
  (.seq (.asg (.name 11) (.lcomp (.for1 [13] (.name 13) (.cons (.var 9) .nil) (.bl true) (.cons (.idx (.var 13) (.int (0))) .nil))))
  (.seq (.for (.name 5) (.range (.cons (.bi .len (.cons (.var 11) .nil)) .nil))
  (.ite (.cmp .isin (.idx (.var 11) (.var 5)) (.slice (.var 11) .non (.var 5)))
  (.ret (.bl false))
  .skip))
  (.seq (.asg (.name 12) (.coll .tuple (.cons (.slice (.var 11) .non (.int (5))) .nil)))
  (.ite (.no (.call "_law_same" (.cons (.call "parts_of" (.cons (.var 12) .nil)) (.cons (.coll .tuple (.cons (.lcomp (.for1 [5] (.name 5) (.range (.cons (.bi .len (.cons (.var 12) .nil)) .nil)) (.bl true) (.cons (.slice (.var 12) .non (.var 5)) .nil))) .nil)) .nil))))
  (.ret (.bl false))
  .skip)))))))))))))
  (.ret (.bl true)))))⟩
/-! self=0 program=1 store=2 cells=3 present=4 -/
def F.Maker_init : FDef := ⟨5, 5,
  (.seq (.setattr (.var 0) "program" (.var 1))
  (.seq (.setattr (.var 0) "store" (.var 2))
  (.seq (.setattr (.var 0) "cells" (.coll .dict (.cons (.var 3) .nil)))
  (.setattr (.var 0) "present" (.var 4)))))⟩
/-! self=0 number=1 path=2 props=3 _=4 cells=5 contents=6 scope=7 looked=8 nodes=9 -/
def F.Maker_component : FDef := ⟨4, 10,
  (.seq (.asg (.tup [4, 5, 6, 4]) (.idx (.idx (.attr (.var 0) "program") (.int (1))) (.var 1)))
  (.seq (.asg (.name 7) (.tup (.cons (.str "scope") (.cons (.bm .get2 (.attr (.var 0) "cells") (.cons (.var 2) (.cons (.var 5) .nil))) (.cons (.var 3) (.cons (.attr (.var 0) "store") (.cons (.int (0)) .nil)))))))
  (.seq (.asg (.name 8) (.lst .nil))
  (.seq (.asg (.name 9) (.meth (.var 0) "row" (.cons (.var 6) (.cons (.var 2) (.cons (.var 2) (.cons (.var 7) (.cons (.var 8) .nil)))))))
  (.ret (.tup (.cons (.coll .tuple (.cons (.coll .sset (.cons (.var 8) .nil)) .nil)) (.cons (.var 9) .nil))))))))⟩
/-! self=0 contents=1 path=2 owner=3 scope=4 looked=5 nodes=6 name=7 template=8 index=9 -/
def F.Maker_row : FDef := ⟨6, 10,
  (.seq (.asg (.name 6) (.lst .nil))
  (.seq (.for (.tup [7, 8, 9]) (.cons (.call "lay_out" (.cons (.var 1) (.cons (.var 4) (.cons (.var 5) .nil)))) .nil)
  (.expr (.bm .append (.var 6) (.cons (.meth (.var 0) "node" (.cons (.var 8) (.cons (.bin .add (.var 2) (.tup (.cons (.var 7) .nil))) (.cons (.var 3) (.cons (.call "with_index" (.cons (.var 4) (.cons (.var 9) .nil))) (.cons (.var 5) .nil)))))) .nil))))
  (.ret (.coll .tuple (.cons (.var 6) .nil)))))⟩
/-! self=0 template=1 path=2 owner=3 scope=4 looked=5 kind=6 number=7 nodes=8 props=9 expression=10 -/
def F.Maker_node : FDef := ⟨6, 11,
  (.seq (.asg (.name 6) (.idx (.var 1) (.int (0))))
  (.seq (.ite (.cmp .eq (.var 6) (.str "text"))
  (.ret (.tup (.cons (.str "text") (.cons (.var 2) (.cons (.idx (.var 1) (.int (1))) .nil)))))
  .skip)
  (.seq (.ite (.cmp .eq (.var 6) (.str "show"))
  (.ret (.tup (.cons (.str "text") (.cons (.var 2) (.cons (.bi .str (.cons (.call "value" (.cons (.idx (.var 1) (.int (1))) (.cons (.var 4) (.cons (.var 5) .nil)))) .nil)) .nil)))))
  .skip)
  (.seq (.ite (.cmp .eq (.var 6) (.str "input"))
  (.ret (.tup (.cons (.str "input") (.cons (.var 2) (.cons (.idx (.var 1) (.int (1))) (.cons (.var 3) (.cons (.idx (.var 1) (.int (2))) (.cons (.call "at" (.cons (.idx (.var 4) (.int (1))) (.cons (.idx (.var 1) (.int (2))) .nil))) .nil))))))))
  .skip)
  (.seq (.ite (.cmp .eq (.var 6) (.str "box"))
  (.seq (.asg (.name 8) (.meth (.var 0) "row" (.cons (.idx (.var 1) (.int (4))) (.cons (.var 2) (.cons (.var 3) (.cons (.var 4) (.cons (.var 5) .nil)))))))
  (.ret (.tup (.cons (.str "box") (.cons (.var 2) (.cons (.idx (.var 1) (.int (1))) (.cons (.var 3) (.cons (.idx (.var 1) (.int (3))) (.cons (.var 8) .nil)))))))))
  .skip)
  (.seq (.ite (.cmp .eq (.var 6) (.str "child"))
  (.seq (.asg (.name 9) (.gtup (.for1 [10] (.name 10) (.cons (.idx (.var 1) (.int (3))) .nil) (.bl true) (.cons (.call "value" (.cons (.var 10) (.cons (.var 4) (.cons (.var 5) .nil)))) .nil))))
  (.ret (.bin .add (.tup (.cons (.str "child") (.cons (.var 2) (.cons (.idx (.var 1) (.int (1))) (.cons (.var 9) .nil))))) (.meth (.var 0) "component" (.cons (.idx (.var 1) (.int (1))) (.cons (.var 2) (.cons (.var 9) .nil)))))))
  .skip)
  (.seq (.ite (.cmp .notin (.idx (.var 1) (.int (1))) (.attr (.var 0) "present"))
  (.ret (.tup (.cons (.str "place") (.cons (.var 2) (.cons (.idx (.var 1) (.int (1))) .nil)))))
  .skip)
  (.seq (.asg (.name 7) (.idx (.idx (.attr (.var 0) "program") (.int (3))) (.idx (.var 1) (.int (1)))))
  (.ret (.bin .add (.tup (.cons (.str "child") (.cons (.var 2) (.cons (.var 7) (.cons (.tup .nil) .nil))))) (.meth (.var 0) "component" (.cons (.var 7) (.cons (.var 2) (.cons (.tup .nil) .nil))))))))))))))⟩
/-! program=0 store=1 cells=2 present=3 -/
def F.make_page : FDef := ⟨4, 4,
  (.ret (.meth (.new "Maker" (.cons (.var 0) (.cons (.var 1) (.cons (.var 2) (.cons (.var 3) .nil))))) "component" (.cons (.int (0)) (.cons (.tup .nil) (.cons (.tup .nil) .nil)))))⟩
/-! nodes=0 found=1 node=2 -/
def F.components_in : FDef := ⟨1, 3,
  (.seq (.asg (.name 1) (.lst .nil))
  (.seq (.for (.name 2) (.cons (.var 0) .nil)
  (.ite (.cmp .eq (.idx (.var 2) (.int (0))) (.str "child"))
  (.seq (.expr (.bm .append (.var 1) (.cons (.tup (.cons (.idx (.var 2) (.int (1))) (.cons (.idx (.var 2) (.int (2))) (.cons (.idx (.var 2) (.int (3))) (.cons (.idx (.var 2) (.int (4))) .nil))))) .nil)))
  (.expr (.bm .extend (.var 1) (.cons (.call "components_in" (.cons (.idx (.var 2) (.int (5))) .nil)) .nil))))
  (.ite (.cmp .eq (.idx (.var 2) (.int (0))) (.str "box"))
  (.expr (.bm .extend (.var 1) (.cons (.call "components_in" (.cons (.idx (.var 2) (.int (5))) .nil)) .nil)))
  .skip)))
  (.ret (.var 1))))⟩
/-! page=0 -/
def F.components_of : FDef := ⟨1, 1,
  (.ret (.bin .add (.tup (.cons (.tup (.cons (.tup .nil) (.cons (.int (0)) (.cons (.tup .nil) (.cons (.idx (.var 0) (.int (0))) .nil))))) .nil)) (.coll .tuple (.cons (.call "components_in" (.cons (.idx (.var 0) (.int (1))) .nil)) .nil))))⟩
/-! nodes=0 found=1 node=2 -/
def F.shown : FDef := ⟨1, 3,
  (.seq (.asg (.name 1) (.lst .nil))
  (.seq (.for (.name 2) (.cons (.var 0) .nil)
  (.ite (.cmp .isin (.idx (.var 2) (.int (0))) (.tup (.cons (.str "text") (.cons (.str "input") .nil))))
  (.expr (.bm .append (.var 1) (.cons (.var 2) .nil)))
  (.ite (.cmp .eq (.idx (.var 2) (.int (0))) (.str "box"))
  (.expr (.bm .append (.var 1) (.cons (.bin .add (.slice (.var 2) .non (.int (5))) (.tup (.cons (.call "shown" (.cons (.idx (.var 2) (.int (5))) .nil)) .nil))) .nil)))
  (.ite (.cmp .eq (.idx (.var 2) (.int (0))) (.str "child"))
  (.expr (.bm .extend (.var 1) (.cons (.call "shown" (.cons (.idx (.var 2) (.int (5))) .nil)) .nil)))
  .skip))))
  (.ret (.coll .tuple (.cons (.var 1) .nil)))))⟩
/-! nodes=0 found=1 node=2 -/
def F.sight : FDef := ⟨1, 3,
  (.seq (.asg (.name 1) (.lst .nil))
  (.seq (.for (.name 2) (.cons (.call "shown" (.cons (.var 0) .nil)) .nil)
  (.ite (.cmp .eq (.idx (.var 2) (.int (0))) (.str "text"))
  (.expr (.bm .append (.var 1) (.cons (.tup (.cons (.str "text") (.cons (.idx (.var 2) (.int (2))) .nil))) .nil)))
  (.ite (.cmp .eq (.idx (.var 2) (.int (0))) (.str "box"))
  (.expr (.bm .append (.var 1) (.cons (.tup (.cons (.str "box") (.cons (.idx (.var 2) (.int (2))) (.cons (.call "sight" (.cons (.idx (.var 2) (.int (5))) .nil)) .nil)))) .nil)))
  (.expr (.bm .append (.var 1) (.cons (.tup (.cons (.str "input") (.cons (.idx (.var 2) (.int (2))) (.cons (.idx (.var 2) (.int (5))) .nil)))) .nil))))))
  (.ret (.coll .tuple (.cons (.var 1) .nil)))))⟩
/-! nodes=0 found=1 node=2 -/
def F.flat : FDef := ⟨1, 3,
  (.seq (.asg (.name 1) (.lst .nil))
  (.seq (.for (.name 2) (.cons (.call "shown" (.cons (.var 0) .nil)) .nil)
  (.seq (.expr (.bm .append (.var 1) (.cons (.tup (.cons (.idx (.var 2) (.int (1))) (.cons (.idx (.var 2) (.int (0))) (.cons (.idx (.var 2) (.int (2))) .nil)))) .nil)))
  (.ite (.cmp .eq (.idx (.var 2) (.int (0))) (.str "box"))
  (.expr (.bm .extend (.var 1) (.cons (.call "flat" (.cons (.idx (.var 2) (.int (5))) .nil)) .nil)))
  .skip)))
  (.ret (.coll .tuple (.cons (.var 1) .nil)))))⟩
/-! _law_script=0 _law_first_here=1 _law_last=2 _law_digits_here=3 _law_k=4 _law_cell_here=5 _law_turn=6 _law_seed=7 -/
def F.L_digits_2 : FDef := ⟨3, 8,
  (.seq (.asg (.name 3) (.lst .nil))
  (.seq (.for (.name 4) (.range (.cons (.var 1) (.cons (.var 2) .nil)))
  (.seq (.asg (.name 5) (.call "_law_cell" (.cons (.var 0) (.cons (.var 4) .nil))))
  (.seq (.ite (.cmp .lt (.var 5) (.int (0)))
  (.asg (.name 5) (.bin .sub (.int (1)) (.bin .mul (.int (2)) (.var 5))))
  .skip)
  (.ite (.cmp .ge (.var 5) (.bin .pow (.int (10)) (.int (18))))
  (.for (.name 6) (.range (.cons (.int (60)) .nil))
  (.ite (.cmp .gt (.var 5) (.int (0)))
  (.seq (.expr (.bm .append (.var 3) (.cons (.bin .mod (.bi .int (.cons (.var 5) .nil)) (.int (1000))) .nil)))
  (.asg (.name 5) (.bin .fdiv (.var 5) (.int (1000)))))
  .skip))
  (.seq (.asg (.name 7) (.bin .mod (.bi .int (.cons (.bin .add (.bin .add (.bin .mul (.var 5) (.int (48271))) (.bin .mul (.var 4) (.int (69621)))) (.int (11))) .nil)) (.int (2147483647))))
  (.for (.name 6) (.range (.cons (.int (12)) .nil))
  (.seq (.asg (.name 7) (.bin .mod (.bi .int (.cons (.bin .add (.bin .add (.bin .mul (.var 7) (.int (16807))) (.bin .mul (.int (7)) (.var 6))) (.int (1))) .nil)) (.int (2147483647))))
  (.expr (.bm .append (.var 3) (.cons (.bin .mod (.bi .int (.cons (.bin .fdiv (.var 7) (.int (997))) .nil)) (.int (1000))) .nil))))))))))
  (.ret (.var 3))))⟩
/-! _law_script=0 _law_first_here=1 _law_last=2 -/
def F.L_box_2 : FDef := ⟨3, 3,
  (.ret (.lst (.cons (.call "_law_digits" (.cons (.var 0) (.cons (.var 1) (.cons (.var 2) .nil)))) (.cons (.int (0)) (.cons (.int (0)) (.cons (.int (0)) (.cons (.int (0)) (.cons (.lst .nil) .nil))))))))⟩
/-! _law_about=0 _law_owner=1 _law_scope=2 _law_looked=3 _law_contents_here=4 _law_path=5 _law_nodes=6 _law_item=7 _law_here=8 _law_row=9 _law_inner=10 _law_value_here=11 _law_props=12 _law_e=13 -/
def F.L_fill : FDef := ⟨6, 14,
  (.seq (.asg (.name 6) (.lst .nil))
  (.seq (.for (.name 7) (.cons (.call "_law_lay" (.cons (.var 4) (.cons (.var 2) (.cons (.var 3) (.cons (.tup .nil) (.cons (.tup .nil) (.cons (.lst .nil) .nil))))))) .nil)
  (.seq (.asg (.name 8) (.bin .add (.var 5) (.tup (.cons (.idx (.var 7) (.int (0))) .nil))))
  (.seq (.asg (.name 9) (.idx (.var 7) (.int (1))))
  (.seq (.asg (.name 10) (.lst (.cons (.idx (.var 2) (.int (0))) (.cons (.idx (.var 2) (.int (1))) (.cons (.idx (.var 2) (.int (2))) (.cons (.idx (.var 7) (.int (2))) .nil))))))
  (.ite (.cmp .eq (.idx (.var 9) (.int (0))) (.str "text"))
  (.expr (.bm .append (.var 6) (.cons (.tup (.cons (.str "text") (.cons (.var 8) (.cons (.idx (.var 9) (.int (1))) .nil)))) .nil)))
  (.ite (.cmp .eq (.idx (.var 9) (.int (0))) (.str "show"))
  (.expr (.bm .append (.var 6) (.cons (.tup (.cons (.str "text") (.cons (.var 8) (.cons (.bi .str (.cons (.call "_law_value" (.cons (.idx (.var 9) (.int (1))) (.cons (.var 10) (.cons (.var 3) .nil)))) .nil)) .nil)))) .nil)))
  (.ite (.cmp .eq (.idx (.var 9) (.int (0))) (.str "input"))
  (.seq (.asg (.name 11) (.idx (.bin .add (.idx (.var 2) (.int (0))) (.tup (.cons (.int (0)) .nil))) (.bi .min2 (.cons (.idx (.var 9) (.int (2))) (.cons (.bi .len (.cons (.idx (.var 2) (.int (0))) .nil)) .nil)))))
  (.expr (.bm .append (.var 6) (.cons (.tup (.cons (.str "input") (.cons (.var 8) (.cons (.idx (.var 9) (.int (1))) (.cons (.var 1) (.cons (.idx (.var 9) (.int (2))) (.cons (.var 11) .nil))))))) .nil))))
  (.ite (.cmp .eq (.idx (.var 9) (.int (0))) (.str "box"))
  (.expr (.bm .append (.var 6) (.cons (.tup (.cons (.str "box") (.cons (.var 8) (.cons (.idx (.var 9) (.int (1))) (.cons (.var 1) (.cons (.idx (.var 9) (.int (3))) (.cons (.call "_law_fill" (.cons (.var 0) (.cons (.var 1) (.cons (.var 10) (.cons (.var 3) (.cons (.idx (.var 9) (.int (4))) (.cons (.var 8) .nil))))))) .nil))))))) .nil)))
  (.ite (.cmp .eq (.idx (.var 9) (.int (0))) (.str "child"))
  (.seq (.asg (.name 12) (.coll .tuple (.cons (.lcomp (.for1 [13] (.name 13) (.cons (.idx (.var 9) (.int (3))) .nil) (.bl true) (.cons (.call "_law_value" (.cons (.var 13) (.cons (.var 10) (.cons (.var 3) .nil)))) .nil))) .nil)))
  (.expr (.bm .append (.var 6) (.cons (.call "_law_child" (.cons (.var 0) (.cons (.var 8) (.cons (.idx (.var 9) (.int (1))) (.cons (.var 12) .nil))))) .nil))))
  (.ite (.cmp .isin (.idx (.var 9) (.int (1))) (.idx (.var 0) (.int (3))))
  (.expr (.bm .append (.var 6) (.cons (.call "_law_child" (.cons (.var 0) (.cons (.var 8) (.cons (.idx (.idx (.idx (.var 0) (.int (0))) (.int (3))) (.idx (.var 9) (.int (1)))) (.cons (.tup .nil) .nil))))) .nil)))
  (.expr (.bm .append (.var 6) (.cons (.tup (.cons (.str "place") (.cons (.var 8) (.cons (.idx (.var 9) (.int (1))) .nil)))) .nil)))))))))))))
  (.ret (.coll .tuple (.cons (.var 6) .nil)))))⟩
/-! _law_about=0 _law_path=1 _law_number=2 _law_props=3 _law_component=4 _law_cells=5 _law_item=6 _law_looked=7 _law_nodes=8 _law_reads=9 _law_k=10 -/
def F.L_child : FDef := ⟨4, 11,
  (.seq (.asg (.name 4) (.idx (.idx (.idx (.var 0) (.int (0))) (.int (1))) (.var 2)))
  (.seq (.asg (.name 5) (.idx (.var 4) (.int (1))))
  (.seq (.for (.name 6) (.cons (.idx (.var 0) (.int (2))) .nil)
  (.ite (.cmp .eq (.idx (.var 6) (.int (0))) (.var 1))
  (.asg (.name 5) (.idx (.var 6) (.int (1))))
  .skip))
  (.seq (.asg (.name 7) (.lst .nil))
  (.seq (.asg (.name 8) (.call "_law_fill" (.cons (.var 0) (.cons (.var 1) (.cons (.lst (.cons (.var 5) (.cons (.var 3) (.cons (.idx (.var 0) (.int (1))) (.cons (.int (0)) .nil))))) (.cons (.var 7) (.cons (.idx (.var 4) (.int (2))) (.cons (.var 1) .nil))))))))
  (.seq (.asg (.name 9) (.lcomp (.for1 [10] (.name 10) (.range (.cons (.bi .len (.cons (.idx (.var 0) (.int (1))) .nil)) .nil)) (.cmp .isin (.var 10) (.var 7)) (.cons (.var 10) .nil))))
  (.ret (.tup (.cons (.str "child") (.cons (.var 1) (.cons (.var 2) (.cons (.var 3) (.cons (.coll .tuple (.cons (.var 9) .nil)) (.cons (.var 8) .nil))))))))))))))⟩
/-! _law_nodes=0 _law_rows=1 _law_node=2 -/
def F.L_people : FDef := ⟨1, 3,
  (.seq (.asg (.name 1) (.lst .nil))
  (.seq (.for (.name 2) (.cons (.var 0) .nil)
  (.ite (.cmp .eq (.idx (.var 2) (.int (0))) (.str "child"))
  (.seq (.expr (.bm .append (.var 1) (.cons (.lst (.cons (.idx (.var 2) (.int (1))) (.cons (.idx (.var 2) (.int (2))) (.cons (.idx (.var 2) (.int (3))) (.cons (.idx (.var 2) (.int (4))) .nil))))) .nil)))
  (.asg (.name 1) (.bin .add (.var 1) (.call "_law_people" (.cons (.idx (.var 2) (.int (5))) .nil)))))
  (.ite (.cmp .eq (.idx (.var 2) (.int (0))) (.str "box"))
  (.asg (.name 1) (.bin .add (.var 1) (.call "_law_people" (.cons (.idx (.var 2) (.int (5))) .nil))))
  .skip)))
  (.ret (.var 1))))⟩
/-! _law_about=0 _law_path=1 _law_number=2 _law_item=3 -/
def F.L_cells_at : FDef := ⟨3, 4,
  (.seq (.for (.name 3) (.cons (.idx (.var 0) (.int (2))) .nil)
  (.ite (.cmp .eq (.idx (.var 3) (.int (0))) (.var 1))
  (.ret (.idx (.var 3) (.int (1))))
  .skip))
  (.ret (.idx (.idx (.idx (.idx (.var 0) (.int (0))) (.int (1))) (.var 2)) (.int (1)))))⟩
/-! _law_about=0 _law_people_here=1 _law_cells=2 _law_row=3 -/
def F.L_settle : FDef := ⟨1, 4,
  (.seq (.asg (.name 1) (.call "_law_people" (.cons (.tup (.cons (.call "_law_child" (.cons (.var 0) (.cons (.tup .nil) (.cons (.int (0)) (.cons (.tup .nil) .nil))))) .nil)) .nil)))
  (.seq (.asg (.name 2) (.lcomp (.for1 [3] (.name 3) (.cons (.var 1) .nil) (.bl true) (.cons (.tup (.cons (.idx (.var 3) (.int (0))) (.cons (.call "_law_cells_at" (.cons (.var 0) (.cons (.idx (.var 3) (.int (0))) (.cons (.idx (.var 3) (.int (1))) .nil)))) .nil))) .nil))))
  (.ret (.lst (.cons (.idx (.var 0) (.int (0))) (.cons (.coll .tuple (.cons (.idx (.var 0) (.int (1))) .nil)) (.cons (.coll .tuple (.cons (.var 2) .nil)) (.cons (.coll .tuple (.cons (.coll .sorted (.cons (.idx (.var 0) (.int (3))) .nil)) .nil)) .nil))))))))⟩
/-! _law_program_here=0 _law_present=1 -/
def F.L_first : FDef := ⟨2, 2,
  (.ret (.call "_law_settle" (.cons (.lst (.cons (.var 0) (.cons (.idx (.var 0) (.int (2))) (.cons (.tup .nil) (.cons (.coll .tuple (.cons (.var 1) .nil)) .nil))))) .nil)))⟩
/-! _law_nodes=0 _law_rows=1 _law_node=2 -/
def F.L_shown : FDef := ⟨1, 3,
  (.seq (.asg (.name 1) (.lst .nil))
  (.seq (.for (.name 2) (.cons (.var 0) .nil)
  (.ite (.cmp .eq (.idx (.var 2) (.int (0))) (.str "child"))
  (.asg (.name 1) (.bin .add (.var 1) (.coll .list (.cons (.call "_law_shown" (.cons (.idx (.var 2) (.int (5))) .nil)) .nil))))
  (.ite (.cmp .eq (.idx (.var 2) (.int (0))) (.str "box"))
  (.expr (.bm .append (.var 1) (.cons (.bin .add (.slice (.var 2) .non (.int (5))) (.tup (.cons (.call "_law_shown" (.cons (.idx (.var 2) (.int (5))) .nil)) .nil))) .nil)))
  (.ite (.cmp .ne (.idx (.var 2) (.int (0))) (.str "place"))
  (.expr (.bm .append (.var 1) (.cons (.var 2) .nil)))
  .skip))))
  (.ret (.coll .tuple (.cons (.var 1) .nil)))))⟩
/-! _law_nodes=0 _law_rows=1 _law_node=2 -/
def F.L_sight : FDef := ⟨1, 3,
  (.seq (.asg (.name 1) (.lst .nil))
  (.seq (.for (.name 2) (.cons (.var 0) .nil)
  (.ite (.cmp .eq (.idx (.var 2) (.int (0))) (.str "child"))
  (.asg (.name 1) (.bin .add (.var 1) (.coll .list (.cons (.call "_law_sight" (.cons (.idx (.var 2) (.int (5))) .nil)) .nil))))
  (.ite (.cmp .eq (.idx (.var 2) (.int (0))) (.str "box"))
  (.expr (.bm .append (.var 1) (.cons (.tup (.cons (.str "box") (.cons (.idx (.var 2) (.int (2))) (.cons (.call "_law_sight" (.cons (.idx (.var 2) (.int (5))) .nil)) .nil)))) .nil)))
  (.ite (.cmp .eq (.idx (.var 2) (.int (0))) (.str "text"))
  (.expr (.bm .append (.var 1) (.cons (.tup (.cons (.str "text") (.cons (.idx (.var 2) (.int (2))) .nil))) .nil)))
  (.ite (.cmp .eq (.idx (.var 2) (.int (0))) (.str "input"))
  (.expr (.bm .append (.var 1) (.cons (.tup (.cons (.str "input") (.cons (.idx (.var 2) (.int (2))) (.cons (.idx (.var 2) (.int (5))) .nil)))) .nil)))
  .skip)))))
  (.ret (.coll .tuple (.cons (.var 1) .nil)))))⟩
/-! _law_nodes=0 _law_rows=1 _law_node=2 -/
def F.L_flat : FDef := ⟨1, 3,
  (.seq (.asg (.name 1) (.lst .nil))
  (.seq (.for (.name 2) (.cons (.call "_law_shown" (.cons (.var 0) .nil)) .nil)
  (.seq (.expr (.bm .append (.var 1) (.cons (.var 2) .nil)))
  (.ite (.cmp .eq (.idx (.var 2) (.int (0))) (.str "box"))
  (.asg (.name 1) (.bin .add (.var 1) (.call "_law_flat" (.cons (.idx (.var 2) (.int (5))) .nil))))
  .skip)))
  (.ret (.var 1))))⟩
/-! _law_script=0 _law_box_here=1 _law_program_here=2 _law_present=3 _law_store=4 _law_about=5 _law_cells=6 _law_row=7 _law_due=8 _law_page=9 _law_people_here=10 _law_rows=11 _law_node=12 _law_k=13 -/
def F.law_k11 : FDef := ⟨1, 14,
  (.seq (.asg (.name 1) (.call "_law_box" (.cons (.var 0) (.cons (.int (0)) (.cons (.int (63)) .nil)))))
  (.seq (.asg (.name 2) (.call "_law_program" (.cons (.var 1) .nil)))
  (.seq (.asg (.name 3) (.coll .tuple (.cons (.lcomp (.for1 [13] (.name 13) (.range (.cons (.bi .len (.cons (.idx (.var 2) (.int (3))) .nil)) .nil)) (.cmp .eq (.call "_law_draw" (.cons (.var 1) (.cons (.int (2)) .nil))) (.int (0))) (.cons (.var 13) .nil))) .nil)))
  (.seq (.asg (.name 4) (.coll .tuple (.cons (.lcomp (.for1 [13] (.name 13) (.range (.cons (.bi .len (.cons (.idx (.var 2) (.int (2))) .nil)) .nil)) (.bl true) (.cons (.call "_law_draw" (.cons (.var 1) (.cons (.int (5)) .nil))) .nil))) .nil)))
  (.seq (.asg (.name 5) (.lst (.cons (.var 2) (.cons (.var 4) (.cons (.tup .nil) (.cons (.var 3) .nil))))))
  (.seq (.asg (.name 6) (.lst (.cons (.tup (.cons (.tup (.cons (.tup (.cons (.str "at") (.cons (.tup (.cons (.int (9)) .nil)) (.cons (.tup .nil) .nil)))) .nil)) (.cons (.tup (.cons (.int (1)) (.cons (.int (2)) .nil))) .nil))) .nil)))
  (.seq (.for (.name 7) (.cons (.call "_law_people" (.cons (.tup (.cons (.call "_law_child" (.cons (.var 5) (.cons (.tup .nil) (.cons (.int (0)) (.cons (.tup .nil) .nil))))) .nil)) .nil)) .nil)
  (.ite (.cmp .eq (.call "_law_draw" (.cons (.var 1) (.cons (.int (2)) .nil))) (.int (0)))
  (.expr (.bm .append (.var 6) (.cons (.tup (.cons (.idx (.var 7) (.int (0))) (.cons (.coll .tuple (.cons (.lcomp (.for1 [13] (.name 13) (.range (.cons (.bi .len (.cons (.idx (.idx (.idx (.var 2) (.int (1))) (.idx (.var 7) (.int (1)))) (.int (1))) .nil)) .nil)) (.bl true) (.cons (.call "_law_draw" (.cons (.var 1) (.cons (.int (5)) .nil))) .nil))) .nil)) .nil))) .nil)))
  .skip))
  (.seq (.asg (.name 5) (.lst (.cons (.var 2) (.cons (.var 4) (.cons (.coll .tuple (.cons (.var 6) .nil)) (.cons (.var 3) .nil))))))
  (.seq (.asg (.name 8) (.call "_law_child" (.cons (.var 5) (.cons (.tup .nil) (.cons (.int (0)) (.cons (.tup .nil) .nil))))))
  (.seq (.asg (.name 9) (.call "make_page" (.cons (.var 2) (.cons (.var 4) (.cons (.coll .tuple (.cons (.var 6) .nil)) (.cons (.var 3) .nil))))))
  (.seq (.ite (.no (.call "_law_same" (.cons (.var 9) (.cons (.tup (.cons (.idx (.var 8) (.int (4))) (.cons (.idx (.var 8) (.int (5))) .nil))) .nil))))
  (.ret (.bl false))
  .skip)
  (.seq (.asg (.name 10) (.coll .tuple (.cons (.lcomp (.for1 [7] (.name 7) (.cons (.call "_law_people" (.cons (.tup (.cons (.var 8) .nil)) .nil)) .nil) (.bl true) (.cons (.tup (.cons (.idx (.var 7) (.int (0))) (.cons (.idx (.var 7) (.int (1))) (.cons (.idx (.var 7) (.int (2))) (.cons (.idx (.var 7) (.int (3))) .nil))))) .nil))) .nil)))
  (.seq (.ite (.no (.call "_law_same" (.cons (.call "components_of" (.cons (.var 9) .nil)) (.cons (.var 10) .nil))))
  (.ret (.bl false))
  .skip)
  (.seq (.ite (.or (.no (.call "_law_same" (.cons (.call "shown" (.cons (.idx (.var 8) (.int (5))) .nil)) (.cons (.call "_law_shown" (.cons (.idx (.var 8) (.int (5))) .nil)) .nil)))) (.no (.call "_law_same" (.cons (.call "sight" (.cons (.idx (.var 8) (.int (5))) .nil)) (.cons (.call "_law_sight" (.cons (.idx (.var 8) (.int (5))) .nil)) .nil)))))
  (.ret (.bl false))
  .skip)
  (.seq (.asg (.name 11) (.lcomp (.for1 [12] (.name 12) (.cons (.call "_law_flat" (.cons (.idx (.var 8) (.int (5))) .nil)) .nil) (.bl true) (.cons (.tup (.cons (.idx (.var 12) (.int (1))) (.cons (.idx (.var 12) (.int (0))) (.cons (.idx (.var 12) (.int (2))) .nil)))) .nil))))
  (.ret (.call "_law_same" (.cons (.call "flat" (.cons (.idx (.var 8) (.int (5))) .nil)) (.cons (.coll .tuple (.cons (.var 11) .nil)) .nil)))))))))))))))))))⟩
/-! program=0 store=1 cells=2 present=3 known=4 settled=5 path=6 number=7 _=8 -/
def F.settle : FDef := ⟨4, 9,
  (.seq (.asg (.name 4) (.coll .dict (.cons (.var 2) .nil)))
  (.seq (.asg (.name 5) (.lst .nil))
  (.seq (.for (.tup [6, 7, 8, 8]) (.cons (.call "components_of" (.cons (.call "make_page" (.cons (.var 0) (.cons (.var 1) (.cons (.var 2) (.cons (.var 3) .nil))))) .nil)) .nil)
  (.expr (.bm .append (.var 5) (.cons (.tup (.cons (.var 6) (.cons (.bm .get2 (.var 4) (.cons (.var 6) (.cons (.idx (.idx (.idx (.var 0) (.int (1))) (.var 7)) (.int (1))) .nil))) .nil))) .nil))))
  (.ret (.tup (.cons (.str "world") (.cons (.var 1) (.cons (.coll .tuple (.cons (.var 5) .nil)) (.cons (.var 3) .nil)))))))))⟩
/-! program=0 world=1 -/
def F.page_of : FDef := ⟨2, 2,
  (.ret (.call "make_page" (.cons (.var 0) (.cons (.idx (.var 1) (.int (1))) (.cons (.idx (.var 1) (.int (2))) (.cons (.idx (.var 1) (.int (3))) .nil))))))⟩
/-! self=0 program=1 world=2 path=3 values=4 number=5 props=6 _=7 -/
def F.Doing_init : FDef := ⟨3, 8,
  (.seq (.setattr (.var 0) "program" (.var 1))
  (.seq (.setattr (.var 0) "present" (.idx (.var 2) (.int (3))))
  (.seq (.setattr (.var 0) "done" (.lst .nil))
  (.seq (.setattr (.var 0) "store" (.coll .list (.cons (.idx (.var 2) (.int (1))) .nil)))
  (.seq (.setattr (.var 0) "cells" (.dcomp (.for1 [3, 4] (.tup [3, 4]) (.cons (.idx (.var 2) (.int (2))) .nil) (.bl true) (.cons (.var 3) (.cons (.coll .list (.cons (.var 4) .nil)) .nil)))))
  (.setattr (.var 0) "components" (.dcomp (.for1 [3, 5, 6, 7] (.tup [3, 5, 6, 7]) (.cons (.call "components_of" (.cons (.call "page_of" (.cons (.var 1) (.cons (.var 2) .nil))) .nil)) .nil) (.bl true) (.cons (.var 3) (.cons (.tup (.cons (.var 5) (.cons (.var 6) .nil))) .nil))))))))))⟩
/-! self=0 path=1 action=2 number=3 actions=4 step=5 -/
def F.Doing_act : FDef := ⟨3, 6,
  (.seq (.ite (.cmp .notin (.var 1) (.attr (.var 0) "components"))
  (.ret .non)
  .skip)
  (.seq (.asg (.name 3) (.idx (.idx (.attr (.var 0) "components") (.var 1)) (.int (0))))
  (.seq (.asg (.name 4) (.idx (.idx (.idx (.attr (.var 0) "program") (.int (1))) (.var 3)) (.int (3))))
  (.ite (.cmp .lt (.var 2) (.bi .len (.cons (.var 4) .nil)))
  (.seq (.expr (.bm .append (.attr (.var 0) "done") (.cons (.var 3) .nil)))
  (.for (.name 5) (.cons (.idx (.var 4) (.var 2)) .nil)
  (.expr (.meth (.var 0) "step" (.cons (.var 1) (.cons (.var 5) .nil))))))
  .skip))))⟩
/-! self=0 path=1 cell=2 entered=3 row=4 -/
def F.Doing_enter : FDef := ⟨4, 5,
  (.ite (.and (.cmp .isin (.var 1) (.attr (.var 0) "cells")) (.cmp .lt (.var 2) (.bi .len (.cons (.idx (.attr (.var 0) "cells") (.var 1)) .nil))))
  (.seq (.asg (.name 4) (.idx (.attr (.var 0) "cells") (.var 1)))
  (.setidx (.var 4) (.var 2) (.var 3)))
  .skip)⟩
/-! self=0 path=1 step=2 scope=3 row=4 around=5 before=6 -/
def F.Doing_step : FDef := ⟨3, 7,
  (.seq (.ite (.cmp .eq (.idx (.var 2) (.int (0))) (.str "up"))
  (.seq (.asg (.name 5) (.lcomp (.for1 [6] (.name 6) (.cons (.call "parts_of" (.cons (.var 1) .nil)) .nil) (.cmp .isin (.var 6) (.attr (.var 0) "components")) (.cons (.var 6) .nil))))
  (.seq (.ite (.var 5)
  (.expr (.meth (.var 0) "act" (.cons (.idx (.var 5) (.neg (.int (1)))) (.cons (.idx (.var 2) (.int (1))) .nil))))
  .skip)
  (.ret .non)))
  .skip)
  (.seq (.asg (.name 3) (.tup (.cons (.str "scope") (.cons (.coll .tuple (.cons (.idx (.attr (.var 0) "cells") (.var 1)) .nil)) (.cons (.idx (.idx (.attr (.var 0) "components") (.var 1)) (.int (1))) (.cons (.coll .tuple (.cons (.attr (.var 0) "store") .nil)) (.cons (.int (0)) .nil)))))))
  (.seq (.asg (.name 4) (.ite (.cmp .eq (.idx (.var 2) (.int (0))) (.str "set")) (.idx (.attr (.var 0) "cells") (.var 1)) (.attr (.var 0) "store")))
  (.ite (.cmp .lt (.idx (.var 2) (.int (1))) (.bi .len (.cons (.var 4) .nil)))
  (.setidx (.var 4) (.idx (.var 2) (.int (1))) (.call "value" (.cons (.idx (.var 2) (.int (2))) (.cons (.var 3) (.cons (.lst .nil) .nil)))))
  .skip))))⟩
/-! self=0 cells=1 path=2 -/
def F.Doing_world : FDef := ⟨1, 3,
  (.seq (.asg (.name 1) (.gtup (.for1 [2] (.name 2) (.keys (.attr (.var 0) "cells")) (.bl true) (.cons (.tup (.cons (.var 2) (.cons (.coll .tuple (.cons (.idx (.attr (.var 0) "cells") (.var 2)) .nil)) .nil))) .nil))))
  (.ret (.call "settle" (.cons (.attr (.var 0) "program") (.cons (.coll .tuple (.cons (.attr (.var 0) "store") .nil)) (.cons (.var 1) (.cons (.attr (.var 0) "present") .nil)))))))⟩
/-! program=0 world=1 deed=2 doing=3 present=4 -/
def F.do : FDef := ⟨3, 5,
  (.seq (.ite (.cmp .eq (.idx (.var 2) (.int (0))) (.str "part"))
  (.seq (.asg (.name 4) (.coll .tuple (.cons (.coll .sset (.cons (.bin .add (.idx (.var 1) (.int (3))) (.tup (.cons (.idx (.var 2) (.int (1))) .nil))) .nil)) .nil)))
  (.ret (.call "settle" (.cons (.var 0) (.cons (.idx (.var 1) (.int (1))) (.cons (.idx (.var 1) (.int (2))) (.cons (.var 4) .nil)))))))
  .skip)
  (.seq (.asg (.name 3) (.new "Doing" (.cons (.var 0) (.cons (.var 1) .nil))))
  (.seq (.ite (.cmp .eq (.idx (.var 2) (.int (0))) (.str "act"))
  (.expr (.meth (.var 3) "act" (.cons (.idx (.var 2) (.int (1))) (.cons (.idx (.var 2) (.int (2))) .nil))))
  (.expr (.meth (.var 3) "enter" (.cons (.idx (.var 2) (.int (1))) (.cons (.idx (.var 2) (.int (2))) (.cons (.idx (.var 2) (.int (3))) .nil))))))
  (.ret (.meth (.var 3) "world" .nil)))))⟩
/-! _law_cells=0 _law_count=1 _law_n=2 -/
def F.L_keys : FDef := ⟨2, 3,
  (.ret (.lcomp (.for1 [2] (.name 2) (.range (.cons (.var 1) .nil)) (.bl true) (.cons (.idx (.var 0) (.bi .min2 (.cons (.var 2) (.cons (.int (2)) .nil)))) .nil))))⟩
/-! _law_keys_here=0 _law_rows=1 _law_n=2 _law_name=3 -/
def F.L_paths : FDef := ⟨1, 4,
  (.seq (.asg (.name 1) (.lst .nil))
  (.seq (.for (.name 2) (.range (.cons (.bi .len (.cons (.var 0) .nil)) .nil))
  (.seq (.asg (.name 3) (.tup (.cons (.str "key") (.cons (.tup (.cons (.int (0)) (.cons (.int (0)) .nil))) (.cons (.idx (.var 0) (.var 2)) .nil)))))
  (.seq (.ite (.cmp .isin (.idx (.var 0) (.var 2)) (.slice (.var 0) .non (.var 2)))
  (.asg (.name 3) (.tup (.cons (.str "at") (.cons (.tup (.cons (.int (0)) (.cons (.int (0)) .nil))) (.cons (.tup (.cons (.var 2) .nil)) .nil)))))
  .skip)
  (.expr (.bm .append (.var 1) (.cons (.tup (.cons (.var 3) .nil)) .nil))))))
  (.ret (.var 1))))⟩
/-! _law_script=0 _law_box=1 _law_key=2 _law_row=3 _law_first=4 _law_second=5 _law_program=6 _law_one=7 _law_two=8 _law_world=9 _law_paths_here=10 _law_told=11 _law_inner=12 _law_counts=13 _law_path=14 _law_cells=15 _law_due=16 _law_k=17 _law_item=18 -/
def F.law_k12 : FDef := ⟨1, 19,
  (.seq (.asg (.name 1) (.lst (.cons (.call "_law_digits" (.cons (.var 0) (.cons (.int (0)) (.cons (.int (63)) .nil)))) (.cons (.int (0)) .nil))))
  (.seq (.asg (.name 2) (.tup (.cons (.str "if") (.cons (.tup (.cons (.str "same") (.cons (.tup (.cons (.str "index") .nil)) (.cons (.tup (.cons (.str "num") (.cons (.int (0)) .nil))) .nil)))) (.cons (.tup (.cons (.str "cell") (.cons (.int (0)) .nil))) (.cons (.tup (.cons (.str "if") (.cons (.tup (.cons (.str "same") (.cons (.tup (.cons (.str "index") .nil)) (.cons (.tup (.cons (.str "num") (.cons (.int (1)) .nil))) .nil)))) (.cons (.tup (.cons (.str "cell") (.cons (.int (1)) .nil))) (.cons (.tup (.cons (.str "cell") (.cons (.int (2)) .nil))) .nil))))) .nil))))))
  (.seq (.asg (.name 3) (.tup (.cons (.str "box") (.cons (.str "li") (.cons (.var 2) (.cons .non (.cons (.tup (.cons (.tup (.cons (.str "text") (.cons (.str "x") .nil))) (.cons (.tup (.cons (.str "child") (.cons (.int (1)) (.cons .non (.cons (.tup .nil) .nil))))) .nil))) .nil)))))))
  (.seq (.asg (.name 4) (.tup (.cons (.str "component") (.cons (.tup (.cons (.int (0)) (.cons (.int (1)) (.cons (.int (2)) (.cons (.int (1)) .nil))))) (.cons (.tup (.cons (.tup (.cons (.str "each") (.cons (.tup (.cons (.str "cell") (.cons (.int (3)) .nil))) (.cons (.tup (.cons (.var 3) .nil)) .nil)))) .nil)) (.cons (.tup .nil) .nil))))))
  (.seq (.asg (.name 5) (.tup (.cons (.str "component") (.cons (.tup (.cons (.int (0)) .nil)) (.cons (.tup (.cons (.tup (.cons (.str "show") (.cons (.tup (.cons (.str "cell") (.cons (.int (0)) .nil))) .nil))) .nil)) (.cons (.tup (.cons (.tup (.cons (.tup (.cons (.str "set") (.cons (.int (0)) (.cons (.tup (.cons (.str "plus") (.cons (.tup (.cons (.str "cell") (.cons (.int (0)) .nil))) (.cons (.tup (.cons (.str "num") (.cons (.int (1)) .nil))) .nil)))) .nil)))) .nil)) .nil)) .nil))))))
  (.seq (.asg (.name 6) (.tup (.cons (.str "program") (.cons (.tup (.cons (.var 4) (.cons (.var 5) .nil))) (.cons (.tup .nil) (.cons (.tup .nil) .nil))))))
  (.seq (.asg (.name 7) (.bin .add (.coll .tuple (.cons (.lcomp (.for1 [17] (.name 17) (.range (.cons (.int (3)) .nil)) (.bl true) (.cons (.call "_law_draw" (.cons (.var 1) (.cons (.int (5)) .nil))) .nil))) .nil)) (.tup (.cons (.bin .add (.int (1)) (.call "_law_draw" (.cons (.var 1) (.cons (.int (5)) .nil)))) .nil))))
  (.seq (.asg (.name 8) (.bin .add (.coll .tuple (.cons (.lcomp (.for1 [17] (.name 17) (.range (.cons (.int (3)) .nil)) (.bl true) (.cons (.call "_law_draw" (.cons (.var 1) (.cons (.int (5)) .nil))) .nil))) .nil)) (.tup (.cons (.bin .add (.int (1)) (.call "_law_draw" (.cons (.var 1) (.cons (.int (5)) .nil)))) .nil))))
  (.seq (.asg (.name 9) (.call "settle" (.cons (.var 6) (.cons (.tup .nil) (.cons (.tup (.cons (.tup (.cons (.tup .nil) (.cons (.var 7) .nil))) .nil)) (.cons (.tup .nil) .nil))))))
  (.seq (.asg (.name 10) (.call "_law_paths" (.cons (.call "_law_keys" (.cons (.var 7) (.cons (.idx (.var 7) (.int (3))) .nil))) .nil)))
  (.seq (.asg (.name 11) (.call "flat" (.cons (.idx (.call "make_page" (.cons (.var 6) (.cons (.idx (.var 9) (.int (1))) (.cons (.idx (.var 9) (.int (2))) (.cons (.tup .nil) .nil))))) (.int (1))) .nil)))
  (.seq (.ite (.no (.call "_law_same" (.cons (.coll .tuple (.cons (.lcomp (.for1 [18] (.name 18) (.cons (.var 11) .nil) (.cmp .eq (.idx (.var 18) (.int (1))) (.str "box")) (.cons (.idx (.var 18) (.int (0))) .nil))) .nil)) (.cons (.coll .tuple (.cons (.var 10) .nil)) .nil))))
  (.ret (.bl false))
  .skip)
  (.seq (.asg (.name 12) (.tup (.cons (.str "at") (.cons (.tup (.cons (.int (1)) .nil)) (.cons (.tup .nil) .nil)))))
  (.seq (.asg (.name 13) (.dic .nil))
  (.seq (.for (.name 14) (.cons (.var 10) .nil)
  (.seq (.setidx (.var 13) (.var 14) (.call "_law_draw" (.cons (.var 1) (.cons (.int (3)) .nil))))
  (.for (.name 17) (.range (.cons (.idx (.var 13) (.var 14)) .nil))
  (.asg (.name 9) (.call "do" (.cons (.var 6) (.cons (.var 9) (.cons (.tup (.cons (.str "act") (.cons (.bin .add (.var 14) (.tup (.cons (.var 12) .nil))) (.cons (.int (0)) .nil)))) .nil))))))))
  (.seq (.asg (.name 15) (.coll .tuple (.cons (.bin .add (.lst (.cons (.tup (.cons (.tup .nil) (.cons (.var 8) .nil))) .nil)) (.lcomp (.for1 [18] (.name 18) (.cons (.idx (.var 9) (.int (2))) .nil) (.cmp .ne (.idx (.var 18) (.int (0))) (.tup .nil)) (.cons (.var 18) .nil)))) .nil)))
  (.seq (.asg (.name 9) (.call "settle" (.cons (.var 6) (.cons (.tup .nil) (.cons (.var 15) (.cons (.tup .nil) .nil))))))
  (.seq (.asg (.name 16) (.lst (.cons (.tup (.cons (.tup .nil) (.cons (.var 8) .nil))) .nil)))
  (.seq (.for (.name 14) (.cons (.call "_law_paths" (.cons (.call "_law_keys" (.cons (.var 8) (.cons (.idx (.var 8) (.int (3))) .nil))) .nil)) .nil)
  (.expr (.bm .append (.var 16) (.cons (.tup (.cons (.bin .add (.var 14) (.tup (.cons (.var 12) .nil))) (.cons (.tup (.cons (.bm .get2 (.var 13) (.cons (.var 14) (.cons (.int (0)) .nil))) .nil)) .nil))) .nil))))
  (.ret (.call "_law_same" (.cons (.var 9) (.cons (.tup (.cons (.str "world") (.cons (.tup .nil) (.cons (.coll .tuple (.cons (.var 16) .nil)) (.cons (.tup .nil) .nil))))) .nil)))))))))))))))))))))))⟩
/-! program=0 present=1 -/
def F.first_world : FDef := ⟨2, 2,
  (.ret (.call "settle" (.cons (.var 0) (.cons (.idx (.var 0) (.int (2))) (.cons (.tup .nil) (.cons (.coll .tuple (.cons (.coll .sset (.cons (.var 1) .nil)) .nil)) .nil))))))⟩
/-! world=0 path=1 -/
def F.cells_at : FDef := ⟨2, 2,
  (.ret (.bm .get1 (.coll .dict (.cons (.idx (.var 0) (.int (2))) .nil)) (.cons (.var 1) .nil)))⟩
/-! _law_box_here=0 _law_actions_here=1 _law_k=2 _law_steps_here=3 _law_j=4 _law_kind=5 -/
def F.L_actions_2 : FDef := ⟨1, 6,
  (.seq (.asg (.name 1) (.lst .nil))
  (.seq (.for (.name 2) (.range (.cons (.int (2)) .nil))
  (.seq (.asg (.name 3) (.lst .nil))
  (.seq (.for (.name 4) (.range (.cons (.bin .add (.int (1)) (.call "_law_draw" (.cons (.var 0) (.cons (.int (2)) .nil)))) .nil))
  (.seq (.asg (.name 5) (.call "_law_draw" (.cons (.var 0) (.cons (.int (5)) .nil))))
  (.ite (.cmp .lt (.var 5) (.int (2)))
  (.expr (.bm .append (.var 3) (.cons (.tup (.cons (.str "set") (.cons (.call "_law_draw" (.cons (.var 0) (.cons (.int (2)) .nil))) (.cons (.call "_law_expr" (.cons (.var 0) (.cons (.int (1)) .nil))) .nil)))) .nil)))
  (.ite (.cmp .lt (.var 5) (.int (4)))
  (.expr (.bm .append (.var 3) (.cons (.tup (.cons (.str "put") (.cons (.call "_law_draw" (.cons (.var 0) (.cons (.int (2)) .nil))) (.cons (.call "_law_expr" (.cons (.var 0) (.cons (.int (1)) .nil))) .nil)))) .nil)))
  (.expr (.bm .append (.var 3) (.cons (.tup (.cons (.str "up") (.cons (.call "_law_draw" (.cons (.var 0) (.cons (.int (2)) .nil))) .nil))) .nil)))))))
  (.expr (.bm .append (.var 1) (.cons (.coll .tuple (.cons (.var 3) .nil)) .nil))))))
  (.ret (.coll .tuple (.cons (.var 1) .nil)))))⟩
/-! _law_about=0 _law_people_here=1 _law_path=2 _law_action=3 _law_did=4 _law_found=5 _law_row=6 _law_actions_here=7 _law_step=8 _law_cells=9 _law_above=10 _law_value_here=11 _law_longest=12 _law_other=13 _law_store=14 -/
def F.L_steps : FDef := ⟨5, 15,
  (.seq (.asg (.name 5) (.lcomp (.for1 [6] (.name 6) (.cons (.var 1) .nil) (.cmp .eq (.idx (.var 6) (.int (0))) (.var 2)) (.cons (.var 6) .nil))))
  (.seq (.ite (.cmp .eq (.bi .len (.cons (.var 5) .nil)) (.int (0)))
  (.ret (.var 0))
  .skip)
  (.seq (.asg (.name 6) (.idx (.var 5) (.int (0))))
  (.seq (.asg (.name 7) (.idx (.idx (.idx (.idx (.var 0) (.int (0))) (.int (1))) (.idx (.var 6) (.int (1)))) (.int (3))))
  (.seq (.ite (.cmp .ge (.var 3) (.bi .len (.cons (.var 7) .nil)))
  (.ret (.var 0))
  .skip)
  (.seq (.expr (.bm .append (.var 4) (.cons (.idx (.var 6) (.int (1))) .nil)))
  (.seq (.for (.name 8) (.cons (.idx (.var 7) (.var 3)) .nil)
  (.seq (.asg (.name 9) (.call "_law_cells_at" (.cons (.var 0) (.cons (.var 2) (.cons (.idx (.var 6) (.int (1))) .nil)))))
  (.ite (.cmp .eq (.idx (.var 8) (.int (0))) (.str "up"))
  (.seq (.asg (.name 10) (.lcomp (.for1 [13] (.name 13) (.cons (.var 1) .nil) (.and (.cmp .lt (.bi .len (.cons (.idx (.var 13) (.int (0))) .nil)) (.bi .len (.cons (.var 2) .nil))) (.cmp .eq (.slice (.var 2) .non (.bi .len (.cons (.idx (.var 13) (.int (0))) .nil))) (.idx (.var 13) (.int (0))))) (.cons (.idx (.var 13) (.int (0))) .nil))))
  (.ite (.cmp .gt (.bi .len (.cons (.var 10) .nil)) (.int (0)))
  (.seq (.asg (.name 12) (.coll .max (.cons (.lcomp (.for1 [13] (.name 13) (.cons (.var 10) .nil) (.bl true) (.cons (.bi .len (.cons (.var 13) .nil)) .nil))) .nil)))
  (.asg (.name 0) (.call "_law_steps" (.cons (.var 0) (.cons (.var 1) (.cons (.slice (.var 2) .non (.var 12)) (.cons (.idx (.var 8) (.int (1))) (.cons (.var 4) .nil))))))))
  .skip))
  (.seq (.asg (.name 11) (.call "_law_value" (.cons (.idx (.var 8) (.int (2))) (.cons (.lst (.cons (.var 9) (.cons (.idx (.var 6) (.int (2))) (.cons (.idx (.var 0) (.int (1))) (.cons (.int (0)) .nil))))) (.cons (.lst .nil) .nil)))))
  (.ite (.cmp .eq (.idx (.var 8) (.int (0))) (.str "set"))
  (.asg (.name 0) (.call "_law_set" (.cons (.var 0) (.cons (.var 2) (.cons (.var 9) (.cons (.idx (.var 8) (.int (1))) (.cons (.var 11) .nil)))))))
  (.ite (.cmp .lt (.idx (.var 8) (.int (1))) (.bi .len (.cons (.idx (.var 0) (.int (1))) .nil)))
  (.seq (.asg (.name 14) (.bin .add (.bin .add (.slice (.idx (.var 0) (.int (1))) .non (.idx (.var 8) (.int (1)))) (.tup (.cons (.var 11) .nil))) (.slice (.idx (.var 0) (.int (1))) (.bin .add (.idx (.var 8) (.int (1))) (.int (1))) .non)))
  (.asg (.name 0) (.lst (.cons (.idx (.var 0) (.int (0))) (.cons (.var 14) (.cons (.idx (.var 0) (.int (2))) (.cons (.idx (.var 0) (.int (3))) .nil)))))))
  .skip))))))
  (.ret (.var 0)))))))))⟩
/-! _law_about=0 _law_deed=1 -/
def F.L_do : FDef := ⟨2, 2,
  (.ret (.call "_law_done" (.cons (.var 0) (.cons (.var 1) (.cons (.lst .nil) .nil)))))⟩
/-! _law_program_here=0 _law_present=1 _law_deeds=2 _law_about=3 _law_deed=4 -/
def F.L_run : FDef := ⟨3, 5,
  (.seq (.asg (.name 3) (.call "_law_first" (.cons (.var 0) (.cons (.var 1) .nil))))
  (.seq (.for (.name 4) (.cons (.var 2) .nil)
  (.asg (.name 3) (.call "_law_do" (.cons (.var 3) (.cons (.var 4) .nil)))))
  (.ret (.var 3))))⟩
/-! _law_about=0 -/
def F.L_world : FDef := ⟨1, 1,
  (.ret (.tup (.cons (.str "world") (.cons (.idx (.var 0) (.int (1))) (.cons (.idx (.var 0) (.int (2))) (.cons (.idx (.var 0) (.int (3))) .nil))))))⟩
/-! _law_about=0 _law_path=1 _law_cells=2 _law_number=3 _law_value_here=4 _law_rows=5 _law_item=6 -/
def F.L_set : FDef := ⟨5, 7,
  (.seq (.ite (.cmp .ge (.var 3) (.bi .len (.cons (.var 2) .nil)))
  (.ret (.var 0))
  .skip)
  (.seq (.asg (.name 2) (.bin .add (.bin .add (.slice (.var 2) .non (.var 3)) (.tup (.cons (.var 4) .nil))) (.slice (.var 2) (.bin .add (.var 3) (.int (1))) .non)))
  (.seq (.asg (.name 5) (.lcomp (.for1 [6] (.name 6) (.cons (.idx (.var 0) (.int (2))) .nil) (.cmp .ne (.idx (.var 6) (.int (0))) (.var 1)) (.cons (.var 6) .nil))))
  (.ret (.lst (.cons (.idx (.var 0) (.int (0))) (.cons (.idx (.var 0) (.int (1))) (.cons (.coll .tuple (.cons (.bin .add (.var 5) (.lst (.cons (.tup (.cons (.var 1) (.cons (.var 2) .nil))) .nil))) .nil)) (.cons (.idx (.var 0) (.int (3))) .nil)))))))))⟩
/-! _law_about=0 _law_deed=1 _law_did=2 _law_people_here=3 _law_present=4 _law_row=5 _law_k=6 -/
def F.L_done : FDef := ⟨3, 7,
  (.seq (.ite (.cmp .eq (.idx (.var 1) (.int (0))) (.str "part"))
  (.seq (.asg (.name 4) (.coll .tuple (.cons (.lcomp (.for1 [6] (.name 6) (.range (.cons (.int (4)) .nil)) (.or (.cmp .isin (.var 6) (.idx (.var 0) (.int (3)))) (.cmp .eq (.var 6) (.idx (.var 1) (.int (1))))) (.cons (.var 6) .nil))) .nil)))
  (.ret (.call "_law_settle" (.cons (.lst (.cons (.idx (.var 0) (.int (0))) (.cons (.idx (.var 0) (.int (1))) (.cons (.idx (.var 0) (.int (2))) (.cons (.var 4) .nil))))) .nil))))
  .skip)
  (.seq (.asg (.name 3) (.call "_law_people" (.cons (.tup (.cons (.call "_law_child" (.cons (.var 0) (.cons (.tup .nil) (.cons (.int (0)) (.cons (.tup .nil) .nil))))) .nil)) .nil)))
  (.seq (.ite (.cmp .eq (.idx (.var 1) (.int (0))) (.str "enter"))
  (.seq (.for (.name 5) (.cons (.var 3) .nil)
  (.ite (.cmp .eq (.idx (.var 5) (.int (0))) (.idx (.var 1) (.int (1))))
  (.asg (.name 0) (.call "_law_set" (.cons (.var 0) (.cons (.idx (.var 5) (.int (0))) (.cons (.call "_law_cells_at" (.cons (.var 0) (.cons (.idx (.var 5) (.int (0))) (.cons (.idx (.var 5) (.int (1))) .nil)))) (.cons (.idx (.var 1) (.int (2))) (.cons (.idx (.var 1) (.int (3))) .nil)))))))
  .skip))
  (.ret (.call "_law_settle" (.cons (.var 0) .nil))))
  .skip)
  (.ret (.call "_law_settle" (.cons (.call "_law_steps" (.cons (.var 0) (.cons (.var 3) (.cons (.idx (.var 1) (.int (1))) (.cons (.idx (.var 1) (.int (2))) (.cons (.var 2) .nil)))))) .nil))))))⟩
/-! _law_script=0 _law_box_here=1 _law_program_here=2 _law_present=3 _law_store=4 _law_cells=5 _law_row=6 _law_about=7 _law_world_here=8 _law_item=9 _law_k=10 -/
def F.law_k20 : FDef := ⟨1, 11,
  (.seq (.asg (.name 1) (.call "_law_box" (.cons (.var 0) (.cons (.int (0)) (.cons (.int (63)) .nil)))))
  (.seq (.asg (.name 2) (.call "_law_program" (.cons (.var 1) .nil)))
  (.seq (.asg (.name 3) (.coll .tuple (.cons (.lcomp (.for1 [10] (.name 10) (.range (.cons (.bi .len (.cons (.idx (.var 2) (.int (3))) .nil)) .nil)) (.cmp .eq (.call "_law_draw" (.cons (.var 1) (.cons (.int (2)) .nil))) (.int (0))) (.cons (.var 10) .nil))) .nil)))
  (.seq (.ite (.no (.call "_law_same" (.cons (.call "first_world" (.cons (.var 2) (.cons (.var 3) .nil))) (.cons (.call "_law_world" (.cons (.call "_law_first" (.cons (.var 2) (.cons (.var 3) .nil))) .nil)) .nil))))
  (.ret (.bl false))
  .skip)
  (.seq (.asg (.name 4) (.coll .tuple (.cons (.lcomp (.for1 [10] (.name 10) (.range (.cons (.bi .len (.cons (.idx (.var 2) (.int (2))) .nil)) .nil)) (.bl true) (.cons (.call "_law_draw" (.cons (.var 1) (.cons (.int (5)) .nil))) .nil))) .nil)))
  (.seq (.asg (.name 5) (.lst (.cons (.tup (.cons (.tup (.cons (.tup (.cons (.str "at") (.cons (.tup (.cons (.int (9)) .nil)) (.cons (.tup .nil) .nil)))) .nil)) (.cons (.tup (.cons (.int (1)) (.cons (.int (2)) .nil))) .nil))) .nil)))
  (.seq (.for (.name 6) (.cons (.call "_law_people" (.cons (.tup (.cons (.call "_law_child" (.cons (.lst (.cons (.var 2) (.cons (.var 4) (.cons (.tup .nil) (.cons (.var 3) .nil))))) (.cons (.tup .nil) (.cons (.int (0)) (.cons (.tup .nil) .nil))))) .nil)) .nil)) .nil)
  (.ite (.cmp .eq (.call "_law_draw" (.cons (.var 1) (.cons (.int (2)) .nil))) (.int (0)))
  (.expr (.bm .append (.var 5) (.cons (.tup (.cons (.idx (.var 6) (.int (0))) (.cons (.coll .tuple (.cons (.lcomp (.for1 [10] (.name 10) (.range (.cons (.bi .len (.cons (.idx (.idx (.idx (.var 2) (.int (1))) (.idx (.var 6) (.int (1)))) (.int (1))) .nil)) .nil)) (.bl true) (.cons (.call "_law_draw" (.cons (.var 1) (.cons (.int (5)) .nil))) .nil))) .nil)) .nil))) .nil)))
  .skip))
  (.seq (.asg (.name 7) (.call "_law_settle" (.cons (.lst (.cons (.var 2) (.cons (.var 4) (.cons (.coll .tuple (.cons (.var 5) .nil)) (.cons (.var 3) .nil))))) .nil)))
  (.seq (.asg (.name 8) (.call "settle" (.cons (.var 2) (.cons (.var 4) (.cons (.coll .tuple (.cons (.var 5) .nil)) (.cons (.var 3) .nil))))))
  (.seq (.ite (.no (.call "_law_same" (.cons (.var 8) (.cons (.call "_law_world" (.cons (.var 7) .nil)) .nil))))
  (.ret (.bl false))
  .skip)
  (.seq (.ite (.no (.call "_law_same" (.cons (.call "settle" (.cons (.var 2) (.cons (.var 4) (.cons (.idx (.var 7) (.int (2))) (.cons (.var 3) .nil))))) (.cons (.var 8) .nil))))
  (.ret (.bl false))
  .skip)
  (.seq (.ite (.no (.call "_law_same" (.cons (.call "page_of" (.cons (.var 2) (.cons (.var 8) .nil))) (.cons (.call "make_page" (.cons (.var 2) (.cons (.var 4) (.cons (.idx (.var 7) (.int (2))) (.cons (.var 3) .nil))))) .nil))))
  (.ret (.bl false))
  .skip)
  (.seq (.for (.name 9) (.cons (.idx (.var 7) (.int (2))) .nil)
  (.ite (.no (.call "_law_same" (.cons (.call "cells_at" (.cons (.var 8) (.cons (.idx (.var 9) (.int (0))) .nil))) (.cons (.idx (.var 9) (.int (1))) .nil))))
  (.ret (.bl false))
  .skip))
  (.ret (.isN (.call "cells_at" (.cons (.var 8) (.cons (.tup (.cons (.tup (.cons (.str "at") (.cons (.tup (.cons (.int (9)) .nil)) (.cons (.tup .nil) .nil)))) .nil)) .nil))))))))))))))))))⟩
/-! program=0 world=1 deed=2 doing=3 -/
def F.done_by : FDef := ⟨3, 4,
  (.seq (.ite (.cmp .ne (.idx (.var 2) (.int (0))) (.str "act"))
  (.ret (.tup .nil))
  .skip)
  (.seq (.asg (.name 3) (.new "Doing" (.cons (.var 0) (.cons (.var 1) .nil))))
  (.seq (.expr (.meth (.var 3) "act" (.cons (.idx (.var 2) (.int (1))) (.cons (.idx (.var 2) (.int (2))) .nil))))
  (.ret (.coll .tuple (.cons (.coll .sset (.cons (.attr (.var 3) "done") .nil)) .nil))))))⟩
/-! program=0 present=1 deeds=2 found=3 deed=4 -/
def F.worlds : FDef := ⟨3, 5,
  (.seq (.asg (.name 3) (.lst (.cons (.call "first_world" (.cons (.var 0) (.cons (.var 1) .nil))) .nil)))
  (.seq (.for (.name 4) (.cons (.var 2) .nil)
  (.expr (.bm .append (.var 3) (.cons (.call "do" (.cons (.var 0) (.cons (.idx (.var 3) (.neg (.int (1)))) (.cons (.var 4) .nil)))) .nil))))
  (.ret (.coll .tuple (.cons (.var 3) .nil)))))⟩
/-! program=0 present=1 deeds=2 -/
def F.run : FDef := ⟨3, 3,
  (.ret (.idx (.call "worlds" (.cons (.var 0) (.cons (.var 1) (.cons (.var 2) .nil)))) (.neg (.int (1)))))⟩
/-! _law_script=0 _law_box_here=1 _law_program_here=2 _law_present=3 _law_about=4 _law_paths=5 _law_deeds=6 _law_due=7 _law_k=8 _law_item=9 _law_did=10 _law_numbers=11 _law_world_here=12 _law_deed=13 _law_path=14 _law_number=15 -/
def F.law_k21 : FDef := ⟨1, 16,
  (.seq (.asg (.name 1) (.call "_law_box" (.cons (.var 0) (.cons (.int (0)) (.cons (.int (63)) .nil)))))
  (.seq (.asg (.name 2) (.call "_law_program" (.cons (.var 1) .nil)))
  (.seq (.asg (.name 3) (.coll .tuple (.cons (.lcomp (.for1 [8] (.name 8) (.range (.cons (.bi .len (.cons (.idx (.var 2) (.int (3))) .nil)) .nil)) (.cmp .eq (.call "_law_draw" (.cons (.var 1) (.cons (.int (3)) .nil))) (.int (0))) (.cons (.var 8) .nil))) .nil)))
  (.seq (.asg (.name 4) (.call "_law_first" (.cons (.var 2) (.cons (.var 3) .nil))))
  (.seq (.asg (.name 5) (.lst (.cons (.tup (.cons (.tup (.cons (.str "at") (.cons (.tup (.cons (.int (9)) .nil)) (.cons (.tup .nil) .nil)))) .nil)) .nil)))
  (.seq (.asg (.name 6) (.lst .nil))
  (.seq (.asg (.name 7) (.lst (.cons (.call "_law_world" (.cons (.var 4) .nil)) .nil)))
  (.seq (.for (.name 8) (.range (.cons (.call "_law_draw" (.cons (.var 1) (.cons (.int (9)) .nil))) .nil))
  (.seq (.for (.name 9) (.cons (.idx (.var 4) (.int (2))) .nil)
  (.ite (.cmp .notin (.idx (.var 9) (.int (0))) (.var 5))
  (.expr (.bm .append (.var 5) (.cons (.idx (.var 9) (.int (0))) .nil)))
  .skip))
  (.seq (.ite (.and (.cmp .eq (.call "_law_draw" (.cons (.var 1) (.cons (.int (5)) .nil))) (.int (0))) (.cmp .gt (.bi .len (.cons (.idx (.var 2) (.int (3))) .nil)) (.int (0))))
  (.asg (.name 13) (.tup (.cons (.str "part") (.cons (.call "_law_draw" (.cons (.var 1) (.cons (.bi .len (.cons (.idx (.var 2) (.int (3))) .nil)) .nil))) .nil))))
  (.ite (.cmp .eq (.call "_law_draw" (.cons (.var 1) (.cons (.int (4)) .nil))) (.int (0)))
  (.seq (.asg (.name 14) (.idx (.var 5) (.bin .mod (.bi .int (.cons (.call "_law_draw" (.cons (.var 1) (.cons (.int (1000)) .nil))) .nil)) (.bi .len (.cons (.var 5) .nil)))))
  (.asg (.name 13) (.tup (.cons (.str "enter") (.cons (.var 14) (.cons (.call "_law_draw" (.cons (.var 1) (.cons (.int (3)) .nil))) (.cons (.idx (.lst (.cons (.int (0)) (.cons (.int (7)) (.cons (.int (999)) .nil)))) (.call "_law_draw" (.cons (.var 1) (.cons (.int (3)) .nil)))) .nil)))))))
  (.asg (.name 13) (.tup (.cons (.str "act") (.cons (.idx (.var 5) (.bin .mod (.bi .int (.cons (.call "_law_draw" (.cons (.var 1) (.cons (.int (1000)) .nil))) .nil)) (.bi .len (.cons (.var 5) .nil)))) (.cons (.call "_law_draw" (.cons (.var 1) (.cons (.int (3)) .nil))) .nil)))))))
  (.seq (.asg (.name 10) (.lst .nil))
  (.seq (.expr (.call "_law_done" (.cons (.var 4) (.cons (.var 13) (.cons (.var 10) .nil)))))
  (.seq (.asg (.name 11) (.coll .tuple (.cons (.lcomp (.for1 [15] (.name 15) (.range (.cons (.int (8)) .nil)) (.cmp .isin (.var 15) (.var 10)) (.cons (.var 15) .nil))) .nil)))
  (.seq (.ite (.no (.call "_law_same" (.cons (.call "done_by" (.cons (.var 2) (.cons (.call "_law_world" (.cons (.var 4) .nil)) (.cons (.var 13) .nil)))) (.cons (.var 11) .nil))))
  (.ret (.bl false))
  .skip)
  (.seq (.asg (.name 12) (.call "_law_world" (.cons (.var 4) .nil)))
  (.seq (.asg (.name 4) (.call "_law_do" (.cons (.var 4) (.cons (.var 13) .nil))))
  (.seq (.ite (.no (.call "_law_same" (.cons (.call "do" (.cons (.var 2) (.cons (.var 12) (.cons (.var 13) .nil)))) (.cons (.call "_law_world" (.cons (.var 4) .nil)) .nil))))
  (.ret (.bl false))
  .skip)
  (.seq (.expr (.bm .append (.var 6) (.cons (.var 13) .nil)))
  (.expr (.bm .append (.var 7) (.cons (.call "_law_world" (.cons (.var 4) .nil)) .nil))))))))))))))
  (.seq (.ite (.no (.call "_law_same" (.cons (.call "run" (.cons (.var 2) (.cons (.var 3) (.cons (.coll .tuple (.cons (.var 6) .nil)) .nil)))) (.cons (.idx (.var 7) (.bin .sub (.bi .len (.cons (.var 7) .nil)) (.int (1)))) .nil))))
  (.ret (.bl false))
  .skip)
  (.ret (.call "_law_same" (.cons (.call "worlds" (.cons (.var 2) (.cons (.var 3) (.cons (.coll .tuple (.cons (.var 6) .nil)) .nil)))) (.cons (.coll .tuple (.cons (.var 7) .nil)) .nil)))))))))))))⟩
/-! nodes=0 path=1 node=2 inner=3 -/
def F.meaning : FDef := ⟨2, 4,
  (.seq (.for (.name 2) (.cons (.var 0) .nil)
  (.seq (.ite (.cmp .eq (.idx (.var 2) (.int (1))) (.var 1))
  (.ret (.call "action_of" (.cons (.var 2) .nil)))
  .skip)
  (.ite (.cmp .eq (.idx (.var 2) (.int (0))) (.str "box"))
  (.ite (.gany (.for1 [3] (.name 3) (.cons (.call "paths_in" (.cons (.idx (.var 2) (.int (5))) .nil)) .nil) (.bl true) (.cons (.cmp .eq (.var 3) (.var 1)) .nil)))
  (.ret (.or (.call "meaning" (.cons (.idx (.var 2) (.int (5))) (.cons (.var 1) .nil))) (.call "action_of" (.cons (.var 2) .nil))))
  .skip)
  .skip)))
  (.ret .non))⟩
/-! nodes=0 path=1 node=2 found=3 -/
def F.field : FDef := ⟨2, 4,
  (.seq (.for (.name 2) (.cons (.var 0) .nil)
  (.seq (.ite (.and (.cmp .eq (.idx (.var 2) (.int (0))) (.str "input")) (.cmp .eq (.idx (.var 2) (.int (1))) (.var 1)))
  (.ret (.tup (.cons (.idx (.var 2) (.int (3))) (.cons (.idx (.var 2) (.int (4))) .nil))))
  .skip)
  (.ite (.cmp .eq (.idx (.var 2) (.int (0))) (.str "box"))
  (.seq (.asg (.name 3) (.call "field" (.cons (.idx (.var 2) (.int (5))) (.cons (.var 1) .nil))))
  (.ite (.notN (.var 3))
  (.ret (.var 3))
  .skip))
  .skip)))
  (.ret .non))⟩
/-! node=0 -/
def F.action_of : FDef := ⟨1, 1,
  (.seq (.ite (.and (.cmp .eq (.idx (.var 0) (.int (0))) (.str "box")) (.notN (.idx (.var 0) (.int (4)))))
  (.ret (.tup (.cons (.idx (.var 0) (.int (3))) (.cons (.idx (.var 0) (.int (4))) .nil))))
  .skip)
  (.ret .non))⟩
/-! nodes=0 found=1 node=2 -/
def F.paths_in : FDef := ⟨1, 3,
  (.seq (.asg (.name 1) (.lst .nil))
  (.seq (.for (.name 2) (.cons (.var 0) .nil)
  (.seq (.expr (.bm .append (.var 1) (.cons (.idx (.var 2) (.int (1))) .nil)))
  (.ite (.cmp .eq (.idx (.var 2) (.int (0))) (.str "box"))
  (.expr (.bm .extend (.var 1) (.cons (.call "paths_in" (.cons (.idx (.var 2) (.int (5))) .nil)) .nil)))
  .skip)))
  (.ret (.var 1))))⟩
/-! _law_nodes=0 _law_path=1 _law_node=2 _law_inner=3 -/
def F.L_chain : FDef := ⟨2, 4,
  (.seq (.for (.name 2) (.cons (.var 0) .nil)
  (.seq (.ite (.cmp .eq (.idx (.var 2) (.int (1))) (.var 1))
  (.ret (.lst (.cons (.var 2) .nil)))
  .skip)
  (.ite (.cmp .eq (.idx (.var 2) (.int (0))) (.str "box"))
  (.seq (.asg (.name 3) (.call "_law_chain" (.cons (.idx (.var 2) (.int (5))) (.cons (.var 1) .nil))))
  (.ite (.cmp .gt (.bi .len (.cons (.var 3) .nil)) (.int (0)))
  (.ret (.bin .add (.lst (.cons (.var 2) .nil)) (.var 3)))
  .skip))
  .skip)))
  (.ret (.lst .nil)))⟩
/-! _law_nodes=0 _law_path=1 _law_chain_here=2 _law_k=3 _law_node=4 -/
def F.L_meaning : FDef := ⟨2, 5,
  (.seq (.asg (.name 2) (.call "_law_chain" (.cons (.var 0) (.cons (.var 1) .nil))))
  (.seq (.for (.name 3) (.range (.cons (.bi .len (.cons (.var 2) .nil)) .nil))
  (.seq (.asg (.name 4) (.idx (.var 2) (.bin .sub (.bin .sub (.bi .len (.cons (.var 2) .nil)) (.int (1))) (.var 3))))
  (.ite (.and (.cmp .eq (.idx (.var 4) (.int (0))) (.str "box")) (.notN (.idx (.var 4) (.int (4)))))
  (.ret (.tup (.cons (.idx (.var 4) (.int (3))) (.cons (.idx (.var 4) (.int (4))) .nil))))
  .skip)))
  (.ret .non)))⟩
/-! _law_nodes=0 _law_path=1 _law_chain_here=2 -/
def F.L_field : FDef := ⟨2, 3,
  (.seq (.asg (.name 2) (.call "_law_chain" (.cons (.var 0) (.cons (.var 1) .nil))))
  (.seq (.ite (.and (.cmp .gt (.bi .len (.cons (.var 2) .nil)) (.int (0))) (.cmp .eq (.idx (.idx (.var 2) (.bin .sub (.bi .len (.cons (.var 2) .nil)) (.int (1)))) (.int (0))) (.str "input")))
  (.ret (.tup (.cons (.idx (.idx (.var 2) (.bin .sub (.bi .len (.cons (.var 2) .nil)) (.int (1)))) (.int (3))) (.cons (.idx (.idx (.var 2) (.bin .sub (.bi .len (.cons (.var 2) .nil)) (.int (1)))) (.int (4))) .nil))))
  .skip)
  (.ret .non)))⟩
/-! _law_script=0 _law_box_here=1 _law_program_here=2 _law_present=3 _law_about=4 _law_page=5 _law_nodes=6 _law_told=7 _law_paths=8 _law_path=9 _law_k=10 _law_node=11 -/
def F.law_k22 : FDef := ⟨1, 12,
  (.seq (.asg (.name 1) (.call "_law_box" (.cons (.var 0) (.cons (.int (0)) (.cons (.int (63)) .nil)))))
  (.seq (.asg (.name 2) (.call "_law_program" (.cons (.var 1) .nil)))
  (.seq (.asg (.name 3) (.coll .tuple (.cons (.lcomp (.for1 [10] (.name 10) (.range (.cons (.bi .len (.cons (.idx (.var 2) (.int (3))) .nil)) .nil)) (.cmp .eq (.call "_law_draw" (.cons (.var 1) (.cons (.int (2)) .nil))) (.int (0))) (.cons (.var 10) .nil))) .nil)))
  (.seq (.asg (.name 4) (.lst (.cons (.var 2) (.cons (.coll .tuple (.cons (.lcomp (.for1 [10] (.name 10) (.range (.cons (.bi .len (.cons (.idx (.var 2) (.int (2))) .nil)) .nil)) (.bl true) (.cons (.call "_law_draw" (.cons (.var 1) (.cons (.int (4)) .nil))) .nil))) .nil)) (.cons (.tup .nil) (.cons (.var 3) .nil))))))
  (.seq (.asg (.name 5) (.call "_law_child" (.cons (.var 4) (.cons (.tup .nil) (.cons (.int (0)) (.cons (.tup .nil) .nil))))))
  (.seq (.asg (.name 6) (.call "_law_shown" (.cons (.idx (.var 5) (.int (5))) .nil)))
  (.seq (.asg (.name 7) (.call "shown" (.cons (.idx (.var 5) (.int (5))) .nil)))
  (.seq (.asg (.name 8) (.bin .add (.lcomp (.for1 [11] (.name 11) (.cons (.call "_law_flat" (.cons (.idx (.var 5) (.int (5))) .nil)) .nil) (.bl true) (.cons (.idx (.var 11) (.int (1))) .nil))) (.lst (.cons (.tup (.cons (.tup (.cons (.str "at") (.cons (.tup (.cons (.int (9)) .nil)) (.cons (.tup .nil) .nil)))) .nil)) (.cons (.tup .nil) .nil)))))
  (.seq (.for (.name 9) (.cons (.var 8) .nil)
  (.seq (.ite (.no (.call "_law_same" (.cons (.call "meaning" (.cons (.var 7) (.cons (.var 9) .nil))) (.cons (.call "_law_meaning" (.cons (.var 6) (.cons (.var 9) .nil))) .nil))))
  (.ret (.bl false))
  .skip)
  (.ite (.no (.call "_law_same" (.cons (.call "field" (.cons (.var 7) (.cons (.var 9) .nil))) (.cons (.call "_law_field" (.cons (.var 6) (.cons (.var 9) .nil))) .nil))))
  (.ret (.bl false))
  .skip)))
  (.ret (.bl true)))))))))))⟩
/-! _law_script=0 _law_box_here=1 _law_program_here=2 _law_about=3 _law_deeds=4 _law_k=5 _law_parts=6 _law_one=7 _law_other=8 _law_deed=9 _law_again=10 _law_paths=11 _law_item=12 -/
def F.law_k23 : FDef := ⟨1, 13,
  (.seq (.asg (.name 1) (.call "_law_box" (.cons (.var 0) (.cons (.int (0)) (.cons (.int (63)) .nil)))))
  (.seq (.asg (.name 2) (.call "_law_program" (.cons (.var 1) .nil)))
  (.seq (.asg (.name 3) (.call "_law_first" (.cons (.var 2) (.cons (.tup .nil) .nil))))
  (.seq (.asg (.name 4) (.lst .nil))
  (.seq (.for (.name 5) (.range (.cons (.call "_law_draw" (.cons (.var 1) (.cons (.int (7)) .nil))) .nil))
  (.seq (.asg (.name 11) (.lcomp (.for1 [12] (.name 12) (.cons (.idx (.var 3) (.int (2))) .nil) (.bl true) (.cons (.idx (.var 12) (.int (0))) .nil))))
  (.seq (.asg (.name 9) (.tup (.cons (.str "act") (.cons (.idx (.var 11) (.bin .mod (.bi .int (.cons (.call "_law_draw" (.cons (.var 1) (.cons (.int (1000)) .nil))) .nil)) (.bi .len (.cons (.var 11) .nil)))) (.cons (.call "_law_draw" (.cons (.var 1) (.cons (.int (2)) .nil))) .nil)))))
  (.seq (.expr (.bm .append (.var 4) (.cons (.var 9) .nil)))
  (.asg (.name 3) (.call "_law_do" (.cons (.var 3) (.cons (.var 9) .nil))))))))
  (.seq (.asg (.name 6) (.lcomp (.for1 [5] (.name 5) (.range (.cons (.bi .len (.cons (.idx (.var 2) (.int (3))) .nil)) .nil)) (.bl true) (.cons (.tup (.cons (.str "part") (.cons (.var 5) .nil))) .nil))))
  (.seq (.asg (.name 7) (.call "run" (.cons (.var 2) (.cons (.tup .nil) (.cons (.coll .tuple (.cons (.bin .add (.var 4) (.var 6)) .nil)) .nil)))))
  (.seq (.asg (.name 8) (.call "run" (.cons (.var 2) (.cons (.tup .nil) (.cons (.coll .tuple (.cons (.bin .add (.bin .add (.var 4) (.rev (.var 6))) (.var 6)) .nil)) .nil)))))
  (.seq (.ite (.no (.call "_law_same" (.cons (.var 7) (.cons (.var 8) .nil))))
  (.ret (.bl false))
  .skip)
  (.seq (.for (.name 9) (.cons (.bin .add (.var 6) (.lst (.cons (.tup (.cons (.str "act") (.cons (.tup (.cons (.tup (.cons (.str "at") (.cons (.tup (.cons (.int (99)) .nil)) (.cons (.tup .nil) .nil)))) .nil)) (.cons (.int (0)) .nil)))) (.cons (.tup (.cons (.str "act") (.cons (.tup .nil) (.cons (.int (2)) .nil)))) (.cons (.tup (.cons (.str "act") (.cons (.idx (.idx (.idx (.var 7) (.int (2))) (.bin .sub (.bi .len (.cons (.idx (.var 7) (.int (2))) .nil)) (.int (1)))) (.int (0))) (.cons (.int (7)) .nil)))) .nil))))) .nil)
  (.ite (.no (.call "_law_same" (.cons (.call "do" (.cons (.var 2) (.cons (.var 7) (.cons (.var 9) .nil)))) (.cons (.var 7) .nil))))
  (.ret (.bl false))
  .skip))
  (.seq (.asg (.name 10) (.call "settle" (.cons (.var 2) (.cons (.idx (.var 7) (.int (1))) (.cons (.coll .tuple (.cons (.rev (.coll .list (.cons (.idx (.var 7) (.int (2))) .nil))) .nil)) (.cons (.idx (.var 7) (.int (3))) .nil))))))
  (.ret (.and (.call "_law_same" (.cons (.var 10) (.cons (.var 7) .nil))) (.call "_law_same" (.cons (.call "page_of" (.cons (.var 2) (.cons (.var 10) .nil))) (.cons (.call "page_of" (.cons (.var 2) (.cons (.var 7) .nil))) .nil))))))))))))))))⟩
/-! _law_script=0 _law_box_here=1 _law_program_here=2 _law_about=3 _law_deeds=4 _law_k=5 _law_before=6 _law_after=7 _law_deed=8 _law_item=9 _law_paths=10 _law_path=11 _law_kind=12 _law_other=13 -/
def F.law_k24 : FDef := ⟨1, 14,
  (.seq (.asg (.name 1) (.call "_law_box" (.cons (.var 0) (.cons (.int (0)) (.cons (.int (63)) .nil)))))
  (.seq (.asg (.name 2) (.call "_law_program" (.cons (.var 1) .nil)))
  (.seq (.asg (.name 3) (.call "_law_first" (.cons (.var 2) (.cons (.tup .nil) .nil))))
  (.seq (.asg (.name 4) (.lst .nil))
  (.seq (.for (.name 5) (.range (.cons (.bin .add (.int (1)) (.call "_law_draw" (.cons (.var 1) (.cons (.int (6)) .nil)))) .nil))
  (.seq (.asg (.name 10) (.lcomp (.for1 [9] (.name 9) (.cons (.idx (.var 3) (.int (2))) .nil) (.bl true) (.cons (.idx (.var 9) (.int (0))) .nil))))
  (.seq (.asg (.name 11) (.idx (.var 10) (.bin .mod (.bi .int (.cons (.call "_law_draw" (.cons (.var 1) (.cons (.int (1000)) .nil))) .nil)) (.bi .len (.cons (.var 10) .nil)))))
  (.seq (.asg (.name 12) (.call "_law_draw" (.cons (.var 1) (.cons (.int (4)) .nil))))
  (.seq (.asg (.name 8) (.tup (.cons (.str "act") (.cons (.var 11) (.cons (.call "_law_draw" (.cons (.var 1) (.cons (.int (2)) .nil))) .nil)))))
  (.seq (.ite (.cmp .eq (.var 12) (.int (2)))
  (.asg (.name 8) (.tup (.cons (.str "enter") (.cons (.var 11) (.cons (.call "_law_draw" (.cons (.var 1) (.cons (.int (2)) .nil))) (.cons (.call "_law_draw" (.cons (.var 1) (.cons (.int (1000)) .nil))) .nil))))))
  (.ite (.and (.cmp .eq (.var 12) (.int (3))) (.cmp .gt (.bi .len (.cons (.idx (.var 2) (.int (3))) .nil)) (.int (0))))
  (.asg (.name 8) (.tup (.cons (.str "part") (.cons (.call "_law_draw" (.cons (.var 1) (.cons (.bi .len (.cons (.idx (.var 2) (.int (3))) .nil)) .nil))) .nil))))
  .skip))
  (.seq (.expr (.bm .append (.var 4) (.cons (.var 8) .nil)))
  (.asg (.name 3) (.call "_law_do" (.cons (.var 3) (.cons (.var 8) .nil)))))))))))
  (.seq (.asg (.name 6) (.call "run" (.cons (.var 2) (.cons (.tup .nil) (.cons (.coll .tuple (.cons (.slice (.var 4) .non (.neg (.int (1)))) .nil)) .nil)))))
  (.seq (.asg (.name 7) (.call "do" (.cons (.var 2) (.cons (.var 6) (.cons (.idx (.var 4) (.bin .sub (.bi .len (.cons (.var 4) .nil)) (.int (1)))) .nil)))))
  (.seq (.ite (.no (.call "_law_same" (.cons (.var 7) (.cons (.call "_law_world" (.cons (.var 3) .nil)) .nil))))
  (.ret (.bl false))
  .skip)
  (.seq (.asg (.name 8) (.idx (.var 4) (.bin .sub (.bi .len (.cons (.var 4) .nil)) (.int (1)))))
  (.seq (.for (.name 9) (.cons (.idx (.var 6) (.int (2))) .nil)
  (.for (.name 13) (.cons (.idx (.var 7) (.int (2))) .nil)
  (.ite (.and (.cmp .eq (.idx (.var 9) (.int (0))) (.idx (.var 13) (.int (0)))) (.cmp .ne (.idx (.var 9) (.int (1))) (.idx (.var 13) (.int (1)))))
  (.seq (.ite (.or (.cmp .eq (.idx (.var 8) (.int (0))) (.str "part")) (.and (.cmp .eq (.idx (.var 8) (.int (0))) (.str "enter")) (.cmp .ne (.idx (.var 9) (.int (0))) (.idx (.var 8) (.int (1))))))
  (.ret (.bl false))
  .skip)
  (.ite (.cmp .ne (.slice (.idx (.var 8) (.int (1))) .non (.bi .len (.cons (.idx (.var 9) (.int (0))) .nil))) (.idx (.var 9) (.int (0))))
  (.ret (.bl false))
  .skip))
  .skip)))
  (.seq (.ite (.and (.cmp .ne (.idx (.var 8) (.int (0))) (.str "act")) (.cmp .ne (.idx (.var 6) (.int (1))) (.idx (.var 7) (.int (1)))))
  (.ret (.bl false))
  .skip)
  (.ret (.cmp .eq (.bi .len (.cons (.lcomp (.for1 [5] (.name 5) (.cons (.idx (.var 6) (.int (3))) .nil) (.cmp .notin (.var 5) (.idx (.var 7) (.int (3)))) (.cons (.var 5) .nil))) .nil)) (.int (0)))))))))))))))⟩
/-! numbers=0 number=1 -/
def F.write_numbers : FDef := ⟨1, 2,
  (.ret (.or (.gjoin (.str ".") (.for1 [1] (.name 1) (.cons (.var 0) .nil) (.bl true) (.cons (.bi .str (.cons (.var 1) .nil)) .nil))) (.str "-")))⟩
/-! name=0 -/
def F.write_name : FDef := ⟨1, 1,
  (.seq (.ite (.cmp .eq (.idx (.var 0) (.int (0))) (.str "key"))
  (.ret (.fstr (.cons (.str "k") (.cons (.call "write_numbers" (.cons (.idx (.var 0) (.int (1))) .nil)) (.cons (.str "=") (.cons (.idx (.var 0) (.int (2))) .nil))))))
  .skip)
  (.ret (.fstr (.cons (.str "a") (.cons (.call "write_numbers" (.cons (.idx (.var 0) (.int (1))) .nil)) (.cons (.str "/") (.cons (.call "write_numbers" (.cons (.idx (.var 0) (.int (2))) .nil)) .nil)))))))⟩
/-! k=0 reads=1 nodes=2 -/
def F.write_part : FDef := ⟨3, 3,
  (.ret (.bin .add (.bin .add (.bin .add (.str "{") (.fstr (.cons (.var 0) (.cons (.str ":") (.cons (.call "write_numbers" (.cons (.var 1) .nil)) (.cons (.str " ") .nil)))))) (.call "write_nodes" (.cons (.var 2) .nil))) (.str "}")))⟩
/-! node=0 name=1 action=2 -/
def F.write_node : FDef := ⟨1, 3,
  (.seq (.ite (.cmp .eq (.idx (.var 0) (.int (0))) (.str "text"))
  (.ret (.bin .add (.bin .add (.str "'") (.idx (.var 0) (.int (2)))) (.str "'")))
  .skip)
  (.seq (.ite (.cmp .eq (.idx (.var 0) (.int (0))) (.str "place"))
  (.ret (.bin .add (.bin .add (.str "{") (.bi .str (.cons (.idx (.var 0) (.int (2))) .nil))) (.str "}")))
  .skip)
  (.seq (.asg (.name 1) (.idx (.idx (.var 0) (.int (1))) (.neg (.int (1)))))
  (.seq (.ite (.cmp .eq (.idx (.var 1) (.int (0))) (.str "part"))
  (.ret (.call "write_part" (.cons (.idx (.var 1) (.int (1))) (.cons (.idx (.var 0) (.int (4))) (.cons (.idx (.var 0) (.int (5))) .nil)))))
  .skip)
  (.seq (.ite (.cmp .eq (.idx (.var 0) (.int (0))) (.str "input"))
  (.ret (.fstr (.cons (.str "<") (.cons (.call "write_name" (.cons (.var 1) .nil)) (.cons (.str " ") (.cons (.idx (.var 0) (.int (2))) (.cons (.str " ") (.cons (.idx (.var 0) (.int (4))) (.cons (.str " ") (.cons (.idx (.var 0) (.int (5))) (.cons (.str ">") .nil)))))))))))
  .skip)
  (.seq (.ite (.cmp .eq (.idx (.var 0) (.int (0))) (.str "box"))
  (.seq (.asg (.name 2) (.ite (.isN (.idx (.var 0) (.int (4)))) (.str "-") (.bi .str (.cons (.idx (.var 0) (.int (4))) .nil))))
  (.ret (.fstr (.cons (.str "(") (.cons (.call "write_name" (.cons (.var 1) .nil)) (.cons (.str " ") (.cons (.idx (.var 0) (.int (2))) (.cons (.str " ") (.cons (.var 2) (.cons (.str " ") (.cons (.call "write_nodes" (.cons (.idx (.var 0) (.int (5))) .nil)) (.cons (.str ")") .nil))))))))))))
  .skip)
  (.ret (.fstr (.cons (.str "[") (.cons (.call "write_name" (.cons (.var 1) .nil)) (.cons (.str " ") (.cons (.idx (.var 0) (.int (2))) (.cons (.str " ") (.cons (.call "write_numbers" (.cons (.idx (.var 0) (.int (3))) .nil)) (.cons (.str " ") (.cons (.call "write_numbers" (.cons (.idx (.var 0) (.int (4))) .nil)) (.cons (.str " ") (.cons (.call "write_nodes" (.cons (.idx (.var 0) (.int (5))) .nil)) (.cons (.str "]") .nil)))))))))))))))))))⟩
/-! nodes=0 node=1 -/
def F.write_nodes : FDef := ⟨1, 2,
  (.ret (.gjoin (.str "") (.for1 [1] (.name 1) (.cons (.var 0) .nil) (.bl true) (.cons (.call "write_node" (.cons (.var 1) .nil)) .nil))))⟩
/-! page=0 -/
def F.write_page : FDef := ⟨1, 1,
  (.ret (.fstr (.cons (.call "write_numbers" (.cons (.idx (.var 0) (.int (0))) .nil)) (.cons (.str " ") (.cons (.call "write_nodes" (.cons (.idx (.var 0) (.int (1))) .nil)) (.cons (.str "!") .nil))))))⟩
/-! nodes=0 k=1 node=2 found=3 -/
def F.part_in : FDef := ⟨2, 4,
  (.seq (.for (.name 2) (.cons (.var 0) .nil)
  (.seq (.ite (.and (.cmp .eq (.idx (.var 2) (.int (0))) (.str "child")) (.cmp .eq (.idx (.idx (.var 2) (.int (1))) (.neg (.int (1)))) (.tup (.cons (.str "part") (.cons (.var 1) .nil)))))
  (.ret (.var 2))
  .skip)
  (.ite (.cmp .eq (.idx (.var 2) (.int (0))) (.str "box"))
  (.seq (.asg (.name 3) (.call "part_in" (.cons (.idx (.var 2) (.int (5))) (.cons (.var 1) .nil))))
  (.ite (.notN (.var 3))
  (.ret (.var 3))
  .skip))
  .skip)))
  (.ret .non))⟩
/-! self=0 program=1 -/
def F.Server_init : FDef := ⟨2, 2,
  (.seq (.setattr (.var 0) "program" (.var 1))
  (.seq (.setattr (.var 0) "sent" (.str ""))
  (.setattr (.var 0) "ready" (.tup .nil))))⟩
/-! self=0 present=1 -/
def F.Server_page : FDef := ⟨2, 2,
  (.ret (.call "make_page" (.cons (.attr (.var 0) "program") (.cons (.idx (.attr (.var 0) "program") (.int (2))) (.cons (.tup .nil) (.cons (.var 1) .nil))))))⟩
/-! self=0 k=1 node=2 text=3 -/
def F.Server_resolve : FDef := ⟨2, 4,
  (.seq (.ite (.cmp .isin (.var 1) (.attr (.var 0) "ready"))
  (.ret (.str ""))
  .skip)
  (.seq (.setattr (.var 0) "ready" (.coll .tuple (.cons (.coll .sorted (.cons (.bin .add (.attr (.var 0) "ready") (.tup (.cons (.var 1) .nil))) .nil)) .nil)))
  (.seq (.ite (.no (.attr (.var 0) "sent"))
  (.ret (.str ""))
  .skip)
  (.seq (.asg (.name 2) (.call "part_in" (.cons (.idx (.meth (.var 0) "page" (.cons (.tup (.cons (.var 1) .nil)) .nil)) (.int (1))) (.cons (.var 1) .nil))))
  (.seq (.asg (.name 3) (.call "write_part" (.cons (.var 1) (.cons (.idx (.var 2) (.int (4))) (.cons (.idx (.var 2) (.int (5))) .nil)))))
  (.seq (.augattr (.var 0) "sent" .add (.var 3))
  (.ret (.var 3))))))))⟩
/-! self=0 -/
def F.Server_render : FDef := ⟨1, 1,
  (.seq (.ite (.attr (.var 0) "sent")
  (.ret (.str ""))
  .skip)
  (.seq (.setattr (.var 0) "sent" (.call "write_page" (.cons (.meth (.var 0) "page" (.cons (.attr (.var 0) "ready") .nil)) .nil)))
  (.ret (.attr (.var 0) "sent"))))⟩
/-! _law_contents_here=0 _law_scope=1 _law_looked=2 _law_address=3 _law_repeats=4 _law_names=5 _law_rows=6 _law_k=7 _law_row=8 _law_here=9 _law_n=10 _law_name_here=11 _law_inner=12 _law_value_here=13 -/
def F.L_lay_2 : FDef := ⟨6, 14,
  (.seq (.asg (.name 6) (.lst .nil))
  (.seq (.for (.name 7) (.range (.cons (.bi .len (.cons (.var 0) .nil)) .nil))
  (.seq (.asg (.name 8) (.idx (.var 0) (.var 7)))
  (.seq (.asg (.name 9) (.bin .add (.var 3) (.tup (.cons (.var 7) .nil))))
  (.ite (.cmp .eq (.idx (.var 8) (.int (0))) (.str "when"))
  (.ite (.cmp .ne (.call "_law_value" (.cons (.idx (.var 8) (.int (1))) (.cons (.var 1) (.cons (.var 2) .nil)))) (.int (0)))
  (.asg (.name 6) (.bin .add (.var 6) (.call "_law_lay" (.cons (.idx (.var 8) (.int (2))) (.cons (.var 1) (.cons (.var 2) (.cons (.bin .add (.var 9) (.tup (.cons (.int (0)) .nil))) (.cons (.var 4) (.cons (.var 5) .nil)))))))))
  (.asg (.name 6) (.bin .add (.var 6) (.call "_law_lay" (.cons (.idx (.var 8) (.int (3))) (.cons (.var 1) (.cons (.var 2) (.cons (.bin .add (.var 9) (.tup (.cons (.int (1)) .nil))) (.cons (.var 4) (.cons (.var 5) .nil))))))))))
  (.ite (.cmp .eq (.idx (.var 8) (.int (0))) (.str "each"))
  (.for (.name 10) (.range (.cons (.bin .mod (.bi .int (.cons (.call "_law_value" (.cons (.idx (.var 8) (.int (1))) (.cons (.var 1) (.cons (.var 2) .nil)))) .nil)) (.int (6))) .nil))
  (.seq (.asg (.name 12) (.lst (.cons (.idx (.var 1) (.int (0))) (.cons (.idx (.var 1) (.int (1))) (.cons (.idx (.var 1) (.int (2))) (.cons (.var 10) .nil))))))
  (.asg (.name 6) (.bin .add (.var 6) (.call "_law_lay" (.cons (.idx (.var 8) (.int (2))) (.cons (.var 12) (.cons (.var 2) (.cons (.var 9) (.cons (.bin .add (.var 4) (.tup (.cons (.var 10) .nil))) (.cons (.var 5) .nil)))))))))))
  (.seq (.asg (.name 11) (.tup (.cons (.str "at") (.cons (.var 9) (.cons (.var 4) .nil)))))
  (.seq (.ite (.cmp .eq (.idx (.var 8) (.int (0))) (.str "part"))
  (.asg (.name 11) (.tup (.cons (.str "part") (.cons (.idx (.var 8) (.int (1))) .nil))))
  (.ite (.and (.cmp .isin (.idx (.var 8) (.int (0))) (.lst (.cons (.str "box") (.cons (.str "child") .nil)))) (.notN (.idx (.var 8) (.int (2)))))
  (.seq (.asg (.name 13) (.call "_law_value" (.cons (.idx (.var 8) (.int (2))) (.cons (.var 1) (.cons (.var 2) .nil)))))
  (.ite (.cmp .notin (.tup (.cons (.str "key") (.cons (.var 9) (.cons (.var 13) .nil)))) (.var 5))
  (.asg (.name 11) (.tup (.cons (.str "key") (.cons (.var 9) (.cons (.var 13) .nil)))))
  .skip))
  .skip))
  (.seq (.expr (.bm .append (.var 5) (.cons (.var 11) .nil)))
  (.expr (.bm .append (.var 6) (.cons (.lst (.cons (.var 11) (.cons (.var 8) (.cons (.idx (.var 1) (.int (3))) .nil)))) .nil)))))))))))
  (.ret (.var 6))))⟩
/-! _law_row=0 _law_k=1 -/
def F.L_numbers : FDef := ⟨1, 2,
  (.seq (.ite (.cmp .eq (.bi .len (.cons (.var 0) .nil)) (.int (0)))
  (.ret (.str "-"))
  .skip)
  (.ret (.bm .join (.str ".") (.cons (.lcomp (.for1 [1] (.name 1) (.cons (.var 0) .nil) (.bl true) (.cons (.bi .str (.cons (.var 1) .nil)) .nil))) .nil))))⟩
/-! _law_name_here=0 -/
def F.L_name : FDef := ⟨1, 1,
  (.seq (.ite (.cmp .eq (.idx (.var 0) (.int (0))) (.str "key"))
  (.ret (.bin .add (.bin .add (.bin .add (.str "k") (.call "_law_numbers" (.cons (.idx (.var 0) (.int (1))) .nil))) (.str "=")) (.bi .str (.cons (.idx (.var 0) (.int (2))) .nil))))
  .skip)
  (.ret (.bin .add (.bin .add (.bin .add (.str "a") (.call "_law_numbers" (.cons (.idx (.var 0) (.int (1))) .nil))) (.str "/")) (.call "_law_numbers" (.cons (.idx (.var 0) (.int (2))) .nil)))))⟩
/-! _law_nodes=0 _law_out=1 _law_node=2 _law_name_here=3 _law_action=4 -/
def F.L_write : FDef := ⟨2, 5,
  (.for (.name 2) (.cons (.var 0) .nil)
  (.seq (.asg (.name 3) (.idx (.idx (.var 2) (.int (1))) (.bin .sub (.bi .len (.cons (.idx (.var 2) (.int (1))) .nil)) (.int (1)))))
  (.ite (.cmp .eq (.idx (.var 2) (.int (0))) (.str "text"))
  (.seq (.setidx (.var 1) (.int (0)) (.bin .add (.bin .add (.bin .add (.idx (.var 1) (.int (0))) (.str "'")) (.idx (.var 2) (.int (2)))) (.str "'")))
  (.expr (.bm .append (.idx (.var 1) (.int (1))) (.cons (.tup (.cons (.idx (.var 2) (.int (1))) (.cons (.bi .len (.cons (.idx (.var 1) (.int (0))) .nil)) .nil))) .nil))))
  (.ite (.cmp .eq (.idx (.var 2) (.int (0))) (.str "place"))
  (.setidx (.var 1) (.int (0)) (.bin .add (.bin .add (.bin .add (.idx (.var 1) (.int (0))) (.str "{")) (.bi .str (.cons (.idx (.var 2) (.int (2))) .nil))) (.str "}")))
  (.ite (.cmp .eq (.idx (.var 2) (.int (0))) (.str "input"))
  (.seq (.setidx (.var 1) (.int (0)) (.bin .add (.bin .add (.bin .add (.bin .add (.bin .add (.bin .add (.bin .add (.bin .add (.bin .add (.idx (.var 1) (.int (0))) (.str "<")) (.call "_law_name" (.cons (.var 3) .nil))) (.str " ")) (.idx (.var 2) (.int (2)))) (.str " ")) (.bi .str (.cons (.idx (.var 2) (.int (4))) .nil))) (.str " ")) (.bi .str (.cons (.idx (.var 2) (.int (5))) .nil))) (.str ">")))
  (.expr (.bm .append (.idx (.var 1) (.int (1))) (.cons (.tup (.cons (.idx (.var 2) (.int (1))) (.cons (.bi .len (.cons (.idx (.var 1) (.int (0))) .nil)) .nil))) .nil))))
  (.ite (.cmp .eq (.idx (.var 2) (.int (0))) (.str "box"))
  (.seq (.asg (.name 4) (.str "-"))
  (.seq (.ite (.notN (.idx (.var 2) (.int (4))))
  (.asg (.name 4) (.bi .str (.cons (.idx (.var 2) (.int (4))) .nil)))
  .skip)
  (.seq (.setidx (.var 1) (.int (0)) (.bin .add (.bin .add (.bin .add (.bin .add (.bin .add (.bin .add (.bin .add (.idx (.var 1) (.int (0))) (.str "(")) (.call "_law_name" (.cons (.var 3) .nil))) (.str " ")) (.idx (.var 2) (.int (2)))) (.str " ")) (.var 4)) (.str " ")))
  (.seq (.expr (.bm .append (.idx (.var 1) (.int (1))) (.cons (.tup (.cons (.idx (.var 2) (.int (1))) (.cons (.bi .len (.cons (.idx (.var 1) (.int (0))) .nil)) .nil))) .nil)))
  (.seq (.expr (.call "_law_write" (.cons (.idx (.var 2) (.int (5))) (.cons (.var 1) .nil))))
  (.setidx (.var 1) (.int (0)) (.bin .add (.idx (.var 1) (.int (0))) (.str ")"))))))))
  (.ite (.cmp .eq (.idx (.var 3) (.int (0))) (.str "part"))
  (.seq (.setidx (.var 1) (.int (0)) (.bin .add (.bin .add (.bin .add (.bin .add (.bin .add (.idx (.var 1) (.int (0))) (.str "{")) (.bi .str (.cons (.idx (.var 3) (.int (1))) .nil))) (.str ":")) (.call "_law_numbers" (.cons (.idx (.var 2) (.int (4))) .nil))) (.str " ")))
  (.seq (.expr (.call "_law_write" (.cons (.idx (.var 2) (.int (5))) (.cons (.var 1) .nil))))
  (.setidx (.var 1) (.int (0)) (.bin .add (.idx (.var 1) (.int (0))) (.str "}")))))
  (.seq (.setidx (.var 1) (.int (0)) (.bin .add (.bin .add (.bin .add (.bin .add (.bin .add (.idx (.var 1) (.int (0))) (.str "[")) (.call "_law_name" (.cons (.var 3) .nil))) (.str " ")) (.bi .str (.cons (.idx (.var 2) (.int (2))) .nil))) (.str " ")))
  (.seq (.setidx (.var 1) (.int (0)) (.bin .add (.bin .add (.bin .add (.bin .add (.idx (.var 1) (.int (0))) (.call "_law_numbers" (.cons (.idx (.var 2) (.int (3))) .nil))) (.str " ")) (.call "_law_numbers" (.cons (.idx (.var 2) (.int (4))) .nil))) (.str " ")))
  (.seq (.expr (.call "_law_write" (.cons (.idx (.var 2) (.int (5))) (.cons (.var 1) .nil))))
  (.setidx (.var 1) (.int (0)) (.bin .add (.idx (.var 1) (.int (0))) (.str "]")))))))))))))⟩
/-! _law_page=0 _law_out=1 -/
def F.L_page_text : FDef := ⟨1, 2,
  (.seq (.asg (.name 1) (.lst (.cons (.bin .add (.call "_law_numbers" (.cons (.idx (.var 0) (.int (4))) .nil)) (.str " ")) (.cons (.lst .nil) .nil))))
  (.seq (.expr (.call "_law_write" (.cons (.idx (.var 0) (.int (5))) (.cons (.var 1) .nil))))
  (.ret (.lst (.cons (.bin .add (.idx (.var 1) (.int (0))) (.str "!")) (.cons (.idx (.var 1) (.int (1))) .nil))))))⟩
/-! _law_program_here=0 _law_first_here=1 _law_k=2 _law_seed=3 _law_row=4 _law_out=5 _law_j=6 -/
def F.L_part_text : FDef := ⟨3, 7,
  (.seq (.asg (.name 3) (.call "_law_first" (.cons (.var 0) (.cons (.coll .tuple (.cons (.lcomp (.for1 [6] (.name 6) (.range (.cons (.int (4)) .nil)) (.or (.cmp .isin (.var 6) (.var 1)) (.cmp .eq (.var 6) (.var 2))) (.cons (.var 6) .nil))) .nil)) .nil))))
  (.seq (.for (.name 4) (.cons (.call "_law_every" (.cons (.tup (.cons (.call "_law_child" (.cons (.var 3) (.cons (.tup .nil) (.cons (.int (0)) (.cons (.tup .nil) .nil))))) .nil)) .nil)) .nil)
  (.ite (.cmp .eq (.slice (.idx (.var 4) (.int (1))) (.bin .sub (.bi .len (.cons (.idx (.var 4) (.int (1))) .nil)) (.int (1))) .non) (.tup (.cons (.tup (.cons (.str "part") (.cons (.var 2) .nil))) .nil)))
  (.seq (.asg (.name 5) (.lst (.cons (.bin .add (.bin .add (.bin .add (.bin .add (.str "{") (.bi .str (.cons (.var 2) .nil))) (.str ":")) (.call "_law_numbers" (.cons (.idx (.var 4) (.int (4))) .nil))) (.str " ")) (.cons (.lst .nil) .nil))))
  (.seq (.expr (.call "_law_write" (.cons (.idx (.var 4) (.int (5))) (.cons (.var 5) .nil))))
  (.ret (.bin .add (.idx (.var 5) (.int (0))) (.str "}")))))
  .skip))
  (.ret (.str ""))))⟩
/-! _law_nodes=0 _law_rows=1 _law_node=2 -/
def F.L_every : FDef := ⟨1, 3,
  (.seq (.asg (.name 1) (.lst .nil))
  (.seq (.for (.name 2) (.cons (.var 0) .nil)
  (.ite (.cmp .isin (.idx (.var 2) (.int (0))) (.lst (.cons (.str "child") (.cons (.str "box") .nil))))
  (.seq (.ite (.cmp .eq (.idx (.var 2) (.int (0))) (.str "child"))
  (.expr (.bm .append (.var 1) (.cons (.var 2) .nil)))
  .skip)
  (.asg (.name 1) (.bin .add (.var 1) (.call "_law_every" (.cons (.idx (.var 2) (.int (5))) .nil)))))
  .skip))
  (.ret (.var 1))))⟩
/-! _law_script=0 _law_box_here=1 _law_program_here=2 _law_server=3 _law_ready=4 _law_text=5 _law_page=6 _law_k=7 _law_present=8 _law_whole=9 _law_row=10 _law_due=11 _law_name_here=12 _law_told=13 _law_made=14 _law_part=15 -/
def F.law_k30 : FDef := ⟨1, 16,
  (.seq (.asg (.name 1) (.call "_law_box" (.cons (.var 0) (.cons (.int (0)) (.cons (.int (63)) .nil)))))
  (.seq (.asg (.name 2) (.call "_law_program" (.cons (.var 1) .nil)))
  (.seq (.asg (.name 3) (.new "Server" (.cons (.var 2) .nil)))
  (.seq (.asg (.name 4) (.lst .nil))
  (.seq (.asg (.name 5) (.str ""))
  (.seq (.asg (.name 6) .non)
  (.seq (.for (.name 7) (.range (.cons (.call "_law_draw" (.cons (.var 1) (.cons (.int (12)) .nil))) .nil))
  (.seq (.asg (.name 11) (.str ""))
  (.seq (.ite (.cmp .eq (.call "_law_draw" (.cons (.var 1) (.cons (.int (4)) .nil))) (.int (0)))
  (.seq (.ite (.isN (.var 6))
  (.seq (.asg (.name 6) (.call "_law_child" (.cons (.call "_law_first" (.cons (.var 2) (.cons (.coll .tuple (.cons (.coll .sorted (.cons (.var 4) .nil)) .nil)) .nil))) (.cons (.tup .nil) (.cons (.int (0)) (.cons (.tup .nil) .nil))))))
  (.seq (.asg (.name 11) (.idx (.call "_law_page_text" (.cons (.var 6) .nil)) (.int (0))))
  (.seq (.asg (.name 14) (.call "make_page" (.cons (.var 2) (.cons (.idx (.var 2) (.int (2))) (.cons (.tup .nil) (.cons (.coll .tuple (.cons (.coll .sorted (.cons (.var 4) .nil)) .nil)) .nil))))))
  (.ite (.no (.call "_law_same" (.cons (.call "write_page" (.cons (.var 14) .nil)) (.cons (.var 11) .nil))))
  (.ret (.bl false))
  .skip))))
  .skip)
  (.asg (.name 13) (.meth (.var 3) "render" .nil)))
  (.ite (.cmp .gt (.bi .len (.cons (.idx (.var 2) (.int (3))) .nil)) (.int (0)))
  (.seq (.asg (.name 15) (.call "_law_draw" (.cons (.var 1) (.cons (.bi .len (.cons (.idx (.var 2) (.int (3))) .nil)) .nil))))
  (.seq (.ite (.and (.notN (.var 6)) (.cmp .notin (.var 15) (.var 4)))
  (.asg (.name 11) (.call "_law_part_text" (.cons (.var 2) (.cons (.coll .tuple (.cons (.coll .sorted (.cons (.var 4) .nil)) .nil)) (.cons (.var 15) .nil)))))
  .skip)
  (.seq (.ite (.cmp .notin (.var 15) (.var 4))
  (.expr (.bm .append (.var 4) (.cons (.var 15) .nil)))
  .skip)
  (.asg (.name 13) (.meth (.var 3) "resolve" (.cons (.var 15) .nil))))))
  (.asg (.name 13) (.str ""))))
  (.seq (.asg (.name 5) (.bin .add (.var 5) (.var 11)))
  (.seq (.ite (.or (.no (.call "_law_same" (.cons (.var 13) (.cons (.var 11) .nil)))) (.no (.call "_law_same" (.cons (.attr (.var 3) "sent") (.cons (.var 5) .nil)))))
  (.ret (.bl false))
  .skip)
  (.ite (.no (.call "_law_same" (.cons (.attr (.var 3) "ready") (.cons (.coll .tuple (.cons (.coll .sorted (.cons (.var 4) .nil)) .nil)) .nil))))
  (.ret (.bl false))
  .skip))))))
  (.seq (.asg (.name 8) (.coll .tuple (.cons (.coll .sorted (.cons (.var 4) .nil)) .nil)))
  (.seq (.asg (.name 9) (.call "_law_child" (.cons (.call "_law_first" (.cons (.var 2) (.cons (.var 8) .nil))) (.cons (.tup .nil) (.cons (.int (0)) (.cons (.tup .nil) .nil))))))
  (.seq (.for (.name 10) (.cons (.call "_law_every" (.cons (.tup (.cons (.var 9) .nil)) .nil)) .nil)
  (.seq (.asg (.name 12) (.slice (.idx (.var 10) (.int (1))) (.bin .sub (.bi .len (.cons (.idx (.var 10) (.int (1))) .nil)) (.int (1))) .non))
  (.ite (.and (.cmp .gt (.bi .len (.cons (.var 12) .nil)) (.int (0))) (.cmp .eq (.idx (.idx (.var 12) (.int (0))) (.int (0))) (.str "part")))
  (.ite (.no (.call "_law_same" (.cons (.call "write_part" (.cons (.idx (.idx (.var 12) (.int (0))) (.int (1))) (.cons (.idx (.var 10) (.int (4))) (.cons (.idx (.var 10) (.int (5))) .nil)))) (.cons (.call "_law_part_text" (.cons (.var 2) (.cons (.var 8) (.cons (.idx (.idx (.var 12) (.int (0))) (.int (1))) .nil)))) .nil))))
  (.ret (.bl false))
  .skip)
  .skip)))
  (.ret (.bl true))))))))))))⟩
/-! text=0 word=1 -/
def F.read_numbers : FDef := ⟨1, 2,
  (.ret (.ite (.cmp .eq (.var 0) (.str "-")) (.tup .nil) (.gtup (.for1 [1] (.name 1) (.cons (.bm .split (.var 0) (.cons (.str ".") .nil)) .nil) (.bl true) (.cons (.bi .int (.cons (.var 1) .nil)) .nil)))))⟩
/-! text=0 place=1 repeats=2 key=3 -/
def F.read_name : FDef := ⟨1, 4,
  (.seq (.ite (.cmp .eq (.idx (.var 0) (.int (0))) (.str "k"))
  (.seq (.asg (.tup [1, 3]) (.bm .split (.slice (.var 0) (.int (1)) .non) (.cons (.str "=") .nil)))
  (.ret (.tup (.cons (.str "key") (.cons (.call "read_numbers" (.cons (.var 1) .nil)) (.cons (.bi .int (.cons (.var 3) .nil)) .nil))))))
  .skip)
  (.seq (.asg (.tup [1, 2]) (.bm .split (.slice (.var 0) (.int (1)) .non) (.cons (.str "/") .nil)))
  (.ret (.tup (.cons (.str "at") (.cons (.call "read_numbers" (.cons (.var 1) .nil)) (.cons (.call "read_numbers" (.cons (.var 2) .nil)) .nil)))))))⟩
/-! self=0 text=1 -/
def F.Reader_init : FDef := ⟨2, 2,
  (.seq (.setattr (.var 0) "text" (.var 1))
  (.setattr (.var 0) "place" (.int (0))))⟩
/-! self=0 -/
def F.Reader_ended : FDef := ⟨1, 1,
  (.ret (.cmp .ge (.attr (.var 0) "place") (.bi .len (.cons (.attr (.var 0) "text") .nil))))⟩
/-! self=0 signs=1 end=2 word=3 -/
def F.Reader_until : FDef := ⟨2, 4,
  (.seq (.asg (.name 2) (.attr (.var 0) "place"))
  (.seq (.while (.and (.cmp .lt (.var 2) (.bi .len (.cons (.attr (.var 0) "text") .nil))) (.cmp .notin (.idx (.attr (.var 0) "text") (.var 2)) (.var 1)))
  (.aug 2 .add (.int (1))))
  (.seq (.ite (.cmp .eq (.var 2) (.bi .len (.cons (.attr (.var 0) "text") .nil)))
  (.seq (.setattr (.var 0) "place" (.var 2))
  (.ret .non))
  .skip)
  (.seq (.asg (.name 3) (.slice (.attr (.var 0) "text") (.attr (.var 0) "place") (.var 2)))
  (.seq (.setattr (.var 0) "place" (.bin .add (.var 2) (.int (1))))
  (.ret (.tup (.cons (.var 3) (.cons (.idx (.attr (.var 0) "text") (.var 2)) .nil)))))))))⟩
/-! self=0 count=1 found=2 word=3 -/
def F.Reader_words : FDef := ⟨2, 4,
  (.seq (.asg (.name 2) (.lst .nil))
  (.seq (.while (.cmp .lt (.bi .len (.cons (.var 2) .nil)) (.var 1))
  (.seq (.asg (.name 3) (.meth (.var 0) "until" (.cons (.str " ") .nil)))
  (.seq (.ite (.isN (.var 3))
  (.ret .non)
  .skip)
  (.expr (.bm .append (.var 2) (.cons (.idx (.var 3) (.int (0))) .nil))))))
  (.ret (.var 2))))⟩
/-! self=0 closing=1 found=2 sign=3 node=4 whole=5 -/
def F.Reader_nodes : FDef := ⟨2, 6,
  (.seq (.asg (.name 2) (.lst .nil))
  (.seq (.while (.no (.meth (.var 0) "ended" .nil))
  (.seq (.asg (.name 3) (.idx (.attr (.var 0) "text") (.attr (.var 0) "place")))
  (.seq (.augattr (.var 0) "place" .add (.int (1)))
  (.seq (.ite (.cmp .eq (.var 3) (.var 1))
  (.ret (.tup (.cons (.coll .tuple (.cons (.var 2) .nil)) (.cons (.bl true) .nil))))
  .skip)
  (.seq (.asg (.tup [4, 5]) (.meth (.var 0) "node" (.cons (.var 3) .nil)))
  (.seq (.ite (.notN (.var 4))
  (.expr (.bm .append (.var 2) (.cons (.var 4) .nil)))
  .skip)
  (.ite (.no (.var 5))
  (.ret (.tup (.cons (.coll .tuple (.cons (.var 2) .nil)) (.cons (.bl false) .nil))))
  .skip)))))))
  (.ret (.tup (.cons (.coll .tuple (.cons (.var 2) .nil)) (.cons (.bl false) .nil))))))⟩
/-! self=0 sign=1 word=2 -/
def F.Reader_node : FDef := ⟨2, 3,
  (.seq (.ite (.cmp .eq (.var 1) (.str "'"))
  (.seq (.asg (.name 2) (.meth (.var 0) "until" (.cons (.str "'") .nil)))
  (.ret (.ite (.isN (.var 2)) (.tup (.cons .non (.cons (.bl false) .nil))) (.tup (.cons (.tup (.cons (.str "text") (.cons (.idx (.var 2) (.int (0))) .nil))) (.cons (.bl true) .nil))))))
  .skip)
  (.seq (.ite (.cmp .eq (.var 1) (.str "<"))
  (.ret (.meth (.var 0) "field" .nil))
  .skip)
  (.seq (.ite (.cmp .eq (.var 1) (.str "("))
  (.ret (.meth (.var 0) "box" .nil))
  .skip)
  (.seq (.ite (.cmp .eq (.var 1) (.str "["))
  (.ret (.meth (.var 0) "child" .nil))
  .skip)
  (.ret (.meth (.var 0) "part" .nil))))))⟩
/-! self=0 words=1 word=2 -/
def F.Reader_field : FDef := ⟨1, 3,
  (.seq (.asg (.name 1) (.meth (.var 0) "words" (.cons (.int (3)) .nil)))
  (.seq (.ite (.isN (.var 1))
  (.ret (.tup (.cons .non (.cons (.bl false) .nil))))
  .skip)
  (.seq (.asg (.name 2) (.meth (.var 0) "until" (.cons (.str ">") .nil)))
  (.seq (.ite (.isN (.var 2))
  (.ret (.tup (.cons .non (.cons (.bl false) .nil))))
  .skip)
  (.ret (.tup (.cons (.tup (.cons (.str "input") (.cons (.call "read_name" (.cons (.idx (.var 1) (.int (0))) .nil)) (.cons (.idx (.var 1) (.int (1))) (.cons (.bi .int (.cons (.idx (.var 1) (.int (2))) .nil)) (.cons (.bi .int (.cons (.idx (.var 2) (.int (0))) .nil)) .nil)))))) (.cons (.bl true) .nil))))))))⟩
/-! self=0 words=1 nodes=2 whole=3 action=4 -/
def F.Reader_box : FDef := ⟨1, 5,
  (.seq (.asg (.name 1) (.meth (.var 0) "words" (.cons (.int (3)) .nil)))
  (.seq (.ite (.isN (.var 1))
  (.ret (.tup (.cons .non (.cons (.bl false) .nil))))
  .skip)
  (.seq (.asg (.tup [2, 3]) (.meth (.var 0) "nodes" (.cons (.str ")") .nil)))
  (.seq (.asg (.name 4) (.ite (.cmp .eq (.idx (.var 1) (.int (2))) (.str "-")) .non (.bi .int (.cons (.idx (.var 1) (.int (2))) .nil))))
  (.ret (.tup (.cons (.tup (.cons (.str "box") (.cons (.call "read_name" (.cons (.idx (.var 1) (.int (0))) .nil)) (.cons (.idx (.var 1) (.int (1))) (.cons (.var 4) (.cons (.var 2) .nil)))))) (.cons (.var 3) .nil))))))))⟩
/-! self=0 words=1 nodes=2 whole=3 numbers=4 -/
def F.Reader_child : FDef := ⟨1, 5,
  (.seq (.asg (.name 1) (.meth (.var 0) "words" (.cons (.int (4)) .nil)))
  (.seq (.ite (.isN (.var 1))
  (.ret (.tup (.cons .non (.cons (.bl false) .nil))))
  .skip)
  (.seq (.asg (.tup [2, 3]) (.meth (.var 0) "nodes" (.cons (.str "]") .nil)))
  (.seq (.asg (.name 4) (.tup (.cons (.call "read_numbers" (.cons (.idx (.var 1) (.int (2))) .nil)) (.cons (.call "read_numbers" (.cons (.idx (.var 1) (.int (3))) .nil)) .nil))))
  (.ret (.tup (.cons (.bin .add (.bin .add (.tup (.cons (.str "child") (.cons (.call "read_name" (.cons (.idx (.var 1) (.int (0))) .nil)) (.cons (.bi .int (.cons (.idx (.var 1) (.int (1))) .nil)) .nil)))) (.var 4)) (.tup (.cons (.var 2) .nil))) (.cons (.var 3) .nil))))))))⟩
/-! self=0 word=1 reads=2 nodes=3 whole=4 -/
def F.Reader_part : FDef := ⟨1, 5,
  (.seq (.asg (.name 1) (.meth (.var 0) "until" (.cons (.str ":}") .nil)))
  (.seq (.ite (.isN (.var 1))
  (.ret (.tup (.cons .non (.cons (.bl false) .nil))))
  .skip)
  (.seq (.ite (.cmp .eq (.idx (.var 1) (.int (1))) (.str "}"))
  (.ret (.tup (.cons (.tup (.cons (.str "place") (.cons (.bi .int (.cons (.idx (.var 1) (.int (0))) .nil)) .nil))) (.cons (.bl true) .nil))))
  .skip)
  (.seq (.asg (.name 2) (.meth (.var 0) "words" (.cons (.int (1)) .nil)))
  (.seq (.ite (.isN (.var 2))
  (.ret (.tup (.cons .non (.cons (.bl false) .nil))))
  .skip)
  (.seq (.asg (.tup [3, 4]) (.meth (.var 0) "nodes" (.cons (.str "}") .nil)))
  (.ret (.tup (.cons (.tup (.cons (.str "present") (.cons (.bi .int (.cons (.idx (.var 1) (.int (0))) .nil)) (.cons (.call "read_numbers" (.cons (.idx (.var 2) (.int (0))) .nil)) (.cons (.var 3) .nil))))) (.cons (.var 4) .nil))))))))))⟩
/-! text=0 reader=1 reads=2 nodes=3 whole=4 parts=5 part=6 ready=7 -/
def F.read : FDef := ⟨1, 8,
  (.seq (.asg (.name 1) (.new "Reader" (.cons (.var 0) .nil)))
  (.seq (.asg (.name 2) (.meth (.var 1) "words" (.cons (.int (1)) .nil)))
  (.seq (.ite (.isN (.var 2))
  (.ret (.tup (.cons (.str "stream") (.cons .non (.cons (.tup .nil) (.cons (.bl false) (.cons (.tup .nil) .nil)))))))
  .skip)
  (.seq (.asg (.tup [3, 4]) (.meth (.var 1) "nodes" (.cons (.str "!") .nil)))
  (.seq (.asg (.name 5) (.lst .nil))
  (.seq (.while (.no (.meth (.var 1) "ended" .nil))
  (.seq (.augattr (.var 1) "place" .add (.int (1)))
  (.seq (.asg (.tup [6, 7]) (.meth (.var 1) "part" .nil))
  (.ite (.notN (.var 6))
  (.expr (.bm .append (.var 5) (.cons (.bin .add (.slice (.var 6) (.int (1)) .non) (.tup (.cons (.var 7) .nil))) .nil)))
  .skip))))
  (.ret (.tup (.cons (.str "stream") (.cons (.call "read_numbers" (.cons (.idx (.var 2) (.int (0))) .nil)) (.cons (.var 3) (.cons (.var 4) (.cons (.coll .tuple (.cons (.var 5) .nil)) .nil)))))))))))))⟩
/-! _law_nodes=0 _law_text=1 _law_rows=2 _law_node=3 _law_name_here=4 _law_action=5 _law_at=6 -/
def F.L_mark : FDef := ⟨2, 7,
  (.seq (.asg (.name 2) (.lst .nil))
  (.seq (.for (.name 3) (.cons (.var 0) .nil)
  (.seq (.asg (.name 4) (.idx (.idx (.var 3) (.int (1))) (.bin .sub (.bi .len (.cons (.idx (.var 3) (.int (1))) .nil)) (.int (1)))))
  (.ite (.cmp .eq (.idx (.var 3) (.int (0))) (.str "text"))
  (.seq (.setidx (.var 1) (.int (0)) (.bin .add (.bin .add (.bin .add (.idx (.var 1) (.int (0))) (.str "'")) (.idx (.var 3) (.int (2)))) (.str "'")))
  (.expr (.bm .append (.var 2) (.cons (.lst (.cons (.bi .len (.cons (.idx (.var 1) (.int (0))) .nil)) (.cons (.tup (.cons (.str "text") (.cons (.idx (.var 3) (.int (2))) .nil))) (.cons .non .nil)))) .nil))))
  (.ite (.cmp .eq (.idx (.var 3) (.int (0))) (.str "place"))
  (.seq (.setidx (.var 1) (.int (0)) (.bin .add (.bin .add (.bin .add (.idx (.var 1) (.int (0))) (.str "{")) (.bi .str (.cons (.idx (.var 3) (.int (2))) .nil))) (.str "}")))
  (.expr (.bm .append (.var 2) (.cons (.lst (.cons (.bi .len (.cons (.idx (.var 1) (.int (0))) .nil)) (.cons (.tup (.cons (.str "place") (.cons (.idx (.var 3) (.int (2))) .nil))) (.cons .non .nil)))) .nil))))
  (.ite (.cmp .eq (.idx (.var 3) (.int (0))) (.str "input"))
  (.seq (.setidx (.var 1) (.int (0)) (.bin .add (.bin .add (.bin .add (.bin .add (.bin .add (.bin .add (.bin .add (.bin .add (.bin .add (.idx (.var 1) (.int (0))) (.str "<")) (.call "_law_name" (.cons (.var 4) .nil))) (.str " ")) (.idx (.var 3) (.int (2)))) (.str " ")) (.bi .str (.cons (.idx (.var 3) (.int (4))) .nil))) (.str " ")) (.bi .str (.cons (.idx (.var 3) (.int (5))) .nil))) (.str ">")))
  (.expr (.bm .append (.var 2) (.cons (.lst (.cons (.bi .len (.cons (.idx (.var 1) (.int (0))) .nil)) (.cons (.tup (.cons (.str "input") (.cons (.var 4) (.cons (.idx (.var 3) (.int (2))) (.cons (.idx (.var 3) (.int (4))) (.cons (.idx (.var 3) (.int (5))) .nil)))))) (.cons .non .nil)))) .nil))))
  (.ite (.cmp .eq (.idx (.var 3) (.int (0))) (.str "box"))
  (.seq (.asg (.name 5) (.str "-"))
  (.seq (.ite (.notN (.idx (.var 3) (.int (4))))
  (.asg (.name 5) (.bi .str (.cons (.idx (.var 3) (.int (4))) .nil)))
  .skip)
  (.seq (.setidx (.var 1) (.int (0)) (.bin .add (.bin .add (.bin .add (.bin .add (.bin .add (.bin .add (.bin .add (.idx (.var 1) (.int (0))) (.str "(")) (.call "_law_name" (.cons (.var 4) .nil))) (.str " ")) (.idx (.var 3) (.int (2)))) (.str " ")) (.var 5)) (.str " ")))
  (.seq (.asg (.name 6) (.bi .len (.cons (.idx (.var 1) (.int (0))) .nil)))
  (.seq (.expr (.bm .append (.var 2) (.cons (.lst (.cons (.var 6) (.cons (.tup (.cons (.str "box") (.cons (.var 4) (.cons (.idx (.var 3) (.int (2))) (.cons (.idx (.var 3) (.int (4))) .nil))))) (.cons (.call "_law_mark" (.cons (.idx (.var 3) (.int (5))) (.cons (.var 1) .nil))) .nil)))) .nil)))
  (.setidx (.var 1) (.int (0)) (.bin .add (.idx (.var 1) (.int (0))) (.str ")"))))))))
  (.ite (.cmp .eq (.idx (.var 4) (.int (0))) (.str "part"))
  (.expr (.bm .append (.var 2) (.cons (.slice (.call "_law_mark_part" (.cons (.idx (.var 4) (.int (1))) (.cons (.var 3) (.cons (.var 1) .nil)))) .non (.int (3))) .nil)))
  (.seq (.setidx (.var 1) (.int (0)) (.bin .add (.bin .add (.bin .add (.bin .add (.bin .add (.idx (.var 1) (.int (0))) (.str "[")) (.call "_law_name" (.cons (.var 4) .nil))) (.str " ")) (.bi .str (.cons (.idx (.var 3) (.int (2))) .nil))) (.str " ")))
  (.seq (.setidx (.var 1) (.int (0)) (.bin .add (.bin .add (.bin .add (.bin .add (.idx (.var 1) (.int (0))) (.call "_law_numbers" (.cons (.idx (.var 3) (.int (3))) .nil))) (.str " ")) (.call "_law_numbers" (.cons (.idx (.var 3) (.int (4))) .nil))) (.str " ")))
  (.seq (.asg (.name 6) (.bi .len (.cons (.idx (.var 1) (.int (0))) .nil)))
  (.seq (.expr (.bm .append (.var 2) (.cons (.lst (.cons (.var 6) (.cons (.tup (.cons (.str "child") (.cons (.var 4) (.cons (.idx (.var 3) (.int (2))) (.cons (.idx (.var 3) (.int (3))) (.cons (.idx (.var 3) (.int (4))) .nil)))))) (.cons (.call "_law_mark" (.cons (.idx (.var 3) (.int (5))) (.cons (.var 1) .nil))) .nil)))) .nil)))
  (.setidx (.var 1) (.int (0)) (.bin .add (.idx (.var 1) (.int (0))) (.str "]"))))))))))))))
  (.ret (.var 2))))⟩
/-! _law_k=0 _law_node=1 _law_text=2 _law_at=3 _law_rows=4 -/
def F.L_mark_part : FDef := ⟨3, 5,
  (.seq (.setidx (.var 2) (.int (0)) (.bin .add (.bin .add (.bin .add (.bin .add (.bin .add (.idx (.var 2) (.int (0))) (.str "{")) (.bi .str (.cons (.var 0) .nil))) (.str ":")) (.call "_law_numbers" (.cons (.idx (.var 1) (.int (4))) .nil))) (.str " ")))
  (.seq (.asg (.name 3) (.bi .len (.cons (.idx (.var 2) (.int (0))) .nil)))
  (.seq (.asg (.name 4) (.call "_law_mark" (.cons (.idx (.var 1) (.int (5))) (.cons (.var 2) .nil))))
  (.seq (.setidx (.var 2) (.int (0)) (.bin .add (.idx (.var 2) (.int (0))) (.str "}")))
  (.ret (.lst (.cons (.var 3) (.cons (.tup (.cons (.str "present") (.cons (.var 0) (.cons (.idx (.var 1) (.int (4))) .nil)))) (.cons (.var 4) (.cons (.bi .len (.cons (.idx (.var 2) (.int (0))) .nil)) .nil))))))))))⟩
/-! _law_rows=0 _law_cut_here=1 _law_nodes=2 _law_row=3 -/
def F.L_cut : FDef := ⟨2, 4,
  (.seq (.asg (.name 2) (.lst .nil))
  (.seq (.for (.name 3) (.cons (.var 0) .nil)
  (.ite (.cmp .le (.idx (.var 3) (.int (0))) (.var 1))
  (.ite (.isN (.idx (.var 3) (.int (2))))
  (.expr (.bm .append (.var 2) (.cons (.idx (.var 3) (.int (1))) .nil)))
  (.expr (.bm .append (.var 2) (.cons (.bin .add (.idx (.var 3) (.int (1))) (.tup (.cons (.call "_law_cut" (.cons (.idx (.var 3) (.int (2))) (.cons (.var 1) .nil))) .nil))) .nil))))
  .skip))
  (.ret (.coll .tuple (.cons (.var 2) .nil)))))⟩
/-! _law_program_here=0 _law_first_here=1 _law_k=2 _law_seed=3 _law_row=4 _law_j=5 -/
def F.L_part_node : FDef := ⟨3, 6,
  (.seq (.asg (.name 3) (.call "_law_first" (.cons (.var 0) (.cons (.coll .tuple (.cons (.lcomp (.for1 [5] (.name 5) (.range (.cons (.int (4)) .nil)) (.or (.cmp .isin (.var 5) (.var 1)) (.cmp .eq (.var 5) (.var 2))) (.cons (.var 5) .nil))) .nil)) .nil))))
  (.seq (.for (.name 4) (.cons (.call "_law_every" (.cons (.tup (.cons (.call "_law_child" (.cons (.var 3) (.cons (.tup .nil) (.cons (.int (0)) (.cons (.tup .nil) .nil))))) .nil)) .nil)) .nil)
  (.ite (.cmp .eq (.slice (.idx (.var 4) (.int (1))) (.bin .sub (.bi .len (.cons (.idx (.var 4) (.int (1))) .nil)) (.int (1))) .non) (.tup (.cons (.tup (.cons (.str "part") (.cons (.var 2) .nil))) .nil)))
  (.ret (.var 4))
  .skip))
  (.ret .non)))⟩
/-! _law_script=0 _law_box_here=1 _law_program_here=2 _law_first_here=3 _law_page=4 _law_text=5 _law_head=6 _law_rows=7 _law_whole=8 _law_parts=9 _law_k=10 _law_cuts=11 _law_cut_here=12 _law_node=13 _law_due=14 _law_begun=15 _law_part=16 -/
def F.law_k34 : FDef := ⟨1, 17,
  (.seq (.asg (.name 1) (.call "_law_box" (.cons (.var 0) (.cons (.int (0)) (.cons (.int (63)) .nil)))))
  (.seq (.asg (.name 2) (.call "_law_program" (.cons (.var 1) .nil)))
  (.seq (.asg (.name 3) (.coll .tuple (.cons (.lcomp (.for1 [10] (.name 10) (.range (.cons (.bi .len (.cons (.idx (.var 2) (.int (3))) .nil)) .nil)) (.cmp .eq (.call "_law_draw" (.cons (.var 1) (.cons (.int (3)) .nil))) (.int (0))) (.cons (.var 10) .nil))) .nil)))
  (.seq (.asg (.name 4) (.call "_law_child" (.cons (.call "_law_first" (.cons (.var 2) (.cons (.var 3) .nil))) (.cons (.tup .nil) (.cons (.int (0)) (.cons (.tup .nil) .nil))))))
  (.seq (.asg (.name 5) (.lst (.cons (.bin .add (.call "_law_numbers" (.cons (.idx (.var 4) (.int (4))) .nil)) (.str " ")) .nil)))
  (.seq (.asg (.name 6) (.bi .len (.cons (.idx (.var 5) (.int (0))) .nil)))
  (.seq (.asg (.name 7) (.call "_law_mark" (.cons (.idx (.var 4) (.int (5))) (.cons (.var 5) .nil))))
  (.seq (.setidx (.var 5) (.int (0)) (.bin .add (.idx (.var 5) (.int (0))) (.str "!")))
  (.seq (.asg (.name 8) (.bi .len (.cons (.idx (.var 5) (.int (0))) .nil)))
  (.seq (.asg (.name 9) (.lst .nil))
  (.seq (.for (.name 10) (.range (.cons (.bi .len (.cons (.idx (.var 2) (.int (3))) .nil)) .nil))
  (.seq (.asg (.name 13) (.call "_law_part_node" (.cons (.var 2) (.cons (.var 3) (.cons (.var 10) .nil)))))
  (.ite (.and (.cmp .notin (.var 10) (.var 3)) (.and (.notN (.var 13)) (.cmp .gt (.call "_law_draw" (.cons (.var 1) (.cons (.int (3)) .nil))) (.int (0)))))
  (.expr (.bm .append (.var 9) (.cons (.lst (.cons (.var 10) (.cons (.idx (.var 13) (.int (4))) (.cons (.call "_law_mark_part" (.cons (.var 10) (.cons (.var 13) (.cons (.var 5) .nil)))) .nil)))) .nil)))
  .skip)))
  (.seq (.asg (.name 11) (.lst (.cons (.int (0)) (.cons (.bin .sub (.var 6) (.int (1))) (.cons (.var 6) (.cons (.bin .sub (.var 8) (.int (1))) (.cons (.var 8) (.cons (.bi .len (.cons (.idx (.var 5) (.int (0))) .nil)) .nil))))))))
  (.seq (.for (.name 10) (.range (.cons (.int (24)) .nil))
  (.expr (.bm .append (.var 11) (.cons (.bin .mod (.bi .int (.cons (.bin .add (.bin .mul (.call "_law_draw" (.cons (.var 1) (.cons (.int (1000)) .nil))) (.int (1000))) (.call "_law_draw" (.cons (.var 1) (.cons (.int (1000)) .nil)))) .nil)) (.bin .add (.bi .len (.cons (.idx (.var 5) (.int (0))) .nil)) (.int (1)))) .nil))))
  (.seq (.for (.name 12) (.cons (.var 11) .nil)
  (.seq (.asg (.name 14) (.tup (.cons (.str "stream") (.cons .non (.cons (.tup .nil) (.cons (.bl false) (.cons (.tup .nil) .nil)))))))
  (.seq (.ite (.cmp .ge (.var 12) (.var 6))
  (.seq (.asg (.name 15) (.lst .nil))
  (.seq (.for (.name 16) (.cons (.var 9) .nil)
  (.ite (.cmp .le (.idx (.idx (.var 16) (.int (2))) (.int (0))) (.var 12))
  (.expr (.bm .append (.var 15) (.cons (.tup (.cons (.idx (.var 16) (.int (0))) (.cons (.idx (.var 16) (.int (1))) (.cons (.call "_law_cut" (.cons (.idx (.idx (.var 16) (.int (2))) (.int (2))) (.cons (.var 12) .nil))) (.cons (.cmp .le (.idx (.idx (.var 16) (.int (2))) (.int (3))) (.var 12)) .nil))))) .nil)))
  .skip))
  (.asg (.name 14) (.tup (.cons (.str "stream") (.cons (.idx (.var 4) (.int (4))) (.cons (.call "_law_cut" (.cons (.var 7) (.cons (.var 12) .nil))) (.cons (.cmp .le (.var 8) (.var 12)) (.cons (.coll .tuple (.cons (.var 15) .nil)) .nil)))))))))
  .skip)
  (.ite (.no (.call "_law_same" (.cons (.call "read" (.cons (.slice (.idx (.var 5) (.int (0))) .non (.var 12)) .nil)) (.cons (.var 14) .nil))))
  (.ret (.bl false))
  .skip))))
  (.ret (.bl true))))))))))))))))⟩
/-! program=0 world=1 cells=2 path=3 _=4 props=5 reads=6 -/
def F.known_in : FDef := ⟨2, 7,
  (.seq (.asg (.name 2) (.coll .dict (.cons (.idx (.var 1) (.int (2))) .nil)))
  (.ret (.dcomp (.for1 [3, 4, 5, 6] (.tup [3, 4, 5, 6]) (.cons (.call "components_of" (.cons (.call "page_of" (.cons (.var 0) (.cons (.var 1) .nil))) .nil)) .nil) (.bl true) (.cons (.var 3) (.cons (.tup (.cons (.idx (.var 2) (.var 3)) (.cons (.var 5) (.cons (.var 6) (.cons (.idx (.var 1) (.int (1))) .nil))))) .nil))))))⟩
/-! path=0 k=1 -/
def F.is_within : FDef := ⟨2, 2,
  (.ret (.cmp .isin (.tup (.cons (.str "part") (.cons (.var 1) .nil))) (.var 0)))⟩
/-! program=0 first=1 before=2 after=3 known=4 k=5 arrived=6 path=7 -/
def F.known_before : FDef := ⟨4, 8,
  (.seq (.asg (.name 4) (.call "known_in" (.cons (.var 0) (.cons (.var 2) .nil))))
  (.seq (.for (.name 5) (.cons (.idx (.var 3) (.int (3))) .nil)
  (.ite (.cmp .notin (.var 5) (.idx (.var 2) (.int (3))))
  (.seq (.asg (.name 6) (.call "known_in" (.cons (.var 0) (.cons (.call "first_world" (.cons (.var 0) (.cons (.coll .tuple (.cons (.coll .sset (.cons (.bin .add (.var 1) (.tup (.cons (.var 5) .nil))) .nil)) .nil)) .nil))) .nil))))
  (.for (.name 7) (.cons (.var 6) .nil)
  (.ite (.call "is_within" (.cons (.var 7) (.cons (.var 5) .nil)))
  (.setidx (.var 4) (.var 7) (.idx (.var 6) (.var 7)))
  .skip)))
  .skip))
  (.ret (.var 4))))⟩
/-! now=0 before=1 reasons=2 place=3 -/
def F.reasons_for : FDef := ⟨2, 4,
  (.seq (.ite (.isN (.var 1))
  (.ret (.tup (.cons (.tup (.cons (.str "new") .nil)) .nil)))
  .skip)
  (.seq (.asg (.name 2) (.lst .nil))
  (.seq (.ite (.cmp .ne (.idx (.var 0) (.int (0))) (.idx (.var 1) (.int (0))))
  (.expr (.bm .append (.var 2) (.cons (.tup (.cons (.str "cells") .nil)) .nil)))
  .skip)
  (.seq (.ite (.cmp .ne (.idx (.var 0) (.int (1))) (.idx (.var 1) (.int (1))))
  (.expr (.bm .append (.var 2) (.cons (.tup (.cons (.str "props") .nil)) .nil)))
  .skip)
  (.seq (.expr (.bm .extend (.var 2) (.cons (.lcomp (.for1 [3] (.name 3) (.cons (.idx (.var 1) (.int (2))) .nil) (.cmp .ne (.idx (.idx (.var 0) (.int (3))) (.var 3)) (.idx (.idx (.var 1) (.int (3))) (.var 3))) (.cons (.tup (.cons (.str "store") (.cons (.var 3) .nil))) .nil))) .nil)))
  (.ret (.coll .tuple (.cons (.var 2) .nil))))))))⟩
/-! program=0 first=1 before=2 after=3 asleep=4 known=5 now=6 found=7 path=8 reasons=9 -/
def F.needs : FDef := ⟨5, 10,
  (.seq (.asg (.name 5) (.call "known_before" (.cons (.var 0) (.cons (.var 1) (.cons (.var 2) (.cons (.var 3) .nil))))))
  (.seq (.asg (.name 6) (.call "known_in" (.cons (.var 0) (.cons (.var 3) .nil))))
  (.seq (.asg (.name 7) (.lst .nil))
  (.seq (.for (.name 8) (.cons (.var 6) .nil)
  (.seq (.asg (.name 9) (.call "reasons_for" (.cons (.idx (.var 6) (.var 8)) (.cons (.bm .get1 (.var 5) (.cons (.var 8) .nil)) .nil))))
  (.ite (.var 9)
  (.expr (.bm .append (.var 7) (.cons (.tup (.cons (.var 8) (.cons (.var 9) (.cons (.ite (.and (.cmp .isin (.var 8) (.var 4)) (.cmp .ne (.var 9) (.tup (.cons (.tup (.cons (.str "new") .nil)) .nil)))) (.int (2)) (.int (1))) .nil)))) .nil)))
  .skip)))
  (.ret (.coll .tuple (.cons (.var 7) .nil)))))))⟩
/-! _law_row=0 _law_old=1 _law_seeds_here=2 _law_known=3 _law_seed=4 -/
def F.L_base : FDef := ⟨3, 5,
  (.seq (.for (.name 3) (.cons (.idx (.var 1) (.int (0))) .nil)
  (.ite (.cmp .eq (.idx (.var 3) (.int (0))) (.idx (.var 0) (.int (0))))
  (.ret (.lst (.cons (.idx (.var 3) (.int (2))) (.cons (.idx (.var 3) (.int (3))) (.cons (.call "_law_cells_at" (.cons (.idx (.var 1) (.int (1))) (.cons (.idx (.var 0) (.int (0))) (.cons (.idx (.var 3) (.int (1))) .nil)))) (.cons (.idx (.idx (.var 1) (.int (1))) (.int (1))) .nil))))))
  .skip))
  (.seq (.for (.name 4) (.cons (.var 2) .nil)
  (.ite (.cmp .isin (.tup (.cons (.str "part") (.cons (.idx (.var 4) (.int (0))) .nil))) (.idx (.var 0) (.int (0))))
  (.for (.name 3) (.cons (.idx (.var 4) (.int (1))) .nil)
  (.ite (.cmp .eq (.idx (.var 3) (.int (0))) (.idx (.var 0) (.int (0))))
  (.ret (.lst (.cons (.idx (.var 3) (.int (2))) (.cons (.idx (.var 3) (.int (3))) (.cons (.call "_law_cells_at" (.cons (.idx (.var 4) (.int (2))) (.cons (.idx (.var 0) (.int (0))) (.cons (.idx (.var 3) (.int (1))) .nil)))) (.cons (.idx (.idx (.var 4) (.int (2))) (.int (1))) .nil))))))
  .skip))
  .skip))
  (.ret .non)))⟩
/-! _law_program_here=0 _law_first_here=1 _law_before=2 _law_after=3 _law_seeds_here=4 _law_k=5 _law_seed=6 _law_j=7 -/
def F.L_seeds : FDef := ⟨4, 8,
  (.seq (.asg (.name 4) (.lst .nil))
  (.seq (.for (.name 5) (.cons (.idx (.var 3) (.int (3))) .nil)
  (.ite (.cmp .notin (.var 5) (.idx (.var 2) (.int (3))))
  (.seq (.asg (.name 6) (.call "_law_first" (.cons (.var 0) (.cons (.coll .tuple (.cons (.lcomp (.for1 [7] (.name 7) (.range (.cons (.int (4)) .nil)) (.or (.cmp .isin (.var 7) (.var 1)) (.cmp .eq (.var 7) (.var 5))) (.cons (.var 7) .nil))) .nil)) .nil))))
  (.expr (.bm .append (.var 4) (.cons (.lst (.cons (.var 5) (.cons (.call "_law_people" (.cons (.tup (.cons (.call "_law_child" (.cons (.var 6) (.cons (.tup .nil) (.cons (.int (0)) (.cons (.tup .nil) .nil))))) .nil)) .nil)) (.cons (.var 6) .nil)))) .nil))))
  .skip))
  (.ret (.var 4))))⟩
/-! _law_program_here=0 _law_first_here=1 _law_before=2 _law_after=3 _law_awake=4 _law_rows=5 _law_old=6 _law_seeds_here=7 _law_row=8 _law_base_here=9 _law_reasons=10 _law_j=11 _law_calls=12 -/
def F.L_needs : FDef := ⟨5, 13,
  (.seq (.asg (.name 5) (.lst .nil))
  (.seq (.asg (.name 6) (.lst (.cons (.call "_law_people" (.cons (.tup (.cons (.call "_law_child" (.cons (.var 2) (.cons (.tup .nil) (.cons (.int (0)) (.cons (.tup .nil) .nil))))) .nil)) .nil)) (.cons (.var 2) .nil))))
  (.seq (.asg (.name 7) (.call "_law_seeds" (.cons (.var 0) (.cons (.var 1) (.cons (.var 2) (.cons (.var 3) .nil))))))
  (.seq (.for (.name 8) (.cons (.call "_law_people" (.cons (.tup (.cons (.call "_law_child" (.cons (.var 3) (.cons (.tup .nil) (.cons (.int (0)) (.cons (.tup .nil) .nil))))) .nil)) .nil)) .nil)
  (.seq (.asg (.name 9) (.call "_law_base" (.cons (.var 8) (.cons (.var 6) (.cons (.var 7) .nil)))))
  (.seq (.asg (.name 10) (.lst .nil))
  (.seq (.ite (.isN (.var 9))
  (.expr (.bm .append (.var 10) (.cons (.tup (.cons (.str "new") .nil)) .nil)))
  (.seq (.ite (.cmp .ne (.idx (.var 9) (.int (2))) (.call "_law_cells_at" (.cons (.var 3) (.cons (.idx (.var 8) (.int (0))) (.cons (.idx (.var 8) (.int (1))) .nil)))))
  (.expr (.bm .append (.var 10) (.cons (.tup (.cons (.str "cells") .nil)) .nil)))
  .skip)
  (.seq (.ite (.cmp .ne (.idx (.var 9) (.int (0))) (.idx (.var 8) (.int (2))))
  (.expr (.bm .append (.var 10) (.cons (.tup (.cons (.str "props") .nil)) .nil)))
  .skip)
  (.for (.name 11) (.cons (.idx (.var 9) (.int (1))) .nil)
  (.ite (.cmp .ne (.idx (.idx (.var 9) (.int (3))) (.var 11)) (.idx (.idx (.var 3) (.int (1))) (.var 11)))
  (.expr (.bm .append (.var 10) (.cons (.tup (.cons (.str "store") (.cons (.var 11) .nil))) .nil)))
  .skip)))))
  (.ite (.cmp .gt (.bi .len (.cons (.var 10) .nil)) (.int (0)))
  (.seq (.asg (.name 12) (.int (2)))
  (.seq (.ite (.or (.isN (.var 9)) (.cmp .isin (.idx (.var 8) (.int (0))) (.var 4)))
  (.asg (.name 12) (.int (1)))
  .skip)
  (.expr (.bm .append (.var 5) (.cons (.tup (.cons (.idx (.var 8) (.int (0))) (.cons (.coll .tuple (.cons (.var 10) .nil)) (.cons (.var 12) .nil)))) .nil)))))
  .skip)))))
  (.ret (.var 5))))))⟩
/-! _law_script=0 _law_box_here=1 _law_program_here=2 _law_first_here=3 _law_about=4 _law_before=5 _law_many=6 _law_cut=7 _law_k=8 _law_asleep=9 _law_awake=10 _law_item=11 _law_due=12 _law_told=13 _law_deed=14 _law_paths=15 _law_path=16 -/
def F.law_k40 : FDef := ⟨1, 17,
  (.seq (.asg (.name 1) (.call "_law_box" (.cons (.var 0) (.cons (.int (0)) (.cons (.int (63)) .nil)))))
  (.seq (.asg (.name 2) (.call "_law_program" (.cons (.var 1) .nil)))
  (.seq (.asg (.name 3) (.coll .tuple (.cons (.lcomp (.for1 [8] (.name 8) (.range (.cons (.bi .len (.cons (.idx (.var 2) (.int (3))) .nil)) .nil)) (.cmp .eq (.call "_law_draw" (.cons (.var 1) (.cons (.int (4)) .nil))) (.int (0))) (.cons (.var 8) .nil))) .nil)))
  (.seq (.asg (.name 4) (.call "_law_first" (.cons (.var 2) (.cons (.var 3) .nil))))
  (.seq (.asg (.name 5) (.var 4))
  (.seq (.asg (.name 6) (.call "_law_draw" (.cons (.var 1) (.cons (.int (7)) .nil))))
  (.seq (.asg (.name 7) (.call "_law_draw" (.cons (.var 1) (.cons (.bin .add (.var 6) (.int (1))) .nil))))
  (.seq (.for (.name 8) (.range (.cons (.var 6) .nil))
  (.seq (.ite (.cmp .eq (.var 8) (.var 7))
  (.asg (.name 5) (.var 4))
  .skip)
  (.seq (.ite (.and (.cmp .eq (.call "_law_draw" (.cons (.var 1) (.cons (.int (5)) .nil))) (.int (0))) (.cmp .gt (.bi .len (.cons (.idx (.var 2) (.int (3))) .nil)) (.int (0))))
  (.asg (.name 14) (.tup (.cons (.str "part") (.cons (.call "_law_draw" (.cons (.var 1) (.cons (.bi .len (.cons (.idx (.var 2) (.int (3))) .nil)) .nil))) .nil))))
  (.seq (.asg (.name 15) (.lcomp (.for1 [11] (.name 11) (.cons (.idx (.var 4) (.int (2))) .nil) (.bl true) (.cons (.idx (.var 11) (.int (0))) .nil))))
  (.asg (.name 14) (.tup (.cons (.str "act") (.cons (.idx (.var 15) (.bin .mod (.bi .int (.cons (.call "_law_draw" (.cons (.var 1) (.cons (.int (1000)) .nil))) .nil)) (.bi .len (.cons (.var 15) .nil)))) (.cons (.call "_law_draw" (.cons (.var 1) (.cons (.int (2)) .nil))) .nil)))))))
  (.asg (.name 4) (.call "_law_do" (.cons (.var 4) (.cons (.var 14) .nil)))))))
  (.seq (.ite (.cmp .eq (.var 7) (.var 6))
  (.asg (.name 5) (.var 4))
  .skip)
  (.seq (.asg (.name 9) (.lst .nil))
  (.seq (.asg (.name 10) (.lst .nil))
  (.seq (.for (.name 11) (.cons (.bin .add (.idx (.var 5) (.int (2))) (.idx (.var 4) (.int (2)))) .nil)
  (.ite (.cmp .eq (.call "_law_draw" (.cons (.var 1) (.cons (.int (2)) .nil))) (.int (0)))
  (.expr (.bm .append (.var 9) (.cons (.idx (.var 11) (.int (0))) .nil)))
  (.ite (.cmp .notin (.idx (.var 11) (.int (0))) (.var 9))
  (.expr (.bm .append (.var 10) (.cons (.idx (.var 11) (.int (0))) .nil)))
  .skip)))
  (.seq (.for (.name 11) (.cons (.idx (.var 4) (.int (2))) .nil)
  (.ite (.and (.cmp .notin (.idx (.var 11) (.int (0))) (.var 9)) (.cmp .notin (.idx (.var 11) (.int (0))) (.var 10)))
  (.expr (.bm .append (.var 9) (.cons (.idx (.var 11) (.int (0))) .nil)))
  .skip))
  (.seq (.asg (.name 10) (.lcomp (.for1 [16] (.name 16) (.cons (.var 10) .nil) (.cmp .notin (.var 16) (.var 9)) (.cons (.var 16) .nil))))
  (.seq (.asg (.name 12) (.call "_law_needs" (.cons (.var 2) (.cons (.var 3) (.cons (.var 5) (.cons (.var 4) (.cons (.var 10) .nil)))))))
  (.seq (.asg (.name 13) (.call "needs" (.cons (.var 2) (.cons (.var 3) (.cons (.call "_law_world" (.cons (.var 5) .nil)) (.cons (.call "_law_world" (.cons (.var 4) .nil)) (.cons (.coll .tuple (.cons (.var 9) .nil)) .nil)))))))
  (.ret (.call "_law_same" (.cons (.var 13) (.cons (.coll .tuple (.cons (.var 12) .nil)) .nil))))))))))))))))))))⟩
/-! self=0 -/
def F.Numbers_init : FDef := ⟨1, 1,
  (.seq (.setattr (.var 0) "following" (.int (0)))
  (.setattr (.var 0) "numbers" (.dic .nil)))⟩
/-! self=0 path=1 -/
def F.Numbers_number : FDef := ⟨2, 2,
  (.seq (.ite (.cmp .notin (.var 1) (.attr (.var 0) "numbers"))
  (.seq (.setidx (.attr (.var 0) "numbers") (.var 1) (.attr (.var 0) "following"))
  (.augattr (.var 0) "following" .add (.int (1))))
  .skip)
  (.ret (.idx (.attr (.var 0) "numbers") (.var 1))))⟩
/-! self=0 paths=1 path=2 -/
def F.Numbers_keep : FDef := ⟨2, 3,
  (.setattr (.var 0) "numbers" (.dcomp (.for1 [2] (.name 2) (.cons (.var 1) .nil) (.cmp .isin (.var 2) (.attr (.var 0) "numbers")) (.cons (.var 2) (.cons (.idx (.attr (.var 0) "numbers") (.var 2)) .nil)))))⟩
/-! _law_script=0 _law_box_here=1 _law_paths=2 _law_made=3 _law_known=4 _law_following=5 _law_turn=6 _law_kept=7 _law_path=8 _law_found=9 _law_row=10 -/
def F.law_k41 : FDef := ⟨1, 11,
  (.seq (.asg (.name 1) (.call "_law_box" (.cons (.var 0) (.cons (.int (0)) (.cons (.int (63)) .nil)))))
  (.seq (.asg (.name 2) (.lst (.cons (.tup .nil) (.cons (.tup (.cons (.tup (.cons (.str "at") (.cons (.tup (.cons (.int (0)) .nil)) (.cons (.tup .nil) .nil)))) .nil)) (.cons (.tup (.cons (.tup (.cons (.str "at") (.cons (.tup (.cons (.int (1)) .nil)) (.cons (.tup .nil) .nil)))) .nil)) (.cons (.tup (.cons (.tup (.cons (.str "at") (.cons (.tup (.cons (.int (1)) .nil)) (.cons (.tup (.cons (.int (2)) .nil)) .nil)))) .nil)) (.cons (.tup (.cons (.tup (.cons (.str "key") (.cons (.tup (.cons (.int (1)) .nil)) (.cons (.int (7)) .nil)))) .nil)) (.cons (.tup (.cons (.tup (.cons (.str "part") (.cons (.int (0)) .nil))) .nil)) .nil))))))))
  (.seq (.asg (.name 2) (.bin .add (.var 2) (.lst (.cons (.tup (.cons (.tup (.cons (.str "part") (.cons (.int (0)) .nil))) (.cons (.tup (.cons (.str "at") (.cons (.tup (.cons (.int (0)) .nil)) (.cons (.tup .nil) .nil)))) .nil))) (.cons (.tup (.cons (.tup (.cons (.str "key") (.cons (.tup (.cons (.int (1)) .nil)) (.cons (.int (8)) .nil)))) (.cons (.tup (.cons (.str "at") (.cons (.tup (.cons (.int (0)) (.cons (.int (1)) .nil))) (.cons (.tup (.cons (.int (0)) (.cons (.int (1)) .nil))) .nil)))) .nil))) .nil)))))
  (.seq (.asg (.name 3) (.new "Numbers" .nil))
  (.seq (.asg (.name 4) (.lst .nil))
  (.seq (.asg (.name 5) (.int (0)))
  (.seq (.for (.name 6) (.range (.cons (.call "_law_draw" (.cons (.var 1) (.cons (.int (41)) .nil))) .nil))
  (.ite (.cmp .eq (.call "_law_draw" (.cons (.var 1) (.cons (.int (4)) .nil))) (.int (0)))
  (.seq (.asg (.name 7) (.lcomp (.for1 [10] (.name 10) (.cons (.var 4) .nil) (.cmp .eq (.call "_law_draw" (.cons (.var 1) (.cons (.int (2)) .nil))) (.int (0))) (.cons (.var 10) .nil))))
  (.seq (.expr (.meth (.var 3) "keep" (.cons (.coll .tuple (.cons (.lcomp (.for1 [10] (.name 10) (.cons (.var 7) .nil) (.bl true) (.cons (.idx (.var 10) (.int (0))) .nil))) .nil)) .nil)))
  (.asg (.name 4) (.var 7))))
  (.seq (.asg (.name 8) (.idx (.var 2) (.call "_law_draw" (.cons (.var 1) (.cons (.int (8)) .nil)))))
  (.seq (.asg (.name 9) (.lcomp (.for1 [10] (.name 10) (.cons (.var 4) .nil) (.cmp .eq (.idx (.var 10) (.int (0))) (.var 8)) (.cons (.idx (.var 10) (.int (1))) .nil))))
  (.seq (.ite (.cmp .eq (.bi .len (.cons (.var 9) .nil)) (.int (0)))
  (.seq (.asg (.name 9) (.lst (.cons (.var 5) .nil)))
  (.seq (.expr (.bm .append (.var 4) (.cons (.lst (.cons (.var 8) (.cons (.var 5) .nil))) .nil)))
  (.asg (.name 5) (.bin .add (.var 5) (.int (1))))))
  .skip)
  (.ite (.no (.call "_law_same" (.cons (.meth (.var 3) "number" (.cons (.var 8) .nil)) (.cons (.idx (.var 9) (.int (0))) .nil))))
  (.ret (.bl false))
  .skip))))))
  (.ret (.bl true)))))))))⟩
/-! nodes=0 numbers=1 found=2 node=3 number=4 -/
def F.numbered : FDef := ⟨2, 5,
  (.seq (.asg (.name 2) (.lst .nil))
  (.seq (.for (.name 3) (.cons (.var 0) .nil)
  (.seq (.asg (.name 4) (.meth (.var 1) "number" (.cons (.idx (.var 3) (.int (1))) .nil)))
  (.ite (.cmp .eq (.idx (.var 3) (.int (0))) (.str "text"))
  (.expr (.bm .append (.var 2) (.cons (.tup (.cons (.str "text") (.cons (.var 4) (.cons (.idx (.var 3) (.int (2))) .nil)))) .nil)))
  (.ite (.cmp .eq (.idx (.var 3) (.int (0))) (.str "input"))
  (.expr (.bm .append (.var 2) (.cons (.tup (.cons (.str "input") (.cons (.var 4) (.cons (.idx (.var 3) (.int (2))) (.cons (.idx (.var 3) (.int (5))) .nil))))) .nil)))
  (.expr (.bm .append (.var 2) (.cons (.tup (.cons (.str "box") (.cons (.var 4) (.cons (.idx (.var 3) (.int (2))) (.cons (.call "numbered" (.cons (.idx (.var 3) (.int (5))) (.cons (.var 1) .nil))) .nil))))) .nil)))))))
  (.ret (.coll .tuple (.cons (.var 2) .nil)))))⟩
/-! self=0 program=1 first=2 -/
def F.Screen_init : FDef := ⟨3, 3,
  (.seq (.setattr (.var 0) "program" (.var 1))
  (.seq (.setattr (.var 0) "first" (.var 2))
  (.seq (.setattr (.var 0) "world" (.call "first_world" (.cons (.var 1) (.cons (.var 2) .nil))))
  (.seq (.setattr (.var 0) "numbers" (.new "Numbers" .nil))
  (.seq (.setattr (.var 0) "taken" (.tup .nil))
  (.seq (.setattr (.var 0) "awake" (.tup .nil))
  (.expr (.meth (.var 0) "show" .nil))))))))⟩
/-! self=0 before=1 paths=2 now=3 made=4 path=5 _=6 number=7 -/
def F.Screen_show : FDef := ⟨1, 8,
  (.seq (.asg (.name 1) (.coll .sorted (.values (.attr (.attr (.var 0) "numbers") "numbers"))))
  (.seq (.asg (.name 2) (.lcomp (.for1 [5, 6] (.tup [5, 6, 6]) (.cons (.call "flat" (.cons (.idx (.call "page_of" (.cons (.attr (.var 0) "program") (.cons (.attr (.var 0) "world") .nil))) (.int (1))) .nil)) .nil) (.bl true) (.cons (.var 5) .nil))))
  (.seq (.asg (.name 3) (.coll .sorted (.cons (.lcomp (.for1 [5] (.name 5) (.cons (.var 2) .nil) (.bl true) (.cons (.meth (.attr (.var 0) "numbers") "number" (.cons (.var 5) .nil)) .nil))) .nil)))
  (.seq (.expr (.meth (.attr (.var 0) "numbers") "keep" (.cons (.var 2) .nil)))
  (.seq (.asg (.name 4) (.gtup (.for1 [7] (.name 7) (.cons (.var 3) .nil) (.cmp .notin (.var 7) (.var 1)) (.cons (.var 7) .nil))))
  (.ret (.tup (.cons (.var 4) (.cons (.gtup (.for1 [7] (.name 7) (.cons (.var 1) .nil) (.cmp .notin (.var 7) (.var 3)) (.cons (.var 7) .nil))) .nil)))))))))⟩
/-! self=0 -/
def F.Screen_nodes : FDef := ⟨1, 1,
  (.ret (.call "numbered" (.cons (.call "shown" (.cons (.idx (.call "page_of" (.cons (.attr (.var 0) "program") (.cons (.attr (.var 0) "world") .nil))) (.int (1))) .nil)) (.cons (.attr (.var 0) "numbers") .nil))))⟩
/-! self=0 world=1 path=2 _=3 -/
def F.Screen_paths : FDef := ⟨2, 4,
  (.ret (.gtup (.for1 [2, 3] (.tup [2, 3, 3, 3]) (.cons (.call "components_of" (.cons (.call "page_of" (.cons (.attr (.var 0) "program") (.cons (.var 1) .nil))) .nil)) .nil) (.bl true) (.cons (.var 2) .nil))))⟩
/-! self=0 deeds=1 taken=2 number=3 -/
def F.Screen_world_of : FDef := ⟨3, 4,
  (.ret (.call "run" (.cons (.attr (.var 0) "program") (.cons (.attr (.var 0) "first") (.cons (.gtup (.for1 [3] (.name 3) (.cons (.var 2) .nil) (.bl true) (.cons (.idx (.idx (.var 1) (.var 3)) (.int (0))) .nil))) .nil)))))⟩
/-! self=0 world=1 asleep=2 path=3 _=4 count=5 -/
def F.Screen_calls : FDef := ⟨2, 6,
  (.seq (.asg (.name 2) (.gtup (.for1 [3] (.name 3) (.cons (.meth (.var 0) "paths" (.cons (.var 1) .nil)) .nil) (.cmp .notin (.var 3) (.attr (.var 0) "awake")) (.cons (.var 3) .nil))))
  (.ret (.gtup (.for1 [3, 4, 5] (.tup [3, 4, 5]) (.cons (.call "needs" (.cons (.attr (.var 0) "program") (.cons (.attr (.var 0) "first") (.cons (.attr (.var 0) "world") (.cons (.var 1) (.cons (.var 2) .nil)))))) .nil) (.bl true) (.cons (.tup (.cons (.var 3) (.cons (.var 5) .nil))) .nil)))))⟩
/-! self=0 deeds=1 taken=2 world=3 calls=4 rows=5 behind=6 found=7 called=8 path=9 number=10 _=11 deed=12 before=13 -/
def F.Screen_wanted : FDef := ⟨5, 14,
  (.seq (.asg (.name 5) (.gtup (.for1 [10] (.name 10) (.cons (.var 2) .nil) (.bl true) (.cons (.idx (.idx (.var 1) (.var 10)) (.int (0))) .nil))))
  (.seq (.asg (.name 6) (.call "worlds" (.cons (.attr (.var 0) "program") (.cons (.attr (.var 0) "first") (.cons (.var 5) .nil)))))
  (.seq (.asg (.name 7) (.lcomp (.for1 [10, 12, 13] (.tup [12, 13]) (.zip (.var 5) (.var 6)) (.bl true) (.for1 [10] (.name 10) (.cons (.call "done_by" (.cons (.attr (.var 0) "program") (.cons (.var 13) (.cons (.var 12) .nil)))) .nil) (.bl true) (.cons (.var 10) .nil)))))
  (.seq (.asg (.name 8) (.lcomp (.for1 [9, 11] (.tup [9, 11]) (.cons (.var 4) .nil) (.bl true) (.cons (.var 9) .nil))))
  (.seq (.for (.tup [9, 10, 11, 11]) (.cons (.call "components_of" (.cons (.call "page_of" (.cons (.attr (.var 0) "program") (.cons (.var 3) .nil))) .nil)) .nil)
  (.ite (.cmp .isin (.var 9) (.var 8))
  (.expr (.bm .append (.var 7) (.cons (.var 10) .nil)))
  .skip))
  (.ret (.coll .tuple (.cons (.coll .sset (.cons (.var 7) .nil)) .nil))))))))⟩
/-! self=0 world=1 taken=2 calls=3 called=4 path=5 _=6 -/
def F.Screen_commit : FDef := ⟨4, 7,
  (.seq (.asg (.name 4) (.lcomp (.for1 [5, 6] (.tup [5, 6]) (.cons (.var 3) .nil) (.bl true) (.cons (.var 5) .nil))))
  (.seq (.setattr (.var 0) "awake" (.gtup (.for1 [5] (.name 5) (.cons (.meth (.var 0) "paths" (.cons (.var 1) .nil)) .nil) (.or (.cmp .isin (.var 5) (.var 4)) (.cmp .isin (.var 5) (.attr (.var 0) "awake"))) (.cons (.var 5) .nil))))
  (.seq (.setattr (.var 0) "world" (.var 1))
  (.seq (.setattr (.var 0) "taken" (.var 2))
  (.ret (.meth (.var 0) "show" .nil))))))⟩
/-! self=0 -/
def F.Begun_init : FDef := ⟨1, 1,
  (.setattr (.var 0) "following" (.int (0)))⟩
/-! self=0 -/
def F.Begun_number : FDef := ⟨1, 1,
  (.seq (.augattr (.var 0) "following" .add (.int (1)))
  (.ret (.bin .sub (.attr (.var 0) "following") (.int (1)))))⟩
/-! self=0 nodes=1 path=2 owner=3 found=4 node=5 number=6 inner=7 own=8 -/
def F.Begun_tree : FDef := ⟨4, 9,
  (.seq (.asg (.name 4) (.lst .nil))
  (.seq (.for (.name 5) (.cons (.var 1) .nil)
  (.ite (.cmp .eq (.idx (.var 5) (.int (0))) (.str "text"))
  (.expr (.bm .append (.var 4) (.cons (.tup (.cons (.str "text") (.cons (.meth (.var 0) "number" .nil) (.cons (.idx (.var 5) (.int (1))) .nil)))) .nil)))
  (.ite (.cmp .eq (.idx (.var 5) (.int (0))) (.str "input"))
  (.expr (.bm .append (.var 4) (.cons (.tup (.cons (.str "input") (.cons (.meth (.var 0) "number" .nil) (.cons (.idx (.var 5) (.int (2))) (.cons (.var 3) (.cons (.idx (.var 5) (.int (3))) (.cons (.idx (.var 5) (.int (4))) (.cons (.bin .add (.var 2) (.tup (.cons (.idx (.var 5) (.int (1))) .nil))) .nil)))))))) .nil)))
  (.ite (.cmp .eq (.idx (.var 5) (.int (0))) (.str "box"))
  (.seq (.asg (.name 6) (.meth (.var 0) "number" .nil))
  (.seq (.asg (.name 7) (.meth (.var 0) "tree" (.cons (.idx (.var 5) (.int (4))) (.cons (.bin .add (.var 2) (.tup (.cons (.idx (.var 5) (.int (1))) .nil))) (.cons (.var 3) .nil)))))
  (.expr (.bm .append (.var 4) (.cons (.tup (.cons (.str "box") (.cons (.var 6) (.cons (.idx (.var 5) (.int (2))) (.cons (.var 3) (.cons (.idx (.var 5) (.int (3))) (.cons (.var 7) .nil))))))) .nil)))))
  (.ite (.cmp .eq (.idx (.var 5) (.int (0))) (.str "child"))
  (.seq (.asg (.name 8) (.bin .add (.var 2) (.tup (.cons (.idx (.var 5) (.int (1))) .nil))))
  (.expr (.bm .extend (.var 4) (.cons (.meth (.var 0) "tree" (.cons (.idx (.var 5) (.int (5))) (.cons (.var 8) (.cons (.var 8) .nil)))) .nil))))
  (.ite (.cmp .eq (.idx (.var 5) (.int (0))) (.str "present"))
  (.seq (.asg (.name 8) (.bin .add (.var 2) (.tup (.cons (.tup (.cons (.str "part") (.cons (.idx (.var 5) (.int (1))) .nil))) .nil))))
  (.expr (.bm .extend (.var 4) (.cons (.meth (.var 0) "tree" (.cons (.idx (.var 5) (.int (3))) (.cons (.var 8) (.cons (.var 8) .nil)))) .nil))))
  .skip))))))
  (.ret (.coll .tuple (.cons (.var 4) .nil)))))⟩
/-! nodes=0 found=1 node=2 -/
def F.sight_of : FDef := ⟨1, 3,
  (.seq (.asg (.name 1) (.lst .nil))
  (.seq (.for (.name 2) (.cons (.var 0) .nil)
  (.ite (.cmp .eq (.idx (.var 2) (.int (0))) (.str "box"))
  (.expr (.bm .append (.var 1) (.cons (.tup (.cons (.str "box") (.cons (.idx (.var 2) (.int (2))) (.cons (.call "sight_of" (.cons (.idx (.var 2) (.int (3))) .nil)) .nil)))) .nil)))
  (.expr (.bm .append (.var 1) (.cons (.bin .add (.tup (.cons (.idx (.var 2) (.int (0))) .nil)) (.slice (.var 2) (.int (2)) .non)) .nil)))))
  (.ret (.coll .tuple (.cons (.var 1) .nil)))))⟩
/-! nodes=0 found=1 node=2 -/
def F.present_in : FDef := ⟨1, 3,
  (.seq (.asg (.name 1) (.lst .nil))
  (.seq (.for (.name 2) (.cons (.var 0) .nil)
  (.ite (.cmp .eq (.idx (.var 2) (.int (0))) (.str "present"))
  (.expr (.bm .append (.var 1) (.cons (.idx (.var 2) (.int (1))) .nil)))
  (.ite (.cmp .eq (.idx (.var 2) (.int (0))) (.str "box"))
  (.expr (.bm .extend (.var 1) (.cons (.call "present_in" (.cons (.idx (.var 2) (.int (4))) .nil)) .nil)))
  .skip)))
  (.ret (.var 1))))⟩
/-! nodes=0 number=1 node=2 inner=3 -/
def F.chain_to : FDef := ⟨2, 4,
  (.seq (.for (.name 2) (.cons (.var 0) .nil)
  (.seq (.ite (.cmp .eq (.idx (.var 2) (.int (1))) (.var 1))
  (.ret (.lst (.cons (.var 2) .nil)))
  .skip)
  (.ite (.cmp .eq (.idx (.var 2) (.int (0))) (.str "box"))
  (.seq (.asg (.name 3) (.call "chain_to" (.cons (.idx (.var 2) (.int (5))) (.cons (.var 1) .nil))))
  (.ite (.var 3)
  (.ret (.bin .add (.lst (.cons (.var 2) .nil)) (.var 3)))
  .skip))
  .skip)))
  (.ret (.lst .nil)))⟩
/-! nodes=0 number=1 node=2 -/
def F.meant : FDef := ⟨2, 3,
  (.seq (.for (.name 2) (.cons (.rev (.call "chain_to" (.cons (.var 0) (.cons (.var 1) .nil)))) .nil)
  (.ite (.and (.cmp .eq (.idx (.var 2) (.int (0))) (.str "box")) (.notN (.idx (.var 2) (.int (4)))))
  (.ret (.tup (.cons (.idx (.var 2) (.int (3))) (.cons (.idx (.var 2) (.int (4))) .nil))))
  .skip))
  (.ret .non))⟩
/-! nodes=0 number=1 chain=2 -/
def F.field_at : FDef := ⟨2, 3,
  (.seq (.asg (.name 2) (.call "chain_to" (.cons (.var 0) (.cons (.var 1) .nil))))
  (.ret (.ite (.and (.var 2) (.cmp .eq (.idx (.idx (.var 2) (.neg (.int (1)))) (.int (0))) (.str "input"))) (.idx (.var 2) (.neg (.int (1)))) .non)))⟩
/-! self=0 urgent=1 begun=2 taken=3 world=4 calls=5 _=6 count=7 -/
def F.Drawing_init : FDef := ⟨6, 8,
  (.seq (.setattr (.var 0) "urgent" (.var 1))
  (.seq (.setattr (.var 0) "begun" (.var 2))
  (.seq (.setattr (.var 0) "taken" (.var 3))
  (.seq (.setattr (.var 0) "world" (.var 4))
  (.seq (.setattr (.var 0) "calls" (.var 5))
  (.setattr (.var 0) "left" (.gsum (.for1 [6, 7] (.tup [6, 7]) (.cons (.var 5) .nil) (.bl true) (.cons (.var 7) .nil)))))))))⟩
/-! self=0 program=1 -/
def F.Client_init : FDef := ⟨2, 2,
  (.seq (.setattr (.var 0) "program" (.var 1))
  (.seq (.setattr (.var 0) "text" (.str ""))
  (.seq (.setattr (.var 0) "deeds" (.tup .nil))
  (.seq (.setattr (.var 0) "taken" (.tup .nil))
  (.seq (.setattr (.var 0) "awake" (.tup .nil))
  (.seq (.setattr (.var 0) "started" (.bl false))
  (.seq (.setattr (.var 0) "whole" (.bl false))
  (.seq (.setattr (.var 0) "world" .non)
  (.seq (.setattr (.var 0) "codes" (.tup .nil))
  (.seq (.setattr (.var 0) "record" (.tup .nil))
  (.seq (.setattr (.var 0) "screen" .non)
  (.seq (.setattr (.var 0) "drawing" .non)
  (.seq (.setattr (.var 0) "parts" (.int (0)))
  (.setattr (.var 0) "entered" (.dic .nil)))))))))))))))⟩
/-! self=0 text=1 _=2 nodes=3 whole=4 parts=5 k=6 ready=7 -/
def F.Client_feed : FDef := ⟨2, 8,
  (.seq (.augattr (.var 0) "text" .add (.var 1))
  (.seq (.asg (.tup [2, 2, 3, 4, 5]) (.call "read" (.cons (.attr (.var 0) "text") .nil)))
  (.seq (.ite (.and (.var 4) (.no (.attr (.var 0) "whole")))
  (.seq (.setattr (.var 0) "whole" (.bl true))
  (.seq (.setattr (.var 0) "screen" (.new "Screen" (.cons (.attr (.var 0) "program") (.cons (.coll .tuple (.cons (.coll .sorted (.cons (.call "present_in" (.cons (.var 3) .nil)) .nil)) .nil)) .nil))))
  (.setattr (.var 0) "world" (.attr (.attr (.var 0) "screen") "world"))))
  .skip)
  (.for (.tup [6, 2, 2, 7]) (.cons (.slice (.var 5) (.attr (.var 0) "parts") .non) .nil)
  (.ite (.var 7)
  (.seq (.augattr (.var 0) "deeds" .add (.tup (.cons (.tup (.cons (.tup (.cons (.str "part") (.cons (.var 6) .nil))) (.cons (.bl true) .nil))) .nil)))
  (.augattr (.var 0) "parts" .add (.int (1))))
  .skip)))))⟩
/-! self=0 -/
def F.Client_start : FDef := ⟨1, 1,
  (.setattr (.var 0) "started" (.bl true))⟩
/-! self=0 number=1 -/
def F.Client_code : FDef := ⟨2, 2,
  (.setattr (.var 0) "codes" (.coll .tuple (.cons (.coll .sset (.cons (.bin .add (.attr (.var 0) "codes") (.tup (.cons (.var 1) .nil))) .nil)) .nil)))⟩
/-! self=0 -/
def F.Client_tree : FDef := ⟨1, 1,
  (.seq (.ite (.attr (.var 0) "record")
  (.ret (.meth (.var 0) "with_owners" (.cons (.idx (.call "page_of" (.cons (.attr (.var 0) "program") (.cons (.attr (.var 0) "world") .nil))) (.int (1))) .nil)))
  .skip)
  (.ret (.meth (.new "Begun" .nil) "tree" (.cons (.idx (.call "read" (.cons (.attr (.var 0) "text") .nil)) (.int (2))) (.cons (.tup .nil) (.cons (.tup .nil) .nil))))))⟩
/-! self=0 nodes=1 found=2 node=3 number=4 -/
def F.Client_with_owners : FDef := ⟨2, 5,
  (.seq (.asg (.name 2) (.lst .nil))
  (.seq (.for (.name 3) (.cons (.var 1) .nil)
  (.ite (.cmp .eq (.idx (.var 3) (.int (0))) (.str "text"))
  (.expr (.bm .append (.var 2) (.cons (.tup (.cons (.str "text") (.cons (.meth (.attr (.attr (.var 0) "screen") "numbers") "number" (.cons (.idx (.var 3) (.int (1))) .nil)) (.cons (.idx (.var 3) (.int (2))) .nil)))) .nil)))
  (.ite (.cmp .eq (.idx (.var 3) (.int (0))) (.str "input"))
  (.expr (.bm .append (.var 2) (.cons (.bin .add (.bin .add (.tup (.cons (.str "input") (.cons (.meth (.attr (.attr (.var 0) "screen") "numbers") "number" (.cons (.idx (.var 3) (.int (1))) .nil)) .nil))) (.slice (.var 3) (.int (2)) .non)) (.tup (.cons (.idx (.var 3) (.int (1))) .nil))) .nil)))
  (.ite (.cmp .eq (.idx (.var 3) (.int (0))) (.str "box"))
  (.seq (.asg (.name 4) (.meth (.attr (.attr (.var 0) "screen") "numbers") "number" (.cons (.idx (.var 3) (.int (1))) .nil)))
  (.expr (.bm .append (.var 2) (.cons (.bin .add (.bin .add (.tup (.cons (.str "box") (.cons (.var 4) .nil))) (.slice (.var 3) (.int (2)) (.int (5)))) (.tup (.cons (.meth (.var 0) "with_owners" (.cons (.idx (.var 3) (.int (5))) .nil)) .nil))) .nil))))
  (.ite (.cmp .eq (.idx (.var 3) (.int (0))) (.str "child"))
  (.expr (.bm .extend (.var 2) (.cons (.meth (.var 0) "with_owners" (.cons (.idx (.var 3) (.int (5))) .nil)) .nil)))
  .skip)))))
  (.ret (.coll .tuple (.cons (.var 2) .nil)))))⟩
/-! self=0 nodes=1 found=2 node=3 number=4 entered=5 -/
def F.Client_without_owners : FDef := ⟨2, 6,
  (.seq (.asg (.name 2) (.lst .nil))
  (.seq (.for (.name 3) (.cons (.var 1) .nil)
  (.ite (.cmp .eq (.idx (.var 3) (.int (0))) (.str "text"))
  (.expr (.bm .append (.var 2) (.cons (.var 3) .nil)))
  (.ite (.cmp .eq (.idx (.var 3) (.int (0))) (.str "input"))
  (.seq (.asg (.tup [4, 5]) (.bm .get2 (.attr (.var 0) "entered") (.cons (.idx (.var 3) (.int (6))) (.cons (.tup (.cons .non (.cons (.idx (.var 3) (.int (5))) .nil))) .nil))))
  (.expr (.bm .append (.var 2) (.cons (.bin .add (.slice (.var 3) .non (.int (3))) (.tup (.cons (.ite (.cmp .isin (.var 4) (.attr (.var 0) "taken")) (.idx (.var 3) (.int (5))) (.var 5)) .nil))) .nil))))
  (.expr (.bm .append (.var 2) (.cons (.bin .add (.slice (.var 3) .non (.int (3))) (.tup (.cons (.meth (.var 0) "without_owners" (.cons (.idx (.var 3) (.int (5))) .nil)) .nil))) .nil))))))
  (.ret (.coll .tuple (.cons (.var 2) .nil)))))⟩
/-! self=0 -/
def F.Client_nodes : FDef := ⟨1, 1,
  (.ret (.meth (.var 0) "without_owners" (.cons (.meth (.var 0) "tree" .nil) .nil)))⟩
/-! self=0 -/
def F.Client_sight : FDef := ⟨1, 1,
  (.ret (.call "sight_of" (.cons (.meth (.var 0) "nodes" .nil) .nil)))⟩
/-! self=0 number=1 urgent=2 found=3 -/
def F.Client_event : FDef := ⟨3, 4,
  (.seq (.asg (.name 3) (.call "meant" (.cons (.meth (.var 0) "tree" .nil) (.cons (.var 1) .nil))))
  (.seq (.ite (.isN (.var 3))
  (.ret (.bl false))
  .skip)
  (.seq (.augattr (.var 0) "deeds" .add (.tup (.cons (.tup (.cons (.tup (.cons (.str "act") (.cons (.idx (.var 3) (.int (0))) (.cons (.idx (.var 3) (.int (1))) .nil)))) (.cons (.var 2) .nil))) .nil)))
  (.ret (.bl true)))))⟩
/-! self=0 number=1 entered=2 found=3 -/
def F.Client_enter : FDef := ⟨3, 4,
  (.seq (.asg (.name 3) (.call "field_at" (.cons (.meth (.var 0) "tree" .nil) (.cons (.var 1) .nil))))
  (.seq (.ite (.isN (.var 3))
  (.ret (.bl false))
  .skip)
  (.seq (.setidx (.attr (.var 0) "entered") (.idx (.var 3) (.int (6))) (.tup (.cons (.bi .len (.cons (.attr (.var 0) "deeds") .nil)) (.cons (.var 2) .nil))))
  (.seq (.augattr (.var 0) "deeds" .add (.tup (.cons (.tup (.cons (.tup (.cons (.str "enter") (.cons (.idx (.var 3) (.int (3))) (.cons (.idx (.var 3) (.int (4))) (.cons (.var 2) .nil))))) (.cons (.bl true) .nil))) .nil)))
  (.ret (.bl true))))))⟩
/-! self=0 missing=1 number=2 -/
def F.Client_open_deeds : FDef := ⟨1, 3,
  (.seq (.asg (.name 1) (.lcomp (.for1 [2] (.name 2) (.range (.cons (.bi .len (.cons (.attr (.var 0) "deeds") .nil)) .nil)) (.cmp .notin (.var 2) (.attr (.var 0) "taken")) (.cons (.var 2) .nil))))
  (.ret (.tup (.cons (.var 1) (.cons (.lcomp (.for1 [2] (.name 2) (.cons (.var 1) .nil) (.idx (.idx (.attr (.var 0) "deeds") (.var 2)) (.int (1))) (.cons (.var 2) .nil))) .nil)))))⟩
/-! self=0 missing=1 urgent=2 taken=3 world=4 -/
def F.Client_begin : FDef := ⟨1, 5,
  (.seq (.asg (.tup [1, 2]) (.meth (.var 0) "open_deeds" .nil))
  (.seq (.asg (.name 3) (.coll .tuple (.cons (.coll .sorted (.cons (.bin .add (.attr (.var 0) "taken") (.coll .tuple (.cons (.or (.var 2) (.var 1)) .nil))) .nil)) .nil)))
  (.seq (.asg (.name 4) (.meth (.attr (.var 0) "screen") "world_of" (.cons (.attr (.var 0) "deeds") (.cons (.var 3) .nil))))
  (.setattr (.var 0) "drawing" (.new "Drawing" (.cons (.bi .bool (.cons (.var 2) .nil)) (.cons (.bi .len (.cons (.attr (.var 0) "deeds") .nil)) (.cons (.var 3) (.cons (.var 4) (.cons (.meth (.attr (.var 0) "screen") "calls" (.cons (.var 4) .nil)) .nil))))))))))⟩
/-! self=0 wanted=1 number=2 -/
def F.Client_wants : FDef := ⟨1, 3,
  (.seq (.ite (.isN (.attr (.var 0) "drawing"))
  (.ret (.tup .nil))
  .skip)
  (.seq (.asg (.name 1) (.meth (.attr (.var 0) "screen") "wanted" (.cons (.attr (.var 0) "deeds") (.cons (.attr (.attr (.var 0) "drawing") "taken") (.cons (.attr (.attr (.var 0) "drawing") "world") (.cons (.attr (.attr (.var 0) "drawing") "calls") .nil))))))
  (.ret (.gtup (.for1 [2] (.name 2) (.cons (.var 1) .nil) (.cmp .notin (.var 2) (.attr (.var 0) "codes")) (.cons (.var 2) .nil))))))⟩
/-! self=0 -/
def F.Client_drop_late : FDef := ⟨1, 1,
  (.ite (.and (.notN (.attr (.var 0) "drawing")) (.and (.no (.attr (.attr (.var 0) "drawing") "urgent")) (.idx (.meth (.var 0) "open_deeds" .nil) (.int (1)))))
  (.setattr (.var 0) "drawing" .non)
  .skip)⟩
/-! self=0 drawing=1 made=2 gone=3 -/
def F.Client_commit : FDef := ⟨1, 4,
  (.seq (.asg (.name 1) (.attr (.var 0) "drawing"))
  (.seq (.asg (.tup [2, 3]) (.meth (.attr (.var 0) "screen") "commit" (.cons (.attr (.var 1) "world") (.cons (.attr (.var 1) "taken") (.cons (.attr (.var 1) "calls") .nil)))))
  (.seq (.augattr (.var 0) "record" .add (.tup (.cons (.tup (.cons (.str "commit") (.cons (.attr (.var 1) "urgent") (.cons (.attr (.var 1) "begun") (.cons (.bi .len (.cons (.attr (.var 0) "deeds") .nil)) (.cons (.attr (.var 1) "taken") (.cons (.attr (.var 1) "calls") (.cons (.var 2) (.cons (.var 3) .nil))))))))) .nil)))
  (.seq (.setattr (.var 0) "taken" (.attr (.var 1) "taken"))
  (.seq (.setattr (.var 0) "awake" (.attr (.attr (.var 0) "screen") "awake"))
  (.seq (.setattr (.var 0) "world" (.attr (.var 1) "world"))
  (.setattr (.var 0) "drawing" .non)))))))⟩
/-! self=0 calls=1 made=2 -/
def F.Client_work : FDef := ⟨2, 3,
  (.seq (.ite (.or (.no (.attr (.var 0) "started")) (.no (.attr (.var 0) "whole")))
  (.ret (.bl false))
  .skip)
  (.seq (.expr (.meth (.var 0) "drop_late" .nil))
  (.seq (.while (.or (.notN (.attr (.var 0) "drawing")) (.idx (.meth (.var 0) "open_deeds" .nil) (.int (0))))
  (.seq (.ite (.isN (.attr (.var 0) "drawing"))
  (.expr (.meth (.var 0) "begin" .nil))
  .skip)
  (.seq (.ite (.meth (.var 0) "wants" .nil)
  (.ret (.bl false))
  .skip)
  (.seq (.asg (.name 2) (.bi .min2 (.cons (.var 1) (.cons (.attr (.attr (.var 0) "drawing") "left") .nil))))
  (.seq (.augattr (.attr (.var 0) "drawing") "left" .sub (.var 2))
  (.seq (.aug 1 .sub (.var 2))
  (.seq (.ite (.cmp .gt (.attr (.attr (.var 0) "drawing") "left") (.int (0)))
  (.ret (.bl false))
  .skip)
  (.expr (.meth (.var 0) "commit" .nil)))))))))
  (.ret (.bl true)))))⟩
/-! _law_script=0 _law_box_here=1 _law_program_here=2 _law_server=3 _law_k=4 _law_page=5 _law_parts=6 _law_one=7 _law_other=8 _law_client=9 _law_codes=10 _law_allowed=11 _law_told=12 _law_pair=13 _law_made=14 _law_commit=15 _law_number=16 _law_urgent=17 _law_calls=18 _law_row=19 -/
def F.law_k43 : FDef := ⟨1, 20,
  (.seq (.asg (.name 1) (.call "_law_box" (.cons (.var 0) (.cons (.int (0)) (.cons (.int (63)) .nil)))))
  (.seq (.asg (.name 2) (.call "_law_program" (.cons (.var 1) .nil)))
  (.seq (.asg (.name 3) (.new "Server" (.cons (.var 2) .nil)))
  (.seq (.for (.name 4) (.range (.cons (.bi .len (.cons (.idx (.var 2) (.int (3))) .nil)) .nil))
  (.ite (.cmp .eq (.call "_law_draw" (.cons (.var 1) (.cons (.int (2)) .nil))) (.int (0)))
  (.expr (.meth (.var 3) "resolve" (.cons (.var 4) .nil)))
  .skip))
  (.seq (.asg (.name 5) (.meth (.var 3) "render" .nil))
  (.seq (.asg (.name 6) (.bm .join (.str "") (.cons (.lcomp (.for1 [4] (.name 4) (.range (.cons (.bi .len (.cons (.idx (.var 2) (.int (3))) .nil)) .nil)) (.bl true) (.cons (.meth (.var 3) "resolve" (.cons (.var 4) .nil)) .nil))) .nil)))
  (.seq (.asg (.name 7) (.new "Client" (.cons (.var 2) .nil)))
  (.seq (.asg (.name 8) (.new "Client" (.cons (.var 2) .nil)))
  (.seq (.for (.name 9) (.cons (.lst (.cons (.var 7) (.cons (.var 8) .nil))) .nil)
  (.expr (.meth (.var 9) "feed" (.cons (.bin .add (.var 5) (.var 6)) .nil))))
  (.seq (.for (.name 4) (.range (.cons (.call "_law_draw" (.cons (.var 1) (.cons (.int (9)) .nil))) .nil))
  (.seq (.asg (.name 16) (.call "_law_draw" (.cons (.var 1) (.cons (.int (14)) .nil))))
  (.seq (.asg (.name 17) (.cmp .eq (.call "_law_draw" (.cons (.var 1) (.cons (.int (2)) .nil))) (.int (0))))
  (.ite (.no (.call "_law_same" (.cons (.meth (.var 7) "event" (.cons (.var 16) (.cons (.var 17) .nil))) (.cons (.meth (.var 8) "event" (.cons (.var 16) (.cons (.var 17) .nil))) .nil))))
  (.ret (.bl false))
  .skip))))
  (.seq (.expr (.meth (.var 7) "start" .nil))
  (.seq (.expr (.meth (.var 8) "start" .nil))
  (.seq (.asg (.name 10) (.lcomp (.for1 [4] (.name 4) (.range (.cons (.bi .len (.cons (.idx (.var 2) (.int (1))) .nil)) .nil)) (.cmp .gt (.call "_law_draw" (.cons (.var 1) (.cons (.int (6)) .nil))) (.int (0))) (.cons (.var 4) .nil))))
  (.seq (.for (.name 4) (.cons (.var 10) .nil)
  (.seq (.expr (.meth (.var 7) "code" (.cons (.var 4) .nil)))
  (.expr (.meth (.var 8) "code" (.cons (.var 4) .nil)))))
  (.seq (.asg (.name 11) (.int (0)))
  (.seq (.asg (.name 12) (.bl false))
  (.seq (.for (.name 4) (.range (.cons (.bin .add (.int (1)) (.call "_law_draw" (.cons (.var 1) (.cons (.int (6)) .nil)))) .nil))
  (.seq (.asg (.name 18) (.call "_law_draw" (.cons (.var 1) (.cons (.int (6)) .nil))))
  (.seq (.asg (.name 11) (.bin .add (.var 11) (.var 18)))
  (.asg (.name 12) (.meth (.var 7) "work" (.cons (.var 18) .nil))))))
  (.seq (.ite (.no (.call "_law_same" (.cons (.meth (.var 8) "work" (.cons (.var 11) .nil)) (.cons (.var 12) .nil))))
  (.ret (.bl false))
  .skip)
  (.seq (.for (.name 13) (.cons (.lst (.cons (.tup (.cons (.meth (.var 7) "sight" .nil) (.cons (.meth (.var 8) "sight" .nil) .nil))) (.cons (.tup (.cons (.meth (.var 7) "nodes" .nil) (.cons (.meth (.var 8) "nodes" .nil) .nil))) (.cons (.tup (.cons (.attr (.var 7) "record") (.cons (.attr (.var 8) "record") .nil))) (.cons (.tup (.cons (.attr (.var 7) "awake") (.cons (.attr (.var 8) "awake") .nil))) (.cons (.tup (.cons (.attr (.var 7) "taken") (.cons (.attr (.var 8) "taken") .nil))) (.cons (.tup (.cons (.attr (.var 7) "world") (.cons (.attr (.var 8) "world") .nil))) .nil))))))) .nil)
  (.ite (.no (.call "_law_same" (.cons (.idx (.var 13) (.int (0))) (.cons (.idx (.var 13) (.int (1))) .nil))))
  (.ret (.bl false))
  .skip))
  (.seq (.asg (.name 14) (.int (0)))
  (.seq (.for (.name 15) (.cons (.attr (.var 7) "record") .nil)
  (.asg (.name 14) (.bin .add (.var 14) (.coll .sum (.cons (.lcomp (.for1 [19] (.name 19) (.cons (.idx (.var 15) (.int (5))) .nil) (.bl true) (.cons (.idx (.var 19) (.int (1))) .nil))) .nil)))))
  (.ret (.cmp .le (.var 14) (.var 11))))))))))))))))))))))))⟩
/-! _law_script=0 _law_box_here=1 _law_program_here=2 _law_server=3 _law_k=4 _law_page=5 _law_one=6 _law_other=7 _law_client=8 _law_late=9 _law_urgent=10 _law_calls=11 _law_told=12 _law_pair=13 -/
def F.law_k44 : FDef := ⟨1, 14,
  (.seq (.asg (.name 1) (.call "_law_box" (.cons (.var 0) (.cons (.int (0)) (.cons (.int (63)) .nil)))))
  (.seq (.asg (.name 2) (.call "_law_program" (.cons (.var 1) .nil)))
  (.seq (.asg (.name 3) (.new "Server" (.cons (.var 2) .nil)))
  (.seq (.for (.name 4) (.range (.cons (.bi .len (.cons (.idx (.var 2) (.int (3))) .nil)) .nil))
  (.ite (.cmp .eq (.call "_law_draw" (.cons (.var 1) (.cons (.int (2)) .nil))) (.int (0)))
  (.expr (.meth (.var 3) "resolve" (.cons (.var 4) .nil)))
  .skip))
  (.seq (.asg (.name 5) (.meth (.var 3) "render" .nil))
  (.seq (.asg (.name 6) (.new "Client" (.cons (.var 2) .nil)))
  (.seq (.asg (.name 7) (.new "Client" (.cons (.var 2) .nil)))
  (.seq (.for (.name 8) (.cons (.lst (.cons (.var 6) (.cons (.var 7) .nil))) .nil)
  (.seq (.expr (.meth (.var 8) "feed" (.cons (.var 5) .nil)))
  (.seq (.expr (.meth (.var 8) "start" .nil))
  (.for (.name 4) (.range (.cons (.bi .len (.cons (.idx (.var 2) (.int (1))) .nil)) .nil))
  (.expr (.meth (.var 8) "code" (.cons (.var 4) .nil)))))))
  (.seq (.asg (.name 9) (.call "_law_draw" (.cons (.var 1) (.cons (.int (12)) .nil))))
  (.seq (.asg (.name 10) (.call "_law_draw" (.cons (.var 1) (.cons (.int (12)) .nil))))
  (.seq (.ite (.no (.call "_law_same" (.cons (.meth (.var 6) "event" (.cons (.var 9) (.cons (.bl false) .nil))) (.cons (.meth (.var 7) "event" (.cons (.var 9) (.cons (.bl false) .nil))) .nil))))
  (.ret (.bl false))
  .skip)
  (.seq (.expr (.meth (.var 6) "work" (.cons (.call "_law_draw" (.cons (.var 1) (.cons (.int (4)) .nil))) .nil)))
  (.seq (.ite (.cmp .gt (.bi .len (.cons (.attr (.var 6) "record") .nil)) (.int (0)))
  (.ret (.bl true))
  .skip)
  (.seq (.ite (.no (.call "_law_same" (.cons (.meth (.var 6) "event" (.cons (.var 10) (.cons (.bl true) .nil))) (.cons (.meth (.var 7) "event" (.cons (.var 10) (.cons (.bl true) .nil))) .nil))))
  (.ret (.bl false))
  .skip)
  (.seq (.for (.name 4) (.range (.cons (.int (6)) .nil))
  (.seq (.asg (.name 11) (.call "_law_draw" (.cons (.var 1) (.cons (.int (5)) .nil))))
  (.seq (.ite (.cmp .lt (.bi .len (.cons (.attr (.var 6) "deeds") .nil)) (.int (2)))
  (.asg (.name 11) (.int (100)))
  .skip)
  (.seq (.asg (.name 12) (.meth (.var 6) "work" (.cons (.var 11) .nil)))
  (.seq (.ite (.and (.no (.call "_law_same" (.cons (.meth (.var 7) "work" (.cons (.var 11) .nil)) (.cons (.var 12) .nil)))) (.cmp .gt (.bi .len (.cons (.attr (.var 6) "deeds") .nil)) (.int (1))))
  (.ret (.bl false))
  .skip)
  (.ite (.cmp .gt (.bi .len (.cons (.attr (.var 6) "deeds") .nil)) (.int (1)))
  (.for (.name 13) (.cons (.lst (.cons (.tup (.cons (.meth (.var 6) "sight" .nil) (.cons (.meth (.var 7) "sight" .nil) .nil))) (.cons (.tup (.cons (.meth (.var 6) "nodes" .nil) (.cons (.meth (.var 7) "nodes" .nil) .nil))) (.cons (.tup (.cons (.attr (.var 6) "record") (.cons (.attr (.var 7) "record") .nil))) (.cons (.tup (.cons (.attr (.var 6) "awake") (.cons (.attr (.var 7) "awake") .nil))) (.cons (.tup (.cons (.attr (.var 6) "taken") (.cons (.attr (.var 7) "taken") .nil))) .nil)))))) .nil)
  (.ite (.no (.call "_law_same" (.cons (.idx (.var 13) (.int (0))) (.cons (.idx (.var 13) (.int (1))) .nil))))
  (.ret (.bl false))
  .skip))
  .skip))))))
  (.ret (.bl true)))))))))))))))))⟩
/-! nodes=0 found=1 node=2 -/
def F.boxes_in : FDef := ⟨1, 3,
  (.seq (.asg (.name 1) (.lst .nil))
  (.seq (.for (.name 2) (.cons (.var 0) .nil)
  (.ite (.cmp .eq (.idx (.var 2) (.int (0))) (.str "box"))
  (.seq (.expr (.bm .append (.var 1) (.cons (.tup (.cons (.idx (.var 2) (.int (1))) (.cons (.idx (.var 2) (.int (3))) .nil))) .nil)))
  (.expr (.bm .extend (.var 1) (.cons (.call "boxes_in" (.cons (.idx (.var 2) (.int (3))) .nil)) .nil))))
  .skip))
  (.ret (.var 1))))⟩
/-! nodes=0 -/
def F.families : FDef := ⟨1, 1,
  (.ret (.bin .add (.lst (.cons (.tup (.cons .non (.cons (.var 0) .nil))) .nil)) (.call "boxes_in" (.cons (.var 0) .nil))))⟩
/-! nodes=0 found=1 node=2 -/
def F.all_nodes : FDef := ⟨1, 3,
  (.seq (.asg (.name 1) (.lst .nil))
  (.seq (.for (.name 2) (.cons (.var 0) .nil)
  (.seq (.expr (.bm .append (.var 1) (.cons (.var 2) .nil)))
  (.ite (.cmp .eq (.idx (.var 2) (.int (0))) (.str "box"))
  (.expr (.bm .extend (.var 1) (.cons (.call "all_nodes" (.cons (.idx (.var 2) (.int (3))) .nil)) .nil)))
  .skip)))
  (.ret (.var 1))))⟩
/-! nodes=0 node=1 -/
def F.numbers_of : FDef := ⟨1, 2,
  (.ret (.lcomp (.for1 [1] (.name 1) (.cons (.var 0) .nil) (.bl true) (.cons (.idx (.var 1) (.int (1))) .nil))))⟩
/-! places=0 lengths=1 start=2 left=3 found=4 least=5 place=6 other=7 -/
def F.longest : FDef := ⟨1, 8,
  (.seq (.asg (.name 1) (.bin .mul (.lst (.cons (.int (1)) .nil)) (.bi .len (.cons (.var 0) .nil))))
  (.seq (.for (.name 2) (.range (.cons (.bin .sub (.bi .len (.cons (.var 0) .nil)) (.int (1))) (.cons (.neg (.int (1))) (.cons (.neg (.int (1))) .nil))))
  (.for (.name 7) (.range (.cons (.bin .add (.var 2) (.int (1))) (.cons (.bi .len (.cons (.var 0) .nil)) .nil)))
  (.ite (.cmp .gt (.idx (.var 0) (.var 7)) (.idx (.var 0) (.var 2)))
  (.setidx (.var 1) (.var 2) (.bi .max2 (.cons (.idx (.var 1) (.var 2)) (.cons (.bin .add (.idx (.var 1) (.var 7)) (.int (1))) .nil))))
  .skip)))
  (.seq (.asg (.name 3) (.coll .maxd (.cons (.var 1) .nil)))
  (.seq (.asg (.name 4) (.lst .nil))
  (.seq (.asg (.name 5) (.neg (.int (1))))
  (.seq (.for (.tup [2, 6]) (.enum (.var 0))
  (.ite (.and (.cmp .eq (.idx (.var 1) (.var 2)) (.var 3)) (.and (.cmp .gt (.var 6) (.var 5)) (.cmp .gt (.var 3) (.int (0)))))
  (.seq (.expr (.bm .append (.var 4) (.cons (.var 2) .nil)))
  (.seq (.asg (.name 5) (.var 6))
  (.aug 3 .sub (.int (1)))))
  .skip))
  (.ret (.var 4))))))))⟩
/-! before=0 after=1 old=2 common=3 number=4 place=5 -/
def F.kept_row : FDef := ⟨2, 6,
  (.seq (.asg (.name 2) (.call "numbers_of" (.cons (.var 0) .nil)))
  (.seq (.asg (.name 3) (.lcomp (.for1 [4] (.name 4) (.cons (.call "numbers_of" (.cons (.var 1) .nil)) .nil) (.cmp .isin (.var 4) (.var 2)) (.cons (.var 4) .nil))))
  (.ret (.lcomp (.for1 [5] (.name 5) (.cons (.call "longest" (.cons (.lcomp (.for1 [4] (.name 4) (.cons (.var 3) .nil) (.bl true) (.cons (.bm .index (.var 2) (.cons (.var 4) .nil)) .nil))) .nil)) .nil) (.bl true) (.cons (.idx (.var 3) (.var 5)) .nil))))))⟩
/-! before=0 after=1 known=2 parent=3 children=4 -/
def F.rows_of : FDef := ⟨2, 5,
  (.seq (.asg (.name 2) (.coll .dict (.cons (.call "families" (.cons (.var 0) .nil)) .nil)))
  (.ret (.lcomp (.for1 [3, 4] (.tup [3, 4]) (.cons (.call "families" (.cons (.var 1) .nil)) .nil) (.bl true) (.cons (.tup (.cons (.var 3) (.cons (.call "kept_row" (.cons (.bm .get2 (.var 2) (.cons (.var 3) (.cons (.tup .nil) .nil))) (.cons (.var 4) .nil))) (.cons (.var 4) .nil)))) .nil)))))⟩
/-! before=0 after=1 here=2 found=3 node=4 -/
def F.takes : FDef := ⟨2, 5,
  (.seq (.asg (.name 2) (.call "numbers_of" (.cons (.call "all_nodes" (.cons (.var 1) .nil)) .nil)))
  (.seq (.asg (.name 3) (.lst .nil))
  (.seq (.for (.name 4) (.cons (.call "all_nodes" (.cons (.var 0) .nil)) .nil)
  (.ite (.and (.cmp .notin (.idx (.var 4) (.int (1))) (.var 2)) (.cmp .isin (.call "parent_of" (.cons (.var 0) (.cons (.idx (.var 4) (.int (1))) .nil))) (.bin .add (.lst (.cons .non .nil)) (.var 2))))
  (.expr (.bm .append (.var 3) (.cons (.tup (.cons (.str "take") (.cons (.idx (.var 4) (.int (1))) .nil))) .nil)))
  .skip))
  (.ret (.var 3)))))⟩
/-! nodes=0 number=1 parent=2 children=3 -/
def F.parent_of : FDef := ⟨2, 4,
  (.seq (.for (.tup [2, 3]) (.cons (.call "families" (.cons (.var 0) .nil)) .nil)
  (.ite (.cmp .isin (.var 1) (.call "numbers_of" (.cons (.var 3) .nil)))
  (.ret (.var 2))
  .skip))
  (.ret .non))⟩
/-! before=0 after=1 old=2 found=3 node=4 -/
def F.changes : FDef := ⟨2, 5,
  (.seq (.asg (.name 2) (.dcomp (.for1 [4] (.name 4) (.cons (.call "all_nodes" (.cons (.var 0) .nil)) .nil) (.bl true) (.cons (.idx (.var 4) (.int (1))) (.cons (.var 4) .nil)))))
  (.seq (.asg (.name 3) (.lst .nil))
  (.seq (.for (.name 4) (.cons (.call "all_nodes" (.cons (.var 1) .nil)) .nil)
  (.ite (.cmp .notin (.idx (.var 4) (.int (1))) (.var 2))
  (.expr (.bm .append (.var 3) (.cons (.tup (.cons (.str "make") (.cons (.ite (.cmp .eq (.idx (.var 4) (.int (0))) (.str "box")) (.bin .add (.slice (.var 4) .non (.int (3))) (.tup (.cons (.tup .nil) .nil))) (.var 4)) .nil))) .nil)))
  (.ite (.and (.cmp .eq (.idx (.var 4) (.int (0))) (.str "text")) (.cmp .ne (.var 4) (.idx (.var 2) (.idx (.var 4) (.int (1))))))
  (.expr (.bm .append (.var 3) (.cons (.var 4) .nil)))
  (.ite (.and (.cmp .eq (.idx (.var 4) (.int (0))) (.str "input")) (.cmp .ne (.var 4) (.idx (.var 2) (.idx (.var 4) (.int (1))))))
  (.expr (.bm .append (.var 3) (.cons (.tup (.cons (.str "value") (.cons (.idx (.var 4) (.int (1))) (.cons (.idx (.var 4) (.int (3))) .nil)))) .nil)))
  .skip))))
  (.ret (.var 3)))))⟩
/-! before=0 after=1 found=2 parent=3 kept=4 children=5 numbers=6 place=7 behind=8 -/
def F.puts : FDef := ⟨2, 9,
  (.seq (.asg (.name 2) (.lst .nil))
  (.seq (.for (.tup [3, 4, 5]) (.cons (.call "rows_of" (.cons (.var 0) (.cons (.var 1) .nil))) .nil)
  (.seq (.asg (.name 6) (.call "numbers_of" (.cons (.var 5) .nil)))
  (.for (.name 7) (.range (.cons (.bin .sub (.bi .len (.cons (.var 6) .nil)) (.int (1))) (.cons (.neg (.int (1))) (.cons (.neg (.int (1))) .nil))))
  (.ite (.cmp .notin (.idx (.var 6) (.var 7)) (.var 4))
  (.seq (.asg (.name 8) (.ite (.cmp .lt (.bin .add (.var 7) (.int (1))) (.bi .len (.cons (.var 6) .nil))) (.idx (.var 6) (.bin .add (.var 7) (.int (1)))) .non))
  (.expr (.bm .append (.var 2) (.cons (.tup (.cons (.str "put") (.cons (.idx (.var 6) (.var 7)) (.cons (.var 3) (.cons (.var 8) .nil))))) .nil))))
  .skip))))
  (.ret (.var 2))))⟩
/-! before=0 after=1 -/
def F.patch : FDef := ⟨2, 2,
  (.ret (.coll .tuple (.cons (.bin .add (.bin .add (.call "takes" (.cons (.var 0) (.cons (.var 1) .nil))) (.call "changes" (.cons (.var 0) (.cons (.var 1) .nil)))) (.call "puts" (.cons (.var 0) (.cons (.var 1) .nil)))) .nil)))⟩
/-! node=0 -/
def F.own_part : FDef := ⟨1, 1,
  (.ret (.ite (.cmp .eq (.idx (.var 0) (.int (0))) (.str "box")) (.slice (.var 0) .non (.int (3))) (.var 0)))⟩
/-! self=0 nodes=1 node=2 parent=3 children=4 -/
def F.Tree_init : FDef := ⟨2, 5,
  (.seq (.setattr (.var 0) "nodes" (.dcomp (.for1 [2] (.name 2) (.cons (.call "all_nodes" (.cons (.var 1) .nil)) .nil) (.bl true) (.cons (.idx (.var 2) (.int (1))) (.cons (.call "own_part" (.cons (.var 2) .nil)) .nil)))))
  (.setattr (.var 0) "children" (.dcomp (.for1 [3, 4] (.tup [3, 4]) (.cons (.call "families" (.cons (.var 1) .nil)) .nil) (.bl true) (.cons (.var 3) (.cons (.call "numbers_of" (.cons (.var 4) .nil)) .nil))))))⟩
/-! self=0 number=1 parent=2 -/
def F.Tree_take_out : FDef := ⟨2, 3,
  (.for (.name 2) (.cons (.attr (.var 0) "children") .nil)
  (.ite (.cmp .isin (.var 1) (.idx (.attr (.var 0) "children") (.var 2)))
  (.expr (.bm .remove (.idx (.attr (.var 0) "children") (.var 2)) (.cons (.var 1) .nil)))
  .skip))⟩
/-! self=0 operation=1 -/
def F.Tree_apply : FDef := ⟨2, 2,
  (.ite (.cmp .eq (.idx (.var 1) (.int (0))) (.str "take"))
  (.expr (.meth (.var 0) "take_out" (.cons (.idx (.var 1) (.int (1))) .nil)))
  (.ite (.cmp .eq (.idx (.var 1) (.int (0))) (.str "text"))
  (.setidx (.attr (.var 0) "nodes") (.idx (.var 1) (.int (1))) (.var 1))
  (.ite (.cmp .eq (.idx (.var 1) (.int (0))) (.str "value"))
  (.setidx (.attr (.var 0) "nodes") (.idx (.var 1) (.int (1))) (.bin .add (.slice (.idx (.attr (.var 0) "nodes") (.idx (.var 1) (.int (1)))) .non (.int (3))) (.tup (.cons (.idx (.var 1) (.int (2))) .nil))))
  (.ite (.cmp .eq (.idx (.var 1) (.int (0))) (.str "make"))
  (.seq (.setidx (.attr (.var 0) "nodes") (.idx (.idx (.var 1) (.int (1))) (.int (1))) (.call "own_part" (.cons (.idx (.var 1) (.int (1))) .nil)))
  (.ite (.cmp .eq (.idx (.idx (.var 1) (.int (1))) (.int (0))) (.str "box"))
  (.setidx (.attr (.var 0) "children") (.idx (.idx (.var 1) (.int (1))) (.int (1))) (.lst .nil))
  .skip))
  (.expr (.meth (.var 0) "put" (.cons (.idx (.var 1) (.int (1))) (.cons (.idx (.var 1) (.int (2))) (.cons (.idx (.var 1) (.int (3))) .nil)))))))))⟩
/-! self=0 number=1 parent=2 behind=3 row=4 -/
def F.Tree_put : FDef := ⟨4, 5,
  (.seq (.expr (.meth (.var 0) "take_out" (.cons (.var 1) .nil)))
  (.seq (.asg (.name 4) (.idx (.attr (.var 0) "children") (.var 2)))
  (.expr (.bm .insert (.var 4) (.cons (.ite (.isN (.var 3)) (.bi .len (.cons (.var 4) .nil)) (.bm .index (.var 4) (.cons (.var 3) .nil))) (.cons (.var 1) .nil))))))⟩
/-! self=0 parent=1 found=2 number=3 node=4 -/
def F.Tree_tree : FDef := ⟨2, 5,
  (.seq (.asg (.name 2) (.lst .nil))
  (.seq (.for (.name 3) (.cons (.idx (.attr (.var 0) "children") (.var 1)) .nil)
  (.seq (.asg (.name 4) (.idx (.attr (.var 0) "nodes") (.var 3)))
  (.expr (.bm .append (.var 2) (.cons (.ite (.cmp .eq (.idx (.var 4) (.int (0))) (.str "box")) (.bin .add (.var 4) (.tup (.cons (.meth (.var 0) "tree" (.cons (.var 3) .nil)) .nil))) (.var 4)) .nil)))))
  (.ret (.coll .tuple (.cons (.var 2) .nil)))))⟩
/-! tree=0 operations=1 made=2 operation=3 -/
def F.apply_patch : FDef := ⟨2, 4,
  (.seq (.asg (.name 2) (.new "Tree" (.cons (.var 0) .nil)))
  (.seq (.for (.name 3) (.cons (.var 1) .nil)
  (.expr (.meth (.var 2) "apply" (.cons (.var 3) .nil))))
  (.ret (.meth (.var 2) "tree" (.cons .non .nil)))))⟩
/-! _law_box_here=0 _law_parents=1 _law_kinds=2 _law_k=3 _law_boxes=4 _law_parent=5 _law_j=6 -/
def F.L_forest : FDef := ⟨1, 7,
  (.seq (.asg (.name 1) (.lst .nil))
  (.seq (.asg (.name 2) (.lst .nil))
  (.seq (.for (.name 3) (.range (.cons (.bin .add (.int (1)) (.call "_law_draw" (.cons (.var 0) (.cons (.int (12)) .nil)))) .nil))
  (.seq (.asg (.name 4) (.lcomp (.for1 [6] (.name 6) (.range (.cons (.var 3) .nil)) (.cmp .eq (.idx (.var 2) (.var 6)) (.str "box")) (.cons (.var 6) .nil))))
  (.seq (.asg (.name 5) (.neg (.int (1))))
  (.seq (.ite (.and (.cmp .gt (.bi .len (.cons (.var 4) .nil)) (.int (0))) (.cmp .gt (.call "_law_draw" (.cons (.var 0) (.cons (.int (3)) .nil))) (.int (0))))
  (.asg (.name 5) (.idx (.var 4) (.call "_law_draw" (.cons (.var 0) (.cons (.bi .len (.cons (.var 4) .nil)) .nil)))))
  .skip)
  (.seq (.expr (.bm .append (.var 1) (.cons (.var 5) .nil)))
  (.expr (.bm .append (.var 2) (.cons (.idx (.lst (.cons (.str "box") (.cons (.str "text") (.cons (.str "text") (.cons (.str "input") .nil))))) (.call "_law_draw" (.cons (.var 0) (.cons (.int (4)) .nil)))) .nil))))))))
  (.ret (.lst (.cons (.var 1) (.cons (.var 2) .nil)))))))⟩
/-! _law_box_here=0 _law_forest_here=1 _law_here_here=2 _law_texts=3 _law_parent=4 _law_rows=5 _law_nodes=6 _law_turn=7 _law_k=8 -/
def F.L_arranged : FDef := ⟨5, 9,
  (.seq (.asg (.name 5) (.lcomp (.for1 [8] (.name 8) (.range (.cons (.bi .len (.cons (.var 2) .nil)) .nil)) (.and (.idx (.var 2) (.var 8)) (.cmp .eq (.idx (.idx (.var 1) (.int (0))) (.var 8)) (.var 4))) (.cons (.var 8) .nil))))
  (.seq (.asg (.name 6) (.lst .nil))
  (.seq (.for (.name 7) (.range (.cons (.bi .len (.cons (.var 5) .nil)) .nil))
  (.seq (.asg (.name 8) (.bm .popAt (.var 5) (.cons (.call "_law_draw" (.cons (.var 0) (.cons (.bi .len (.cons (.var 5) .nil)) .nil))) .nil)))
  (.ite (.cmp .eq (.idx (.idx (.var 1) (.int (1))) (.var 8)) (.str "text"))
  (.expr (.bm .append (.var 6) (.cons (.tup (.cons (.str "text") (.cons (.var 8) (.cons (.idx (.var 3) (.var 8)) .nil)))) .nil)))
  (.ite (.cmp .eq (.idx (.idx (.var 1) (.int (1))) (.var 8)) (.str "input"))
  (.expr (.bm .append (.var 6) (.cons (.tup (.cons (.str "input") (.cons (.var 8) (.cons (.str "q") (.cons (.bi .len (.cons (.idx (.var 3) (.var 8)) .nil)) .nil))))) .nil)))
  (.expr (.bm .append (.var 6) (.cons (.tup (.cons (.str "box") (.cons (.var 8) (.cons (.idx (.lst (.cons (.str "p") (.cons (.str "div") .nil))) (.bin .mod (.bi .int (.cons (.var 8) .nil)) (.int (2)))) (.cons (.call "_law_arranged" (.cons (.var 0) (.cons (.var 1) (.cons (.var 2) (.cons (.var 3) (.cons (.var 8) .nil)))))) .nil))))) .nil)))))))
  (.ret (.coll .tuple (.cons (.var 6) .nil))))))⟩
/-! _law_box_here=0 _law_forest_here=1 _law_here_here=2 _law_k=3 _law_parent=4 -/
def F.L_here : FDef := ⟨2, 5,
  (.seq (.asg (.name 2) (.lst .nil))
  (.seq (.for (.name 3) (.range (.cons (.bi .len (.cons (.idx (.var 1) (.int (0))) .nil)) .nil))
  (.seq (.asg (.name 4) (.idx (.idx (.var 1) (.int (0))) (.var 3)))
  (.expr (.bm .append (.var 2) (.cons (.and (.cmp .gt (.call "_law_draw" (.cons (.var 0) (.cons (.int (4)) .nil))) (.int (0))) (.or (.cmp .eq (.var 4) (.neg (.int (1)))) (.idx (.var 2) (.var 4)))) .nil)))))
  (.ret (.var 2))))⟩
/-! _law_box_here=0 _law_forest_here=1 _law_texts=2 _law_before=3 _law_other=4 _law_after=5 _law_k=6 -/
def F.L_two_trees : FDef := ⟨1, 7,
  (.seq (.asg (.name 1) (.call "_law_forest" (.cons (.var 0) .nil)))
  (.seq (.asg (.name 2) (.lcomp (.for1 [6] (.name 6) (.range (.cons (.bi .len (.cons (.idx (.var 1) (.int (0))) .nil)) .nil)) (.bl true) (.cons (.idx (.lst (.cons (.str "a") (.cons (.str "b") (.cons (.str "cc") .nil)))) (.call "_law_draw" (.cons (.var 0) (.cons (.int (3)) .nil)))) .nil))))
  (.seq (.asg (.name 3) (.call "_law_arranged" (.cons (.var 0) (.cons (.var 1) (.cons (.call "_law_here" (.cons (.var 0) (.cons (.var 1) .nil))) (.cons (.var 2) (.cons (.neg (.int (1))) .nil)))))))
  (.seq (.asg (.name 4) (.lcomp (.for1 [6] (.name 6) (.range (.cons (.bi .len (.cons (.var 2) .nil)) .nil)) (.bl true) (.cons (.idx (.lst (.cons (.idx (.var 2) (.var 6)) (.cons (.str "new") .nil))) (.bi .int (.cons (.cmp .eq (.call "_law_draw" (.cons (.var 0) (.cons (.int (4)) .nil))) (.int (0))) .nil))) .nil))))
  (.seq (.asg (.name 5) (.call "_law_arranged" (.cons (.var 0) (.cons (.var 1) (.cons (.call "_law_here" (.cons (.var 0) (.cons (.var 1) .nil))) (.cons (.var 4) (.cons (.neg (.int (1))) .nil)))))))
  (.ret (.lst (.cons (.var 3) (.cons (.var 5) .nil)))))))))⟩
/-! _law_nodes=0 _law_rows=1 _law_node=2 -/
def F.L_all : FDef := ⟨1, 3,
  (.seq (.asg (.name 1) (.lst .nil))
  (.seq (.for (.name 2) (.cons (.var 0) .nil)
  (.seq (.expr (.bm .append (.var 1) (.cons (.var 2) .nil)))
  (.ite (.cmp .eq (.idx (.var 2) (.int (0))) (.str "box"))
  (.asg (.name 1) (.bin .add (.var 1) (.call "_law_all" (.cons (.idx (.var 2) (.int (3))) .nil))))
  .skip)))
  (.ret (.var 1))))⟩
/-! _law_nodes=0 _law_rows=1 _law_node=2 -/
def F.L_families : FDef := ⟨1, 3,
  (.seq (.asg (.name 1) (.lst (.cons (.lst (.cons .non (.cons (.coll .list (.cons (.var 0) .nil)) .nil))) .nil)))
  (.seq (.for (.name 2) (.cons (.call "_law_all" (.cons (.var 0) .nil)) .nil)
  (.ite (.cmp .eq (.idx (.var 2) (.int (0))) (.str "box"))
  (.expr (.bm .append (.var 1) (.cons (.lst (.cons (.idx (.var 2) (.int (1))) (.cons (.coll .list (.cons (.idx (.var 2) (.int (3))) .nil)) .nil))) .nil)))
  .skip))
  (.ret (.var 1))))⟩
/-! _law_places=0 _law_best=1 _law_rows=2 _law_k=3 _law_row=4 _law_longer=5 -/
def F.L_longest : FDef := ⟨1, 6,
  (.seq (.asg (.name 1) (.lst .nil))
  (.seq (.asg (.name 2) (.lst (.cons (.lst .nil) .nil)))
  (.seq (.for (.name 3) (.range (.cons (.bi .len (.cons (.var 0) .nil)) .nil))
  (.seq (.asg (.name 5) (.lst .nil))
  (.seq (.for (.name 4) (.cons (.var 2) .nil)
  (.ite (.or (.cmp .eq (.bi .len (.cons (.var 4) .nil)) (.int (0))) (.cmp .lt (.idx (.var 0) (.idx (.var 4) (.bin .sub (.bi .len (.cons (.var 4) .nil)) (.int (1))))) (.idx (.var 0) (.var 3))))
  (.expr (.bm .append (.var 5) (.cons (.bin .add (.var 4) (.lst (.cons (.var 3) .nil))) .nil)))
  .skip))
  (.asg (.name 2) (.bin .add (.var 2) (.var 5))))))
  (.seq (.for (.name 4) (.cons (.var 2) .nil)
  (.ite (.or (.cmp .gt (.bi .len (.cons (.var 4) .nil)) (.bi .len (.cons (.var 1) .nil))) (.and (.cmp .eq (.bi .len (.cons (.var 4) .nil)) (.bi .len (.cons (.var 1) .nil))) (.cmp .ltl (.var 4) (.var 1))))
  (.asg (.name 1) (.var 4))
  .skip))
  (.ret (.var 1))))))⟩
/-! _law_before=0 _law_after=1 _law_parent=2 _law_old=3 _law_family=4 _law_new=5 _law_common=6 _law_places=7 _law_number=8 _law_k=9 _law_node=10 -/
def F.L_kept : FDef := ⟨3, 11,
  (.seq (.asg (.name 3) (.lst .nil))
  (.seq (.for (.name 4) (.cons (.call "_law_families" (.cons (.var 0) .nil)) .nil)
  (.ite (.cmp .eq (.idx (.var 4) (.int (0))) (.var 2))
  (.asg (.name 3) (.lcomp (.for1 [10] (.name 10) (.cons (.idx (.var 4) (.int (1))) .nil) (.bl true) (.cons (.idx (.var 10) (.int (1))) .nil))))
  .skip))
  (.seq (.asg (.name 5) (.lst .nil))
  (.seq (.for (.name 4) (.cons (.call "_law_families" (.cons (.var 1) .nil)) .nil)
  (.ite (.cmp .eq (.idx (.var 4) (.int (0))) (.var 2))
  (.asg (.name 5) (.lcomp (.for1 [10] (.name 10) (.cons (.idx (.var 4) (.int (1))) .nil) (.bl true) (.cons (.idx (.var 10) (.int (1))) .nil))))
  .skip))
  (.seq (.asg (.name 6) (.lcomp (.for1 [8] (.name 8) (.cons (.var 5) .nil) (.cmp .isin (.var 8) (.var 3)) (.cons (.var 8) .nil))))
  (.seq (.asg (.name 7) (.lcomp (.for1 [8] (.name 8) (.cons (.var 6) .nil) (.bl true) (.cons (.bm .index (.var 3) (.cons (.var 8) .nil)) .nil))))
  (.ret (.lcomp (.for1 [9] (.name 9) (.cons (.call "_law_longest" (.cons (.var 7) .nil)) .nil) (.bl true) (.cons (.idx (.var 6) (.var 9)) .nil))))))))))⟩
/-! _law_before=0 _law_after=1 _law_rows=2 _law_new=3 _law_old=4 _law_family=5 _law_found=6 _law_node=7 _law_kept_here=8 _law_behind=9 _law_row=10 -/
def F.L_due : FDef := ⟨2, 11,
  (.seq (.asg (.name 2) (.lst .nil))
  (.seq (.asg (.name 3) (.lcomp (.for1 [7] (.name 7) (.cons (.call "_law_all" (.cons (.var 1) .nil)) .nil) (.bl true) (.cons (.idx (.var 7) (.int (1))) .nil))))
  (.seq (.asg (.name 4) (.lcomp (.for1 [7] (.name 7) (.cons (.call "_law_all" (.cons (.var 0) .nil)) .nil) (.bl true) (.cons (.idx (.var 7) (.int (1))) .nil))))
  (.seq (.for (.name 5) (.cons (.call "_law_families" (.cons (.var 0) .nil)) .nil)
  (.ite (.or (.isN (.idx (.var 5) (.int (0)))) (.cmp .isin (.idx (.var 5) (.int (0))) (.var 3)))
  (.for (.name 7) (.cons (.idx (.var 5) (.int (1))) .nil)
  (.ite (.cmp .notin (.idx (.var 7) (.int (1))) (.var 3))
  (.expr (.bm .append (.var 2) (.cons (.lst (.cons (.bm .index (.var 4) (.cons (.idx (.var 7) (.int (1))) .nil)) (.cons (.tup (.cons (.str "take") (.cons (.idx (.var 7) (.int (1))) .nil))) .nil))) .nil)))
  .skip))
  .skip))
  (.seq (.asg (.name 6) (.lcomp (.for1 [10] (.name 10) (.cons (.coll .sorted (.cons (.var 2) .nil)) .nil) (.bl true) (.cons (.idx (.var 10) (.int (1))) .nil))))
  (.seq (.for (.name 7) (.cons (.call "_law_all" (.cons (.var 1) .nil)) .nil)
  (.ite (.and (.cmp .notin (.idx (.var 7) (.int (1))) (.var 4)) (.cmp .ne (.idx (.var 7) (.int (0))) (.str "box")))
  (.expr (.bm .append (.var 6) (.cons (.tup (.cons (.str "make") (.cons (.var 7) .nil))) .nil)))
  (.ite (.cmp .notin (.idx (.var 7) (.int (1))) (.var 4))
  (.expr (.bm .append (.var 6) (.cons (.tup (.cons (.str "make") (.cons (.tup (.cons (.str "box") (.cons (.idx (.var 7) (.int (1))) (.cons (.idx (.var 7) (.int (2))) (.cons (.tup .nil) .nil))))) .nil))) .nil)))
  (.ite (.and (.cmp .eq (.idx (.var 7) (.int (0))) (.str "text")) (.cmp .notin (.var 7) (.call "_law_all" (.cons (.var 0) .nil))))
  (.expr (.bm .append (.var 6) (.cons (.tup (.cons (.str "text") (.cons (.idx (.var 7) (.int (1))) (.cons (.idx (.var 7) (.int (2))) .nil)))) .nil)))
  (.ite (.and (.cmp .eq (.idx (.var 7) (.int (0))) (.str "input")) (.cmp .notin (.var 7) (.call "_law_all" (.cons (.var 0) .nil))))
  (.expr (.bm .append (.var 6) (.cons (.tup (.cons (.str "value") (.cons (.idx (.var 7) (.int (1))) (.cons (.idx (.var 7) (.int (3))) .nil)))) .nil)))
  .skip)))))
  (.seq (.for (.name 5) (.cons (.call "_law_families" (.cons (.var 1) .nil)) .nil)
  (.seq (.asg (.name 8) (.call "_law_kept" (.cons (.var 0) (.cons (.var 1) (.cons (.idx (.var 5) (.int (0))) .nil)))))
  (.seq (.asg (.name 9) .non)
  (.for (.name 7) (.cons (.rev (.idx (.var 5) (.int (1)))) .nil)
  (.seq (.ite (.cmp .notin (.idx (.var 7) (.int (1))) (.var 8))
  (.expr (.bm .append (.var 6) (.cons (.tup (.cons (.str "put") (.cons (.idx (.var 7) (.int (1))) (.cons (.idx (.var 5) (.int (0))) (.cons (.var 9) .nil))))) .nil)))
  .skip)
  (.asg (.name 9) (.idx (.var 7) (.int (1)))))))))
  (.ret (.coll .tuple (.cons (.var 6) .nil))))))))))⟩
/-! _law_script=0 _law_box_here=1 _law_trees=2 _law_found=3 -/
def F.law_k50 : FDef := ⟨1, 4,
  (.seq (.asg (.name 1) (.call "_law_box" (.cons (.var 0) (.cons (.int (0)) (.cons (.int (63)) .nil)))))
  (.seq (.asg (.name 2) (.call "_law_two_trees" (.cons (.var 1) .nil)))
  (.seq (.asg (.name 3) (.call "patch" (.cons (.idx (.var 2) (.int (0))) (.cons (.idx (.var 2) (.int (1))) .nil))))
  (.seq (.ite (.no (.call "_law_same" (.cons (.var 3) (.cons (.call "_law_due" (.cons (.idx (.var 2) (.int (0))) (.cons (.idx (.var 2) (.int (1))) .nil))) .nil))))
  (.ret (.bl false))
  .skip)
  (.ret (.call "_law_same" (.cons (.call "apply_patch" (.cons (.idx (.var 2) (.int (0))) (.cons (.var 3) .nil))) (.cons (.idx (.var 2) (.int (1))) .nil))))))))⟩
/-! _law_box_here=0 _law_forest_here=1 _law_texts=2 _law_before_here=3 _law_other=4 _law_after=5 _law_k=6 -/
def F.L_two_trees_2 : FDef := ⟨1, 7,
  (.seq (.asg (.name 1) (.call "_law_forest" (.cons (.var 0) .nil)))
  (.seq (.asg (.name 2) (.lcomp (.for1 [6] (.name 6) (.range (.cons (.bi .len (.cons (.idx (.var 1) (.int (0))) .nil)) .nil)) (.bl true) (.cons (.idx (.lst (.cons (.str "a") (.cons (.str "b") (.cons (.str "cc") .nil)))) (.call "_law_draw" (.cons (.var 0) (.cons (.int (3)) .nil)))) .nil))))
  (.seq (.asg (.name 3) (.call "_law_arranged" (.cons (.var 0) (.cons (.var 1) (.cons (.call "_law_here" (.cons (.var 0) (.cons (.var 1) .nil))) (.cons (.var 2) (.cons (.neg (.int (1))) .nil)))))))
  (.seq (.asg (.name 4) (.lcomp (.for1 [6] (.name 6) (.range (.cons (.bi .len (.cons (.var 2) .nil)) .nil)) (.bl true) (.cons (.idx (.lst (.cons (.idx (.var 2) (.var 6)) (.cons (.str "new") .nil))) (.bi .int (.cons (.cmp .eq (.call "_law_draw" (.cons (.var 0) (.cons (.int (4)) .nil))) (.int (0))) .nil))) .nil))))
  (.seq (.asg (.name 5) (.call "_law_arranged" (.cons (.var 0) (.cons (.var 1) (.cons (.call "_law_here" (.cons (.var 0) (.cons (.var 1) .nil))) (.cons (.var 4) (.cons (.neg (.int (1))) .nil)))))))
  (.ret (.lst (.cons (.var 3) (.cons (.var 5) .nil)))))))))⟩
/-! _law_nodes=0 _law_number=1 _law_made=2 _law_node=3 -/
def F.L_without : FDef := ⟨2, 4,
  (.seq (.asg (.name 2) (.lst .nil))
  (.seq (.for (.name 3) (.cons (.var 0) .nil)
  (.ite (.cmp .ne (.idx (.var 3) (.int (1))) (.var 1))
  (.seq (.ite (.cmp .eq (.idx (.var 3) (.int (0))) (.str "box"))
  (.asg (.name 3) (.bin .add (.slice (.var 3) .non (.int (3))) (.tup (.cons (.call "_law_without" (.cons (.idx (.var 3) (.int (3))) (.cons (.var 1) .nil))) .nil))))
  .skip)
  (.expr (.bm .append (.var 2) (.cons (.var 3) .nil))))
  .skip))
  (.ret (.coll .tuple (.cons (.var 2) .nil)))))⟩
/-! _law_nodes=0 _law_number=1 _law_value=2 _law_made=3 _law_node=4 -/
def F.L_value_at : FDef := ⟨3, 5,
  (.seq (.asg (.name 3) (.lst .nil))
  (.seq (.for (.name 4) (.cons (.var 0) .nil)
  (.ite (.cmp .eq (.idx (.var 4) (.int (1))) (.var 1))
  (.expr (.bm .append (.var 3) (.cons (.tup (.cons (.str "input") (.cons (.var 1) (.cons (.idx (.var 4) (.int (2))) (.cons (.var 2) .nil))))) .nil)))
  (.ite (.cmp .eq (.idx (.var 4) (.int (0))) (.str "box"))
  (.expr (.bm .append (.var 3) (.cons (.bin .add (.slice (.var 4) .non (.int (3))) (.tup (.cons (.call "_law_value_at" (.cons (.idx (.var 4) (.int (3))) (.cons (.var 1) (.cons (.var 2) .nil)))) .nil))) .nil)))
  (.expr (.bm .append (.var 3) (.cons (.var 4) .nil))))))
  (.ret (.coll .tuple (.cons (.var 3) .nil)))))⟩
/-! _law_nodes=0 _law_number=1 _law_characters=2 _law_made=3 _law_node=4 -/
def F.L_text : FDef := ⟨3, 5,
  (.seq (.asg (.name 3) (.lst .nil))
  (.seq (.for (.name 4) (.cons (.var 0) .nil)
  (.ite (.cmp .eq (.idx (.var 4) (.int (1))) (.var 1))
  (.expr (.bm .append (.var 3) (.cons (.tup (.cons (.str "text") (.cons (.var 1) (.cons (.var 2) .nil)))) .nil)))
  (.ite (.cmp .eq (.idx (.var 4) (.int (0))) (.str "box"))
  (.expr (.bm .append (.var 3) (.cons (.bin .add (.slice (.var 4) .non (.int (3))) (.tup (.cons (.call "_law_text" (.cons (.idx (.var 4) (.int (3))) (.cons (.var 1) (.cons (.var 2) .nil)))) .nil))) .nil)))
  (.expr (.bm .append (.var 3) (.cons (.var 4) .nil))))))
  (.ret (.coll .tuple (.cons (.var 3) .nil)))))⟩
/-! _law_rows=0 _law_node=1 _law_behind=2 _law_numbers=3 _law_at=4 _law_other=5 -/
def F.L_before : FDef := ⟨3, 6,
  (.seq (.asg (.name 3) (.lcomp (.for1 [5] (.name 5) (.cons (.var 0) .nil) (.bl true) (.cons (.idx (.var 5) (.int (1))) .nil))))
  (.seq (.asg (.name 4) (.bi .len (.cons (.var 0) .nil)))
  (.seq (.ite (.notN (.var 2))
  (.asg (.name 4) (.bm .index (.var 3) (.cons (.var 2) .nil)))
  .skip)
  (.ret (.coll .tuple (.cons (.bin .add (.bin .add (.slice (.var 0) .non (.var 4)) (.lst (.cons (.var 1) .nil))) (.slice (.var 0) (.var 4) .non)) .nil))))))⟩
/-! before=0 after=1 old=2 many=3 rows=4 operation=5 parent=6 kept=7 _=8 -/
def F.fewest : FDef := ⟨2, 9,
  (.seq (.asg (.name 2) (.call "numbers_of" (.cons (.call "all_nodes" (.cons (.var 0) .nil)) .nil)))
  (.seq (.asg (.name 3) (.bi .len (.cons (.lcomp (.for1 [5] (.name 5) (.cons (.call "puts" (.cons (.var 0) (.cons (.var 1) .nil))) .nil) (.cmp .isin (.idx (.var 5) (.int (1))) (.var 2)) (.cons (.var 5) .nil))) .nil)))
  (.seq (.asg (.name 4) (.gtup (.for1 [6, 7, 8] (.tup [6, 7, 8]) (.cons (.call "rows_of" (.cons (.var 0) (.cons (.var 1) .nil))) .nil) (.var 7) (.cons (.tup (.cons (.var 6) (.cons (.coll .tuple (.cons (.var 7) .nil)) .nil))) .nil))))
  (.ret (.tup (.cons (.var 3) (.cons (.var 4) .nil)))))))⟩
/-! _law_script=0 _law_box_here=1 _law_trees=2 _law_told=3 _law_rows=4 _law_family=5 _law_old=6 _law_due=7 _law_both=8 _law_node=9 _law_row=10 _law_operation=11 _law_kept_here=12 -/
def F.law_k52 : FDef := ⟨1, 13,
  (.seq (.asg (.name 1) (.call "_law_box" (.cons (.var 0) (.cons (.int (0)) (.cons (.int (63)) .nil)))))
  (.seq (.asg (.name 2) (.call "_law_two_trees" (.cons (.var 1) .nil)))
  (.seq (.asg (.name 3) (.call "fewest" (.cons (.idx (.var 2) (.int (0))) (.cons (.idx (.var 2) (.int (1))) .nil))))
  (.seq (.asg (.name 4) (.lst .nil))
  (.seq (.for (.name 5) (.cons (.call "_law_families" (.cons (.idx (.var 2) (.int (1))) .nil)) .nil)
  (.seq (.asg (.name 12) (.call "_law_kept" (.cons (.idx (.var 2) (.int (0))) (.cons (.idx (.var 2) (.int (1))) (.cons (.idx (.var 5) (.int (0))) .nil)))))
  (.ite (.cmp .gt (.bi .len (.cons (.var 12) .nil)) (.int (0)))
  (.expr (.bm .append (.var 4) (.cons (.tup (.cons (.idx (.var 5) (.int (0))) (.cons (.coll .tuple (.cons (.var 12) .nil)) .nil))) .nil)))
  .skip)))
  (.seq (.asg (.name 6) (.lcomp (.for1 [9] (.name 9) (.cons (.call "_law_all" (.cons (.idx (.var 2) (.int (0))) .nil)) .nil) (.bl true) (.cons (.idx (.var 9) (.int (1))) .nil))))
  (.seq (.asg (.name 7) (.int (0)))
  (.seq (.asg (.name 8) (.int (0)))
  (.seq (.for (.name 9) (.cons (.call "_law_all" (.cons (.idx (.var 2) (.int (1))) .nil)) .nil)
  (.ite (.cmp .isin (.idx (.var 9) (.int (1))) (.var 6))
  (.asg (.name 8) (.bin .add (.var 8) (.int (1))))
  .skip))
  (.seq (.for (.name 10) (.cons (.var 4) .nil)
  (.asg (.name 8) (.bin .sub (.var 8) (.bi .len (.cons (.idx (.var 10) (.int (1))) .nil)))))
  (.seq (.for (.name 11) (.cons (.call "patch" (.cons (.idx (.var 2) (.int (0))) (.cons (.idx (.var 2) (.int (1))) .nil))) .nil)
  (.ite (.and (.cmp .eq (.idx (.var 11) (.int (0))) (.str "put")) (.cmp .isin (.idx (.var 11) (.int (1))) (.var 6)))
  (.asg (.name 7) (.bin .add (.var 7) (.int (1))))
  .skip))
  (.ret (.and (.cmp .eq (.var 7) (.var 8)) (.call "_law_same" (.cons (.var 3) (.cons (.tup (.cons (.var 7) (.cons (.coll .tuple (.cons (.var 4) .nil)) .nil))) .nil))))))))))))))))⟩
/-! k=0 -/
def F._wall : FDef := ⟨1, 1,
  (.while (.bl true)
  .skip)⟩
/-! commit=0 count=1 row=2 -/
def F.is_commit : FDef := ⟨1, 3,
  (.seq (.ite (.or (.no (.isi (.var 0) .tuple)) (.or (.cmp .ne (.bi .len (.cons (.var 0) .nil)) (.int (8))) (.or (.cmp .ne (.idx (.var 0) (.int (0))) (.str "commit")) (.no (.isi (.idx (.var 0) (.int (1))) .bool)))))
  (.ret (.bl false))
  .skip)
  (.seq (.ite (.gany (.for1 [1] (.name 1) (.cons (.slice (.var 0) (.int (2)) (.int (4))) .nil) (.bl true) (.cons (.or (.isi (.var 1) .bool) (.no (.isi (.var 1) .int))) .nil)))
  (.ret (.bl false))
  .skip)
  (.ret (.gall (.for1 [2] (.name 2) (.cons (.slice (.var 0) (.int (4)) .non) .nil) (.bl true) (.cons (.isi (.var 2) .tuple) .nil))))))⟩
/-! commit=0 deeds=1 taken=2 _=3 urgent=4 begun=5 ended=6 open_ones=7 number=8 -/
def F.taken_by : FDef := ⟨3, 9,
  (.seq (.asg (.tup [3, 4, 5, 6]) (.slice (.var 0) .non (.int (4))))
  (.seq (.asg (.name 7) (.lcomp (.for1 [8] (.name 8) (.range (.cons (.var 5) .nil)) (.and (.idx (.idx (.var 1) (.var 8)) (.int (1))) (.cmp .notin (.var 8) (.var 2))) (.cons (.var 8) .nil))))
  (.seq (.ite (.var 4)
  (.ret (.ite (.var 7) (.coll .tuple (.cons (.coll .sorted (.cons (.bin .add (.var 2) (.coll .tuple (.cons (.var 7) .nil))) .nil)) .nil)) .non))
  .skip)
  (.seq (.ite (.or (.var 7) (.or (.gany (.for1 [8] (.name 8) (.range (.cons (.var 5) (.cons (.var 6) .nil))) (.bl true) (.cons (.idx (.idx (.var 1) (.var 8)) (.int (1))) .nil))) (.cmp .eq (.bi .len (.cons (.var 2) .nil)) (.var 5))))
  (.ret .non)
  .skip)
  (.ret (.coll .tuple (.range (.cons (.var 5) .nil))))))))⟩
/-! commit=0 deeds=1 screen=2 last=3 taken=4 world=5 calls=6 -/
def F.fits : FDef := ⟨4, 7,
  (.seq (.ite (.or (.no (.call "is_commit" (.cons (.var 0) .nil))) (.no (.chain (.var 3) (.lnk .le (.idx (.var 0) (.int (2))) (.lnk .le (.idx (.var 0) (.int (3))) (.lnk .le (.bi .len (.cons (.var 1) .nil)) .nil))))))
  (.ret (.bl false))
  .skip)
  (.seq (.asg (.name 4) (.call "taken_by" (.cons (.var 0) (.cons (.var 1) (.cons (.attr (.var 2) "taken") .nil)))))
  (.seq (.ite (.or (.isN (.var 4)) (.cmp .ne (.idx (.var 0) (.int (4))) (.var 4)))
  (.ret (.bl false))
  .skip)
  (.seq (.asg (.name 5) (.meth (.var 2) "world_of" (.cons (.var 1) (.cons (.var 4) .nil))))
  (.seq (.asg (.name 6) (.meth (.var 2) "calls" (.cons (.var 5) .nil)))
  (.ret (.and (.cmp .eq (.idx (.var 0) (.int (5))) (.var 6)) (.cmp .eq (.slice (.var 0) (.int (6)) .non) (.meth (.var 2) "commit" (.cons (.var 5) (.cons (.var 4) (.cons (.var 6) .nil))))))))))))⟩
/-! program=0 first=1 deeds=2 record=3 tree=4 screen=5 last=6 commit=7 -/
def F.judge : FDef := ⟨5, 8,
  (.seq (.asg (.name 5) (.new "Screen" (.cons (.var 0) (.cons (.var 1) .nil))))
  (.seq (.asg (.name 6) (.int (0)))
  (.seq (.for (.name 7) (.cons (.var 3) .nil)
  (.seq (.ite (.no (.call "fits" (.cons (.var 7) (.cons (.var 2) (.cons (.var 5) (.cons (.var 6) .nil))))))
  (.ret (.bl false))
  .skip)
  (.asg (.name 6) (.idx (.var 7) (.int (3))))))
  (.ret (.cmp .eq (.var 4) (.meth (.var 5) "nodes" .nil))))))⟩
/-! program=0 first=1 deeds=2 record=3 number=4 screen=5 taken=6 -/
def F.shown_behind : FDef := ⟨5, 7,
  (.seq (.asg (.name 5) (.new "Screen" (.cons (.var 0) (.cons (.var 1) .nil))))
  (.seq (.asg (.name 6) (.ite (.cmp .gt (.var 4) (.int (0))) (.idx (.idx (.var 3) (.bin .sub (.var 4) (.int (1)))) (.int (4))) (.tup .nil)))
  (.ret (.call "sight" (.cons (.idx (.call "page_of" (.cons (.var 0) (.cons (.meth (.var 5) "world_of" (.cons (.var 2) (.cons (.var 6) .nil))) .nil))) (.int (1))) .nil)))))⟩
/-! self=0 -/
def F.Client_sight_2 : FDef := ⟨1, 1,
  (.expr (.call "_wall" (.cons (.int (0)) .nil)))⟩
/-! _law_box_here=0 _law_program_here=1 _law_server=2 _law_first_here=3 _law_k=4 _law_client=5 _law_number_here=6 _law_turn=7 _law_kind=8 -/
def F.L_played : FDef := ⟨1, 9,
  (.seq (.asg (.name 1) (.call "_law_program" (.cons (.var 0) .nil)))
  (.seq (.asg (.name 2) (.new "Server" (.cons (.var 1) .nil)))
  (.seq (.asg (.name 3) (.lst .nil))
  (.seq (.for (.name 4) (.range (.cons (.bi .len (.cons (.idx (.var 1) (.int (3))) .nil)) .nil))
  (.ite (.cmp .eq (.call "_law_draw" (.cons (.var 0) (.cons (.int (3)) .nil))) (.int (0)))
  (.seq (.expr (.meth (.var 2) "resolve" (.cons (.var 4) .nil)))
  (.expr (.bm .append (.var 3) (.cons (.var 4) .nil))))
  .skip))
  (.seq (.asg (.name 5) (.new "Client" (.cons (.var 1) .nil)))
  (.seq (.expr (.meth (.var 5) "feed" (.cons (.meth (.var 2) "render" .nil) .nil)))
  (.seq (.expr (.meth (.var 5) "start" .nil))
  (.seq (.for (.name 6) (.range (.cons (.bi .len (.cons (.idx (.var 1) (.int (1))) .nil)) .nil))
  (.ite (.cmp .gt (.call "_law_draw" (.cons (.var 0) (.cons (.int (4)) .nil))) (.int (0)))
  (.expr (.meth (.var 5) "code" (.cons (.var 6) .nil)))
  .skip))
  (.seq (.for (.name 7) (.range (.cons (.call "_law_draw" (.cons (.var 0) (.cons (.int (16)) .nil))) .nil))
  (.seq (.asg (.name 8) (.call "_law_draw" (.cons (.var 0) (.cons (.int (10)) .nil))))
  (.seq (.ite (.cmp .eq (.var 8) (.int (8)))
  (.seq (.expr (.meth (.var 5) "enter" (.cons (.call "_law_draw" (.cons (.var 0) (.cons (.int (12)) .nil))) (.cons (.idx (.lst (.cons (.int (3)) (.cons (.int (700)) .nil))) (.call "_law_draw" (.cons (.var 0) (.cons (.int (2)) .nil)))) .nil))))
  .cont)
  .skip)
  (.seq (.ite (.cmp .eq (.var 8) (.int (9)))
  (.seq (.expr (.meth (.var 5) "code" (.cons (.call "_law_draw" (.cons (.var 0) (.cons (.bi .len (.cons (.idx (.var 1) (.int (1))) .nil)) .nil))) .nil)))
  .cont)
  .skip)
  (.ite (.cmp .lt (.var 8) (.int (4)))
  (.expr (.meth (.var 5) "event" (.cons (.call "_law_draw" (.cons (.var 0) (.cons (.int (12)) .nil))) (.cons (.cmp .eq (.call "_law_draw" (.cons (.var 0) (.cons (.int (2)) .nil))) (.int (0))) .nil))))
  (.ite (.or (.cmp .lt (.var 8) (.int (7))) (.cmp .eq (.bi .len (.cons (.idx (.var 1) (.int (3))) .nil)) (.int (0))))
  (.expr (.meth (.var 5) "work" (.cons (.call "_law_draw" (.cons (.var 0) (.cons (.int (9)) .nil))) .nil)))
  (.expr (.meth (.var 5) "feed" (.cons (.meth (.var 2) "resolve" (.cons (.call "_law_draw" (.cons (.var 0) (.cons (.bi .len (.cons (.idx (.var 1) (.int (3))) .nil)) .nil))) .nil)) .nil)))))))))
  (.ret (.lst (.cons (.var 1) (.cons (.coll .tuple (.cons (.var 3) .nil)) (.cons (.var 5) .nil))))))))))))))⟩
/-! _law_about=0 _law_path=1 _law_number_here=2 _law_props=3 _law_component=4 _law_cells=5 _law_item=6 _law_looked=7 _law_nodes=8 _law_reads=9 _law_k=10 -/
def F.L_child_2 : FDef := ⟨4, 11,
  (.seq (.asg (.name 4) (.idx (.idx (.idx (.var 0) (.int (0))) (.int (1))) (.var 2)))
  (.seq (.asg (.name 5) (.idx (.var 4) (.int (1))))
  (.seq (.for (.name 6) (.cons (.idx (.var 0) (.int (2))) .nil)
  (.ite (.cmp .eq (.idx (.var 6) (.int (0))) (.var 1))
  (.asg (.name 5) (.idx (.var 6) (.int (1))))
  .skip))
  (.seq (.asg (.name 7) (.lst .nil))
  (.seq (.asg (.name 8) (.call "_law_fill" (.cons (.var 0) (.cons (.var 1) (.cons (.lst (.cons (.var 5) (.cons (.var 3) (.cons (.idx (.var 0) (.int (1))) (.cons (.int (0)) .nil))))) (.cons (.var 7) (.cons (.idx (.var 4) (.int (2))) (.cons (.var 1) .nil))))))))
  (.seq (.asg (.name 9) (.lcomp (.for1 [10] (.name 10) (.range (.cons (.bi .len (.cons (.idx (.var 0) (.int (1))) .nil)) .nil)) (.cmp .isin (.var 10) (.var 7)) (.cons (.var 10) .nil))))
  (.ret (.tup (.cons (.str "child") (.cons (.var 1) (.cons (.var 2) (.cons (.var 3) (.cons (.coll .tuple (.cons (.var 9) .nil)) (.cons (.var 8) .nil))))))))))))))⟩
/-! _law_about=0 _law_path=1 _law_number_here=2 _law_item=3 -/
def F.L_cells_at_2 : FDef := ⟨3, 4,
  (.seq (.for (.name 3) (.cons (.idx (.var 0) (.int (2))) .nil)
  (.ite (.cmp .eq (.idx (.var 3) (.int (0))) (.var 1))
  (.ret (.idx (.var 3) (.int (1))))
  .skip))
  (.ret (.idx (.idx (.idx (.idx (.var 0) (.int (0))) (.int (1))) (.var 2)) (.int (1)))))⟩
/-! _law_about=0 -/
def F.L_page : FDef := ⟨1, 1,
  (.ret (.idx (.call "_law_child" (.cons (.var 0) (.cons (.tup .nil) (.cons (.int (0)) (.cons (.tup .nil) .nil))))) (.int (5))))⟩
/-! _law_model_here=0 _law_numbers=1 _law_made=2 _law_old=3 _law_node=4 _law_gone=5 _law_path=6 -/
def F.L_number : FDef := ⟨1, 7,
  (.seq (.asg (.name 1) (.dic .nil))
  (.seq (.asg (.name 2) (.lst .nil))
  (.seq (.asg (.name 3) (.idx (.var 0) (.str "numbers")))
  (.seq (.for (.name 4) (.cons (.call "_law_flat" (.cons (.call "_law_page" (.cons (.idx (.var 0) (.str "about")) .nil)) .nil)) .nil)
  (.ite (.cmp .isin (.idx (.var 4) (.int (1))) (.var 3))
  (.setidx (.var 1) (.idx (.var 4) (.int (1))) (.idx (.var 3) (.idx (.var 4) (.int (1)))))
  (.seq (.setidx (.var 1) (.idx (.var 4) (.int (1))) (.idx (.var 0) (.str "next")))
  (.seq (.expr (.bm .append (.var 2) (.cons (.idx (.var 0) (.str "next")) .nil)))
  (.setidx (.var 0) (.str "next") (.bin .add (.idx (.var 0) (.str "next")) (.int (1))))))))
  (.seq (.asg (.name 5) (.lcomp (.for1 [6] (.name 6) (.cons (.var 3) .nil) (.cmp .notin (.var 6) (.var 1)) (.cons (.idx (.var 3) (.var 6)) .nil))))
  (.seq (.setidx (.var 0) (.str "numbers") (.var 1))
  (.ret (.lst (.cons (.coll .tuple (.cons (.coll .sorted (.cons (.var 2) .nil)) .nil)) (.cons (.coll .tuple (.cons (.coll .sorted (.cons (.var 5) .nil)) .nil)) .nil))))))))))⟩
/-! _law_program_here=0 _law_first_here=1 _law_about=2 _law_model_here=3 -/
def F.L_model : FDef := ⟨2, 4,
  (.seq (.asg (.name 2) (.call "_law_first" (.cons (.var 0) (.cons (.var 1) .nil))))
  (.seq (.asg (.name 3) (.dic (.cons (.str "program") (.cons (.var 0) (.cons (.str "first") (.cons (.var 1) (.cons (.str "deeds") (.cons (.lst .nil) (.cons (.str "taken") (.cons (.lst .nil) (.cons (.str "about") (.cons (.var 2) (.cons (.str "awake") (.cons (.lst .nil) (.cons (.str "draw") (.cons .non .nil))))))))))))))))
  (.seq (.setidx (.var 3) (.str "numbers") (.dic .nil))
  (.seq (.setidx (.var 3) (.str "next") (.int (0)))
  (.seq (.setidx (.var 3) (.str "started") (.bl false))
  (.seq (.setidx (.var 3) (.str "record") (.lst .nil))
  (.seq (.setidx (.var 3) (.str "typed") (.lst .nil))
  (.seq (.setidx (.var 3) (.str "codes") (.lst .nil))
  (.seq (.expr (.call "_law_number" (.cons (.var 3) .nil)))
  (.ret (.var 3)))))))))))⟩
/-! _law_deeds=0 _law_taken_here=1 _law_commit=2 _law_urgent=3 _law_fresh=4 _law_k=5 -/
def F.L_taken : FDef := ⟨3, 6,
  (.seq (.asg (.name 3) (.idx (.var 2) (.int (1))))
  (.seq (.asg (.name 4) (.lcomp (.for1 [5] (.name 5) (.range (.cons (.idx (.var 2) (.int (2))) .nil)) (.and (.cmp .notin (.var 5) (.var 1)) (.idx (.idx (.var 0) (.var 5)) (.int (1)))) (.cons (.var 5) .nil))))
  (.seq (.ite (.var 3)
  (.seq (.ite (.cmp .eq (.bi .len (.cons (.var 4) .nil)) (.int (0)))
  (.ret .non)
  .skip)
  (.ret (.coll .tuple (.cons (.coll .sorted (.cons (.bin .add (.coll .list (.cons (.var 1) .nil)) (.var 4)) .nil)) .nil))))
  .skip)
  (.seq (.ite (.or (.cmp .gt (.bi .len (.cons (.var 4) .nil)) (.int (0))) (.cmp .eq (.idx (.var 2) (.int (2))) (.bi .len (.cons (.var 1) .nil))))
  (.ret .non)
  .skip)
  (.seq (.for (.name 5) (.range (.cons (.idx (.var 2) (.int (2))) (.cons (.idx (.var 2) (.int (3))) .nil)))
  (.ite (.idx (.idx (.var 0) (.var 5)) (.int (1)))
  (.ret .non)
  .skip))
  (.ret (.coll .tuple (.range (.cons (.idx (.var 2) (.int (2))) .nil)))))))))⟩
/-! _law_about=0 _law_path=1 _law_cells=2 _law_number_here=3 _law_value_here=4 _law_rows=5 _law_item=6 -/
def F.L_set_2 : FDef := ⟨5, 7,
  (.seq (.ite (.cmp .ge (.var 3) (.bi .len (.cons (.var 2) .nil)))
  (.ret (.var 0))
  .skip)
  (.seq (.asg (.name 2) (.bin .add (.bin .add (.slice (.var 2) .non (.var 3)) (.tup (.cons (.var 4) .nil))) (.slice (.var 2) (.bin .add (.var 3) (.int (1))) .non)))
  (.seq (.asg (.name 5) (.lcomp (.for1 [6] (.name 6) (.cons (.idx (.var 0) (.int (2))) .nil) (.cmp .ne (.idx (.var 6) (.int (0))) (.var 1)) (.cons (.var 6) .nil))))
  (.ret (.lst (.cons (.idx (.var 0) (.int (0))) (.cons (.idx (.var 0) (.int (1))) (.cons (.coll .tuple (.cons (.bin .add (.var 5) (.lst (.cons (.tup (.cons (.var 1) (.cons (.var 2) .nil))) .nil))) .nil)) (.cons (.idx (.var 0) (.int (3))) .nil)))))))))⟩
/-! _law_model_here=0 _law_node=1 _law_value_here=2 _law_item=3 -/
def F.L_held : FDef := ⟨2, 4,
  (.seq (.asg (.name 2) (.idx (.var 1) (.int (5))))
  (.seq (.for (.name 3) (.cons (.idx (.var 0) (.str "typed")) .nil)
  (.ite (.and (.cmp .eq (.idx (.var 3) (.int (1))) (.idx (.var 1) (.int (1)))) (.cmp .notin (.idx (.var 3) (.int (0))) (.idx (.var 0) (.str "taken"))))
  (.asg (.name 2) (.idx (.var 3) (.int (2))))
  .skip))
  (.ret (.var 2))))⟩
/-! _law_model_here=0 _law_nodes=1 _law_rows=2 _law_node=3 _law_number_here=4 -/
def F.L_tree : FDef := ⟨2, 5,
  (.seq (.asg (.name 2) (.lst .nil))
  (.seq (.for (.name 3) (.cons (.var 1) .nil)
  (.seq (.asg (.name 4) (.idx (.idx (.var 0) (.str "numbers")) (.idx (.var 3) (.int (1)))))
  (.ite (.cmp .eq (.idx (.var 3) (.int (0))) (.str "text"))
  (.expr (.bm .append (.var 2) (.cons (.tup (.cons (.str "text") (.cons (.var 4) (.cons (.idx (.var 3) (.int (2))) .nil)))) .nil)))
  (.ite (.cmp .eq (.idx (.var 3) (.int (0))) (.str "input"))
  (.expr (.bm .append (.var 2) (.cons (.tup (.cons (.str "input") (.cons (.var 4) (.cons (.idx (.var 3) (.int (2))) (.cons (.call "_law_held" (.cons (.var 0) (.cons (.var 3) .nil))) .nil))))) .nil)))
  (.expr (.bm .append (.var 2) (.cons (.tup (.cons (.str "box") (.cons (.var 4) (.cons (.idx (.var 3) (.int (2))) (.cons (.call "_law_tree" (.cons (.var 0) (.cons (.idx (.var 3) (.int (5))) .nil))) .nil))))) .nil)))))))
  (.ret (.coll .tuple (.cons (.var 2) .nil)))))⟩
/-! _law_program_here=0 _law_first_here=1 _law_deeds=2 _law_record=3 _law_model_here=4 _law_deed=5 _law_last=6 _law_commit=7 _law_taken_here=8 _law_after=9 _law_needs_here=10 _law_calls=11 _law_called=12 _law_people_here=13 _law_told=14 _law_row=15 _law_path=16 _law_k=17 -/
def F.L_end : FDef := ⟨4, 18,
  (.seq (.asg (.name 4) (.call "_law_model" (.cons (.var 0) (.cons (.var 1) .nil))))
  (.seq (.for (.name 5) (.cons (.var 2) .nil)
  (.expr (.bm .append (.idx (.var 4) (.str "deeds")) (.cons (.lst (.cons (.idx (.var 5) (.int (0))) (.cons (.idx (.var 5) (.int (1))) .nil))) .nil))))
  (.seq (.asg (.name 6) (.int (0)))
  (.seq (.for (.name 7) (.cons (.var 3) .nil)
  (.seq (.ite (.no (.chain (.var 6) (.lnk .le (.idx (.var 7) (.int (2))) (.lnk .le (.idx (.var 7) (.int (3))) (.lnk .le (.bi .len (.cons (.var 2) .nil)) .nil)))))
  (.ret .non)
  .skip)
  (.seq (.asg (.name 8) (.call "_law_taken" (.cons (.var 2) (.cons (.coll .tuple (.cons (.idx (.var 4) (.str "taken")) .nil)) (.cons (.var 7) .nil)))))
  (.seq (.ite (.or (.isN (.var 8)) (.cmp .ne (.var 8) (.idx (.var 7) (.int (4)))))
  (.ret .non)
  .skip)
  (.seq (.asg (.name 9) (.call "_law_run" (.cons (.var 0) (.cons (.var 1) (.cons (.lcomp (.for1 [17] (.name 17) (.cons (.var 8) .nil) (.bl true) (.cons (.idx (.idx (.var 2) (.var 17)) (.int (0))) .nil))) .nil)))))
  (.seq (.asg (.name 10) (.call "_law_needs" (.cons (.var 0) (.cons (.var 1) (.cons (.idx (.var 4) (.str "about")) (.cons (.var 9) (.cons (.idx (.var 4) (.str "awake")) .nil)))))))
  (.seq (.asg (.name 11) (.coll .tuple (.cons (.lcomp (.for1 [15] (.name 15) (.cons (.var 10) .nil) (.bl true) (.cons (.tup (.cons (.idx (.var 15) (.int (0))) (.cons (.idx (.var 15) (.int (2))) .nil))) .nil))) .nil)))
  (.seq (.asg (.name 12) (.bin .add (.idx (.var 4) (.str "awake")) (.lcomp (.for1 [15] (.name 15) (.cons (.var 10) .nil) (.bl true) (.cons (.idx (.var 15) (.int (0))) .nil)))))
  (.seq (.setidx (.var 4) (.str "about") (.var 9))
  (.seq (.setidx (.var 4) (.str "taken") (.coll .list (.cons (.var 8) .nil)))
  (.seq (.asg (.name 13) (.lcomp (.for1 [15] (.name 15) (.cons (.call "_law_people" (.cons (.tup (.cons (.call "_law_child" (.cons (.var 9) (.cons (.tup .nil) (.cons (.int (0)) (.cons (.tup .nil) .nil))))) .nil)) .nil)) .nil) (.bl true) (.cons (.idx (.var 15) (.int (0))) .nil))))
  (.seq (.setidx (.var 4) (.str "awake") (.lcomp (.for1 [16] (.name 16) (.cons (.var 13) .nil) (.cmp .isin (.var 16) (.var 12)) (.cons (.var 16) .nil))))
  (.seq (.asg (.name 14) (.call "_law_number" (.cons (.var 4) .nil)))
  (.seq (.ite (.or (.cmp .ne (.idx (.var 7) (.int (5))) (.var 11)) (.or (.cmp .ne (.idx (.var 7) (.int (6))) (.idx (.var 14) (.int (0)))) (.cmp .ne (.idx (.var 7) (.int (7))) (.idx (.var 14) (.int (1))))))
  (.ret .non)
  .skip)
  (.asg (.name 6) (.idx (.var 7) (.int (3))))))))))))))))))
  (.ret (.call "_law_tree" (.cons (.var 4) (.cons (.call "_law_shown" (.cons (.call "_law_page" (.cons (.idx (.var 4) (.str "about")) .nil)) .nil)) .nil))))))))⟩
/-! _law_box_here=0 _law_record=1 _law_many=2 _law_rows=3 _law_kind=4 _law_at=5 _law_row=6 -/
def F.L_spoilt : FDef := ⟨3, 7,
  (.seq (.asg (.name 3) (.coll .list (.cons (.var 1) .nil)))
  (.seq (.asg (.name 4) (.call "_law_draw" (.cons (.var 0) (.cons (.int (9)) .nil))))
  (.seq (.ite (.or (.cmp .eq (.bi .len (.cons (.var 3) .nil)) (.int (0))) (.cmp .eq (.var 4) (.int (8))))
  (.ret (.coll .tuple (.cons (.bin .add (.var 3) (.lst (.cons (.tup (.cons (.str "commit") (.cons (.bl false) (.cons (.var 2) (.cons (.var 2) (.cons (.coll .tuple (.range (.cons (.var 2) .nil))) (.cons (.tup .nil) (.cons (.tup .nil) (.cons (.tup .nil) .nil))))))))) .nil))) .nil)))
  .skip)
  (.seq (.asg (.name 5) (.call "_law_draw" (.cons (.var 0) (.cons (.bi .len (.cons (.var 3) .nil)) .nil))))
  (.seq (.asg (.name 6) (.coll .list (.cons (.idx (.var 3) (.var 5)) .nil)))
  (.seq (.ite (.cmp .eq (.var 4) (.int (0)))
  (.setidx (.var 6) (.int (1)) (.no (.idx (.var 6) (.int (1)))))
  (.ite (.cmp .lt (.var 4) (.int (3)))
  (.setidx (.var 6) (.bin .add (.int (1)) (.var 4)) (.bi .max2 (.cons (.int (0)) (.cons (.bin .add (.idx (.var 6) (.bin .add (.int (1)) (.var 4))) (.idx (.lst (.cons (.int (1)) (.cons (.neg (.int (1))) .nil))) (.call "_law_draw" (.cons (.var 0) (.cons (.int (2)) .nil))))) .nil))))
  (.ite (.cmp .eq (.var 4) (.int (3)))
  (.setidx (.var 6) (.int (4)) (.slice (.idx (.var 6) (.int (4))) .non (.neg (.int (1)))))
  (.ite (.cmp .eq (.var 4) (.int (4)))
  (.setidx (.var 6) (.int (5)) (.bin .add (.slice (.idx (.var 6) (.int (5))) (.int (1)) .non) (.tup (.cons (.tup (.cons (.tup .nil) (.cons (.int (2)) .nil))) .nil))))
  (.ite (.cmp .eq (.var 4) (.int (5)))
  (.setidx (.var 6) (.int (6)) (.bin .add (.idx (.var 6) (.int (6))) (.tup (.cons (.int (99)) .nil))))
  (.ite (.cmp .eq (.var 4) (.int (6)))
  (.setidx (.var 6) (.int (7)) (.slice (.idx (.var 6) (.int (7))) (.int (1)) .non))
  (.ret (.coll .tuple (.cons (.bin .add (.slice (.var 3) .non (.var 5)) (.slice (.var 3) (.bin .add (.var 5) (.int (1))) .non)) .nil)))))))))
  (.seq (.setidx (.var 3) (.var 5) (.coll .tuple (.cons (.var 6) .nil)))
  (.ret (.coll .tuple (.cons (.var 3) .nil))))))))))⟩
/-! _law_program_here=0 _law_first_here=1 _law_deeds=2 _law_record=3 _law_tree_here=4 _law_end_here=5 -/
def F.L_right : FDef := ⟨5, 6,
  (.seq (.asg (.name 5) (.call "_law_end" (.cons (.var 0) (.cons (.var 1) (.cons (.var 2) (.cons (.var 3) .nil))))))
  (.ret (.and (.notN (.var 5)) (.cmp .eq (.var 4) (.var 5)))))⟩
/-! _law_script=0 _law_box_here=1 _law_played_here=2 _law_program_here=3 _law_first_here=4 _law_client=5 _law_tree_here=6 _law_plain=7 _law_record=8 _law_turn=9 _law_due=10 _law_model_here=11 -/
def F.law_k61 : FDef := ⟨1, 12,
  (.seq (.asg (.name 1) (.call "_law_box" (.cons (.var 0) (.cons (.int (0)) (.cons (.int (63)) .nil)))))
  (.seq (.asg (.name 2) (.call "_law_played" (.cons (.var 1) .nil)))
  (.seq (.asg (.name 3) (.idx (.var 2) (.int (0))))
  (.seq (.asg (.name 4) (.idx (.var 2) (.int (1))))
  (.seq (.asg (.name 5) (.idx (.var 2) (.int (2))))
  (.seq (.asg (.name 6) (.meth (.var 5) "nodes" .nil))
  (.seq (.asg (.name 7) (.call "_law_end" (.cons (.var 3) (.cons (.var 4) (.cons (.attr (.var 5) "deeds") (.cons (.attr (.var 5) "record") .nil))))))
  (.seq (.ite (.and (.notN (.var 7)) (.cmp .gt (.call "_law_draw" (.cons (.var 1) (.cons (.int (3)) .nil))) (.int (0))))
  (.asg (.name 6) (.var 7))
  .skip)
  (.seq (.ite (.cmp .eq (.call "_law_draw" (.cons (.var 1) (.cons (.int (5)) .nil))) (.int (0)))
  (.seq (.asg (.name 11) (.call "_law_model" (.cons (.var 3) (.cons (.var 4) .nil))))
  (.asg (.name 6) (.call "_law_tree" (.cons (.var 11) (.cons (.call "_law_shown" (.cons (.call "_law_page" (.cons (.idx (.var 11) (.str "about")) .nil)) .nil)) .nil)))))
  .skip)
  (.seq (.asg (.name 8) (.attr (.var 5) "record"))
  (.seq (.for (.name 9) (.range (.cons (.call "_law_draw" (.cons (.var 1) (.cons (.int (4)) .nil))) .nil))
  (.asg (.name 8) (.call "_law_spoilt" (.cons (.var 1) (.cons (.var 8) (.cons (.bi .len (.cons (.attr (.var 5) "deeds") .nil)) .nil))))))
  (.seq (.asg (.name 10) (.call "_law_right" (.cons (.var 3) (.cons (.var 4) (.cons (.attr (.var 5) "deeds") (.cons (.var 8) (.cons (.var 6) .nil)))))))
  (.ret (.call "_law_same" (.cons (.call "judge" (.cons (.var 3) (.cons (.var 4) (.cons (.attr (.var 5) "deeds") (.cons (.var 8) (.cons (.var 6) .nil)))))) (.cons (.var 10) .nil))))))))))))))))⟩
/-! _law_box_here=0 _law_program_here=1 _law_server=2 _law_first=3 _law_k=4 _law_client=5 _law_number=6 _law_turn=7 _law_kind=8 -/
def F.L_played_2 : FDef := ⟨1, 9,
  (.seq (.asg (.name 1) (.call "_law_program" (.cons (.var 0) .nil)))
  (.seq (.asg (.name 2) (.new "Server" (.cons (.var 1) .nil)))
  (.seq (.asg (.name 3) (.lst .nil))
  (.seq (.for (.name 4) (.range (.cons (.bi .len (.cons (.idx (.var 1) (.int (3))) .nil)) .nil))
  (.ite (.cmp .eq (.call "_law_draw" (.cons (.var 0) (.cons (.int (3)) .nil))) (.int (0)))
  (.seq (.expr (.meth (.var 2) "resolve" (.cons (.var 4) .nil)))
  (.expr (.bm .append (.var 3) (.cons (.var 4) .nil))))
  .skip))
  (.seq (.asg (.name 5) (.new "Client" (.cons (.var 1) .nil)))
  (.seq (.expr (.meth (.var 5) "feed" (.cons (.meth (.var 2) "render" .nil) .nil)))
  (.seq (.expr (.meth (.var 5) "start" .nil))
  (.seq (.for (.name 6) (.range (.cons (.bi .len (.cons (.idx (.var 1) (.int (1))) .nil)) .nil))
  (.ite (.cmp .gt (.call "_law_draw" (.cons (.var 0) (.cons (.int (4)) .nil))) (.int (0)))
  (.expr (.meth (.var 5) "code" (.cons (.var 6) .nil)))
  .skip))
  (.seq (.for (.name 7) (.range (.cons (.call "_law_draw" (.cons (.var 0) (.cons (.int (16)) .nil))) .nil))
  (.seq (.asg (.name 8) (.call "_law_draw" (.cons (.var 0) (.cons (.int (10)) .nil))))
  (.seq (.ite (.cmp .eq (.var 8) (.int (8)))
  (.seq (.expr (.meth (.var 5) "enter" (.cons (.call "_law_draw" (.cons (.var 0) (.cons (.int (12)) .nil))) (.cons (.idx (.lst (.cons (.int (3)) (.cons (.int (700)) .nil))) (.call "_law_draw" (.cons (.var 0) (.cons (.int (2)) .nil)))) .nil))))
  .cont)
  .skip)
  (.seq (.ite (.cmp .eq (.var 8) (.int (9)))
  (.seq (.expr (.meth (.var 5) "code" (.cons (.call "_law_draw" (.cons (.var 0) (.cons (.bi .len (.cons (.idx (.var 1) (.int (1))) .nil)) .nil))) .nil)))
  .cont)
  .skip)
  (.ite (.cmp .lt (.var 8) (.int (4)))
  (.expr (.meth (.var 5) "event" (.cons (.call "_law_draw" (.cons (.var 0) (.cons (.int (12)) .nil))) (.cons (.cmp .eq (.call "_law_draw" (.cons (.var 0) (.cons (.int (2)) .nil))) (.int (0))) .nil))))
  (.ite (.or (.cmp .lt (.var 8) (.int (7))) (.cmp .eq (.bi .len (.cons (.idx (.var 1) (.int (3))) .nil)) (.int (0))))
  (.expr (.meth (.var 5) "work" (.cons (.call "_law_draw" (.cons (.var 0) (.cons (.int (9)) .nil))) .nil)))
  (.expr (.meth (.var 5) "feed" (.cons (.meth (.var 2) "resolve" (.cons (.call "_law_draw" (.cons (.var 0) (.cons (.bi .len (.cons (.idx (.var 1) (.int (3))) .nil)) .nil))) .nil)) .nil)))))))))
  (.ret (.lst (.cons (.var 1) (.cons (.coll .tuple (.cons (.var 3) .nil)) (.cons (.var 5) .nil))))))))))))))⟩
/-! program=0 number=1 _=2 template=3 -/
def F.contents_of : FDef := ⟨2, 4,
  (.ret (.lcomp (.for1 [2, 3] (.tup [2, 3]) (.cons (.call "templates" (.cons (.idx (.idx (.idx (.var 0) (.int (1))) (.var 1)) (.int (2))) .nil)) .nil) (.bl true) (.cons (.var 3) .nil))))⟩
/-! program=0 number=1 found=2 template=3 -/
def F.children_of : FDef := ⟨2, 4,
  (.seq (.asg (.name 2) (.lcomp (.for1 [3] (.name 3) (.cons (.call "contents_of" (.cons (.var 0) (.cons (.var 1) .nil))) .nil) (.cmp .eq (.idx (.var 3) (.int (0))) (.str "child")) (.cons (.idx (.var 3) (.int (1))) .nil))))
  (.seq (.ite (.cmp .eq (.var 1) (.int (0)))
  (.expr (.bm .extend (.var 2) (.cons (.lcomp (.for1 [3] (.name 3) (.cons (.call "contents_of" (.cons (.var 0) (.cons (.int (0)) .nil))) .nil) (.cmp .eq (.idx (.var 3) (.int (0))) (.str "part")) (.cons (.idx (.idx (.var 0) (.int (3))) (.idx (.var 3) (.int (1)))) .nil))) .nil)))
  .skip)
  (.ret (.var 2))))⟩
/-! program=0 live=1 number=2 actions=3 other=4 action=5 step=6 -/
def F.stepped : FDef := ⟨3, 7,
  (.seq (.asg (.name 3) (.idx (.idx (.idx (.var 0) (.int (1))) (.var 2)) (.int (3))))
  (.ret (.lcomp (.for1 [4, 5, 6] (.tup [4, 5]) (.cons (.var 1) .nil) (.cmp .eq (.var 4) (.var 2)) (.for1 [6] (.name 6) (.cons (.idx (.var 3) (.var 5)) .nil) (.bl true) (.cons (.var 6) .nil))))))⟩
/-! program=0 number=1 action=2 -/
def F.has_action : FDef := ⟨3, 3,
  (.ret (.and (.notN (.var 2)) (.cmp .lt (.var 2) (.bi .len (.cons (.idx (.idx (.idx (.var 0) (.int (1))) (.var 1)) (.int (3))) .nil)))))⟩
/-! program=0 live=1 waiting=2 number=3 action=4 ups=5 around=6 template=7 step=8 other=9 up=10 -/
def F.live_actions : FDef := ⟨1, 11,
  (.seq (.asg (.name 1) (.lst .nil))
  (.seq (.asg (.name 2) (.lst .nil))
  (.seq (.for (.name 3) (.range (.cons (.bi .len (.cons (.idx (.var 0) (.int (1))) .nil)) .nil))
  (.expr (.bm .extend (.var 2) (.cons (.lcomp (.for1 [7] (.name 7) (.cons (.call "contents_of" (.cons (.var 0) (.cons (.var 3) .nil))) .nil) (.cmp .eq (.idx (.var 7) (.int (0))) (.str "box")) (.cons (.tup (.cons (.var 3) (.cons (.idx (.var 7) (.int (3))) .nil))) .nil))) .nil))))
  (.seq (.while (.var 2)
  (.seq (.asg (.tup [3, 4]) (.bm .pop (.var 2) .nil))
  (.ite (.and (.call "has_action" (.cons (.var 0) (.cons (.var 3) (.cons (.var 4) .nil)))) (.cmp .notin (.tup (.cons (.var 3) (.cons (.var 4) .nil))) (.var 1)))
  (.seq (.expr (.bm .append (.var 1) (.cons (.tup (.cons (.var 3) (.cons (.var 4) .nil))) .nil)))
  (.seq (.asg (.name 5) (.lcomp (.for1 [8] (.name 8) (.cons (.idx (.idx (.idx (.idx (.var 0) (.int (1))) (.var 3)) (.int (3))) (.var 4)) .nil) (.cmp .eq (.idx (.var 8) (.int (0))) (.str "up")) (.cons (.idx (.var 8) (.int (1))) .nil))))
  (.seq (.asg (.name 6) (.lcomp (.for1 [9] (.name 9) (.range (.cons (.bi .len (.cons (.idx (.var 0) (.int (1))) .nil)) .nil)) (.cmp .isin (.var 3) (.call "children_of" (.cons (.var 0) (.cons (.var 9) .nil)))) (.cons (.var 9) .nil))))
  (.expr (.bm .extend (.var 2) (.cons (.lcomp (.for1 [9, 10] (.name 9) (.cons (.var 6) .nil) (.bl true) (.for1 [10] (.name 10) (.cons (.var 5) .nil) (.bl true) (.cons (.tup (.cons (.var 9) (.cons (.var 10) .nil))) .nil)))) .nil))))))
  .skip)))
  (.ret (.coll .tuple (.cons (.coll .sorted (.cons (.var 1) .nil)) .nil)))))))⟩
/-! expression=0 part=1 place=2 -/
def F.places_in : FDef := ⟨1, 3,
  (.seq (.ite (.cmp .eq (.idx (.var 0) (.int (0))) (.str "store"))
  (.ret (.lst (.cons (.idx (.var 0) (.int (1))) .nil)))
  .skip)
  (.ret (.lcomp (.for1 [1, 2] (.name 1) (.cons (.slice (.var 0) (.int (1)) .non) .nil) (.isi (.var 1) .tuple) (.for1 [2] (.name 2) (.cons (.call "places_in" (.cons (.var 1) .nil)) .nil) (.bl true) (.cons (.var 2) .nil))))))⟩
/-! template=0 -/
def F.expressions_of : FDef := ⟨1, 1,
  (.seq (.ite (.cmp .isin (.idx (.var 0) (.int (0))) (.tup (.cons (.str "show") (.cons (.str "when") (.cons (.str "each") .nil)))))
  (.ret (.lst (.cons (.idx (.var 0) (.int (1))) .nil)))
  .skip)
  (.seq (.ite (.cmp .eq (.idx (.var 0) (.int (0))) (.str "box"))
  (.ret (.ite (.isN (.idx (.var 0) (.int (2)))) (.lst .nil) (.lst (.cons (.idx (.var 0) (.int (2))) .nil))))
  .skip)
  (.seq (.ite (.cmp .eq (.idx (.var 0) (.int (0))) (.str "child"))
  (.ret (.bin .add (.coll .list (.cons (.idx (.var 0) (.int (3))) .nil)) (.ite (.isN (.idx (.var 0) (.int (2)))) (.lst .nil) (.lst (.cons (.idx (.var 0) (.int (2))) .nil)))))
  .skip)
  (.ret (.lst .nil)))))⟩
/-! program=0 live=1 number=2 cells=3 put=4 other=5 step=6 template=7 expression=8 place=9 -/
def F.is_touched : FDef := ⟨3, 10,
  (.seq (.asg (.name 3) (.idx (.idx (.idx (.var 0) (.int (1))) (.var 2)) (.int (1))))
  (.seq (.ite (.gany (.for1 [7] (.name 7) (.cons (.call "contents_of" (.cons (.var 0) (.cons (.var 2) .nil))) .nil) (.bl true) (.cons (.cmp .eq (.idx (.var 7) (.int (0))) (.str "input")) .nil)))
  (.ret (.bl true))
  .skip)
  (.seq (.ite (.gany (.for1 [6] (.name 6) (.cons (.call "stepped" (.cons (.var 0) (.cons (.var 1) (.cons (.var 2) .nil)))) .nil) (.bl true) (.cons (.and (.cmp .eq (.idx (.var 6) (.int (0))) (.str "set")) (.cmp .lt (.idx (.var 6) (.int (1))) (.bi .len (.cons (.var 3) .nil)))) .nil)))
  (.ret (.bl true))
  .skip)
  (.seq (.asg (.name 4) (.lcomp (.for1 [5, 6] (.name 5) (.range (.cons (.bi .len (.cons (.idx (.var 0) (.int (1))) .nil)) .nil)) (.bl true) (.for1 [6] (.name 6) (.cons (.call "stepped" (.cons (.var 0) (.cons (.var 1) (.cons (.var 5) .nil)))) .nil) (.and (.cmp .eq (.idx (.var 6) (.int (0))) (.str "put")) (.cmp .lt (.idx (.var 6) (.int (1))) (.bi .len (.cons (.idx (.var 0) (.int (2))) .nil)))) (.cons (.idx (.var 6) (.int (1))) .nil)))))
  (.ret (.gany (.for1 [7, 8, 9] (.name 7) (.cons (.call "contents_of" (.cons (.var 0) (.cons (.var 2) .nil))) .nil) (.bl true) (.for1 [8, 9] (.name 8) (.cons (.call "expressions_of" (.cons (.var 7) .nil)) .nil) (.bl true) (.for1 [9] (.name 9) (.cons (.call "places_in" (.cons (.var 8) .nil)) .nil) (.bl true) (.cons (.cmp .isin (.var 9) (.var 4)) .nil))))))))))⟩
/-! program=0 rows=1 keyed=2 place=3 template=4 outer=5 -/
def F.keyed_parts : FDef := ⟨1, 6,
  (.seq (.asg (.name 1) (.call "templates" (.cons (.idx (.idx (.idx (.var 0) (.int (1))) (.int (0))) (.int (2))) .nil)))
  (.seq (.asg (.name 2) (.lcomp (.for1 [3, 4] (.tup [3, 4]) (.cons (.var 1) .nil) (.and (.cmp .eq (.idx (.var 4) (.int (0))) (.str "box")) (.notN (.idx (.var 4) (.int (2))))) (.cons (.var 3) .nil))))
  (.ret (.lcomp (.for1 [3, 4] (.tup [3, 4]) (.cons (.var 1) .nil) (.and (.cmp .eq (.idx (.var 4) (.int (0))) (.str "part")) (.gany (.for1 [5] (.name 5) (.cons (.var 2) .nil) (.bl true) (.cons (.cmp .eq (.slice (.var 3) .non (.bi .len (.cons (.var 5) .nil))) (.var 5)) .nil)))) (.cons (.idx (.idx (.var 0) (.int (3))) (.idx (.var 4) (.int (1)))) .nil))))))⟩
/-! program=0 live=1 found=2 waiting=3 number=4 template=5 -/
def F.may_be_called : FDef := ⟨1, 6,
  (.seq (.asg (.name 1) (.call "live_actions" (.cons (.var 0) .nil)))
  (.seq (.asg (.name 2) (.lst .nil))
  (.seq (.asg (.name 3) (.lcomp (.for1 [4] (.name 4) (.range (.cons (.bi .len (.cons (.idx (.var 0) (.int (1))) .nil)) .nil)) (.call "is_touched" (.cons (.var 0) (.cons (.var 1) (.cons (.var 4) .nil)))) (.cons (.var 4) .nil))))
  (.seq (.while (.var 3)
  (.seq (.asg (.name 4) (.bm .pop (.var 3) .nil))
  (.ite (.cmp .notin (.var 4) (.var 2))
  (.seq (.expr (.bm .append (.var 2) (.cons (.var 4) .nil)))
  (.seq (.expr (.bm .extend (.var 3) (.cons (.ite (.cmp .eq (.var 4) (.int (0))) (.call "keyed_parts" (.cons (.var 0) .nil)) (.lst .nil)) .nil)))
  (.expr (.bm .extend (.var 3) (.cons (.lcomp (.for1 [5] (.name 5) (.cons (.call "contents_of" (.cons (.var 0) (.cons (.var 4) .nil))) .nil) (.cmp .eq (.idx (.var 5) (.int (0))) (.str "child")) (.cons (.idx (.var 5) (.int (1))) .nil))) .nil)))))
  .skip)))
  (.ret (.coll .tuple (.cons (.coll .sorted (.cons (.var 2) .nil)) .nil)))))))⟩
/-! program=0 live=1 number=2 other=3 _=4 -/
def F.never_wanted : FDef := ⟨1, 5,
  (.seq (.asg (.name 1) (.call "live_actions" (.cons (.var 0) .nil)))
  (.ret (.gtup (.for1 [2] (.name 2) (.cons (.call "sleepers" (.cons (.var 0) .nil)) .nil) (.gall (.for1 [3, 4] (.tup [3, 4]) (.cons (.var 1) .nil) (.bl true) (.cons (.cmp .ne (.var 2) (.var 3)) .nil))) (.cons (.var 2) .nil)))))⟩
/-! program=0 called=1 number=2 -/
def F.sleepers : FDef := ⟨1, 3,
  (.seq (.asg (.name 1) (.call "may_be_called" (.cons (.var 0) .nil)))
  (.ret (.gtup (.for1 [2] (.name 2) (.range (.cons (.bi .len (.cons (.idx (.var 0) (.int (1))) .nil)) .nil)) (.cmp .notin (.var 2) (.var 1)) (.cons (.var 2) .nil)))))⟩
/-! _law_box_here=0 _law_own_here=1 _law_level=2 _law_last=3 _law_free=4 _law_kind=5 _law_action=6 _law_key_here=7 _law_tag=8 _law_test=9 _law_yes=10 _law_count=11 _law_props=12 _law_k=13 -/
def F.L_template_2 : FDef := ⟨5, 14,
  (.seq (.setidx (.var 0) (.int (2)) (.bin .sub (.idx (.var 0) (.int (2))) (.int (1))))
  (.seq (.asg (.name 5) (.call "_law_draw" (.cons (.var 0) (.cons (.int (12)) .nil))))
  (.seq (.ite (.cmp .eq (.var 5) (.int (0)))
  (.ret (.tup (.cons (.str "text") (.cons (.idx (.lst (.cons (.str "a") (.cons (.str "b c") (.cons (.str "7") .nil)))) (.call "_law_draw" (.cons (.var 0) (.cons (.int (3)) .nil)))) .nil))))
  .skip)
  (.seq (.ite (.and (.cmp .lt (.var 5) (.int (5))) (.and (.cmp .lt (.var 2) (.int (3))) (.cmp .gt (.idx (.var 0) (.int (2))) (.int (0)))))
  (.seq (.asg (.name 6) (.idx (.lst (.cons .non (.cons (.int (0)) (.cons (.int (1)) (.cons (.int (2)) .nil))))) (.call "_law_draw" (.cons (.var 0) (.cons (.int (4)) .nil)))))
  (.seq (.asg (.name 7) (.call "_law_key" (.cons (.var 0) .nil)))
  (.seq (.asg (.name 8) (.idx (.lst (.cons (.str "p") (.cons (.str "div") (.cons (.str "li") .nil)))) (.call "_law_draw" (.cons (.var 0) (.cons (.int (3)) .nil)))))
  (.ret (.tup (.cons (.str "box") (.cons (.var 8) (.cons (.var 7) (.cons (.var 6) (.cons (.call "_law_contents" (.cons (.var 0) (.cons (.var 1) (.cons (.bin .add (.var 2) (.int (1))) (.cons (.var 3) (.cons (.var 4) .nil)))))) .nil))))))))))
  .skip)
  (.seq (.ite (.and (.cmp .eq (.var 5) (.int (5))) (.and (.cmp .lt (.var 2) (.int (3))) (.cmp .gt (.idx (.var 0) (.int (2))) (.int (0)))))
  (.seq (.asg (.name 9) (.call "_law_expr" (.cons (.var 0) (.cons (.int (1)) .nil))))
  (.seq (.asg (.name 10) (.call "_law_contents" (.cons (.var 0) (.cons (.var 1) (.cons (.bin .add (.var 2) (.int (1))) (.cons (.var 3) (.cons (.bl false) .nil)))))))
  (.ret (.tup (.cons (.str "when") (.cons (.var 9) (.cons (.var 10) (.cons (.call "_law_contents" (.cons (.var 0) (.cons (.var 1) (.cons (.bin .add (.var 2) (.int (1))) (.cons (.var 3) (.cons (.bl false) .nil)))))) .nil))))))))
  .skip)
  (.seq (.ite (.and (.cmp .eq (.var 5) (.int (6))) (.and (.cmp .lt (.var 2) (.int (3))) (.and (.cmp .gt (.idx (.var 0) (.int (2))) (.int (0))) (.cmp .gt (.idx (.var 0) (.int (4))) (.int (0))))))
  (.seq (.setidx (.var 0) (.int (4)) (.int (0)))
  (.seq (.asg (.name 11) (.tup (.cons (.str "plus") (.cons (.tup (.cons (.str "same") (.cons (.call "_law_expr" (.cons (.var 0) (.cons (.int (1)) .nil))) (.cons (.call "_law_expr" (.cons (.var 0) (.cons (.int (0)) .nil))) .nil)))) (.cons (.tup (.cons (.str "num") (.cons (.call "_law_draw" (.cons (.var 0) (.cons (.int (2)) .nil))) .nil))) .nil)))))
  (.ret (.tup (.cons (.str "each") (.cons (.var 11) (.cons (.call "_law_contents" (.cons (.var 0) (.cons (.var 1) (.cons (.bin .add (.var 2) (.int (1))) (.cons (.var 3) (.cons (.bl false) .nil)))))) .nil)))))))
  .skip)
  (.seq (.ite (.and (.cmp .lt (.var 5) (.int (9))) (.and (.cmp .lt (.var 1) (.var 3)) (.cmp .gt (.idx (.var 0) (.int (3))) (.int (0)))))
  (.seq (.setidx (.var 0) (.int (3)) (.bin .sub (.idx (.var 0) (.int (3))) (.int (1))))
  (.seq (.asg (.name 12) (.coll .tuple (.cons (.lcomp (.for1 [13] (.name 13) (.range (.cons (.call "_law_draw" (.cons (.var 0) (.cons (.int (3)) .nil))) .nil)) (.bl true) (.cons (.call "_law_expr" (.cons (.var 0) (.cons (.int (1)) .nil))) .nil))) .nil)))
  (.ret (.tup (.cons (.str "child") (.cons (.bin .add (.bin .add (.var 1) (.int (1))) (.call "_law_draw" (.cons (.var 0) (.cons (.bin .sub (.var 3) (.var 1)) .nil)))) (.cons (.call "_law_key" (.cons (.var 0) .nil)) (.cons (.var 12) .nil))))))))
  .skip)
  (.seq (.ite (.and (.cmp .eq (.var 5) (.int (9))) (.and (.cmp .eq (.var 1) (.int (0))) (.and (.var 4) (.cmp .gt (.bi .len (.cons (.idx (.var 0) (.int (5))) .nil)) (.int (0))))))
  (.ret (.tup (.cons (.str "part") (.cons (.bm .pop (.idx (.var 0) (.int (5))) .nil) .nil))))
  .skip)
  (.seq (.ite (.cmp .eq (.var 5) (.int (10)))
  (.ret (.tup (.cons (.str "input") (.cons (.str "q") (.cons (.call "_law_draw" (.cons (.var 0) (.cons (.int (3)) .nil))) .nil)))))
  .skip)
  (.ret (.tup (.cons (.str "show") (.cons (.call "_law_expr" (.cons (.var 0) (.cons (.int (1)) .nil))) .nil)))))))))))))⟩
/-! _law_box_here=0 _law_own_here=1 _law_level=2 _law_last=3 _law_free=4 _law_rows=5 _law_k=6 -/
def F.L_contents_2 : FDef := ⟨5, 7,
  (.seq (.asg (.name 5) (.lst .nil))
  (.seq (.for (.name 6) (.range (.cons (.bin .add (.int (1)) (.call "_law_draw" (.cons (.var 0) (.cons (.int (3)) .nil)))) .nil))
  (.ite (.cmp .gt (.idx (.var 0) (.int (2))) (.int (0)))
  (.expr (.bm .append (.var 5) (.cons (.call "_law_template" (.cons (.var 0) (.cons (.var 1) (.cons (.var 2) (.cons (.var 3) (.cons (.var 4) .nil)))))) .nil)))
  .skip))
  (.ret (.coll .tuple (.cons (.var 5) .nil)))))⟩
/-! _law_contents_here=0 _law_rows=1 _law_row=2 -/
def F.L_templates : FDef := ⟨1, 3,
  (.seq (.asg (.name 1) (.lst .nil))
  (.seq (.for (.name 2) (.cons (.var 0) .nil)
  (.seq (.expr (.bm .append (.var 1) (.cons (.var 2) .nil)))
  (.ite (.cmp .eq (.idx (.var 2) (.int (0))) (.str "box"))
  (.asg (.name 1) (.bin .add (.var 1) (.call "_law_templates" (.cons (.idx (.var 2) (.int (4))) .nil))))
  (.ite (.cmp .eq (.idx (.var 2) (.int (0))) (.str "each"))
  (.asg (.name 1) (.bin .add (.var 1) (.call "_law_templates" (.cons (.idx (.var 2) (.int (2))) .nil))))
  (.ite (.cmp .eq (.idx (.var 2) (.int (0))) (.str "when"))
  (.asg (.name 1) (.bin .add (.bin .add (.var 1) (.call "_law_templates" (.cons (.idx (.var 2) (.int (2))) .nil))) (.call "_law_templates" (.cons (.idx (.var 2) (.int (3))) .nil))))
  .skip)))))
  (.ret (.var 1))))⟩
/-! _law_program_here=0 _law_number=1 _law_rows=2 _law_row=3 -/
def F.L_inside : FDef := ⟨2, 4,
  (.seq (.asg (.name 2) (.lst .nil))
  (.seq (.for (.name 3) (.cons (.call "_law_templates" (.cons (.idx (.idx (.idx (.var 0) (.int (1))) (.var 1)) (.int (2))) .nil)) .nil)
  (.seq (.ite (.cmp .eq (.idx (.var 3) (.int (0))) (.str "child"))
  (.expr (.bm .append (.var 2) (.cons (.idx (.var 3) (.int (1))) .nil)))
  .skip)
  (.ite (.cmp .eq (.idx (.var 3) (.int (0))) (.str "part"))
  (.expr (.bm .append (.var 2) (.cons (.idx (.idx (.var 0) (.int (3))) (.idx (.var 3) (.int (1)))) .nil)))
  .skip)))
  (.ret (.var 2))))⟩
/-! _law_program_here=0 _law_many=1 _law_live_here=2 _law_turn=3 _law_number=4 _law_found=5 _law_other=6 _law_action=7 _law_row=8 _law_item=9 _law_steps=10 _law_step=11 -/
def F.L_live : FDef := ⟨1, 12,
  (.seq (.asg (.name 1) (.bi .len (.cons (.idx (.var 0) (.int (1))) .nil)))
  (.seq (.asg (.name 2) (.lst .nil))
  (.seq (.for (.name 3) (.range (.cons (.int (20)) .nil))
  (.for (.name 4) (.range (.cons (.var 1) .nil))
  (.seq (.asg (.name 5) (.lcomp (.for1 [8] (.name 8) (.cons (.call "_law_templates" (.cons (.idx (.idx (.idx (.var 0) (.int (1))) (.var 4)) (.int (2))) .nil)) .nil) (.cmp .eq (.idx (.var 8) (.int (0))) (.str "box")) (.cons (.idx (.var 8) (.int (3))) .nil))))
  (.seq (.for (.name 6) (.range (.cons (.var 1) .nil))
  (.ite (.cmp .isin (.var 6) (.call "_law_inside" (.cons (.var 0) (.cons (.var 4) .nil))))
  (.for (.name 9) (.cons (.var 2) .nil)
  (.ite (.cmp .eq (.idx (.var 9) (.int (0))) (.var 6))
  (.seq (.asg (.name 10) (.idx (.idx (.idx (.idx (.var 0) (.int (1))) (.var 6)) (.int (3))) (.idx (.var 9) (.int (1)))))
  (.asg (.name 5) (.bin .add (.var 5) (.lcomp (.for1 [11] (.name 11) (.cons (.var 10) .nil) (.cmp .eq (.idx (.var 11) (.int (0))) (.str "up")) (.cons (.idx (.var 11) (.int (1))) .nil))))))
  .skip))
  .skip))
  (.for (.name 7) (.cons (.var 5) .nil)
  (.ite (.and (.notN (.var 7)) (.and (.cmp .lt (.var 7) (.bi .len (.cons (.idx (.idx (.idx (.var 0) (.int (1))) (.var 4)) (.int (3))) .nil))) (.cmp .notin (.tup (.cons (.var 4) (.cons (.var 7) .nil))) (.var 2))))
  (.expr (.bm .append (.var 2) (.cons (.tup (.cons (.var 4) (.cons (.var 7) .nil))) .nil)))
  .skip))))))
  (.ret (.coll .tuple (.cons (.coll .sorted (.cons (.var 2) .nil)) .nil))))))⟩
/-! _law_e=0 _law_rows=1 _law_item=2 -/
def F.L_places : FDef := ⟨1, 3,
  (.seq (.ite (.cmp .eq (.idx (.var 0) (.int (0))) (.str "store"))
  (.ret (.lst (.cons (.idx (.var 0) (.int (1))) .nil)))
  .skip)
  (.seq (.asg (.name 1) (.lst .nil))
  (.seq (.for (.name 2) (.cons (.slice (.var 0) (.int (1)) .non) .nil)
  (.ite (.isi (.var 2) .tuple)
  (.asg (.name 1) (.bin .add (.var 1) (.call "_law_places" (.cons (.var 2) .nil))))
  .skip))
  (.ret (.var 1)))))⟩
/-! _law_row=0 _law_rows=1 -/
def F.L_own : FDef := ⟨1, 2,
  (.seq (.ite (.cmp .isin (.idx (.var 0) (.int (0))) (.lst (.cons (.str "show") (.cons (.str "when") (.cons (.str "each") .nil)))))
  (.ret (.lst (.cons (.idx (.var 0) (.int (1))) .nil)))
  .skip)
  (.seq (.asg (.name 1) (.lst .nil))
  (.seq (.ite (.and (.cmp .isin (.idx (.var 0) (.int (0))) (.lst (.cons (.str "box") (.cons (.str "child") .nil)))) (.notN (.idx (.var 0) (.int (2)))))
  (.expr (.bm .append (.var 1) (.cons (.idx (.var 0) (.int (2))) .nil)))
  .skip)
  (.seq (.ite (.cmp .eq (.idx (.var 0) (.int (0))) (.str "child"))
  (.asg (.name 1) (.bin .add (.var 1) (.coll .list (.cons (.idx (.var 0) (.int (3))) .nil))))
  .skip)
  (.ret (.var 1))))))⟩
/-! _law_program_here=0 _law_rows=1 _law_keyed_here=2 _law_found=3 _law_row=4 -/
def F.L_keyed : FDef := ⟨3, 5,
  (.seq (.asg (.name 3) (.lst .nil))
  (.seq (.for (.name 4) (.cons (.var 1) .nil)
  (.seq (.ite (.and (.cmp .eq (.idx (.var 4) (.int (0))) (.str "part")) (.var 2))
  (.expr (.bm .append (.var 3) (.cons (.idx (.idx (.var 0) (.int (3))) (.idx (.var 4) (.int (1)))) .nil)))
  .skip)
  (.ite (.cmp .eq (.idx (.var 4) (.int (0))) (.str "box"))
  (.asg (.name 3) (.bin .add (.var 3) (.call "_law_keyed" (.cons (.var 0) (.cons (.idx (.var 4) (.int (4))) (.cons (.or (.var 2) (.notN (.idx (.var 4) (.int (2))))) .nil))))))
  .skip)))
  (.ret (.var 3))))⟩
/-! _law_program_here=0 _law_live_here=1 _law_steps=2 _law_item=3 _law_put=4 _law_called_here=5 _law_number=6 _law_step=7 _law_cells=8 _law_touched=9 _law_seen=10 _law_row=11 _law_other=12 _law_e=13 _law_place=14 -/
def F.L_called : FDef := ⟨2, 15,
  (.seq (.asg (.name 2) (.lst .nil))
  (.seq (.for (.name 3) (.cons (.var 1) .nil)
  (.for (.name 7) (.cons (.idx (.idx (.idx (.idx (.var 0) (.int (1))) (.idx (.var 3) (.int (0)))) (.int (3))) (.idx (.var 3) (.int (1)))) .nil)
  (.expr (.bm .append (.var 2) (.cons (.lst (.cons (.idx (.var 3) (.int (0))) (.cons (.var 7) .nil))) .nil)))))
  (.seq (.asg (.name 4) (.lcomp (.for1 [11] (.name 11) (.cons (.var 2) .nil) (.and (.cmp .eq (.idx (.idx (.var 11) (.int (1))) (.int (0))) (.str "put")) (.cmp .lt (.idx (.idx (.var 11) (.int (1))) (.int (1))) (.bi .len (.cons (.idx (.var 0) (.int (2))) .nil)))) (.cons (.idx (.idx (.var 11) (.int (1))) (.int (1))) .nil))))
  (.seq (.asg (.name 5) (.lst .nil))
  (.seq (.for (.name 6) (.range (.cons (.bi .len (.cons (.idx (.var 0) (.int (1))) .nil)) .nil))
  (.seq (.asg (.name 8) (.idx (.idx (.idx (.var 0) (.int (1))) (.var 6)) (.int (1))))
  (.seq (.asg (.name 9) (.lcomp (.for1 [11] (.name 11) (.cons (.var 2) .nil) (.and (.cmp .eq (.idx (.var 11) (.int (0))) (.var 6)) (.and (.cmp .eq (.idx (.idx (.var 11) (.int (1))) (.int (0))) (.str "set")) (.cmp .lt (.idx (.idx (.var 11) (.int (1))) (.int (1))) (.bi .len (.cons (.var 8) .nil))))) (.cons (.var 11) .nil))))
  (.seq (.asg (.name 10) (.bl false))
  (.seq (.for (.name 11) (.cons (.call "_law_templates" (.cons (.idx (.idx (.idx (.var 0) (.int (1))) (.var 6)) (.int (2))) .nil)) .nil)
  (.seq (.ite (.cmp .eq (.idx (.var 11) (.int (0))) (.str "input"))
  (.asg (.name 10) (.bl true))
  .skip)
  (.for (.name 13) (.cons (.call "_law_own" (.cons (.var 11) .nil)) .nil)
  (.for (.name 14) (.cons (.call "_law_places" (.cons (.var 13) .nil)) .nil)
  (.ite (.cmp .isin (.var 14) (.var 4))
  (.asg (.name 10) (.bl true))
  .skip)))))
  (.seq (.for (.name 12) (.cons (.var 5) .nil)
  (.ite (.cmp .isin (.tup (.cons (.str "child") (.cons (.var 6) .nil))) (.lcomp (.for1 [11] (.name 11) (.cons (.call "_law_templates" (.cons (.idx (.idx (.idx (.var 0) (.int (1))) (.var 12)) (.int (2))) .nil)) .nil) (.bl true) (.cons (.slice (.var 11) .non (.int (2))) .nil))))
  (.asg (.name 10) (.bl true))
  .skip))
  (.seq (.ite (.and (.cmp .isin (.int (0)) (.var 5)) (.cmp .isin (.var 6) (.call "_law_keyed" (.cons (.var 0) (.cons (.idx (.idx (.idx (.var 0) (.int (1))) (.int (0))) (.int (2))) (.cons (.bl false) .nil))))))
  (.asg (.name 10) (.bl true))
  .skip)
  (.ite (.or (.var 10) (.cmp .gt (.bi .len (.cons (.var 9) .nil)) (.int (0))))
  (.expr (.bm .append (.var 5) (.cons (.var 6) .nil)))
  .skip))))))))
  (.ret (.coll .tuple (.cons (.var 5) .nil))))))))⟩
/-! _law_script=0 _law_box_here=1 _law_program_here=2 _law_live_here=3 _law_called_here=4 _law_rest=5 _law_quiet=6 _law_k=7 _law_item=8 -/
def F.law_k70 : FDef := ⟨1, 9,
  (.seq (.asg (.name 1) (.call "_law_box" (.cons (.var 0) (.cons (.int (0)) (.cons (.int (63)) .nil)))))
  (.seq (.asg (.name 2) (.call "_law_program" (.cons (.var 1) .nil)))
  (.seq (.asg (.name 3) (.call "_law_live" (.cons (.var 2) .nil)))
  (.seq (.asg (.name 4) (.call "_law_called" (.cons (.var 2) (.cons (.var 3) .nil))))
  (.seq (.asg (.name 5) (.coll .tuple (.cons (.lcomp (.for1 [7] (.name 7) (.range (.cons (.bi .len (.cons (.idx (.var 2) (.int (1))) .nil)) .nil)) (.cmp .notin (.var 7) (.var 4)) (.cons (.var 7) .nil))) .nil)))
  (.seq (.ite (.or (.no (.call "_law_same" (.cons (.call "live_actions" (.cons (.var 2) .nil)) (.cons (.var 3) .nil)))) (.no (.call "_law_same" (.cons (.call "may_be_called" (.cons (.var 2) .nil)) (.cons (.var 4) .nil)))))
  (.ret (.bl false))
  .skip)
  (.seq (.asg (.name 6) (.coll .tuple (.cons (.lcomp (.for1 [7] (.name 7) (.cons (.var 5) .nil) (.cmp .eq (.bi .len (.cons (.lcomp (.for1 [8] (.name 8) (.cons (.var 3) .nil) (.cmp .eq (.idx (.var 8) (.int (0))) (.var 7)) (.cons (.var 8) .nil))) .nil)) (.int (0))) (.cons (.var 7) .nil))) .nil)))
  (.ret (.and (.call "_law_same" (.cons (.call "sleepers" (.cons (.var 2) .nil)) (.cons (.var 5) .nil))) (.call "_law_same" (.cons (.call "never_wanted" (.cons (.var 2) .nil)) (.cons (.var 6) .nil))))))))))))⟩
/-! _law_box_here=0 _law_program_here=1 _law_server=2 _law_first_here=3 _law_k=4 _law_client=5 _law_number=6 _law_turn=7 _law_kind=8 -/
def F.L_played_3 : FDef := ⟨1, 9,
  (.seq (.asg (.name 1) (.call "_law_program" (.cons (.var 0) .nil)))
  (.seq (.asg (.name 2) (.new "Server" (.cons (.var 1) .nil)))
  (.seq (.asg (.name 3) (.lst .nil))
  (.seq (.for (.name 4) (.range (.cons (.bi .len (.cons (.idx (.var 1) (.int (3))) .nil)) .nil))
  (.ite (.cmp .eq (.call "_law_draw" (.cons (.var 0) (.cons (.int (3)) .nil))) (.int (0)))
  (.seq (.expr (.meth (.var 2) "resolve" (.cons (.var 4) .nil)))
  (.expr (.bm .append (.var 3) (.cons (.var 4) .nil))))
  .skip))
  (.seq (.asg (.name 5) (.new "Client" (.cons (.var 1) .nil)))
  (.seq (.expr (.meth (.var 5) "feed" (.cons (.meth (.var 2) "render" .nil) .nil)))
  (.seq (.expr (.meth (.var 5) "start" .nil))
  (.seq (.for (.name 6) (.range (.cons (.bi .len (.cons (.idx (.var 1) (.int (1))) .nil)) .nil))
  (.ite (.cmp .gt (.call "_law_draw" (.cons (.var 0) (.cons (.int (4)) .nil))) (.int (0)))
  (.expr (.meth (.var 5) "code" (.cons (.var 6) .nil)))
  .skip))
  (.seq (.for (.name 7) (.range (.cons (.call "_law_draw" (.cons (.var 0) (.cons (.int (16)) .nil))) .nil))
  (.seq (.asg (.name 8) (.call "_law_draw" (.cons (.var 0) (.cons (.int (10)) .nil))))
  (.seq (.ite (.cmp .eq (.var 8) (.int (8)))
  (.seq (.expr (.meth (.var 5) "enter" (.cons (.call "_law_draw" (.cons (.var 0) (.cons (.int (12)) .nil))) (.cons (.idx (.lst (.cons (.int (3)) (.cons (.int (700)) .nil))) (.call "_law_draw" (.cons (.var 0) (.cons (.int (2)) .nil)))) .nil))))
  .cont)
  .skip)
  (.seq (.ite (.cmp .eq (.var 8) (.int (9)))
  (.seq (.expr (.meth (.var 5) "code" (.cons (.call "_law_draw" (.cons (.var 0) (.cons (.bi .len (.cons (.idx (.var 1) (.int (1))) .nil)) .nil))) .nil)))
  .cont)
  .skip)
  (.ite (.cmp .lt (.var 8) (.int (4)))
  (.expr (.meth (.var 5) "event" (.cons (.call "_law_draw" (.cons (.var 0) (.cons (.int (12)) .nil))) (.cons (.cmp .eq (.call "_law_draw" (.cons (.var 0) (.cons (.int (2)) .nil))) (.int (0))) .nil))))
  (.ite (.or (.cmp .lt (.var 8) (.int (7))) (.cmp .eq (.bi .len (.cons (.idx (.var 1) (.int (3))) .nil)) (.int (0))))
  (.expr (.meth (.var 5) "work" (.cons (.call "_law_draw" (.cons (.var 0) (.cons (.int (9)) .nil))) .nil)))
  (.expr (.meth (.var 5) "feed" (.cons (.meth (.var 2) "resolve" (.cons (.call "_law_draw" (.cons (.var 0) (.cons (.bi .len (.cons (.idx (.var 1) (.int (3))) .nil)) .nil))) .nil)) .nil)))))))))
  (.ret (.lst (.cons (.var 1) (.cons (.coll .tuple (.cons (.var 3) .nil)) (.cons (.var 5) .nil))))))))))))))⟩
/-! _law_script=0 _law_box_here=1 _law_played_here=2 _law_program_here=3 _law_client=4 _law_rest=5 _law_quiet=6 _law_number=7 _law_commit=8 _law_about=9 _law_people_here=10 _law_call=11 _law_found=12 _law_k=13 _law_row=14 -/
def F.law_k71 : FDef := ⟨1, 15,
  (.seq (.asg (.name 1) (.call "_law_box" (.cons (.var 0) (.cons (.int (0)) (.cons (.int (63)) .nil)))))
  (.seq (.asg (.name 2) (.call "_law_played" (.cons (.var 1) .nil)))
  (.seq (.asg (.name 3) (.idx (.var 2) (.int (0))))
  (.seq (.asg (.name 4) (.idx (.var 2) (.int (2))))
  (.seq (.asg (.name 5) (.call "sleepers" (.cons (.var 3) .nil)))
  (.seq (.asg (.name 6) (.call "never_wanted" (.cons (.var 3) .nil)))
  (.seq (.for (.name 7) (.cons (.meth (.var 4) "wants" .nil) .nil)
  (.ite (.cmp .isin (.var 7) (.var 6))
  (.ret (.bl false))
  .skip))
  (.seq (.for (.name 8) (.cons (.attr (.var 4) "record") .nil)
  (.seq (.asg (.name 9) (.call "_law_run" (.cons (.var 3) (.cons (.idx (.var 2) (.int (1))) (.cons (.lcomp (.for1 [13] (.name 13) (.cons (.idx (.var 8) (.int (4))) .nil) (.bl true) (.cons (.idx (.idx (.attr (.var 4) "deeds") (.var 13)) (.int (0))) .nil))) .nil)))))
  (.seq (.asg (.name 10) (.call "_law_people" (.cons (.tup (.cons (.call "_law_child" (.cons (.var 9) (.cons (.tup .nil) (.cons (.int (0)) (.cons (.tup .nil) .nil))))) .nil)) .nil)))
  (.for (.name 11) (.cons (.idx (.var 8) (.int (5))) .nil)
  (.seq (.asg (.name 12) (.lcomp (.for1 [14] (.name 14) (.cons (.var 10) .nil) (.cmp .eq (.idx (.var 14) (.int (0))) (.idx (.var 11) (.int (0)))) (.cons (.idx (.var 14) (.int (1))) .nil))))
  (.ite (.or (.cmp .ne (.bi .len (.cons (.var 12) .nil)) (.int (1))) (.cmp .isin (.idx (.var 12) (.int (0))) (.var 5)))
  (.ret (.bl false))
  .skip))))))
  (.ret (.bl true))))))))))⟩
/-! _law_script=0 _law_box_here=1 _law_program_here=2 _law_server=3 _law_first_here=4 _law_k=5 _law_page=6 _law_clients=7 _law_client=8 _law_deeds=9 _law_about=10 _law_slices=11 _law_before=12 _law_commit=13 _law_part=14 _law_text=15 _law_number=16 _law_told=17 _law_row=18 -/
def F.law_k95 : FDef := ⟨1, 19,
  (.seq (.asg (.name 1) (.call "_law_box" (.cons (.var 0) (.cons (.int (0)) (.cons (.int (63)) .nil)))))
  (.seq (.asg (.name 2) (.call "_law_program" (.cons (.var 1) .nil)))
  (.seq (.asg (.name 3) (.new "Server" (.cons (.var 2) .nil)))
  (.seq (.asg (.name 4) (.coll .tuple (.cons (.lcomp (.for1 [5] (.name 5) (.range (.cons (.bi .len (.cons (.idx (.var 2) (.int (3))) .nil)) .nil)) (.cmp .eq (.call "_law_draw" (.cons (.var 1) (.cons (.int (2)) .nil))) (.int (0))) (.cons (.var 5) .nil))) .nil)))
  (.seq (.for (.name 5) (.cons (.var 4) .nil)
  (.expr (.meth (.var 3) "resolve" (.cons (.var 5) .nil))))
  (.seq (.asg (.name 6) (.meth (.var 3) "render" .nil))
  (.seq (.asg (.name 7) (.lst (.cons (.new "Client" (.cons (.var 2) .nil)) (.cons (.new "Client" (.cons (.var 2) .nil)) .nil))))
  (.seq (.for (.name 8) (.cons (.var 7) .nil)
  (.expr (.meth (.var 8) "feed" (.cons (.var 6) .nil))))
  (.seq (.asg (.name 9) (.lst .nil))
  (.seq (.for (.name 5) (.range (.cons (.call "_law_draw" (.cons (.var 1) (.cons (.int (9)) .nil))) .nil))
  (.ite (.and (.cmp .eq (.call "_law_draw" (.cons (.var 1) (.cons (.int (5)) .nil))) (.int (0))) (.cmp .gt (.bi .len (.cons (.idx (.var 2) (.int (3))) .nil)) (.int (0))))
  (.seq (.asg (.name 14) (.call "_law_draw" (.cons (.var 1) (.cons (.bi .len (.cons (.idx (.var 2) (.int (3))) .nil)) .nil))))
  (.seq (.asg (.name 15) (.meth (.var 3) "resolve" (.cons (.var 14) .nil)))
  (.seq (.ite (.cmp .ne (.var 15) (.str ""))
  (.expr (.bm .append (.var 9) (.cons (.tup (.cons (.str "part") (.cons (.var 14) .nil))) .nil)))
  .skip)
  (.for (.name 8) (.cons (.var 7) .nil)
  (.expr (.meth (.var 8) "feed" (.cons (.var 15) .nil)))))))
  (.seq (.asg (.name 16) (.call "_law_draw" (.cons (.var 1) (.cons (.int (14)) .nil))))
  (.seq (.asg (.name 17) (.lcomp (.for1 [8] (.name 8) (.cons (.var 7) .nil) (.bl true) (.cons (.meth (.var 8) "event" (.cons (.var 16) (.cons (.cmp .eq (.call "_law_draw" (.cons (.var 1) (.cons (.int (2)) .nil))) (.int (0))) .nil))) .nil))))
  (.seq (.ite (.or (.no (.isi (.idx (.var 17) (.int (0))) .bool)) (.no (.call "_law_same" (.cons (.idx (.var 17) (.int (0))) (.cons (.idx (.var 17) (.int (1))) .nil)))))
  (.ret (.bl false))
  .skip)
  (.ite (.idx (.var 17) (.int (0)))
  (.expr (.bm .append (.var 9) (.cons (.idx (.idx (.attr (.idx (.var 7) (.int (0))) "deeds") (.bin .sub (.bi .len (.cons (.attr (.idx (.var 7) (.int (0))) "deeds") .nil)) (.int (1)))) (.int (0))) .nil)))
  .skip))))))
  (.seq (.asg (.name 10) (.call "_law_run" (.cons (.var 2) (.cons (.var 4) (.cons (.var 9) .nil)))))
  (.seq (.for (.name 8) (.cons (.var 7) .nil)
  (.seq (.expr (.meth (.var 8) "start" .nil))
  (.seq (.for (.name 5) (.range (.cons (.bi .len (.cons (.idx (.var 2) (.int (1))) .nil)) .nil))
  (.expr (.meth (.var 8) "code" (.cons (.var 5) .nil))))
  (.seq (.asg (.name 11) (.bin .add (.int (1)) (.call "_law_draw" (.cons (.var 1) (.cons (.int (5)) .nil)))))
  (.seq (.for (.name 5) (.range (.cons (.int (2000)) .nil))
  (.ite (.meth (.var 8) "work" (.cons (.var 11) .nil))
  .brk
  .skip))
  (.seq (.ite (.or (.no (.call "_law_same" (.cons (.coll .tuple (.cons (.lcomp (.for1 [18] (.name 18) (.cons (.attr (.var 8) "deeds") .nil) (.bl true) (.cons (.idx (.var 18) (.int (0))) .nil))) .nil)) (.cons (.coll .tuple (.cons (.var 9) .nil)) .nil)))) (.no (.call "_law_same" (.cons (.attr (.var 8) "world") (.cons (.call "_law_world" (.cons (.var 10) .nil)) .nil)))))
  (.ret (.bl false))
  .skip)
  (.seq (.ite (.no (.call "_law_same" (.cons (.meth (.var 8) "sight" .nil) (.cons (.call "_law_sight" (.cons (.idx (.call "_law_child" (.cons (.var 10) (.cons (.tup .nil) (.cons (.int (0)) (.cons (.tup .nil) .nil))))) (.int (5))) .nil)) .nil))))
  (.ret (.bl false))
  .skip)
  (.seq (.ite (.or (.no (.call "_law_same" (.cons (.attr (.var 8) "taken") (.cons (.coll .tuple (.range (.cons (.bi .len (.cons (.var 9) .nil)) .nil))) .nil)))) (.notT (.meth (.var 8) "work" (.cons (.int (0)) .nil))))
  (.ret (.bl false))
  .skip)
  (.seq (.asg (.name 12) (.int (0)))
  (.seq (.for (.name 13) (.cons (.attr (.var 8) "record") .nil)
  (.seq (.ite (.cmp .le (.bi .len (.cons (.idx (.var 13) (.int (4))) .nil)) (.var 12))
  (.ret (.bl false))
  .skip)
  (.asg (.name 12) (.bi .len (.cons (.idx (.var 13) (.int (4))) .nil)))))
  (.ite (.cmp .ne (.var 12) (.bi .len (.cons (.var 9) .nil)))
  (.ret (.bl false))
  .skip)))))))))))
  (.ret (.bl true))))))))))))))⟩
/-! _law_program_here=0 _law_first_here=1 _law_model_here=2 -/
def F.L_model_2 : FDef := ⟨2, 3,
  (.seq (.asg (.name 2) (.dic (.cons (.str "program") (.cons (.var 0) (.cons (.str "first") (.cons (.var 1) (.cons (.str "deeds") (.cons (.lst .nil) (.cons (.str "taken") (.cons (.lst .nil) (.cons (.str "awake") (.cons (.lst .nil) (.cons (.str "draw") (.cons .non (.cons (.str "numbers") (.cons (.dic .nil) (.cons (.str "next") (.cons (.int (0)) (.cons (.str "started") (.cons (.bl false) (.cons (.str "record") (.cons (.lst .nil) (.cons (.str "held") (.cons (.lst .nil) (.cons (.str "codes") (.cons (.lst .nil) (.cons (.str "about") (.cons (.call "_law_first" (.cons (.var 0) (.cons (.var 1) .nil))) .nil))))))))))))))))))))))))))))
  (.seq (.expr (.call "_law_number" (.cons (.var 2) .nil)))
  (.ret (.var 2))))⟩
/-! _law_model_here=0 _law_number_here=1 _law_value_here=2 _law_urgent=3 _law_nodes=4 _law_path=5 _law_told=6 _law_deed=7 -/
def F.L_event : FDef := ⟨4, 8,
  (.seq (.asg (.name 4) (.call "_law_shown" (.cons (.call "_law_page" (.cons (.idx (.var 0) (.str "about")) .nil)) .nil)))
  (.seq (.for (.name 5) (.cons (.idx (.var 0) (.str "numbers")) .nil)
  (.ite (.cmp .eq (.idx (.idx (.var 0) (.str "numbers")) (.var 5)) (.var 1))
  (.seq (.asg (.name 6) (.call "_law_field" (.cons (.var 4) (.cons (.var 5) .nil))))
  (.seq (.ite (.isN (.var 2))
  (.asg (.name 6) (.call "_law_meaning" (.cons (.var 4) (.cons (.var 5) .nil))))
  .skip)
  (.seq (.ite (.isN (.var 6))
  (.ret (.bl false))
  .skip)
  (.seq (.asg (.name 7) (.tup (.cons (.str "act") (.cons (.idx (.var 6) (.int (0))) (.cons (.idx (.var 6) (.int (1))) .nil)))))
  (.seq (.ite (.notN (.var 2))
  (.seq (.asg (.name 7) (.tup (.cons (.str "enter") (.cons (.idx (.var 6) (.int (0))) (.cons (.idx (.var 6) (.int (1))) (.cons (.var 2) .nil))))))
  (.expr (.bm .append (.idx (.var 0) (.str "held")) (.cons (.lst (.cons (.bi .len (.cons (.idx (.var 0) (.str "deeds")) .nil)) (.cons (.var 5) (.cons (.var 2) .nil)))) .nil))))
  .skip)
  (.seq (.expr (.bm .append (.idx (.var 0) (.str "deeds")) (.cons (.lst (.cons (.var 7) (.cons (.var 3) .nil))) .nil)))
  (.ret (.bl true))))))))
  .skip))
  (.ret (.bl false))))⟩
/-! _law_model_here=0 _law_many=1 _law_fresh=2 _law_urgent=3 _law_taken=4 _law_did=5 _law_after=6 _law_k=7 _law_needs_here=8 _law_left=9 _law_called=10 _law_row=11 _law_draw_here=12 _law_number_here=13 -/
def F.L_begin : FDef := ⟨1, 14,
  (.seq (.asg (.name 1) (.bi .len (.cons (.idx (.var 0) (.str "deeds")) .nil)))
  (.seq (.asg (.name 2) (.lcomp (.for1 [7] (.name 7) (.range (.cons (.var 1) .nil)) (.cmp .notin (.var 7) (.idx (.var 0) (.str "taken"))) (.cons (.var 7) .nil))))
  (.seq (.asg (.name 3) (.lcomp (.for1 [7] (.name 7) (.cons (.var 2) .nil) (.idx (.idx (.idx (.var 0) (.str "deeds")) (.var 7)) (.int (1))) (.cons (.var 7) .nil))))
  (.seq (.ite (.cmp .eq (.bi .len (.cons (.var 2) .nil)) (.int (0)))
  (.ret (.bl false))
  .skip)
  (.seq (.asg (.name 4) (.coll .sorted (.cons (.bin .add (.idx (.var 0) (.str "taken")) (.var 2)) .nil)))
  (.seq (.ite (.cmp .gt (.bi .len (.cons (.var 3) .nil)) (.int (0)))
  (.asg (.name 4) (.coll .sorted (.cons (.bin .add (.idx (.var 0) (.str "taken")) (.var 3)) .nil)))
  .skip)
  (.seq (.asg (.name 5) (.lst .nil))
  (.seq (.asg (.name 6) (.call "_law_first" (.cons (.idx (.var 0) (.str "program")) (.cons (.idx (.var 0) (.str "first")) .nil))))
  (.seq (.for (.name 7) (.cons (.var 4) .nil)
  (.asg (.name 6) (.call "_law_done" (.cons (.var 6) (.cons (.idx (.idx (.idx (.var 0) (.str "deeds")) (.var 7)) (.int (0))) (.cons (.var 5) .nil))))))
  (.seq (.asg (.name 8) (.call "_law_needs" (.cons (.idx (.var 0) (.str "program")) (.cons (.idx (.var 0) (.str "first")) (.cons (.idx (.var 0) (.str "about")) (.cons (.var 6) (.cons (.idx (.var 0) (.str "awake")) .nil)))))))
  (.seq (.asg (.name 9) (.int (0)))
  (.seq (.asg (.name 10) (.lcomp (.for1 [11] (.name 11) (.cons (.var 8) .nil) (.bl true) (.cons (.idx (.var 11) (.int (0))) .nil))))
  (.seq (.for (.name 11) (.cons (.var 8) .nil)
  (.asg (.name 9) (.bin .add (.var 9) (.idx (.var 11) (.int (2))))))
  (.seq (.for (.name 11) (.cons (.call "_law_people" (.cons (.tup (.cons (.call "_law_child" (.cons (.var 6) (.cons (.tup .nil) (.cons (.int (0)) (.cons (.tup .nil) .nil))))) .nil)) .nil)) .nil)
  (.ite (.cmp .isin (.idx (.var 11) (.int (0))) (.var 10))
  (.expr (.bm .append (.var 5) (.cons (.idx (.var 11) (.int (1))) .nil)))
  .skip))
  (.seq (.asg (.name 12) (.dic (.cons (.str "urgent") (.cons (.cmp .gt (.bi .len (.cons (.var 3) .nil)) (.int (0))) (.cons (.str "begun") (.cons (.var 1) (.cons (.str "taken") (.cons (.var 4) (.cons (.str "after") (.cons (.var 6) (.cons (.str "needs") (.cons (.var 8) (.cons (.str "left") (.cons (.var 9) .nil))))))))))))))
  (.seq (.setidx (.var 12) (.str "wants") (.lcomp (.for1 [13] (.name 13) (.range (.cons (.int (8)) .nil)) (.cmp .isin (.var 13) (.var 5)) (.cons (.var 13) .nil))))
  (.seq (.setidx (.var 0) (.str "draw") (.var 12))
  (.ret (.bl true)))))))))))))))))))⟩
/-! _law_model_here=0 _law_draw_here=1 _law_called=2 _law_people_here=3 _law_told=4 _law_calls=5 _law_ended=6 _law_commit_here=7 _law_row=8 _law_path=9 -/
def F.L_commit : FDef := ⟨1, 10,
  (.seq (.asg (.name 1) (.idx (.var 0) (.str "draw")))
  (.seq (.setidx (.var 0) (.str "taken") (.idx (.var 1) (.str "taken")))
  (.seq (.setidx (.var 0) (.str "about") (.idx (.var 1) (.str "after")))
  (.seq (.asg (.name 2) (.bin .add (.idx (.var 0) (.str "awake")) (.lcomp (.for1 [8] (.name 8) (.cons (.idx (.var 1) (.str "needs")) .nil) (.bl true) (.cons (.idx (.var 8) (.int (0))) .nil)))))
  (.seq (.asg (.name 3) (.lcomp (.for1 [8] (.name 8) (.cons (.call "_law_people" (.cons (.tup (.cons (.call "_law_child" (.cons (.idx (.var 0) (.str "about")) (.cons (.tup .nil) (.cons (.int (0)) (.cons (.tup .nil) .nil))))) .nil)) .nil)) .nil) (.bl true) (.cons (.idx (.var 8) (.int (0))) .nil))))
  (.seq (.setidx (.var 0) (.str "awake") (.lcomp (.for1 [9] (.name 9) (.cons (.var 3) .nil) (.cmp .isin (.var 9) (.var 2)) (.cons (.var 9) .nil))))
  (.seq (.asg (.name 4) (.call "_law_number" (.cons (.var 0) .nil)))
  (.seq (.asg (.name 5) (.coll .tuple (.cons (.lcomp (.for1 [8] (.name 8) (.cons (.idx (.var 1) (.str "needs")) .nil) (.bl true) (.cons (.tup (.cons (.idx (.var 8) (.int (0))) (.cons (.idx (.var 8) (.int (2))) .nil))) .nil))) .nil)))
  (.seq (.asg (.name 6) (.bi .len (.cons (.idx (.var 0) (.str "deeds")) .nil)))
  (.seq (.asg (.name 7) (.tup (.cons (.str "commit") (.cons (.idx (.var 1) (.str "urgent")) (.cons (.idx (.var 1) (.str "begun")) (.cons (.var 6) (.cons (.coll .tuple (.cons (.idx (.var 1) (.str "taken")) .nil)) (.cons (.var 5) (.cons (.idx (.var 4) (.int (0))) (.cons (.idx (.var 4) (.int (1))) .nil))))))))))
  (.seq (.expr (.bm .append (.idx (.var 0) (.str "record")) (.cons (.var 7) .nil)))
  (.setidx (.var 0) (.str "draw") .non))))))))))))⟩
/-! _law_model_here=0 _law_calls=1 _law_turn=2 _law_draw_here=3 _law_k=4 -/
def F.L_work : FDef := ⟨2, 5,
  (.seq (.ite (.no (.idx (.var 0) (.str "started")))
  (.ret (.bl false))
  .skip)
  (.seq (.for (.name 2) (.range (.cons (.int (200)) .nil))
  (.seq (.asg (.name 3) (.idx (.var 0) (.str "draw")))
  (.seq (.ite (.and (.notN (.var 3)) (.no (.idx (.var 3) (.str "urgent"))))
  (.ite (.cmp .gt (.bi .len (.cons (.lcomp (.for1 [4] (.name 4) (.range (.cons (.idx (.var 3) (.str "begun")) (.cons (.bi .len (.cons (.idx (.var 0) (.str "deeds")) .nil)) .nil))) (.idx (.idx (.idx (.var 0) (.str "deeds")) (.var 4)) (.int (1))) (.cons (.var 4) .nil))) .nil)) (.int (0)))
  (.setidx (.var 0) (.str "draw") .non)
  .skip)
  .skip)
  (.seq (.ite (.and (.isN (.idx (.var 0) (.str "draw"))) (.no (.call "_law_begin" (.cons (.var 0) .nil))))
  (.ret (.bl true))
  .skip)
  (.seq (.asg (.name 3) (.idx (.var 0) (.str "draw")))
  (.seq (.ite (.cmp .gt (.bi .len (.cons (.call "_law_wants" (.cons (.var 0) .nil)) .nil)) (.int (0)))
  (.ret (.bl false))
  .skip)
  (.seq (.ite (.cmp .gt (.idx (.var 3) (.str "left")) (.var 1))
  (.seq (.setidx (.var 3) (.str "left") (.bin .sub (.idx (.var 3) (.str "left")) (.var 1)))
  (.ret (.bl false)))
  .skip)
  (.seq (.asg (.name 1) (.bin .sub (.var 1) (.idx (.var 3) (.str "left"))))
  (.expr (.call "_law_commit" (.cons (.var 0) .nil)))))))))))
  (.ret (.bl false))))⟩
/-! _law_client=0 _law_model_here=1 _law_tree_here=2 _law_deeds=3 _law_row=4 -/
def F.L_alike : FDef := ⟨2, 5,
  (.seq (.asg (.name 2) (.call "_law_tree" (.cons (.var 1) (.cons (.call "_law_shown" (.cons (.call "_law_page" (.cons (.idx (.var 1) (.str "about")) .nil)) .nil)) .nil))))
  (.seq (.ite (.or (.no (.call "_law_same" (.cons (.meth (.var 0) "nodes" .nil) (.cons (.var 2) .nil)))) (.no (.call "_law_same" (.cons (.meth (.var 0) "sight" .nil) (.cons (.call "_law_bare" (.cons (.var 2) .nil)) .nil)))))
  (.ret (.bl false))
  .skip)
  (.seq (.ite (.or (.no (.call "_law_same" (.cons (.attr (.var 0) "codes") (.cons (.coll .tuple (.cons (.coll .sorted (.cons (.idx (.var 1) (.str "codes")) .nil)) .nil)) .nil)))) (.no (.call "_law_same" (.cons (.meth (.var 0) "wants" .nil) (.cons (.call "_law_wants" (.cons (.var 1) .nil)) .nil)))))
  (.ret (.bl false))
  .skip)
  (.seq (.ite (.or (.no (.call "_law_same" (.cons (.attr (.var 0) "taken") (.cons (.coll .tuple (.cons (.idx (.var 1) (.str "taken")) .nil)) .nil)))) (.no (.call "_law_same" (.cons (.attr (.var 0) "awake") (.cons (.coll .tuple (.cons (.idx (.var 1) (.str "awake")) .nil)) .nil)))))
  (.ret (.bl false))
  .skip)
  (.seq (.asg (.name 3) (.coll .tuple (.cons (.lcomp (.for1 [4] (.name 4) (.cons (.idx (.var 1) (.str "deeds")) .nil) (.bl true) (.cons (.tup (.cons (.idx (.var 4) (.int (0))) (.cons (.idx (.var 4) (.int (1))) .nil))) .nil))) .nil)))
  (.seq (.ite (.or (.no (.call "_law_same" (.cons (.attr (.var 0) "deeds") (.cons (.var 3) .nil)))) (.no (.call "_law_same" (.cons (.attr (.var 0) "record") (.cons (.coll .tuple (.cons (.idx (.var 1) (.str "record")) .nil)) .nil)))))
  (.ret (.bl false))
  .skip)
  (.ret (.call "_law_same" (.cons (.attr (.var 0) "world") (.cons (.call "_law_world" (.cons (.idx (.var 1) (.str "about")) .nil)) .nil))))))))))⟩
/-! _law_model_here=0 _law_node=1 _law_value_here=2 _law_item=3 -/
def F.L_held_2 : FDef := ⟨2, 4,
  (.seq (.asg (.name 2) (.idx (.var 1) (.int (5))))
  (.seq (.for (.name 3) (.cons (.idx (.var 0) (.str "held")) .nil)
  (.ite (.and (.cmp .eq (.idx (.var 3) (.int (1))) (.idx (.var 1) (.int (1)))) (.cmp .notin (.idx (.var 3) (.int (0))) (.idx (.var 0) (.str "taken"))))
  (.asg (.name 2) (.idx (.var 3) (.int (2))))
  .skip))
  (.ret (.var 2))))⟩
/-! _law_model_here=0 _law_number_here=1 -/
def F.L_wants : FDef := ⟨1, 2,
  (.seq (.ite (.isN (.idx (.var 0) (.str "draw")))
  (.ret (.tup .nil))
  .skip)
  (.ret (.coll .tuple (.cons (.lcomp (.for1 [1] (.name 1) (.cons (.idx (.idx (.var 0) (.str "draw")) (.str "wants")) .nil) (.cmp .notin (.var 1) (.idx (.var 0) (.str "codes"))) (.cons (.var 1) .nil))) .nil))))⟩
/-! _law_nodes=0 _law_rows=1 _law_node=2 -/
def F.L_bare : FDef := ⟨1, 3,
  (.seq (.asg (.name 1) (.lst .nil))
  (.seq (.for (.name 2) (.cons (.var 0) .nil)
  (.ite (.cmp .eq (.idx (.var 2) (.int (0))) (.str "text"))
  (.expr (.bm .append (.var 1) (.cons (.tup (.cons (.str "text") (.cons (.idx (.var 2) (.int (2))) .nil))) .nil)))
  (.ite (.cmp .eq (.idx (.var 2) (.int (0))) (.str "input"))
  (.expr (.bm .append (.var 1) (.cons (.tup (.cons (.str "input") (.cons (.idx (.var 2) (.int (2))) (.cons (.idx (.var 2) (.int (3))) .nil)))) .nil)))
  (.expr (.bm .append (.var 1) (.cons (.tup (.cons (.str "box") (.cons (.idx (.var 2) (.int (2))) (.cons (.call "_law_bare" (.cons (.idx (.var 2) (.int (3))) .nil)) .nil)))) .nil))))))
  (.ret (.coll .tuple (.cons (.var 1) .nil)))))⟩
/-! _law_script=0 _law_box_here=1 _law_program_here=2 _law_server=3 _law_first_here=4 _law_k=5 _law_client=6 _law_model_here=7 _law_kind=8 _law_number_here=9 _law_value_here=10 _law_due=11 _law_urgent=12 _law_calls=13 _law_plain=14 _law_part=15 _law_row=16 -/
def F.law_k96 : FDef := ⟨1, 17,
  (.seq (.asg (.name 1) (.call "_law_box" (.cons (.var 0) (.cons (.int (0)) (.cons (.int (63)) .nil)))))
  (.seq (.asg (.name 2) (.call "_law_program" (.cons (.var 1) .nil)))
  (.seq (.asg (.name 3) (.new "Server" (.cons (.var 2) .nil)))
  (.seq (.asg (.name 4) (.lst .nil))
  (.seq (.for (.name 5) (.range (.cons (.bi .len (.cons (.idx (.var 2) (.int (3))) .nil)) .nil))
  (.ite (.cmp .eq (.call "_law_draw" (.cons (.var 1) (.cons (.int (3)) .nil))) (.int (0)))
  (.seq (.expr (.meth (.var 3) "resolve" (.cons (.var 5) .nil)))
  (.expr (.bm .append (.var 4) (.cons (.var 5) .nil))))
  .skip))
  (.seq (.asg (.name 6) (.new "Client" (.cons (.var 2) .nil)))
  (.seq (.expr (.meth (.var 6) "feed" (.cons (.meth (.var 3) "render" .nil) .nil)))
  (.seq (.asg (.name 7) (.call "_law_model" (.cons (.var 2) (.cons (.coll .tuple (.cons (.var 4) .nil)) .nil))))
  (.seq (.setidx (.var 7) (.str "seen") (.coll .list (.cons (.var 4) .nil)))
  (.seq (.ite (.or (.notT (.attr (.var 6) "whole")) (.no (.call "_law_alike" (.cons (.var 6) (.cons (.var 7) .nil)))))
  (.ret (.bl false))
  .skip)
  (.seq (.for (.name 5) (.range (.cons (.call "_law_draw" (.cons (.var 1) (.cons (.int (25)) .nil))) .nil))
  (.seq (.asg (.name 8) (.call "_law_draw" (.cons (.var 1) (.cons (.int (11)) .nil))))
  (.seq (.ite (.cmp .eq (.var 8) (.int (8)))
  (.seq (.asg (.name 9) (.bin .mod (.bi .int (.cons (.call "_law_draw" (.cons (.var 1) (.cons (.int (1000)) .nil))) .nil)) (.bin .add (.idx (.var 7) (.str "next")) (.int (2)))))
  (.seq (.asg (.name 10) (.idx (.lst (.cons (.int (0)) (.cons (.int (5)) (.cons (.int (999)) .nil)))) (.call "_law_draw" (.cons (.var 1) (.cons (.int (3)) .nil)))))
  (.seq (.asg (.name 11) (.call "_law_event" (.cons (.var 7) (.cons (.var 9) (.cons (.var 10) (.cons (.bl true) .nil))))))
  (.ite (.no (.call "_law_same" (.cons (.meth (.var 6) "enter" (.cons (.var 9) (.cons (.var 10) .nil))) (.cons (.var 11) .nil))))
  (.ret (.bl false))
  .skip))))
  (.ite (.cmp .gt (.var 8) (.int (8)))
  (.seq (.asg (.name 9) (.call "_law_draw" (.cons (.var 1) (.cons (.bi .len (.cons (.idx (.var 2) (.int (1))) .nil)) .nil))))
  (.seq (.expr (.meth (.var 6) "code" (.cons (.var 9) .nil)))
  (.ite (.cmp .notin (.var 9) (.idx (.var 7) (.str "codes")))
  (.expr (.bm .append (.idx (.var 7) (.str "codes")) (.cons (.var 9) .nil)))
  .skip)))
  (.ite (.cmp .lt (.var 8) (.int (4)))
  (.seq (.asg (.name 9) (.bin .mod (.bi .int (.cons (.call "_law_draw" (.cons (.var 1) (.cons (.int (1000)) .nil))) .nil)) (.bin .add (.idx (.var 7) (.str "next")) (.int (2)))))
  (.seq (.asg (.name 12) (.cmp .eq (.call "_law_draw" (.cons (.var 1) (.cons (.int (2)) .nil))) (.int (0))))
  (.seq (.asg (.name 11) (.call "_law_event" (.cons (.var 7) (.cons (.var 9) (.cons .non (.cons (.var 12) .nil))))))
  (.ite (.no (.call "_law_same" (.cons (.meth (.var 6) "event" (.cons (.var 9) (.cons (.var 12) .nil))) (.cons (.var 11) .nil))))
  (.ret (.bl false))
  .skip))))
  (.ite (.cmp .lt (.var 8) (.int (6)))
  (.seq (.asg (.name 13) (.call "_law_draw" (.cons (.var 1) (.cons (.int (7)) .nil))))
  (.seq (.asg (.name 11) (.call "_law_work" (.cons (.var 7) (.cons (.var 13) .nil))))
  (.seq (.ite (.no (.call "_law_same" (.cons (.meth (.var 6) "work" (.cons (.var 13) .nil)) (.cons (.var 11) .nil))))
  (.ret (.bl false))
  .skip)
  (.seq (.asg (.name 14) (.call "_law_run" (.cons (.var 2) (.cons (.coll .tuple (.cons (.var 4) .nil)) (.cons (.lcomp (.for1 [16] (.name 16) (.cons (.idx (.var 7) (.str "deeds")) .nil) (.bl true) (.cons (.idx (.var 16) (.int (0))) .nil))) .nil)))))
  (.ite (.and (.var 11) (.no (.call "_law_same" (.cons (.attr (.var 6) "world") (.cons (.call "_law_world" (.cons (.var 14) .nil)) .nil)))))
  (.ret (.bl false))
  .skip)))))
  (.ite (.and (.cmp .eq (.var 8) (.int (6))) (.cmp .gt (.bi .len (.cons (.idx (.var 2) (.int (3))) .nil)) (.int (0))))
  (.seq (.asg (.name 15) (.call "_law_draw" (.cons (.var 1) (.cons (.bi .len (.cons (.idx (.var 2) (.int (3))) .nil)) .nil))))
  (.seq (.expr (.meth (.var 6) "feed" (.cons (.meth (.var 3) "resolve" (.cons (.var 15) .nil)) .nil)))
  (.ite (.cmp .notin (.var 15) (.idx (.var 7) (.str "seen")))
  (.seq (.expr (.bm .append (.idx (.var 7) (.str "seen")) (.cons (.var 15) .nil)))
  (.expr (.bm .append (.idx (.var 7) (.str "deeds")) (.cons (.lst (.cons (.tup (.cons (.str "part") (.cons (.var 15) .nil))) (.cons (.bl true) .nil))) .nil))))
  .skip)))
  (.seq (.expr (.meth (.var 6) "start" .nil))
  (.setidx (.var 7) (.str "started") (.bl true))))))))
  (.ite (.no (.call "_law_alike" (.cons (.var 6) (.cons (.var 7) .nil))))
  (.ret (.bl false))
  .skip))))
  (.ret (.bl true)))))))))))))⟩
/-! _law_nodes=0 _law_begins=1 _law_cut=2 _law_rows=3 _law_shown_here=4 _law_node=5 _law_at=6 _law_number=7 _law_item=8 _law_inner=9 -/
def F.L_begun : FDef := ⟨4, 10,
  (.seq (.asg (.name 4) (.lst .nil))
  (.seq (.for (.name 5) (.cons (.var 0) .nil)
  (.seq (.asg (.name 6) (.lcomp (.for1 [8] (.name 8) (.cons (.var 1) .nil) (.cmp .eq (.idx (.var 8) (.int (0))) (.idx (.var 5) (.int (1)))) (.cons (.idx (.var 8) (.int (1))) .nil))))
  (.ite (.cmp .le (.idx (.var 6) (.int (0))) (.var 2))
  (.seq (.asg (.name 7) (.bi .len (.cons (.var 3) .nil)))
  (.seq (.expr (.bm .append (.var 3) (.cons (.idx (.var 5) (.int (1))) .nil)))
  (.ite (.cmp .eq (.idx (.var 5) (.int (0))) (.str "text"))
  (.expr (.bm .append (.var 4) (.cons (.tup (.cons (.str "text") (.cons (.var 7) (.cons (.idx (.var 5) (.int (2))) .nil)))) .nil)))
  (.ite (.cmp .eq (.idx (.var 5) (.int (0))) (.str "input"))
  (.expr (.bm .append (.var 4) (.cons (.tup (.cons (.str "input") (.cons (.var 7) (.cons (.idx (.var 5) (.int (2))) (.cons (.idx (.var 5) (.int (5))) .nil))))) .nil)))
  (.seq (.asg (.name 9) (.call "_law_begun" (.cons (.idx (.var 5) (.int (5))) (.cons (.var 1) (.cons (.var 2) (.cons (.var 3) .nil))))))
  (.expr (.bm .append (.var 4) (.cons (.tup (.cons (.str "box") (.cons (.var 7) (.cons (.idx (.var 5) (.int (2))) (.cons (.var 9) .nil))))) .nil))))))))
  .skip)))
  (.ret (.coll .tuple (.cons (.var 4) .nil)))))⟩
/-! _law_script=0 _law_box_here=1 _law_program_here=2 _law_server=3 _law_first_here=4 _law_k=5 _law_text=6 _law_page=7 _law_due=8 _law_nodes=9 _law_client=10 _law_deeds=11 _law_cuts=12 _law_at=13 _law_cut=14 _law_about=15 _law_rows=16 _law_shown_here=17 _law_number=18 _law_meaning_here=19 _law_urgent=20 _law_part=21 _law_half=22 _law_row=23 -/
def F.law_k97 : FDef := ⟨1, 24,
  (.seq (.asg (.name 1) (.call "_law_box" (.cons (.var 0) (.cons (.int (0)) (.cons (.int (63)) .nil)))))
  (.seq (.asg (.name 2) (.call "_law_program" (.cons (.var 1) .nil)))
  (.seq (.asg (.name 3) (.new "Server" (.cons (.var 2) .nil)))
  (.seq (.asg (.name 4) (.coll .tuple (.cons (.lcomp (.for1 [5] (.name 5) (.range (.cons (.bi .len (.cons (.idx (.var 2) (.int (3))) .nil)) .nil)) (.cmp .eq (.call "_law_draw" (.cons (.var 1) (.cons (.int (2)) .nil))) (.int (0))) (.cons (.var 5) .nil))) .nil)))
  (.seq (.for (.name 5) (.cons (.var 4) .nil)
  (.expr (.meth (.var 3) "resolve" (.cons (.var 5) .nil))))
  (.seq (.asg (.name 6) (.meth (.var 3) "render" .nil))
  (.seq (.asg (.name 7) (.call "_law_child" (.cons (.call "_law_first" (.cons (.var 2) (.cons (.var 4) .nil))) (.cons (.tup .nil) (.cons (.int (0)) (.cons (.tup .nil) .nil))))))
  (.seq (.asg (.name 8) (.call "_law_page_text" (.cons (.var 7) .nil)))
  (.seq (.ite (.no (.call "_law_same" (.cons (.var 6) (.cons (.idx (.var 8) (.int (0))) .nil))))
  (.ret (.bl false))
  .skip)
  (.seq (.asg (.name 9) (.call "_law_shown" (.cons (.idx (.var 7) (.int (5))) .nil)))
  (.seq (.asg (.name 10) (.new "Client" (.cons (.var 2) .nil)))
  (.seq (.asg (.name 11) (.lst .nil))
  (.seq (.asg (.name 12) (.coll .sorted (.cons (.bin .add (.lcomp (.for1 [5] (.name 5) (.range (.cons (.call "_law_draw" (.cons (.var 1) (.cons (.int (7)) .nil))) .nil)) (.bl true) (.cons (.bin .mod (.bi .int (.cons (.bin .mul (.call "_law_draw" (.cons (.var 1) (.cons (.int (1000)) .nil))) (.int (13))) .nil)) (.bin .add (.bi .len (.cons (.var 6) .nil)) (.int (1)))) .nil))) (.lst (.cons (.bi .len (.cons (.var 6) .nil)) .nil))) .nil)))
  (.seq (.asg (.name 13) (.int (0)))
  (.seq (.for (.name 14) (.cons (.var 12) .nil)
  (.seq (.expr (.meth (.var 10) "feed" (.cons (.slice (.var 6) (.var 13) (.var 14)) .nil)))
  (.seq (.asg (.name 13) (.var 14))
  (.seq (.asg (.name 16) (.lst .nil))
  (.seq (.asg (.name 17) (.call "_law_begun" (.cons (.var 9) (.cons (.idx (.var 8) (.int (1))) (.cons (.var 14) (.cons (.var 16) .nil))))))
  (.seq (.ite (.or (.no (.call "_law_same" (.cons (.meth (.var 10) "nodes" .nil) (.cons (.var 17) .nil)))) (.no (.call "_law_same" (.cons (.meth (.var 10) "sight" .nil) (.cons (.call "_law_bare" (.cons (.var 17) .nil)) .nil)))))
  (.ret (.bl false))
  .skip)
  (.seq (.asg (.name 18) (.call "_law_draw" (.cons (.var 1) (.cons (.int (12)) .nil))))
  (.seq (.asg (.name 19) .non)
  (.seq (.ite (.cmp .lt (.var 18) (.bi .len (.cons (.var 16) .nil)))
  (.asg (.name 19) (.call "_law_meaning" (.cons (.var 9) (.cons (.idx (.var 16) (.var 18)) .nil))))
  .skip)
  (.seq (.asg (.name 20) (.cmp .eq (.call "_law_draw" (.cons (.var 1) (.cons (.int (2)) .nil))) (.int (0))))
  (.seq (.ite (.no (.call "_law_same" (.cons (.meth (.var 10) "event" (.cons (.var 18) (.cons (.var 20) .nil))) (.cons (.notN (.var 19)) .nil))))
  (.ret (.bl false))
  .skip)
  (.seq (.ite (.notN (.var 19))
  (.expr (.bm .append (.var 11) (.cons (.lst (.cons (.tup (.cons (.str "act") (.cons (.idx (.var 19) (.int (0))) (.cons (.idx (.var 19) (.int (1))) .nil)))) (.cons (.var 20) .nil))) .nil)))
  .skip)
  (.ite (.no (.call "_law_same" (.cons (.attr (.var 10) "deeds") (.cons (.coll .tuple (.cons (.lcomp (.for1 [23] (.name 23) (.cons (.var 11) .nil) (.bl true) (.cons (.tup (.cons (.idx (.var 23) (.int (0))) (.cons (.idx (.var 23) (.int (1))) .nil))) .nil))) .nil)) .nil))))
  (.ret (.bl false))
  .skip)))))))))))))
  (.seq (.for (.name 5) (.range (.cons (.bi .len (.cons (.idx (.var 2) (.int (3))) .nil)) .nil))
  (.seq (.asg (.name 21) (.meth (.var 3) "resolve" (.cons (.var 5) .nil)))
  (.seq (.asg (.name 22) (.call "_law_draw" (.cons (.var 1) (.cons (.bin .add (.bi .len (.cons (.var 21) .nil)) (.int (1))) .nil))))
  (.seq (.expr (.meth (.var 10) "feed" (.cons (.slice (.var 21) .non (.var 22)) .nil)))
  (.seq (.ite (.and (.cmp .lt (.var 22) (.bi .len (.cons (.var 21) .nil))) (.cmp .ne (.bi .len (.cons (.attr (.var 10) "deeds") .nil)) (.bi .len (.cons (.var 11) .nil))))
  (.ret (.bl false))
  .skip)
  (.seq (.expr (.meth (.var 10) "feed" (.cons (.slice (.var 21) (.var 22) .non) .nil)))
  (.ite (.cmp .notin (.var 5) (.var 4))
  (.expr (.bm .append (.var 11) (.cons (.lst (.cons (.tup (.cons (.str "part") (.cons (.var 5) .nil))) (.cons (.bl true) .nil))) .nil)))
  .skip)))))))
  (.seq (.expr (.meth (.var 10) "start" .nil))
  (.seq (.for (.name 5) (.range (.cons (.bi .len (.cons (.idx (.var 2) (.int (1))) .nil)) .nil))
  (.expr (.meth (.var 10) "code" (.cons (.var 5) .nil))))
  (.seq (.ite (.or (.notT (.meth (.var 10) "work" (.cons (.int (1000)) .nil))) (.no (.call "_law_same" (.cons (.attr (.var 10) "deeds") (.cons (.coll .tuple (.cons (.lcomp (.for1 [23] (.name 23) (.cons (.var 11) .nil) (.bl true) (.cons (.tup (.cons (.idx (.var 23) (.int (0))) (.cons (.idx (.var 23) (.int (1))) .nil))) .nil))) .nil)) .nil)))))
  (.ret (.bl false))
  .skip)
  (.seq (.asg (.name 15) (.call "_law_run" (.cons (.var 2) (.cons (.var 4) (.cons (.lcomp (.for1 [23] (.name 23) (.cons (.var 11) .nil) (.bl true) (.cons (.idx (.var 23) (.int (0))) .nil))) .nil)))))
  (.ret (.call "_law_same" (.cons (.meth (.var 10) "sight" .nil) (.cons (.call "_law_sight" (.cons (.idx (.call "_law_child" (.cons (.var 15) (.cons (.tup .nil) (.cons (.int (0)) (.cons (.tup .nil) .nil))))) (.int (5))) .nil)) .nil))))))))))))))))))))))))⟩
end Pw

end
section
/-! Run: laws of the evaluator's running. -/
namespace Pw
theorem evF_at {P : Prog} {wl n : Nat} {key : FK} {fd : FDef} (h : P.fdef key = some fd) (xs : List D) (hl : xs.length = fd.params) (M : Mem) :
    evF P wl (n + 1) key xs M = retOf M (evS ⟨P, evF P wl n, wl⟩ fd.body (xs.map some ++ List.replicate (fd.slots - fd.params) none) M) := by
  rw [evF, h]
  simp only [if_pos hl]
theorem oldOk_self (n : Nat) : ∀ M : Mem, oldOk n M M = true
  | [] => rfl
  | o :: M => by simp [oldOk, oldOk_self n M]
theorem oldOk_app (n : Nat) (R : Mem) : ∀ M : Mem, oldOk n M (M ++ R) = true
  | [] => by cases R <;> rfl
  | o :: M => by simp [oldOk, oldOk_app n R M]
theorem oldOk_set (n : Nat) (o : MO) (ho : o.bel n = true) : ∀ (M M' : Mem) (b : Nat), oldOk n M M' = true → oldOk n M (M'.set b o) = true
  | [], M', b, _ => by cases M' <;> cases b <;> rfl
  | x :: M, [], b, h => by cases h
  | x :: M, y :: M', b, h => by
    simp only [oldOk, Bool.and_eq_true] at h
    cases b with
    | zero => simp [oldOk, ho, h.2]
    | succ b => simp only [List.set_cons_succ, oldOk, Bool.and_eq_true]; exact ⟨h.1, oldOk_set n o ho M M' b h.2⟩
theorem gc_of {M M' : Mem} {d : D} (h : oldOk M.length M M' = true) (hd : d.bel M.length = true) : gc M d M' = (d, M'.take M.length) := by
  unfold gc
  rw [if_pos h, if_pos hd]
theorem gc_same {M : Mem} {d : D} (hd : d.bel M.length = true) : gc M d M = (d, M) := by
  rw [gc_of (oldOk_self _ _) hd]; simp
theorem gc_ref {M R : Mem} {r : Nat} {o : MO} (hr : M.length ≤ r) (h : oldOk M.length M R = true) (ho : R[r]? = some o) (hb : o.bel M.length = true) : gc M (.ref r) R = (.ref M.length, R.take M.length ++ [o]) := by
  unfold gc
  have hb0 : D.bel M.length (.ref r) = false := by simp [D.bel]; omega
  rw [if_pos h, if_neg (by rw [hb0]; decide)]
  simp only [ho, hb, if_true]
theorem pyIx_nat {n : Nat} {i : Int} (h0 : 0 ≤ i) (h1 : i < n) : pyIx n i = some i.toNat := by unfold pyIx; rw [if_pos h0, if_pos h1]
theorem bels_ints (n : Nat) : ∀ xs : List Int, D.bels n (xs.map .int) = true
  | [] => rfl
  | x :: xs => by simp [D.bels, D.bel, bels_ints n xs]
theorem bels_app (n : Nat) : ∀ xs ys : List D, D.bels n (xs ++ ys) = (D.bels n xs && D.bels n ys)
  | [], ys => by simp [D.bels]
  | x :: xs, ys => by simp [D.bels, bels_app n xs ys, Bool.and_assoc]
theorem gc_int {M M' : Mem} {i : Int} (h : oldOk M.length M M' = true) : gc M (.int i) M' = (.int i, M'.take M.length) := gc_of h rfl
theorem gc_int0 {M : Mem} {i : Int} : gc M (.int i) M = (.int i, M) := gc_same rfl
theorem gc_bl0 {M : Mem} {i : Bool} : gc M (.bl i) M = (.bl i, M) := gc_same rfl
theorem gc_non0 {M : Mem} : gc M .non M = (.non, M) := gc_same rfl
theorem gc_str0 {M : Mem} {s : String} : gc M (.str s) M = (.str s, M) := gc_same rfl
/-- a loop whose body always goes on -/
theorem forL_ok {g : List (Nat × MO)} {p : Pat} {b : VEnv → Mem → R Out} (I : Nat → VEnv → Mem → Prop) (hst : ∀ k ρ M, I k ρ M → still g M = true) : ∀ (xs : List D) (k : Nat),
    (∀ j x, xs[j]? = some x → ∀ ρ M, I (k + j) ρ M → ∃ ρ1, bindPat p x ρ = some ρ1 ∧ ∃ ρ2 M2, b ρ1 M = some (.nx ρ2, M2) ∧ I (k + j + 1) ρ2 M2) → ∀ ρ M, I k ρ M →
    ∃ ρ' M', forL g p b xs ρ M = some (.nx ρ', M') ∧ I (k + xs.length) ρ' M'
  | [], k, _, ρ, M, h => ⟨ρ, M, by unfold forL; rw [if_pos (hst _ _ _ h)], h⟩
  | x :: xs, k, hb, ρ, M, h => by
    obtain ⟨ρ1, h1, ρ2, M2, h2, h3⟩ := hb 0 x rfl ρ M h
    obtain ⟨ρ', M', h4, h5⟩ := forL_ok I hst xs (k + 1) (fun j y hy ρ M hI => by
      have := hb (j + 1) y (by simpa using hy) ρ M (by rw [show k + (j + 1) = k + 1 + j by omega]; exact hI)
      rw [show k + (j + 1) + 1 = k + 1 + j + 1 by omega] at this
      exact this) ρ2 M2 h3
    refine ⟨ρ', M', ?_, by rw [show k + (x :: xs).length = k + 1 + xs.length by simp; omega]; exact h5⟩
    unfold forL
    rw [if_pos (hst _ _ _ h), h1]
    simp only [h2, bnd_some]
    exact h4
theorem still_nil (M : Mem) : still [] M = true := rfl
theorem app_get {M : Mem} {o : MO} {R : Mem} : (M ++ o :: R)[M.length]? = some o := by
  rw [List.getElem?_append_right (Nat.le_refl _)]; simp
theorem app_set {M : Mem} {o o' : MO} {R : Mem} : (M ++ o :: R).set M.length o' = M ++ o' :: R := by
  rw [List.set_append_right _ _ (Nat.le_refl _)]; simp
theorem evS_skip' (F : FT) (ρ : VEnv) (M : Mem) : evS F .skip ρ M = some (.nx ρ, M) := by simp only [evS]
theorem evS_ite' (F : FT) (c : E) (a b : S) (ρ : VEnv) (M : Mem) : evS F (.ite c a b) ρ M = bnd (truthR (evE F c ρ M)) fun t M => if t = true then evS F a ρ M else evS F b ρ M := by simp only [evS]
theorem evS_for' (F : FT) (p : Pat) (it : E) (b : S) (ρ : VEnv) (M : Mem) : evS F (.for p it b) ρ M = bnd (evIt F it ρ M) fun xs M => forL xs.2 p (evS F b) xs.1 ρ M := by simp only [evS]
theorem evS_seq' (F : FT) (a b : S) (ρ : VEnv) (M : Mem) : evS F (.seq a b) ρ M = bnd (evS F a ρ M) fun o M => match o with
    | .nx ρ => evS F b ρ M
    | o => some (o, M) := by simp only [evS] <;> rfl
theorem evS_asg' (F : FT) (i : Nat) (e : E) (ρ : VEnv) (M : Mem) : evS F (.asg (.name i) e) ρ M = bnd (evE F e ρ M) fun x M => some (.nx (ρ.set i (some x)), M) := by
  simp only [evS]
  cases evE F e ρ M with
  | none => rfl
  | some p => rfl
theorem evS_ret' (F : FT) (e : E) (ρ : VEnv) (M : Mem) : evS F (.ret e) ρ M = bnd (evE F e ρ M) fun x M => some (.rt x, M) := by simp only [evS]
theorem evS_expr' (F : FT) (e : E) (ρ : VEnv) (M : Mem) : evS F (.expr e) ρ M = bnd (evE F e ρ M) fun _ M => some (.nx ρ, M) := by simp only [evS]
theorem evE_lcomp' (F : FT) (p : E) (ρ : VEnv) (M : Mem) : evE F (.lcomp p) ρ M = bnd (evEs F p ρ M) fun xs M => if xs.length ≤ LIM then some (.ref M.length, M ++ [.lst xs]) else none := by simp only [evE]
theorem evEs_for1' (F : FT) (vs : List Nat) (p : Pat) (it c b : E) (ρ : VEnv) (M : Mem) : evEs F (.for1 vs p it c b) ρ M = bnd (evIt F it ρ M) fun xs M => turns xs.2 p (fun ρ M => truthR (evE F c ρ M)) (fun ρ M => evEs F b ρ M) (wipeE ρ vs) xs.1 M := by simp only [evEs]
theorem evEs_cons' (F : FT) (a r : E) (ρ : VEnv) (M : Mem) : evEs F (.cons a r) ρ M = bnd (evE F a ρ M) fun x M => bnd (evEs F r ρ M) fun xs M => some (x :: xs, M) := by simp only [evEs]
theorem evEs_nil' (F : FT) (ρ : VEnv) (M : Mem) : evEs F .nil ρ M = some ([], M) := by simp only [evEs]
theorem evE_bm' (F : FT) (m : BM) (a es : E) (ρ : VEnv) (M : Mem) : evE F (.bm m a es) ρ M = bnd (evE F a ρ M) fun x M => if recvOk M m x = true then bnd (evEs F es ρ M) fun xs M => bmD M m x xs else none := by simp only [evE]
theorem evE_tupleOf' (F : FT) (a : E) (ρ : VEnv) (M : Mem) : evE F (.coll .tuple (.cons a .nil)) ρ M = bnd (evE F a ρ M) fun x M => (itemsD M x).map fun ys => (.tup ys.1, M) := by
  simp only [evE, evIt]
  cases evE F a ρ M with
  | none => rfl
  | some p =>
    obtain ⟨x, m⟩ := p
    cases h : itemsD m x with
    | none => simp [h]
    | some y => simp [h, collD]
theorem evE_var' (F : FT) (i : Nat) (ρ : VEnv) (M : Mem) (d : D) (h : ρ[i]? = some (some d)) : evE F (.var i) ρ M = some (d, M) := by simp only [evE, h]
end Pw

end
section
/-! Wp: what a run ends with; statements one at a time. -/
namespace Pw
/-- it ends, and Q holds of what it gives and leaves -/
def ok {α : Type} (x : R α) (Q : α → Mem → Prop) : Prop := ∃ a M, x = some (a, M) ∧ Q a M
@[simp] theorem ok_some {α : Type} (a : α) (M : Mem) (Q : α → Mem → Prop) : ok (some (a, M)) Q ↔ Q a M :=
  ⟨fun ⟨a', M', e, q⟩ => by cases e; exact q, fun q => ⟨a, M, rfl, q⟩⟩
@[simp] theorem ok_none {α : Type} (Q : α → Mem → Prop) : ok (none : R α) Q ↔ False := ⟨fun ⟨_, _, e, _⟩ => (by cases e), fun q => q.elim⟩
@[simp] theorem ok_bnd {α β : Type} (x : R α) (f : α → Mem → R β) (Q : β → Mem → Prop) : ok (bnd x f) Q ↔ ok x fun a M => ok (f a M) Q := by
  constructor
  · rintro ⟨b, M', e, q⟩
    cases x with
    | none => cases e
    | some p => exact ⟨p.1, p.2, rfl, b, M', e, q⟩
  · rintro ⟨a, M, rfl, b, M', e, q⟩
    exact ⟨b, M', e, q⟩
theorem ok_mono {α : Type} {x : R α} {Q Q' : α → Mem → Prop} (h : ok x Q) (hq : ∀ a M, Q a M → Q' a M) : ok x Q' := let ⟨a, M, e, q⟩ := h; ⟨a, M, e, hq a M q⟩
theorem ok_eq {α : Type} {x : R α} {a : α} {M : Mem} {Q : α → Mem → Prop} (h : x = some (a, M)) (q : Q a M) : ok x Q := ⟨a, M, h, q⟩
theorem eq_of_ok {α : Type} {x : R α} {a : α} {M : Mem} (h : ok x fun d M' => d = a ∧ M' = M) : x = some (a, M) := by
  obtain ⟨d, M', e, rfl, rfl⟩ := h; exact e
/-! ### statements -/
def KS (F : FT) (b : S) (Q : Out → Mem → Prop) : Out → Mem → Prop
  | .nx ρ, M => ok (evS F b ρ M) Q
  | o, M => Q o M
def KA (i : Nat) (ρ : VEnv) (Q : Out → Mem → Prop) (x : D) (M : Mem) : Prop := Q (.nx (ρ.set i (some x))) M
def KX (ρ : VEnv) (Q : Out → Mem → Prop) (_ : D) (M : Mem) : Prop := Q (.nx ρ) M
def KR (Q : Out → Mem → Prop) (x : D) (M : Mem) : Prop := Q (.rt x) M
def KI (F : FT) (a b : S) (ρ : VEnv) (Q : Out → Mem → Prop) (t : Bool) (M : Mem) : Prop := if t = true then ok (evS F a ρ M) Q else ok (evS F b ρ M) Q
def KF (F : FT) (p : Pat) (b : S) (ρ : VEnv) (Q : Out → Mem → Prop) (xs : Items) (M : Mem) : Prop := ok (forL xs.2 p (evS F b) xs.1 ρ M) Q
/-- what a call gives back -/
def KG (M0 : Mem) (Q : D → Mem → Prop) : Out → Mem → Prop
  | .rt d, M => Q (gc M0 d M).1 (gc M0 d M).2
  | .nx _, M => Q (gc M0 .non M).1 (gc M0 .non M).2
  | _, _ => False
section
variable {F : FT} {ρ : VEnv} {M : Mem} {Q : Out → Mem → Prop}
@[simp] theorem KS_nx (b : S) : KS F b Q (.nx ρ) M ↔ ok (evS F b ρ M) Q := Iff.rfl
@[simp] theorem KS_rt (b : S) (d : D) : KS F b Q (.rt d) M ↔ Q (.rt d) M := Iff.rfl
@[simp] theorem KS_bk (b : S) : KS F b Q (.bk ρ) M ↔ Q (.bk ρ) M := Iff.rfl
@[simp] theorem KS_ct (b : S) : KS F b Q (.ct ρ) M ↔ Q (.ct ρ) M := Iff.rfl
@[simp] theorem KA_ (i : Nat) (x : D) : KA i ρ Q x M ↔ Q (.nx (ρ.set i (some x))) M := Iff.rfl
@[simp] theorem KX_ (x : D) : KX ρ Q x M ↔ Q (.nx ρ) M := Iff.rfl
@[simp] theorem KR_ (x : D) : KR Q x M ↔ Q (.rt x) M := Iff.rfl
@[simp] theorem KI_t (a b : S) : KI F a b ρ Q true M ↔ ok (evS F a ρ M) Q := by simp [KI]
@[simp] theorem KI_f (a b : S) : KI F a b ρ Q false M ↔ ok (evS F b ρ M) Q := by simp [KI]
theorem KI_d (a b : S) (p : Prop) [Decidable p] : KI F a b ρ Q (decide p) M ↔ ((p → ok (evS F a ρ M) Q) ∧ (¬ p → ok (evS F b ρ M) Q)) := by
  by_cases h : p <;> simp [KI, h]
theorem KI_n (a b : S) (t : Bool) : KI F a b ρ Q (!t) M ↔ KI F b a ρ Q t M := by cases t <;> simp [KI]
@[simp] theorem KG_rt {Q : D → Mem → Prop} (M0 : Mem) (d : D) : KG M0 Q (.rt d) M ↔ Q (gc M0 d M).1 (gc M0 d M).2 := Iff.rfl
@[simp] theorem KG_nx {Q : D → Mem → Prop} (M0 : Mem) : KG M0 Q (.nx ρ) M ↔ Q (gc M0 .non M).1 (gc M0 .non M).2 := Iff.rfl
theorem ok_seq (a b : S) : ok (evS F (.seq a b) ρ M) Q ↔ ok (evS F a ρ M) (KS F b Q) := by
  rw [evS_seq', ok_bnd]
  constructor
  · exact fun h => ok_mono h fun o M h => by cases o <;> simpa using h
  · exact fun h => ok_mono h fun o M h => by cases o <;> simpa using h
theorem ok_skip : ok (evS F .skip ρ M) Q ↔ Q (.nx ρ) M := by rw [evS_skip', ok_some]
theorem ok_asg (i : Nat) (e : E) : ok (evS F (.asg (.name i) e) ρ M) Q ↔ ok (evE F e ρ M) (KA i ρ Q) := by
  rw [evS_asg', ok_bnd]
  exact ⟨fun h => ok_mono h fun o M h => by simpa using h, fun h => ok_mono h fun o M h => by simpa using h⟩
theorem ok_expr (e : E) : ok (evS F (.expr e) ρ M) Q ↔ ok (evE F e ρ M) (KX ρ Q) := by
  rw [evS_expr', ok_bnd]
  exact ⟨fun h => ok_mono h fun o M h => by simpa using h, fun h => ok_mono h fun o M h => by simpa using h⟩
theorem ok_ret (e : E) : ok (evS F (.ret e) ρ M) Q ↔ ok (evE F e ρ M) (KR Q) := by
  rw [evS_ret', ok_bnd]
  exact ⟨fun h => ok_mono h fun o M h => by simpa using h, fun h => ok_mono h fun o M h => by simpa using h⟩
theorem ok_ite (c : E) (a b : S) : ok (evS F (.ite c a b) ρ M) Q ↔ ok (truthR (evE F c ρ M)) (KI F a b ρ Q) := by
  rw [evS_ite', ok_bnd]
  exact ⟨fun h => ok_mono h fun t M h => by cases t <;> simpa using h, fun h => ok_mono h fun t M h => by cases t <;> simpa using h⟩
theorem ok_forS (p : Pat) (it : E) (b : S) : ok (evS F (.for p it b) ρ M) Q ↔ ok (evIt F it ρ M) (KF F p b ρ Q) := by
  rw [evS_for', ok_bnd]
  exact ⟨fun h => h, fun h => h⟩
theorem ok_brk : ok (evS F .brk ρ M) Q ↔ Q (.bk ρ) M := by simp [evS]
theorem ok_cont : ok (evS F .cont ρ M) Q ↔ Q (.ct ρ) M := by simp [evS]
end
/-- a call -/
theorem ok_call {P : Prog} {wl n : Nat} {key : FK} {fd : FDef} {xs : List D} {M : Mem} {Q : D → Mem → Prop} (h : P.fdef key = some fd) (hl : xs.length = fd.params)
    (q : ok (evS ⟨P, evF P wl n, wl⟩ fd.body (xs.map some ++ List.replicate (fd.slots - fd.params) none) M) (KG M Q)) : ok (evF P wl (n + 1) key xs M) Q := by
  rw [evF_at h xs hl]
  obtain ⟨o, M', e, q⟩ := q
  rw [e]
  cases o with
  | nx ρ => exact ⟨_, _, rfl, q⟩
  | rt d => exact ⟨_, _, rfl, q⟩
  | bk ρ => exact q.elim
  | ct ρ => exact q.elim
/-! ### loops -/
theorem forL_wp {α : Type} {g : List (Nat × MO)} {p : Pat} {b : VEnv → Mem → R Out} {Q : Out → Mem → Prop} (f : α → D) (I : List α → List α → VEnv → Mem → Prop) (hst : ∀ x y ρ M, I x y ρ M → still g M = true)
    (hb : ∀ done x rest ρ M, I done (x :: rest) ρ M → ∃ ρ1, bindPat p (f x) ρ = some ρ1 ∧ ok (b ρ1 M) fun o M' => match o with
      | .nx ρ2 => I (done ++ [x]) rest ρ2 M'
      | .ct ρ2 => I (done ++ [x]) rest ρ2 M'
      | .bk ρ2 => Q (.nx ρ2) M'
      | .rt d => Q (.rt d) M') : ∀ (rest done : List α) (ρ : VEnv) (M : Mem), I done rest ρ M → (∀ ρ M, I (done ++ rest) [] ρ M → Q (.nx ρ) M) → ok (forL g p b (rest.map f) ρ M) Q
  | [], done, ρ, M, h, hq => by
    unfold forL
    simp only [List.map_nil]
    rw [if_pos (hst _ _ _ _ h)]
    simpa using hq ρ M (by simpa using h)
  | x :: rest, done, ρ, M, h, hq => by
    obtain ⟨ρ1, h1, o, M1, h2, h3⟩ := hb done x rest ρ M h
    have next : ∀ ρ2 M2, I (done ++ [x]) rest ρ2 M2 → ok (forL g p b (rest.map f) ρ2 M2) Q := fun ρ2 M2 hI => forL_wp f I hst hb rest (done ++ [x]) ρ2 M2 hI fun ρ M hI2 => hq ρ M (by simpa using hI2)
    unfold forL
    simp only [List.map_cons]
    rw [if_pos (hst _ _ _ _ h), h1]
    simp only [h2, bnd_some]
    cases o with
    | nx ρ2 => exact next _ _ h3
    | ct ρ2 => exact next _ _ h3
    | bk ρ2 => simpa using h3
    | rt d => simpa using h3
theorem turns_wp {α : Type} {g : List (Nat × MO)} {p : Pat} {c : VEnv → Mem → R Bool} {b : VEnv → Mem → R (List D)} {ρ : VEnv} (f : α → D) (I : List α → List α → List D → Mem → Prop) (hst : ∀ x y z M, I x y z M → still g M = true)
    (hb : ∀ done x rest acc M, I done (x :: rest) acc M → ∃ ρ1, bindPat p (f x) ρ = some ρ1 ∧ ok (c ρ1 M) fun t M' => if t = true then ok (b ρ1 M') fun ys M'' => I (done ++ [x]) rest (acc ++ ys) M'' else I (done ++ [x]) rest acc M') :
    ∀ (rest done : List α) (acc : List D) (M : Mem), I done rest acc M → ok (turns g p c b ρ (rest.map f) M) fun zs M' => I (done ++ rest) [] (acc ++ zs) M'
  | [], done, acc, M, h => by
    unfold turns
    simp only [List.map_nil]
    rw [if_pos (hst _ _ _ _ h)]
    simpa using h
  | x :: rest, done, acc, M, h => by
    obtain ⟨ρ1, h1, t, M1, h2, h3⟩ := hb done x rest acc M h
    unfold turns
    simp only [List.map_cons]
    rw [if_pos (hst _ _ _ _ h), h1]
    simp only [h2, bnd_some]
    cases t with
    | false =>
      simp only [Bool.false_eq_true, if_false] at h3 ⊢
      have := turns_wp f I hst hb rest (done ++ [x]) acc M1 h3
      simpa using this
    | true =>
      simp only [if_true] at h3 ⊢
      obtain ⟨ys, M2, h4, h5⟩ := h3
      have := turns_wp f I hst hb rest (done ++ [x]) (acc ++ ys) M2 h5
      rw [h4, bnd_some, ok_bnd]
      refine ok_mono this fun zs M' hz => ?_
      simpa using hz
/-- a map: the memory is left as it is -/
theorem turns_map {α : Type} {g : List (Nat × MO)} {p : Pat} {c : VEnv → Mem → R Bool} {b : VEnv → Mem → R (List D)} {ρ : VEnv} {M : Mem} (f : α → D) (t : α → Bool) (r : α → D) (hst : still g M = true) :
    ∀ (xs : List α), (∀ x ∈ xs, ∃ ρ1, bindPat p (f x) ρ = some ρ1 ∧ c ρ1 M = some (t x, M) ∧ (t x = true → b ρ1 M = some ([r x], M))) → turns g p c b ρ (xs.map f) M = some ((xs.filter t).map r, M)
  | [], _ => by unfold turns; simp only [List.map_nil]; rw [if_pos hst]; rfl
  | x :: xs, h => by
    obtain ⟨ρ1, h1, h2, h3⟩ := h x List.mem_cons_self
    have ih := turns_map f t r hst xs fun y hy => h y (List.mem_cons_of_mem _ hy)
    unfold turns
    simp only [List.map_cons]
    rw [if_pos hst, h1]
    simp only [h2, bnd_some]
    cases ht : t x with
    | false => simp [List.filter_cons, ht, ih]
    | true => simp [List.filter_cons, ht, ih, h3 ht]
/-! ### what a call leaves -/
theorem oldOk_of {n : Nat} : ∀ {M M' : Mem}, M.length ≤ M'.length → (∀ (i : Nat) (o : MO), M[i]? = some o → ∃ o' : MO, M'[i]? = some o' ∧ (o = o' ∨ o'.bel n = true)) → oldOk n M M' = true
  | [], M', _, _ => by cases M' <;> rfl
  | o :: M, [], h, _ => by simp at h
  | o :: M, o' :: M', h, hi => by
    simp only [oldOk, Bool.and_eq_true, Bool.or_eq_true, decide_eq_true_eq]
    refine ⟨?_, oldOk_of (by simpa using h) fun i x hx => hi (i + 1) x (by simpa using hx)⟩
    obtain ⟨x, h1, h2⟩ := hi 0 o rfl
    simp at h1
    subst h1
    exact h2
theorem gc_pre {M R : Mem} {d : D} (hd : d.bel M.length = true) : gc M d (M ++ R) = (d, M) := by
  rw [gc_of (oldOk_app _ _ _) hd, List.take_left]
theorem pre_bel_self {M : Mem} {o : MO} {R : Mem} (ho : o.bel M.length = true) : gc M (.ref M.length) (M ++ o :: R) = (.ref M.length, M ++ [o]) := by
  rw [gc_ref (Nat.le_refl _) (oldOk_app _ _ _) app_get ho, List.take_left]
end Pw
namespace Pw
/-- each turn gives some values, the memory is left as it is -/
theorem turns_flat {α : Type} {g : List (Nat × MO)} {p : Pat} {c : VEnv → Mem → R Bool} {b : VEnv → Mem → R (List D)} {ρ : VEnv} {M : Mem} (f : α → D) (t : α → Bool) (r : α → List D) (hst : still g M = true) :
    ∀ (xs : List α), (∀ x ∈ xs, ∃ ρ1, bindPat p (f x) ρ = some ρ1 ∧ c ρ1 M = some (t x, M) ∧ (t x = true → b ρ1 M = some (r x, M))) → turns g p c b ρ (xs.map f) M = some ((xs.filter t).flatMap r, M)
  | [], _ => by unfold turns; simp only [List.map_nil]; rw [if_pos hst]; rfl
  | x :: xs, h => by
    obtain ⟨ρ1, h1, h2, h3⟩ := h x List.mem_cons_self
    have ih := turns_flat f t r hst xs fun y hy => h y (List.mem_cons_of_mem _ hy)
    unfold turns
    simp only [List.map_cons]
    rw [if_pos hst, h1]
    simp only [h2, bnd_some]
    cases ht : t x with
    | false => simp [List.filter_cons, ht, ih]
    | true => simp [List.filter_cons, ht, ih, h3 ht]
theorem still_one' {p : Nat} {o : MO} {M : Mem} (h : M[p]? = some o) : still [(p, o)] M = true := by simp [still, h]
theorem dputs_nodup : ∀ (l acc : List (D × D)), ((acc ++ l).map (·.1)).Nodup → dputs l acc = acc ++ l
  | [], acc, _ => by simp [dputs]
  | p :: l, acc, h => by
    have hput : dput p.1 p.2 acc = acc ++ [p] := by
      have hno : p.1 ∉ acc.map (·.1) := by
        intro hm
        rw [List.map_append, List.nodup_append] at h
        exact h.2.2 _ hm _ (by simp) rfl
      clear h
      induction acc with
      | nil => rfl
      | cons a r ih =>
        simp only [List.map_cons, List.mem_cons, not_or] at hno
        obtain ⟨a1, a2⟩ := a
        simp only [dput, List.cons_append]
        rw [if_neg (Ne.symm hno.1), ih hno.2]
    show dputs l (dput p.1 p.2 acc) = _
    rw [hput, dputs_nodup l (acc ++ [p]) (by simpa using h)]
    simp
end Pw
namespace Pw
theorem evIt_rng (F : FT) (r : E) (ρ : VEnv) (M : Mem) : evIt F (.range r) ρ M = bnd (evEs F r ρ M) fun xs M => (rangeD xs).map fun ys => ((ys, []), M) := by simp only [evIt]
theorem evIt_rng1 {F : FT} {e : E} {ρ : VEnv} {M M' : Mem} {d : D} {ys : List D} (h : evE F e ρ M = some (d, M')) (hr : rangeD [d] = some ys) : evIt F (.range (.cons e .nil)) ρ M = some ((ys, []), M') := by
  rw [evIt_rng, evEs_cons', h, bnd_some, evEs_nil', bnd_some, bnd_some, hr, Option.map_some]
theorem evIt_seq {F : FT} {e : E} {ρ : VEnv} {M M' : Mem} {d : D} {it : Items} (h : evE F e ρ M = some (d, M')) (hr : itemsD M' d = some it) : evIt F (.cons e .nil) ρ M = some (it, M') := by
  simp only [evIt, h, bnd_some, hr, Option.map_some]
theorem evE_new' (F : FT) (c : String) (es : E) (ρ : VEnv) (M : Mem) : evE F (.new c es) ρ M = bnd (evEs F es ρ M) fun xs M => bnd (F.call (.mth c "__init__") (.ref M.length :: xs) (M ++ [.ins c []])) fun r M1 => if r = .non then some (.ref M.length, M1) else none := by simp only [evE]
theorem evE_call' (F : FT) (f : String) (es : E) (ρ : VEnv) (M : Mem) : evE F (.call f es) ρ M = bnd (evEs F es ρ M) fun xs M => F.call (.fn f) xs M := by simp only [evE]
end Pw

end
section
namespace Pw
def tbl_k00 : List (FK × FDef) := [(.fn "blocks_of", F.blocks_of),
  (.fn "listed", F.listed),
  (.fn "templates", F.templates),
  (.fn "_law_cell", F.L_cell),
  (.fn "_law_digits", F.L_digits),
  (.fn "_law_draw", F.L_draw),
  (.fn "_law_same", F.L_same),
  (.fn "_law_expr", F.L_expr),
  (.fn "_law_key", F.L_key),
  (.fn "_law_template", F.L_template),
  (.fn "_law_contents", F.L_contents),
  (.fn "_law_actions", F.L_actions),
  (.fn "_law_program", F.L_program),
  (.fn "_law_box", F.L_box),
  (.fn "_law_listed", F.L_listed),
  (.fn "law", F.law_k00)]
def cis_k00 : List (String × Int) := []
def prog_k00 (script : List Int) : Prog := ⟨fun k => tbl_k00.lookup k, fun x => (cis_k00.lookup x).map D.int, script⟩
end Pw
namespace Pw
def wl_k00 : Nat := 100000
end Pw

end
section
namespace Pw
section
variable {P : Prog} {wl n : Nat} {M : Mem}
def atV (xs : List Int) (i : Int) : Int := if i < xs.length then (xs[i.toNat]?).getD 0 else 0
theorem at_run (hf : P.fdef (.fn "at") = some F.at) (xs : List Int) (i : Int) (h0 : 0 ≤ i) : evF P wl (n + 1) (.fn "at") [.tup (xs.map .int), .int i] M = some (.int (atV xs i), M) := by
  rw [evF_at hf _ rfl]
  by_cases h : i < xs.length
  · have h2 : i.toNat < xs.length := by omega
    simp [F.at, evS, evE, evEs, biD, lenD, cmpD, truth, idxD, pyIx_nat h0 h, h, h2, retOf, atV, gc_int0]
  · simp [F.at, evS, evE, evEs, biD, lenD, cmpD, truth, h, retOf, atV, gc_int0]
theorem cell_run (hf : P.fdef (.fn "_law_cell") = some F.L_cell) (i : Int) (h0 : 0 ≤ i) : evF P wl (n + 1) (.fn "_law_cell") [.scr, .int i] M = some (.int (atV P.script i), M) := by
  rw [evF_at hf _ rfl]
  by_cases h : i < P.script.length
  · have h2 : i.toNat < P.script.length := by omega
    simp [F.L_cell, evS, evE, evEs, biD, lenD, cmpD, truth, truthR, idxD, h0, h, h2, retOf, atV, gc_int0]
  · simp [F.L_cell, evS, evE, evEs, biD, lenD, cmpD, truth, truthR, h, retOf, atV, gc_int0]
/-- the box of digits -/
structure Box (M : Mem) (b d : Nat) (ds : List Int) (a : Nat) : Prop where
  hb : M[b]? = some (.lst [.ref d, .int a])
  hd : M[d]? = some (.lst (ds.map .int))
  ne : b ≠ d
def boxM (M : Mem) (b d : Nat) (a : Nat) : Mem := M.set b (.lst [.ref d, .int a])
def drawV (ds : List Int) (a : Nat) (many : Int) : Int := if a < ds.length then ((ds[a]?).getD 0) % many else 0
theorem drawV_lt {ds : List Int} {a : Nat} {many : Int} (h : 0 < many) : 0 ≤ drawV ds a many ∧ drawV ds a many < many := by
  unfold drawV
  split
  · exact ⟨Int.emod_nonneg _ (by omega), Int.emod_lt_of_pos _ h⟩
  · omega
theorem draw_run (hf : P.fdef (.fn "_law_draw") = some F.L_draw_2) {b d a : Nat} {ds : List Int} (B : Box M b d ds a) (many : Int) (hm : 0 < many) :
    evF P wl (n + 1) (.fn "_law_draw") [.ref b, .int many] M = some (.int (drawV ds a many), boxM M b d (a + 1)) := by
  rw [evF_at hf _ rfl]
  obtain ⟨hb, hd, ne⟩ := B
  have hbl : b < M.length := (List.getElem?_eq_some_iff.mp hb).1
  have hdl : d < M.length := (List.getElem?_eq_some_iff.mp hd).1
  have e1 : (M.set b (.lst [.ref d, .int ((a : Int) + 1)]))[b]? = some (.lst [.ref d, .int ((a : Int) + 1)]) := List.getElem?_set_self hbl
  have e2 : (M.set b (.lst [.ref d, .int ((a : Int) + 1)]))[d]? = some (.lst (ds.map .int)) := by rw [List.getElem?_set_ne ne]; exact hd
  have e3 : oldOk M.length M (M.set b (.lst [.ref d, .int ((a : Int) + 1)])) = true := oldOk_set _ _ (by simp [MO.bel, D.bels, D.bel, hdl]) _ _ _ (oldOk_self _ _)
  have e4 : (M.set b (.lst [.ref d, .int ((a : Int) + 1)])).take M.length = M.set b (.lst [.ref d, .int ((a : Int) + 1)]) := by rw [List.take_of_length_le (by simp)]
  have p0 : pyIx 2 0 = some 0 := rfl
  have p1 : pyIx 2 1 = some 1 := rfl
  by_cases h : (a : Int) < ds.length
  · have h2 : a < ds.length := by omega
    have p2 : pyIx ds.length (a : Int) = some a := by rw [pyIx_nat (by omega) h]; simp
    simp [F.L_draw_2, evS, evE, evEs, biD, lenD, cmpD, truth, truthR, idxD, setD, bindPat, binD, hb, e1, e2, p0, p1, p2, h2, hm, retOf, gc_int e3, e4, drawV, boxM]
  · have h2 : ¬ a < ds.length := by omega
    simp [F.L_draw_2, evS, evE, evEs, biD, lenD, cmpD, truth, truthR, idxD, setD, bindPat, binD, hb, e1, e2, p0, p1, h2, hm, retOf, gc_int e3, e4, drawV, boxM]
theorem Box.next {b d a : Nat} {ds : List Int} (B : Box M b d ds a) (a' : Nat) : Box (boxM M b d a') b d ds a' :=
  ⟨List.getElem?_set_self (List.getElem?_eq_some_iff.mp B.hb).1, by unfold boxM; rw [List.getElem?_set_ne B.ne]; exact B.hd, B.ne⟩
theorem boxM_boxM (b d a a' : Nat) : boxM (boxM M b d a) b d a' = boxM M b d a' := by unfold boxM; rw [List.set_set]
theorem boxM_self {b d a : Nat} {ds : List Int} (B : Box M b d ds a) : boxM M b d a = M := by
  unfold boxM
  obtain ⟨h1, h2⟩ := List.getElem?_eq_some_iff.mp B.hb
  rw [← h2, List.set_getElem_self]
/-- the numbers of a script are turned to digits -/
def Dig (xs : List Int) : Prop := ∀ x ∈ xs, 0 ≤ x
structure DigS (P : Prog) (M : Mem) (lo hi : Int) (lim : Nat) (ρ : VEnv) (M' : Mem) : Prop where
  ok : ∃ (v4 v5 v6 v7 : Option D) (xs : List Int), ρ = [some .scr, some (.int lo), some (.int hi), some (.ref M.length), v4, v5, v6, v7] ∧ M' = M ++ [.lst (xs.map .int)] ∧ Dig xs ∧ xs.length ≤ lim
theorem dig_app {xs : List Int} {x : Int} (h : Dig xs) (hx : 0 ≤ x) : Dig (xs ++ [x]) := by
  intro y hy
  rcases List.mem_append.mp hy with hy | hy
  · exact h y hy
  · rw [List.mem_singleton.mp hy]; exact hx
/-- the digits of one great number -/
theorem big_loop (F : FT) (lo hi : Int) (k : D) (v7 : Option D) (c : Int) (xs : List Int) (h0 : Dig xs) (hl : xs.length + 60 ≤ 10000) (hc : 0 ≤ c) :
    ∃ ρ' M', forL [] (.name 6) (evS F (.ite (.cmp .gt (.var 5) (.int (0)))
  (.seq (.expr (.bm .append (.var 3) (.cons (.bin .mod (.bi .int (.cons (.var 5) .nil)) (.int (1000))) .nil)))
  (.asg (.name 5) (.bin .fdiv (.var 5) (.int (1000)))))
  .skip)) ((List.range 60).map fun k : Nat => D.int (0 + (k : Int))) [some .scr, some (.int lo), some (.int hi), some (.ref M.length), some k, some (.int c), v6, v7] (M ++ [.lst (xs.map .int)]) = some (.nx ρ', M') ∧
      ∃ v5 v6 ys, ρ' = [some .scr, some (.int lo), some (.int hi), some (.ref M.length), some k, v5, v6, v7] ∧ M' = M ++ [.lst (ys.map .int)] ∧ Dig ys ∧ ys.length ≤ xs.length + 60 := by
  have h := forL_ok (g := []) (p := .name 6) (b := evS F (.ite (.cmp .gt (.var 5) (.int (0)))
  (.seq (.expr (.bm .append (.var 3) (.cons (.bin .mod (.bi .int (.cons (.var 5) .nil)) (.int (1000))) .nil)))
  (.asg (.name 5) (.bin .fdiv (.var 5) (.int (1000)))))
  .skip)) (fun j ρ M' => ∃ c v6 ys, 0 ≤ c ∧ ρ = [some .scr, some (.int lo), some (.int hi), some (.ref M.length), some k, some (.int c), v6, v7] ∧ M' = M ++ [.lst (ys.map .int)] ∧ Dig ys ∧ ys.length ≤ xs.length + j)
    (fun _ _ _ _ => rfl) ((List.range 60).map fun k : Nat => D.int (0 + (k : Int))) 0 ?_ _ _ ⟨c, v6, xs, hc, rfl, rfl, h0, by omega⟩
  · obtain ⟨ρ', M', h1, c', v6', ys, h2, h3, h4, h5, h6⟩ := h
    exact ⟨ρ', M', h1, _, v6', ys, h3, h4, h5, by simpa using h6⟩
  · rintro j x hx ρ M' ⟨c, v6, ys, hc, rfl, rfl, h5, h6⟩
    have hj : j < 60 := by
      have := (List.getElem?_eq_some_iff.mp hx).1
      simpa using this
    refine ⟨_, rfl, ?_⟩
    by_cases hp : 0 < c
    · refine ⟨[some .scr, some (.int lo), some (.int hi), some (.ref M.length), some k, some (.int (c / 1000)), some x, v7], M ++ [.lst ((ys ++ [c % 1000]).map .int)], ?_, c / 1000, _, ys ++ [c % 1000], Int.ediv_nonneg hc (by decide), rfl, rfl, dig_app h5 (Int.emod_nonneg _ (by decide)), by simp; omega⟩
      have hL : ys.length < LIM := Nat.lt_of_lt_of_le (by omega : ys.length < 10000) (by decide)
      simp [evS, evE, evEs, biD, cmpD, truthR, truth, binD, bmD, recvOk, bindPat, app_get, app_set, hp, hL]
    · refine ⟨[some .scr, some (.int lo), some (.int hi), some (.ref M.length), some k, some (.int c), some x, v7], M ++ [.lst (ys.map .int)], ?_, c, _, ys, hc, rfl, rfl, h5, by omega⟩
      simp [evS, evE, evEs, cmpD, truthR, truth, hp]
end
end Pw

end
section
namespace Pw
section
variable {P : Prog} {wl n : Nat} {M : Mem}
def smallB : S := (.seq (.asg (.name 7) (.bin .mod (.bi .int (.cons (.bin .add (.bin .add (.bin .mul (.var 7) (.int (16807))) (.bin .mul (.int (7)) (.var 6))) (.int (1))) .nil)) (.int (2147483647))))
  (.expr (.bm .append (.var 3) (.cons (.bin .mod (.bi .int (.cons (.bin .fdiv (.var 7) (.int (997))) .nil)) (.int (1000))) .nil))))
theorem small_loop (F : FT) (lo hi : Int) (k : D) (v5 v6 : Option D) (c : Int) (xs : List Int) (h0 : Dig xs) (hl : xs.length + 12 ≤ 10000) (hc : 0 ≤ c ∧ c < 2147483647) :
    ∃ ρ' M', forL [] (.name 6) (evS F smallB) ((List.range 12).map fun k : Nat => D.int (0 + (k : Int))) [some .scr, some (.int lo), some (.int hi), some (.ref M.length), some k, v5, v6, some (.int c)] (M ++ [.lst (xs.map .int)]) = some (.nx ρ', M') ∧
      ∃ v5 v6 v7 ys, ρ' = [some .scr, some (.int lo), some (.int hi), some (.ref M.length), some k, v5, v6, v7] ∧ M' = M ++ [.lst (ys.map .int)] ∧ Dig ys ∧ ys.length ≤ xs.length + 12 := by
  have h := forL_ok (g := []) (p := .name 6) (b := evS F smallB) (fun j ρ M' => ∃ c v6 ys, (0 ≤ c ∧ c < 2147483647) ∧ ρ = [some .scr, some (.int lo), some (.int hi), some (.ref M.length), some k, v5, v6, some (.int c)] ∧ M' = M ++ [.lst (ys.map .int)] ∧ Dig ys ∧ ys.length ≤ xs.length + j)
    (fun _ _ _ _ => rfl) ((List.range 12).map fun k : Nat => D.int (0 + (k : Int))) 0 ?_ _ _ ⟨c, v6, xs, hc, rfl, rfl, h0, by omega⟩
  · obtain ⟨ρ', M', h1, c', v6', ys, h2, h3, h4, h5, h6⟩ := h
    exact ⟨ρ', M', h1, _, v6', _, ys, h3, h4, h5, by simpa using h6⟩
  · rintro j x hx ρ M' ⟨c, v6, ys, hc, rfl, rfl, h5, h6⟩
    have hj : j < 12 := by
      have := (List.getElem?_eq_some_iff.mp hx).1
      simpa using this
    have ex : x = .int (j : Int) := by
      rw [List.getElem?_map, List.getElem?_range hj] at hx
      simp at hx
      exact hx.symm
    subst ex
    refine ⟨_, rfl, ?_⟩
    have c2 : 0 ≤ (c * 16807 + 7 * (j : Int) + 1) % 2147483647 := Int.emod_nonneg _ (by decide)
    have c3 : (c * 16807 + 7 * (j : Int) + 1) % 2147483647 < 2147483647 := Int.emod_lt_of_pos _ (by decide)
    refine ⟨[some .scr, some (.int lo), some (.int hi), some (.ref M.length), some k, v5, some (.int (j : Int)), some (.int ((c * 16807 + 7 * (j : Int) + 1) % 2147483647))], M ++ [.lst ((ys ++ [((c * 16807 + 7 * (j : Int) + 1) % 2147483647) / 997 % 1000]).map .int)], ?_, _, _, ys ++ [((c * 16807 + 7 * (j : Int) + 1) % 2147483647) / 997 % 1000], ⟨c2, c3⟩, rfl, rfl, dig_app h5 (Int.emod_nonneg _ (by decide)), by simp; omega⟩
    have hL : ys.length < LIM := Nat.lt_of_lt_of_le (by omega : ys.length < 10000) (by decide)
    simp [smallB, evS, evE, evEs, biD, cmpD, truthR, truth, binD, bmD, recvOk, bindPat, app_get, app_set, hL]
theorem range_D (a : Int) (h : -(2 ^ 61) < a ∧ a < 2 ^ 61) : rangeD [.int a] = some ((List.range a.toNat).map fun k : Nat => D.int (0 + (k : Int))) := by
  show rangeL 0 a 1 = _
  unfold rangeL
  rw [if_pos ⟨by decide, by decide, h.1, h.2⟩, if_pos rfl]
  rw [show a - 0 = a by omega]
theorem range_D2 (a b : Int) (h : -(2 ^ 61) < a ∧ a < 2 ^ 61) (h2 : -(2 ^ 61) < b ∧ b < 2 ^ 61) : rangeD [.int a, .int b] = some ((List.range (b - a).toNat).map fun k : Nat => D.int (a + (k : Int))) := by
  show rangeL a b 1 = _
  unfold rangeL
  rw [if_pos ⟨h.1, h.2, h2.1, h2.2⟩, if_pos rfl]
def bigB : S := (.ite (.cmp .gt (.var 5) (.int (0)))
  (.seq (.expr (.bm .append (.var 3) (.cons (.bin .mod (.bi .int (.cons (.var 5) .nil)) (.int (1000))) .nil)))
  (.asg (.name 5) (.bin .fdiv (.var 5) (.int (1000)))))
  .skip)
def midB : S := (.ite (.cmp .ge (.var 5) (.bin .pow (.int (10)) (.int (18))))
  (.for (.name 6) (.range (.cons (.int (60)) .nil)) bigB)
  (.seq (.asg (.name 7) (.bin .mod (.bi .int (.cons (.bin .add (.bin .add (.bin .mul (.var 5) (.int (48271))) (.bin .mul (.var 4) (.int (69621)))) (.int (11))) .nil)) (.int (2147483647))))
  (.for (.name 6) (.range (.cons (.int (12)) .nil)) smallB)))
def digB : S := (.seq (.asg (.name 5) (.call "_law_cell" (.cons (.var 0) (.cons (.var 4) .nil))))
  (.seq (.ite (.cmp .lt (.var 5) (.int (0)))
  (.asg (.name 5) (.bin .sub (.int (1)) (.bin .mul (.int (2)) (.var 5))))
  .skip) midB))
theorem digits_body : F.L_digits.body = (.seq (.asg (.name 3) (.lst .nil)) (.seq (.for (.name 4) (.range (.cons (.var 1) (.cons (.var 2) .nil))) digB) (.ret (.var 3)))) := rfl
theorem pow18 : (10 : Int) ^ 18 = 1000000000000000000 := by decide
theorem bin_pow18 (M : Mem) : binD M .pow (.int 10) (.int 18) = some (.int 1000000000000000000, M) := by
  show (if (0 : Int) ≤ 18 ∧ (18 : Int) ≤ 1000000 ∧ (10 : Int).natAbs < 2 ^ 64 then some (D.int ((10 : Int) ^ (18 : Int).toNat), M) else none) = _
  rw [if_pos ⟨by decide, by decide, by decide⟩]
  rfl
theorem mid_t (F : FT) (v0 v1 v2 v3 v4 : Option D) (c : Int) (v6 v7 : Option D) (M : Mem) : truthR (evE F (.cmp .ge (.var 5) (.bin .pow (.int (10)) (.int (18)))) [v0, v1, v2, v3, v4, some (.int c), v6, v7] M) = some (decide (1000000000000000000 ≤ c), M) := by
  simp only [evE, List.getElem?_cons_succ, List.getElem?_cons_zero, bnd_some, bin_pow18, cmpD, truthR, truth, Option.map_some]
theorem mid_a (F : FT) (v0 v1 v2 v3 : Option D) (j c : Int) (v6 v7 : Option D) (M : Mem) : evS F (.asg (.name 7) (.bin .mod (.bi .int (.cons (.bin .add (.bin .add (.bin .mul (.var 5) (.int (48271))) (.bin .mul (.var 4) (.int (69621)))) (.int (11))) .nil)) (.int (2147483647)))) [v0, v1, v2, v3, some (.int j), some (.int c), v6, v7] M = some (.nx [v0, v1, v2, v3, some (.int j), some (.int c), v6, some (.int ((c * 48271 + j * 69621 + 11) % 2147483647))], M) := by
  simp [evS_asg', evE, evEs, biD, binD]
theorem mid_run (F : FT) (j : Nat) (c : Int) (hc0 : 0 ≤ c) (xs : List Int) (h3 : Dig xs) (h4 : xs.length ≤ 60 * j) (hj : j < 63) (v6 v7 : Option D) : ∃ ρ' M', evS F midB [some .scr, some (.int 0), some (.int 63), some (.ref M.length), some (.int (j : Int)), some (.int c), v6, v7] (M ++ [.lst (xs.map D.int)]) = some (.nx ρ', M') ∧
        ∃ v4 v5 v6 v7 ys, ρ' = [some .scr, some (.int 0), some (.int 63), some (.ref M.length), v4, v5, v6, v7] ∧ M' = M ++ [.lst (List.map D.int ys)] ∧ Dig ys ∧ ys.length ≤ 60 * (j + 1) := by
  have hr60 := range_D 60 (by decide)
  have hr12 := range_D 12 (by decide)
  unfold midB
  rw [evS_ite', mid_t, bnd_some]
  by_cases hb : (1000000000000000000 : Int) ≤ c
  · obtain ⟨ρ', M', h5, w5, w6, ys, h6, h7, h8, h9⟩ := big_loop (M := M) (v6 := v6) F 0 63 (.int (j : Int)) v7 c xs h3 (by omega) hc0
    refine ⟨ρ', M', ?_, _, w5, w6, v7, ys, h6, h7, h8, by omega⟩
    rw [if_pos (decide_eq_true hb), evS_for']
    simp only [evIt, evEs, evE, bnd_some, hr60, Option.map_some]
    exact h5
  · obtain ⟨ρ', M', h5, w5, w6, w7, ys, h6, h7, h8, h9⟩ := small_loop (M := M) F 0 63 (.int (j : Int)) (some (.int c)) v6 ((c * 48271 + (j : Int) * 69621 + 11) % 2147483647) xs h3 (by omega) ⟨Int.emod_nonneg _ (by decide), Int.emod_lt_of_pos _ (by decide)⟩
    refine ⟨ρ', M', ?_, _, w5, w6, w7, ys, h6, h7, h8, by omega⟩
    rw [if_neg (by rw [decide_eq_false hb]; decide), evS_seq', mid_a, bnd_some]
    dsimp only
    rw [evS_for']
    simp only [evIt, evEs, evE, bnd_some, hr12, Option.map_some]
    exact h5
theorem digits_run (hf : P.fdef (.fn "_law_digits") = some F.L_digits) (hc : P.fdef (.fn "_law_cell") = some F.L_cell) :
    ∃ xs : List Int, Dig xs ∧ evF P wl (n + 2) (.fn "_law_digits") [.scr, .int 0, .int 63] M = some (.ref M.length, M ++ [.lst (xs.map .int)]) := by
  have body := forL_ok (g := []) (p := .name 4) (b := evS ⟨P, evF P wl (n + 1), wl⟩ digB) (fun j ρ M' => ∃ v4 v5 v6 v7 xs, ρ = [some .scr, some (.int 0), some (.int 63), some (.ref M.length), v4, v5, v6, v7] ∧ M' = M ++ [.lst (List.map D.int xs)] ∧ Dig xs ∧ xs.length ≤ 60 * j)
    (fun _ _ _ _ => rfl) ((List.range 63).map fun k : Nat => D.int (0 + (k : Int))) 0 ?_ [some .scr, some (.int 0), some (.int 63), some (.ref M.length), none, none, none, none] (M ++ [.lst []]) ⟨none, none, none, none, [], rfl, rfl, (fun _ h => by cases h), by simp⟩
  · obtain ⟨ρ', M', h1, v4, v5, v6, v7, xs, rfl, rfl, h4, _⟩ := body
    refine ⟨xs, h4, ?_⟩
    rw [evF_at hf _ rfl, digits_body]
    have hr := range_D2 0 63 (by decide) (by decide)
    have hg : gc M (.ref M.length) (M ++ [.lst (xs.map D.int)]) = (.ref M.length, M ++ [.lst (xs.map D.int)]) := by
      rw [gc_ref (Nat.le_refl _) (oldOk_app _ _ _) app_get (by simp [MO.bel, bels_ints])]
      simp
    have e0 : evS ⟨P, evF P wl (n + 1), wl⟩ (.asg (.name 3) (.lst .nil)) (List.map some [D.scr, D.int 0, D.int 63] ++ List.replicate (F.L_digits.slots - F.L_digits.params) none) M = some (.nx [some .scr, some (.int 0), some (.int 63), some (.ref M.length), none, none, none, none], M ++ [.lst []]) := by
      simp [evS_asg', evE, evEs]
      rfl
    rw [evS_seq', e0, bnd_some]
    dsimp only
    rw [evS_seq', evS_for']
    simp only [evIt, evEs, evE, bnd_some, List.getElem?_cons_succ, List.getElem?_cons_zero, hr, Option.map_some]
    rw [show (63 : Int) - 0 = 63 by rfl] at *
    rw [show (63 : Int).toNat = 63 by rfl] at *
    rw [h1]
    simp only [bnd_some, evS_ret', evE, List.getElem?_cons_succ, List.getElem?_cons_zero, retOf, hg]
  · rintro j x hx ρ M' ⟨v4, v5, v6, v7, xs, rfl, rfl, h3, h4⟩
    have hj : j < 63 := by
      have := (List.getElem?_eq_some_iff.mp hx).1
      simpa using this
    have ex : x = .int (j : Int) := by
      rw [List.getElem?_map, List.getElem?_range hj] at hx
      simp at hx
      exact hx.symm
    subst ex
    refine ⟨_, rfl, ?_⟩
    have hcell := cell_run (P := P) (wl := wl) (n := n) (M := M ++ [.lst (xs.map D.int)]) hc (j : Int) (by omega)
    generalize atV P.script (j : Int) = c0 at hcell
    have e1 : evS ⟨P, evF P wl (n + 1), wl⟩ (.asg (.name 5) (.call "_law_cell" (.cons (.var 0) (.cons (.var 4) .nil)))) [some .scr, some (.int 0), some (.int 63), some (.ref M.length), some (.int (j : Int)), v5, v6, v7] (M ++ [.lst (xs.map D.int)]) = some (.nx [some .scr, some (.int 0), some (.int 63), some (.ref M.length), some (.int (j : Int)), some (.int c0), v6, v7], M ++ [.lst (xs.map D.int)]) := by
      simp [evS_asg', evE, evEs, hcell]
    have hset : (([some D.scr, some (.int 0), some (.int 63), some (.ref M.length), v4, v5, v6, v7] : VEnv).set 4 (some (.int (j : Int)))) = [some .scr, some (.int 0), some (.int 63), some (.ref M.length), some (.int (j : Int)), v5, v6, v7] := rfl
    by_cases hneg : c0 < 0
    · obtain ⟨ρ', M', h5, w4, w5, w6, w7, ys, h6⟩ := mid_run (M := M) ⟨P, evF P wl (n + 1), wl⟩ j (1 - 2 * c0) (by omega) xs h3 (by omega) hj v6 v7
      refine ⟨ρ', M', ?_, w4, w5, w6, w7, ys, by simpa using h6⟩
      unfold digB
      rw [evS_seq', hset, e1, bnd_some]
      dsimp only
      have e2 : evS ⟨P, evF P wl (n + 1), wl⟩ (.ite (.cmp .lt (.var 5) (.int (0))) (.asg (.name 5) (.bin .sub (.int (1)) (.bin .mul (.int (2)) (.var 5)))) .skip) [some .scr, some (.int 0), some (.int 63), some (.ref M.length), some (.int (j : Int)), some (.int c0), v6, v7] (M ++ [.lst (xs.map D.int)]) = some (.nx [some .scr, some (.int 0), some (.int 63), some (.ref M.length), some (.int (j : Int)), some (.int (1 - 2 * c0)), v6, v7], M ++ [.lst (xs.map D.int)]) := by
        simp [evS_ite', evS_asg', evE, cmpD, truthR, truth, binD, hneg]
      rw [evS_seq', e2, bnd_some]
      exact h5
    · obtain ⟨ρ', M', h5, w4, w5, w6, w7, ys, h6⟩ := mid_run (M := M) ⟨P, evF P wl (n + 1), wl⟩ j c0 (by omega) xs h3 (by omega) hj v6 v7
      refine ⟨ρ', M', ?_, w4, w5, w6, w7, ys, by simpa using h6⟩
      unfold digB
      rw [evS_seq', hset, e1, bnd_some]
      dsimp only
      have e2 : evS ⟨P, evF P wl (n + 1), wl⟩ (.ite (.cmp .lt (.var 5) (.int (0))) (.asg (.name 5) (.bin .sub (.int (1)) (.bin .mul (.int (2)) (.var 5)))) .skip) [some .scr, some (.int 0), some (.int 63), some (.ref M.length), some (.int (j : Int)), some (.int c0), v6, v7] (M ++ [.lst (xs.map D.int)]) = some (.nx [some .scr, some (.int 0), some (.int 63), some (.ref M.length), some (.int (j : Int)), some (.int c0), v6, v7], M ++ [.lst (xs.map D.int)]) := by
        simp [evS_ite', evS_skip', evE, cmpD, truthR, truth, hneg]
      rw [evS_seq', e2, bnd_some]
      exact h5
end
end Pw

end
section
set_option maxHeartbeats 1000000
namespace Pw
inductive Bn where
  | plus | minus | same | less
def Bn.name : Bn → String
  | .plus => "plus" | .minus => "minus" | .same => "same" | .less => "less"
inductive Ex where
  | num (i : Nat) | cell (i : Nat) | prop (i : Nat) | store (i : Nat) | index | iff (a b c : Ex) | bin (k : Bn) (a b : Ex)
def Ex.toD : Ex → D
  | .num i => .tup [.str "num", .int i]
  | .cell i => .tup [.str "cell", .int i]
  | .prop i => .tup [.str "prop", .int i]
  | .store i => .tup [.str "store", .int i]
  | .index => .tup [.str "index"]
  | .iff a b c => .tup [.str "if", a.toD, b.toD, c.toD]
  | .bin k a b => .tup [.str k.name, a.toD, b.toD]
def Ex.dep : Ex → Nat
  | .iff a b c => max a.dep (max b.dep c.dep) + 1
  | .bin _ a b => max a.dep b.dep + 1
  | _ => 0
structure Sc where
  cells : List Int
  props : List Int
  store : List Int
  ix : Int
def binV : Bn → Int → Int → Int
  | .plus, a, b => (a + b) % 1000
  | .minus, a, b => (a - b) % 1000
  | .same, a, b => if a = b then 1 else 0
  | .less, a, b => if a < b then 1 else 0
def Ex.val (s : Sc) : Ex → Int × List Int
  | .num i => (i, [])
  | .cell i => (atV s.cells i, [])
  | .prop i => (atV s.props i, [])
  | .store i => (atV s.store i, if i < s.store.length then [(i : Int)] else [])
  | .index => (s.ix, [])
  | .iff a b c => let x := a.val s; let y := if x.1 ≠ 0 then b.val s else c.val s; (y.1, x.2 ++ y.2)
  | .bin k a b => let x := a.val s; let y := b.val s; (binV k x.1 y.1, x.2 ++ y.2)
def Ex.looks (s : Sc) (e : Ex) : Nat := (e.val s).2.length
end Pw

end
section
set_option maxHeartbeats 1000000
/-! G1: the box of digits with its counters. -/
namespace Pw
theorem lim61 {i : Int} (h0 : -1000000 < i) (h1 : i < 1000000) : -(2 ^ 61) < i ∧ i < 2 ^ 61 :=
  ⟨Int.lt_trans (by decide : -(2 ^ 61 : Int) < -1000000) h0, Int.lt_trans h1 (by decide)⟩
theorem rgN (v : Nat) (h : v < 1000000) : rangeD [.int (v : Int)] = some ((List.range v).map fun k : Nat => D.int (k : Int)) := by
  have := range_D (v : Int) (lim61 (by omega) (by omega))
  rw [Int.toNat_natCast] at this
  rw [this]
  simp
theorem rgN2 (u v : Nat) (h : u < 1000000) (h2 : v < 1000000) : rangeD [.int (u : Int), .int (v : Int)] = some ((List.range (v - u)).map fun k : Nat => D.int ((u + k : Nat) : Int)) := by
  have := range_D2 (u : Int) (v : Int) (lim61 (by omega) (by omega)) (lim61 (by omega) (by omega))
  rw [this, show ((v : Int) - (u : Int)).toNat = v - u by omega]
  simp
/-- the box of digits: b the box, d its digits, p its parts; a the place, c2 c3 c4 the counters -/
structure Bx (M : Mem) (b d p : Nat) (ds : List Int) (a : Nat) (c2 c3 c4 : Int) (ps : List D) : Prop where
  hb : M[b]? = some (.lst [.ref d, .int a, .int c2, .int c3, .int c4, .ref p])
  hd : M[d]? = some (.lst (ds.map .int))
  hp : M[p]? = some (.lst ps)
  bd : b ≠ d
  bp : b ≠ p
  dp : d ≠ p
/-- the box as it is behind more draws -/
def bxM (M : Mem) (b d p : Nat) (a : Nat) (c2 c3 c4 : Int) : Mem := M.set b (.lst [.ref d, .int a, .int c2, .int c3, .int c4, .ref p])
section
variable {P : Prog} {wl n : Nat} {M : Mem} {b d p a : Nat} {ds : List Int} {c2 c3 c4 : Int} {ps : List D}
theorem Bx.lt (B : Bx M b d p ds a c2 c3 c4 ps) : b < M.length ∧ d < M.length ∧ p < M.length :=
  ⟨(List.getElem?_eq_some_iff.mp B.hb).1, (List.getElem?_eq_some_iff.mp B.hd).1, (List.getElem?_eq_some_iff.mp B.hp).1⟩
theorem Bx.next (B : Bx M b d p ds a c2 c3 c4 ps) (a' : Nat) (e2 e3 e4 : Int) : Bx (bxM M b d p a' e2 e3 e4) b d p ds a' e2 e3 e4 ps :=
  ⟨List.getElem?_set_self B.lt.1, by unfold bxM; rw [List.getElem?_set_ne B.bd]; exact B.hd, by unfold bxM; rw [List.getElem?_set_ne B.bp]; exact B.hp, B.bd, B.bp, B.dp⟩
theorem bxM_len (b d p a : Nat) (c2 c3 c4 : Int) : (bxM M b d p a c2 c3 c4).length = M.length := by simp [bxM]
theorem bxM_bxM (b d p a a' : Nat) (c2 c3 c4 e2 e3 e4 : Int) : bxM (bxM M b d p a c2 c3 c4) b d p a' e2 e3 e4 = bxM M b d p a' e2 e3 e4 := by simp [bxM]
theorem bxM_get {i : Nat} (h : i ≠ b) (d p a : Nat) (c2 c3 c4 : Int) : (bxM M b d p a c2 c3 c4)[i]? = M[i]? := by unfold bxM; rw [List.getElem?_set_ne (Ne.symm h)]
theorem Bx.self (B : Bx M b d p ds a c2 c3 c4 ps) : bxM M b d p a c2 c3 c4 = M := by
  unfold bxM
  obtain ⟨h1, h2⟩ := List.getElem?_eq_some_iff.mp B.hb
  rw [← h2, List.set_getElem_self]
theorem Bx.oldOk (B : Bx M b d p ds a c2 c3 c4 ps) (a' : Nat) (e2 e3 e4 : Int) : oldOk M.length M (bxM M b d p a' e2 e3 e4) = true :=
  oldOk_set _ _ (by simp [MO.bel, D.bels, D.bel, B.lt]) _ _ _ (oldOk_self _ _)
theorem oldOk_app2' (n : Nat) (R : Mem) : ∀ M M' : Mem, oldOk n M M' = true → oldOk n M (M' ++ R) = true
  | [], M', _ => by cases (M' ++ R) <;> rfl
  | o :: M, [], h => by cases h
  | o :: M, o' :: M', h => by
    simp only [oldOk, Bool.and_eq_true, List.cons_append] at h ⊢
    exact ⟨h.1, oldOk_app2' n R M M' h.2⟩
/-- a tree is given, the box has moved: what else was made is let go -/
theorem Bx.gc (B : Bx M b d p ds a c2 c3 c4 ps) (a' : Nat) (e2 e3 e4 : Int) (R : Mem) {x : D} (hx : x.bel M.length = true) : gc M x (bxM M b d p a' e2 e3 e4 ++ R) = (x, bxM M b d p a' e2 e3 e4) := by
  rw [gc_of (oldOk_app2' _ R _ _ (B.oldOk a' e2 e3 e4)) hx, List.take_left' (bxM_len _ _ _ _ _ _ _)]
theorem Bx.gc0 (B : Bx M b d p ds a c2 c3 c4 ps) (a' : Nat) (e2 e3 e4 : Int) {x : D} (hx : x.bel M.length = true) : Pw.gc M x (bxM M b d p a' e2 e3 e4) = (x, bxM M b d p a' e2 e3 e4) := by
  have := B.gc a' e2 e3 e4 [] hx
  simpa using this
theorem drawB_run (hf : P.fdef (.fn "_law_draw") = some F.L_draw) (B : Bx M b d p ds a c2 c3 c4 ps) (many : Nat) (hm : 0 < many) :
    ∃ v : Nat, v < many ∧ evF P wl (n + 1) (.fn "_law_draw") [.ref b, .int many] M = some (.int v, bxM M b d p (a + 1) c2 c3 c4) := by
  have hv : ∃ v : Nat, v < many ∧ drawV ds a many = v := by
    obtain ⟨h1, h2⟩ := drawV_lt (ds := ds) (a := a) (many := (many : Int)) (by omega)
    exact ⟨(drawV ds a many).toNat, by omega, by omega⟩
  obtain ⟨v, hv, ev⟩ := hv
  refine ⟨v, hv, ?_⟩
  rw [evF_at hf _ rfl]
  have hm' : (0 : Int) < (many : Int) := by omega
  have e1 : (bxM M b d p (a + 1) c2 c3 c4)[b]? = _ := (B.next (a + 1) c2 c3 c4).hb
  have e2 : (bxM M b d p (a + 1) c2 c3 c4)[d]? = _ := (B.next (a + 1) c2 c3 c4).hd
  have e3 := B.gc0 (a + 1) c2 c3 c4 (x := .int v) rfl
  have hb := B.hb
  have es : M.set b (.lst [.ref d, .int ((a : Int) + 1), .int c2, .int c3, .int c4, .ref p]) = bxM M b d p (a + 1) c2 c3 c4 := rfl
  unfold drawV at ev
  by_cases h : (a : Int) < ds.length
  · have h2 : a < ds.length := by omega
    have p2 : pyIx ds.length (a : Int) = some a := by rw [pyIx_nat (by omega) h]; simp
    rw [if_pos h2] at ev
    have ev2 : ds[a] % (many : Int) = v := by simpa [h2] using ev
    simp [F.L_draw, evS, evE, evEs, biD, lenD, cmpD, truth, truthR, idxD, setD, bindPat, binD, hb, pyIx, es, e1, e2, h2, hm, retOf, e3, ev2]
  · have h2 : ¬ a < ds.length := by omega
    rw [if_neg h2] at ev
    have ev2 : (v : Int) = 0 := ev.symm
    rw [ev2] at e3 ⊢
    simp [F.L_draw, evS, evE, evEs, biD, lenD, cmpD, truth, truthR, idxD, setD, bindPat, binD, hb, pyIx, es, e1, e2, h2, hm, retOf, e3]
/-- a digit is drawn, wherever the box stands -/
theorem drB (hf : P.fdef (.fn "_law_draw") = some F.L_draw) (B : Bx M b d p ds a c2 c3 c4 ps) (a' : Nat) (e2 e3 e4 : Int) (many : Nat) (hm : 0 < many) :
    ∃ v : Nat, v < many ∧ evF P wl (n + 1) (.fn "_law_draw") [.ref b, .int many] (bxM M b d p a' e2 e3 e4) = some (.int v, bxM M b d p (a' + 1) e2 e3 e4) := by
  obtain ⟨v, h1, h2⟩ := drawB_run (P := P) (wl := wl) (n := n) hf (B.next a' e2 e3 e4) many hm
  rw [bxM_bxM] at h2
  exact ⟨v, h1, h2⟩
theorem boxB_run (hf : P.fdef (.fn "_law_box") = some F.L_box) (hd : P.fdef (.fn "_law_digits") = some F.L_digits) (hc : P.fdef (.fn "_law_cell") = some F.L_cell) :
    ∃ (ds : List Int) (M' : Mem), evF P wl (n + 3) (.fn "_law_box") [.scr, .int 0, .int 63] [] = some (.ref 2, M') ∧ M' = [.lst (ds.map .int), .lst [], .lst [.ref 0, .int (0 : Nat), .int 0, .int 0, .int 0, .ref 1]] ∧ Bx M' 2 0 1 ds 0 0 0 0 [] := by
  obtain ⟨ds, _, h⟩ := digits_run (P := P) (wl := wl) (n := n) (M := []) hd hc
  refine ⟨ds, _, ?_, rfl, ⟨rfl, rfl, rfl, by decide, by decide, by decide⟩⟩
  rw [evF_at hf _ rfl]
  simp at h
  simp [F.L_box, evS, evE, evEs, h, retOf, gc, oldOk, D.bel, MO.bel, D.bels]
end
end Pw

end
section
set_option maxHeartbeats 2000000
/-! G2: the box moved, more cells behind it; expressions, keys are drawn. -/
namespace Pw
structure BS where
  a : Nat
  c2 : Int
  c3 : Int
  c4 : Int
  ps : List Int
def BS.cell (d p : Nat) (s : BS) : MO := .lst [.ref d, .int s.a, .int s.c2, .int s.c3, .int s.c4, .ref p]
/-- the box as s tells -/
def mv (M : Mem) (b d p : Nat) (s : BS) : Mem := (M.set b (s.cell d p)).set p (.lst (s.ps.map .int))
structure Gb (M : Mem) (b d p : Nat) (ds : List Int) : Prop where
  lb : b < M.length
  lp : p < M.length
  hd : M[d]? = some (.lst (ds.map .int))
  bd : b ≠ d
  bp : b ≠ p
  dp : d ≠ p
section
variable {P : Prog} {wl n : Nat} {M : Mem} {b d p : Nat} {ds : List Int}
theorem mv_len (s : BS) : (mv M b d p s).length = M.length := by simp [mv]
theorem mv_mv (G : Gb M b d p ds) (s s' : BS) : mv (mv M b d p s) b d p s' = mv M b d p s' := by
  unfold mv
  rw [List.set_comm _ _ (Ne.symm G.bp), List.set_set, List.set_set]
theorem mv_gb (G : Gb M b d p ds) (s : BS) (i : Nat) (h : i = b) (R : Mem) : (mv M b d p s ++ R)[i]? = some (s.cell d p) := by
  subst h
  rw [List.getElem?_append_left (by rw [mv_len]; exact G.lb)]
  unfold mv
  rw [List.getElem?_set_ne (Ne.symm G.bp)]
  exact List.getElem?_set_self G.lb
theorem mv_b (G : Gb M b d p ds) (s : BS) (R : Mem) : (mv M b d p s ++ R)[b]? = some (.lst [.ref d, .int s.a, .int s.c2, .int s.c3, .int s.c4, .ref p]) := mv_gb G s b rfl R
theorem mv_p (G : Gb M b d p ds) (s : BS) (R : Mem) : (mv M b d p s ++ R)[p]? = some (.lst (s.ps.map .int)) := by
  rw [List.getElem?_append_left (by rw [mv_len]; exact G.lp)]
  exact List.getElem?_set_self (by simpa using G.lp)
theorem mv_d (G : Gb M b d p ds) (s : BS) (R : Mem) : (mv M b d p s ++ R)[d]? = some (.lst (ds.map .int)) := by
  rw [List.getElem?_append_left (by rw [mv_len]; exact (List.getElem?_eq_some_iff.mp G.hd).1)]
  unfold mv
  rw [List.getElem?_set_ne (Ne.symm G.dp), List.getElem?_set_ne G.bd]
  exact G.hd
theorem mv_other {i : Nat} (hb : i ≠ b) (hp : i ≠ p) (hl : i < M.length) (s : BS) (R : Mem) : (mv M b d p s ++ R)[i]? = M[i]? := by
  rw [List.getElem?_append_left (by rw [mv_len]; exact hl)]
  unfold mv
  rw [List.getElem?_set_ne (Ne.symm hp), List.getElem?_set_ne (Ne.symm hb)]
theorem mv_setb (G : Gb M b d p ds) (s : BS) (R : Mem) (a : Nat) (c2 c3 c4 : Int) : (mv M b d p s ++ R).set b (.lst [.ref d, .int a, .int c2, .int c3, .int c4, .ref p]) = mv M b d p ⟨a, c2, c3, c4, s.ps⟩ ++ R := by
  rw [List.set_append_left _ _ (by rw [mv_len]; exact G.lb)]
  congr 1
  unfold mv BS.cell
  rw [List.set_comm _ _ (Ne.symm G.bp), List.set_set]
theorem mv_setp (G : Gb M b d p ds) (s : BS) (R : Mem) (ps : List Int) : (mv M b d p s ++ R).set p (.lst (ps.map .int)) = mv M b d p { s with ps := ps } ++ R := by
  rw [List.set_append_left _ _ (by rw [mv_len]; exact G.lp)]
  congr 1
  unfold mv BS.cell
  rw [List.set_set]
theorem mv_setR {i : Nat} (h : M.length ≤ i) (s : BS) (R : Mem) (o : MO) : (mv M b d p s ++ R).set i o = mv M b d p s ++ R.set (i - M.length) o := by
  rw [List.set_append_right _ _ (by rw [mv_len]; exact h), mv_len]
theorem mv_getR {i : Nat} (h : M.length ≤ i) (s : BS) (R : Mem) : (mv M b d p s ++ R)[i]? = R[i - M.length]? := by
  rw [List.getElem?_append_right (by rw [mv_len]; exact h), mv_len]
theorem g0 (s : BS) (x : MO) (T : Mem) : (mv M b d p s ++ x :: T)[M.length]? = some x := by rw [mv_getR (Nat.le_refl _)]; simp
theorem g1 (s : BS) (R : Mem) (x : MO) (T : Mem) : (mv M b d p s ++ (R ++ x :: T))[M.length + R.length]? = some x := by
  rw [mv_getR (by omega), show M.length + R.length - M.length = R.length by omega]
  exact app_get
theorem g2 (s : BS) (R : Mem) (x y : MO) (T : Mem) : (mv M b d p s ++ (R ++ x :: y :: T))[M.length + (R.length + 1)]? = some y := by
  rw [mv_getR (by omega), show M.length + (R.length + 1) - M.length = (R ++ [x]).length by simp, show R ++ x :: y :: T = (R ++ [x]) ++ y :: T by simp]
  exact app_get
theorem g3 (s : BS) (R : Mem) (x y z : MO) (T : Mem) : (mv M b d p s ++ (R ++ x :: y :: z :: T))[M.length + (R.length + 1 + 1)]? = some z := by
  rw [mv_getR (by omega), show M.length + (R.length + 1 + 1) - M.length = (R ++ [x, y]).length by simp, show R ++ x :: y :: z :: T = (R ++ [x, y]) ++ z :: T by simp]
  exact app_get
theorem bels_pi (k : Nat) (ps : List Int) : D.bels k (ps.map .int) = true := bels_ints k ps
theorem mv_oldOk (G : Gb M b d p ds) (s s' : BS) (R R' : Mem) : oldOk (M.length + R.length) (mv M b d p s ++ R) (mv M b d p s' ++ (R ++ R')) = true := by
  have hdl := (List.getElem?_eq_some_iff.mp G.hd).1
  have lb := G.lb
  have lp := G.lp
  rw [← List.append_assoc]
  refine oldOk_app2' _ _ _ _ ?_
  have e : mv M b d p s' ++ R = ((mv M b d p s ++ R).set b (s'.cell d p)).set p (.lst (s'.ps.map .int)) := by
    rw [show s'.cell d p = .lst [.ref d, .int s'.a, .int s'.c2, .int s'.c3, .int s'.c4, .ref p] from rfl, mv_setb G, mv_setp G]
  rw [e]
  exact oldOk_set _ _ (by simp [MO.bel, bels_pi]) _ _ _ (oldOk_set _ _ (by simp [BS.cell, MO.bel, D.bels, D.bel]; omega) _ _ _ (oldOk_self _ _))
/-- a tree is given back -/
theorem mv_gc (G : Gb M b d p ds) (s s' : BS) (R R' : Mem) {x : D} (hx : ∀ n, x.bel n = true) : gc (mv M b d p s ++ R) x (mv M b d p s' ++ (R ++ R')) = (x, mv M b d p s' ++ R) := by
  have hl : (mv M b d p s ++ R).length = M.length + R.length := by rw [List.length_append, mv_len]
  rw [gc_of (by rw [hl]; exact mv_oldOk G s s' R R') (hx _), hl, ← List.append_assoc, List.take_left' (by rw [List.length_append, mv_len])]
theorem mv_gc0 (G : Gb M b d p ds) (s s' : BS) (R : Mem) {x : D} (hx : ∀ n, x.bel n = true) : gc (mv M b d p s ++ R) x (mv M b d p s' ++ R) = (x, mv M b d p s' ++ R) := by
  have := mv_gc G s s' R [] hx
  simpa using this
/-- a digit -/
theorem dr1 (hf : P.fdef (.fn "_law_draw") = some F.L_draw) (G : Gb M b d p ds) (s : BS) (R : Mem) (many : Nat) (hm : 0 < many) :
    ∃ v : Nat, v < many ∧ evF P wl (n + 1) (.fn "_law_draw") [.ref b, .int many] (mv M b d p s ++ R) = some (.int v, mv M b d p { s with a := s.a + 1 } ++ R) := by
  have B : Bx (mv M b d p s ++ R) b d p ds s.a s.c2 s.c3 s.c4 (s.ps.map .int) := ⟨mv_b G s R, mv_d G s R, mv_p G s R, G.bd, G.bp, G.dp⟩
  obtain ⟨v, h1, h2⟩ := drawB_run (P := P) (wl := wl) (n := n) hf B many hm
  refine ⟨v, h1, ?_⟩
  rw [h2]
  unfold bxM
  rw [mv_setb G]
theorem Ex.belA : ∀ (e : Ex) (n : Nat), e.toD.bel n = true
  | .num i, n => by simp [Ex.toD, D.bel, D.bels]
  | .cell i, n => by simp [Ex.toD, D.bel, D.bels]
  | .prop i, n => by simp [Ex.toD, D.bel, D.bels]
  | .store i, n => by simp [Ex.toD, D.bel, D.bels]
  | .index, n => by simp [Ex.toD, D.bel, D.bels]
  | .iff a b c, n => by simp [Ex.toD, D.bel, D.bels, Ex.belA a n, Ex.belA b n, Ex.belA c n]
  | .bin k a b, n => by simp [Ex.toD, D.bel, D.bels, Ex.belA a n, Ex.belA b n]
def leafE (u : Nat) : Nat → Ex
  | 0 => .num u
  | 1 => .cell 0
  | 2 => .cell 1
  | 3 => .prop 0
  | 4 => .store 0
  | 5 => .store 1
  | _ => .index
theorem leafE_get (u v : Nat) : ([D.tup [.str "num", .int (u : Int)], .tup [.str "cell", .int 0], .tup [.str "cell", .int 1], .tup [.str "prop", .int 0], .tup [.str "store", .int 0], .tup [.str "store", .int 1], .tup [.str "index"]])[v % 7]? = some (leafE u (v % 7)).toD := by
  have h : v % 7 < 7 := Nat.mod_lt _ (by decide)
  rcases (by omega : v % 7 = 0 ∨ v % 7 = 1 ∨ v % 7 = 2 ∨ v % 7 = 3 ∨ v % 7 = 4 ∨ v % 7 = 5 ∨ v % 7 = 6) with h | h | h | h | h | h | h <;> rw [h] <;> rfl
theorem leafE_dep (u k : Nat) : (leafE u k).dep = 0 := by
  unfold leafE
  split <;> rfl
theorem eqD_i (M : Mem) (a b : Int) : eqD M (.int a) (.int b) = some (decide (a = b)) := by simp [eqD, D.plain, D.eqv]
theorem eqD_s (M : Mem) (a b : String) : eqD M (.str a) (.str b) = some (decide (a = b)) := by simp [eqD, D.plain, D.eqv]
theorem pyIx_mod (n v : Nat) (h : 0 < n) : pyIx n ((v : Int) % (n : Int)) = some (v % n) := by
  rw [show (v : Int) % (n : Int) = ((v % n : Nat) : Int) by omega, pyIx_nat (by omega) (by have := Nat.mod_lt v h; omega), Int.toNat_natCast]
theorem pyIx_lt (n v : Nat) (h : v < n) : pyIx n (v : Int) = some v := by
  rw [pyIx_nat (by omega) (by omega)]; simp
def Bn.of : Nat → Bn
  | 0 => .plus
  | 1 => .minus
  | 2 => .same
  | _ => .less
theorem Bn.of_get (v : Nat) : ([D.str "plus", .str "minus", .str "same", .str "less"])[v % 4]? = some (.str (Bn.of (v % 4)).name) := by
  have h : v % 4 < 4 := Nat.mod_lt _ (by decide)
  rcases (by omega : v % 4 = 0 ∨ v % 4 = 1 ∨ v % 4 = 2 ∨ v % 4 = 3) with h | h | h | h <;> rw [h] <;> rfl
/-- a drawn leaf -/
theorem expr_leaf (hf : P.fdef (.fn "_law_expr") = some F.L_expr) (hw : P.fdef (.fn "_law_draw") = some F.L_draw) (G : Gb M b d p ds) (k n : Nat) (s : BS) (R : Mem) (v : Nat) (hk : k = 0 ∨ v < 7)
    (h : evF P wl (n + 1) (.fn "_law_draw") [.ref b, .int 12] (mv M b d p s ++ R) = some (.int v, mv M b d p { s with a := s.a + 1 } ++ R)) :
    ∃ (e : Ex) (a2 : Nat), e.dep ≤ k ∧ evF P wl (n + 2) (.fn "_law_expr") [.ref b, .int k] (mv M b d p s ++ R) = some (e.toD, mv M b d p { s with a := a2 } ++ R) := by
  obtain ⟨u, hu, h2⟩ := dr1 (P := P) (wl := wl) (n := n) hw G { s with a := s.a + 1 } (R ++ [.lst [.tup [.str "cell", .int 0], .tup [.str "cell", .int 1], .tup [.str "prop", .int 0], .tup [.str "store", .int 0], .tup [.str "store", .int 1], .tup [.str "index"]]]) 4 (by decide)
  refine ⟨leafE u (v % 7), s.a + 1 + 1, by rw [leafE_dep]; omega, ?_⟩
  rw [evF_at hf _ rfl]
  have hg := mv_gc G s { s with a := s.a + 1 + 1 } R [.lst [.tup [.str "cell", .int 0], .tup [.str "cell", .int 1], .tup [.str "prop", .int 0], .tup [.str "store", .int 0], .tup [.str "store", .int 1], .tup [.str "index"]], .lst [.tup [.str "num", .int (u : Int)]],
    .lst [.tup [.str "num", .int (u : Int)], .tup [.str "cell", .int 0], .tup [.str "cell", .int 1], .tup [.str "prop", .int 0], .tup [.str "store", .int 0], .tup [.str "store", .int 1], .tup [.str "index"]]] (x := (leafE u (v % 7)).toD) (Ex.belA _)
  have hx := leafE_get u v
  have hp := pyIx_mod 7 v (by decide)
  have hL : 7 ≤ LIM := by decide
  simp at h h2 hg hp
  by_cases hk0 : k = 0
  · subst hk0
    simp [F.L_expr, evS, evE, evEs, h, bindPat, cmpD, eqD_i, truthR, truth, biD, binD, h2, mv_len, g1, g2, g3, hL, idxD, hp, hx, retOf, hg]
  · have hv := hk.resolve_left hk0
    have hv' : (v : Int) < 7 := by omega
    simp [F.L_expr, evS, evE, evEs, h, bindPat, cmpD, eqD_i, truthR, truth, biD, binD, h2, mv_len, g1, g2, g3, hL, idxD, hp, hx, retOf, hg, hk0, hv, hv']
/-- what a drawing of an expression gives: a tree of the kind, the box moved -/
theorem expr_run (hf : P.fdef (.fn "_law_expr") = some F.L_expr) (hw : P.fdef (.fn "_law_draw") = some F.L_draw) (G : Gb M b d p ds) :
    ∀ (k n : Nat) (s : BS) (R : Mem), k ≤ n → ∃ (e : Ex) (a2 : Nat), e.dep ≤ k ∧ evF P wl (n + 2) (.fn "_law_expr") [.ref b, .int k] (mv M b d p s ++ R) = some (e.toD, mv M b d p { s with a := a2 } ++ R) := by
  intro k
  induction k with
  | zero =>
    intro n s R _
    obtain ⟨v, hv, h⟩ := dr1 (P := P) (wl := wl) (n := n) hw G s R 12 (by decide)
    exact expr_leaf hf hw G 0 n s R v (.inl rfl) h
  | succ k ih =>
    intro n s R hkn
    obtain ⟨m, rfl⟩ : ∃ m, n = m + 1 := ⟨n - 1, by omega⟩
    obtain ⟨v, hv, h⟩ := dr1 (P := P) (wl := wl) (n := m + 1) hw G s R 12 (by decide)
    by_cases hv7 : v < 7
    · exact expr_leaf hf hw G (k + 1) (m + 1) s R v (.inr hv7) h
    · obtain ⟨e1, a1, d1, h1⟩ := ih m { s with a := s.a + 1 } R (by omega)
      obtain ⟨e2, a2, d2, h2⟩ := ih m { s with a := a1 } R (by omega)
      have hv' : ¬ (v : Int) < 7 := by omega
      have hk0 : ¬ ((k : Int) + 1 = 0) := by omega
      have hk1 : (k : Int) + 1 - 1 = k := by omega
      rw [evF_at hf _ rfl]
      by_cases h11 : v = 11
      · obtain ⟨e3, a3, d3, h3⟩ := ih m { s with a := a2 } R (by omega)
        subst h11
        refine ⟨.iff e1 e2 e3, a3, by simp only [Ex.dep]; omega, ?_⟩
        have hg := mv_gc0 G s { s with a := a3 } R (x := (Ex.iff e1 e2 e3).toD) (Ex.belA _)
        simp only [Ex.toD] at hg ⊢
        simp at h h1 h2 h3
        simp [F.L_expr, evS, evE, evEs, h, h1, h2, h3, bindPat, cmpD, eqD_i, truthR, truth, binD, hk0, hk1, retOf, hg]
      · have h11' : ¬ (v : Int) = 11 := by omega
        refine ⟨.bin (Bn.of (v % 4)) e1 e2, a2, by simp only [Ex.dep]; omega, ?_⟩
        have hg := mv_gc G s { s with a := a2 } R [.lst [.str "plus", .str "minus", .str "same", .str "less"]] (x := (Ex.bin (Bn.of (v % 4)) e1 e2).toD) (Ex.belA _)
        have hx := Bn.of_get v
        have hp := pyIx_mod 4 v (by decide)
        simp only [Ex.toD] at hg ⊢
        simp at h h1 h2 hp
        simp [F.L_expr, evS, evE, evEs, h, h1, h2, bindPat, cmpD, eqD_i, truthR, truth, biD, binD, hk0, hk1, hv7, hv', h11, h11', mv_len, g1, idxD, hp, hx, retOf, hg]
def keyD : Option Ex → D
  | some x => x.toD
  | none => .non
theorem key_run (hf : P.fdef (.fn "_law_key") = some F.L_key) (he : P.fdef (.fn "_law_expr") = some F.L_expr) (hw : P.fdef (.fn "_law_draw") = some F.L_draw) (G : Gb M b d p ds) (n : Nat) (s : BS) (R : Mem) :
    ∃ (e : Option Ex) (a2 : Nat), (∀ x, e = some x → x.dep ≤ 1) ∧ evF P wl (n + 4) (.fn "_law_key") [.ref b] (mv M b d p s ++ R) = some (keyD e, mv M b d p { s with a := a2 } ++ R) := by
  obtain ⟨v, hv, h⟩ := dr1 (P := P) (wl := wl) (n := n + 2) hw G s R 3 (by decide)
  by_cases h0 : v = 0
  · obtain ⟨e, a2, he1, h2⟩ := expr_run (P := P) (wl := wl) he hw G 1 (n + 1) { s with a := s.a + 1 } R (by omega)
    refine ⟨some e, a2, (fun x hx => by cases hx; exact he1), ?_⟩
    have hg := mv_gc0 G s { s with a := a2 } R (x := e.toD) (Ex.belA _)
    subst h0
    rw [evF_at hf _ rfl]
    simp at h h2
    simp [F.L_key, keyD, evS, evE, evEs, h, h2, cmpD, eqD_i, truthR, truth, retOf, hg]
  · refine ⟨none, s.a + 1, (fun x hx => by cases hx), ?_⟩
    have hg := mv_gc0 G s { s with a := s.a + 1 } R (x := .non) (fun _ => rfl)
    rw [evF_at hf _ rfl]
    simp at h
    simp [F.L_key, keyD, evS, evE, evEs, h, h0, cmpD, eqD_i, truthR, truth, retOf, hg]
end
end Pw

end
section
set_option maxHeartbeats 4000000
/-! G3: templates and contents are drawn. -/
namespace Pw
inductive Tm where
  | text (s : String) | shw (e : Ex) | input (s : String) (i : Nat) | part (i : Int) | child (c : Nat) (key : Option Ex) (props : List Ex)
  | box (tag : String) (key : Option Ex) (act : Option Nat) (cs : List Tm) | whn (e : Ex) (y n : List Tm) | each (e : Ex) (cs : List Tm)
def actD : Option Nat → D
  | some x => .int x
  | none => .non
mutual
def Tm.toD : Tm → D
  | .text s => .tup [.str "text", .str s]
  | .shw e => .tup [.str "show", e.toD]
  | .input s i => .tup [.str "input", .str s, .int i]
  | .part i => .tup [.str "part", .int i]
  | .child c k ps => .tup [.str "child", .int c, keyD k, .tup (ps.map Ex.toD)]
  | .box t k a cs => .tup [.str "box", .str t, keyD k, actD a, .tup (Tm.toDs cs)]
  | .whn e y n => .tup [.str "when", e.toD, .tup (Tm.toDs y), .tup (Tm.toDs n)]
  | .each e cs => .tup [.str "each", e.toD, .tup (Tm.toDs cs)]
def Tm.toDs : List Tm → List D
  | [] => []
  | t :: ts => t.toD :: Tm.toDs ts
end
theorem Tm.toDs_map : ∀ cs : List Tm, Tm.toDs cs = cs.map Tm.toD
  | [] => rfl
  | t :: ts => by simp [Tm.toDs, Tm.toDs_map ts]
mutual
/-- how many templates there are -/
def Tm.size : Tm → Nat
  | .box _ _ _ cs => Tm.sizes cs + 1
  | .whn _ y n => Tm.sizes y + Tm.sizes n + 1
  | .each _ cs => Tm.sizes cs + 1
  | _ => 1
def Tm.sizes : List Tm → Nat
  | [] => 0
  | t :: ts => t.size + Tm.sizes ts
end
mutual
/-- how deep they are within one another -/
def Tm.dep : Tm → Nat
  | .box _ _ _ cs => Tm.deps cs + 1
  | .whn _ y n => max (Tm.deps y) (Tm.deps n) + 1
  | .each _ cs => Tm.deps cs + 1
  | _ => 0
def Tm.deps : List Tm → Nat
  | [] => 0
  | t :: ts => max t.dep (Tm.deps ts)
end
mutual
/-- children come behind, parts are there, expressions are small -/
def Tm.ok (own last np : Nat) : Tm → Prop
  | .text _ => True
  | .shw e => e.dep ≤ 1
  | .input _ i => i < 3
  | .part i => 0 ≤ i ∧ i < np
  | .child c k ps => own < c ∧ c ≤ last ∧ (∀ e, k = some e → e.dep ≤ 1) ∧ (∀ e ∈ ps, e.dep ≤ 1) ∧ ps.length ≤ 2
  | .box _ k a cs => (∀ e, k = some e → e.dep ≤ 1) ∧ (∀ i, a = some i → i < 3) ∧ Tm.oks own last np cs
  | .whn e y n => e.dep ≤ 1 ∧ Tm.oks own last np y ∧ Tm.oks own last np n
  | .each e cs => e.dep ≤ 3 ∧ Tm.oks own last np cs
def Tm.oks (own last np : Nat) : List Tm → Prop
  | [] => True
  | t :: ts => t.ok own last np ∧ Tm.oks own last np ts
end
theorem Tm.sizes_app : ∀ (a b : List Tm), Tm.sizes (a ++ b) = Tm.sizes a + Tm.sizes b
  | [], b => by simp [Tm.sizes]
  | t :: a, b => by simp only [Tm.sizes, Tm.sizes_app a b, List.cons_append]; omega
theorem Tm.deps_app : ∀ (a b : List Tm), Tm.deps (a ++ b) = max (Tm.deps a) (Tm.deps b)
  | [], b => by simp [Tm.deps]
  | t :: a, b => by simp only [Tm.deps, Tm.deps_app a b, List.cons_append]; omega
theorem Tm.oks_app {own last np : Nat} : ∀ (a b : List Tm), Tm.oks own last np (a ++ b) ↔ Tm.oks own last np a ∧ Tm.oks own last np b
  | [], b => by simp [Tm.oks]
  | t :: a, b => by simp [Tm.oks, Tm.oks_app a b, and_assoc]
theorem Tm.len_sizes : ∀ a : List Tm, a.length ≤ Tm.sizes a
  | [] => by simp [Tm.sizes]
  | t :: a => by
    have := Tm.len_sizes a
    have h : 1 ≤ t.size := by cases t <;> simp [Tm.size]
    simp only [Tm.sizes, List.length_cons]; omega
theorem bels_map {α : Type} (f : α → D) (n : Nat) : ∀ l : List α, (∀ x ∈ l, (f x).bel n = true) → D.bels n (l.map f) = true
  | [], _ => rfl
  | x :: l, h => by simp [D.bels, h x List.mem_cons_self, bels_map f n l fun y hy => h y (List.mem_cons_of_mem _ hy)]
theorem keyD_bel (k : Option Ex) (n : Nat) : (keyD k).bel n = true := by cases k <;> simp [keyD, Ex.belA, D.bel]
theorem actD_bel (k : Option Nat) (n : Nat) : (actD k).bel n = true := by cases k <;> simp [actD, D.bel]
mutual
theorem Tm.belA : ∀ (t : Tm) (n : Nat), t.toD.bel n = true
  | .text s, n => by simp [Tm.toD, D.bel, D.bels]
  | .shw e, n => by simp [Tm.toD, D.bel, D.bels, Ex.belA]
  | .input s i, n => by simp [Tm.toD, D.bel, D.bels]
  | .part i, n => by simp [Tm.toD, D.bel, D.bels]
  | .child c k ps, n => by simp [Tm.toD, D.bel, D.bels, keyD_bel, bels_map Ex.toD n ps fun e _ => Ex.belA e n]
  | .box t k a cs, n => by simp [Tm.toD, D.bel, D.bels, keyD_bel, actD_bel, Tm.belAs cs n]
  | .whn e y m, n => by simp [Tm.toD, D.bel, D.bels, Ex.belA, Tm.belAs y n, Tm.belAs m n]
  | .each e cs, n => by simp [Tm.toD, D.bel, D.bels, Ex.belA, Tm.belAs cs n]
theorem Tm.belAs : ∀ (t : List Tm) (n : Nat), D.bels n (Tm.toDs t) = true
  | [], n => by simp [Tm.toDs, D.bels]
  | t :: ts, n => by simp [Tm.toDs, D.bels, Tm.belA t n, Tm.belAs ts n]
end
/-! ### tests -/
theorem truthR_and {F : FT} {a b : E} {ρ : VEnv} {M : Mem} {t u : Bool} (h1 : truthR (evE F a ρ M) = some (t, M)) (h2 : truthR (evE F b ρ M) = some (u, M)) : truthR (evE F (.and a b) ρ M) = some (t && u, M) := by
  unfold truthR at h1 h2 ⊢
  simp only [evE]
  cases ha : evE F a ρ M with
  | none => rw [ha] at h1; cases h1
  | some q =>
    obtain ⟨x, M1⟩ := q
    rw [ha] at h1
    simp only [bnd_some] at h1 ⊢
    cases hx : truth M1 x with
    | none => rw [hx] at h1; cases h1
    | some t' =>
      rw [hx] at h1
      cases h1
      cases t
      · simp [hx]
      · simp only [Bool.true_and]
        exact h2
theorem KI_b {F : FT} {ρ : VEnv} {M : Mem} {Q : Out → Mem → Prop} {a b : S} {t : Bool} (h1 : t = true → ok (evS F a ρ M) Q) (h2 : t = false → ok (evS F b ρ M) Q) : KI F a b ρ Q t M := by
  cases t
  · rw [KI_f]; exact h2 rfl
  · rw [KI_t]; exact h1 rfl
def InR (np : Nat) (ps : List Int) : Prop := (∀ i ∈ ps, 0 ≤ i ∧ i < np) ∧ ps.length ≤ np
section
variable {P : Prog} {wl n : Nat} {M : Mem} {b d p : Nat} {ds : List Int}
/-- what contents are drawn -/
def CSpec (P : Prog) (wl f : Nat) (M : Mem) (b d p np own last l : Nat) : Prop := ∀ (s : BS) (R : Mem) (free : Bool), 0 ≤ s.c2 → InR np s.ps → ∃ (cs : List Tm) (s' : BS), Tm.oks own last np cs ∧ (Tm.sizes cs : Int) + s'.c2 ≤ s.c2 ∧ 0 ≤ s'.c2 ∧ InR np s'.ps ∧ Tm.deps cs + l ≤ 3 ∧
  evF P wl f (.fn "_law_contents") [.ref b, .int own, .int l, .int last, .bl free] (mv M b d p s ++ R) = some (.tup (Tm.toDs cs), mv M b d p s' ++ R)
def TSpec (P : Prog) (wl f : Nat) (M : Mem) (b d p np own last l : Nat) : Prop := ∀ (s : BS) (R : Mem) (free : Bool), 0 < s.c2 → InR np s.ps → ∃ (t : Tm) (s' : BS), t.ok own last np ∧ (t.size : Int) + s'.c2 ≤ s.c2 ∧ 0 ≤ s'.c2 ∧ InR np s'.ps ∧ t.dep + l ≤ 3 ∧
  evF P wl f (.fn "_law_template") [.ref b, .int own, .int l, .int last, .bl free] (mv M b d p s ++ R) = some (t.toD, mv M b d p s' ++ R)
/-- expressions drawn one after the other -/
theorem exprs_turns (he : P.fdef (.fn "_law_expr") = some F.L_expr) (hw : P.fdef (.fn "_law_draw") = some F.L_draw) (G : Gb M b d p ds) (n m : Nat) (ρ : VEnv) (hρ : ρ[0]? = some (some (.ref b))) (hl : 13 < ρ.length) (s : BS) (R : Mem) :
    ∃ (es : List Ex) (a2 : Nat), es.length = m ∧ (∀ e ∈ es, e.dep ≤ 1) ∧ turns [] (.name 13) (fun ρ M => truthR (evE ⟨P, evF P wl (n + 3), wl⟩ (.bl true) ρ M)) (fun ρ M => evEs ⟨P, evF P wl (n + 3), wl⟩ (.cons (.call "_law_expr" (.cons (.var 0) (.cons (.int (1)) .nil))) .nil) ρ M) ρ
      ((List.range m).map fun k : Nat => D.int (k : Int)) (mv M b d p s ++ R) = some (es.map Ex.toD, mv M b d p { s with a := a2 } ++ R) := by
  have key := turns_wp (g := []) (p := .name 13) (c := fun ρ M => truthR (evE ⟨P, evF P wl (n + 3), wl⟩ (.bl true) ρ M)) (b := fun ρ M => evEs ⟨P, evF P wl (n + 3), wl⟩ (.cons (.call "_law_expr" (.cons (.var 0) (.cons (.int (1)) .nil))) .nil) ρ M) (ρ := ρ)
    (fun k : Nat => D.int (k : Int)) (fun done rest acc M' => ∃ (es : List Ex) (a2 : Nat), es.length = done.length ∧ (∀ e ∈ es, e.dep ≤ 1) ∧ acc = es.map Ex.toD ∧ M' = mv M b d p { s with a := a2 } ++ R) (fun _ _ _ _ _ => rfl) (by
      rintro done x rest acc M' ⟨es, a2, h1, h2, rfl, rfl⟩
      obtain ⟨e, a3, h3, h4⟩ := expr_run (P := P) (wl := wl) he hw G 1 (n + 1) { s with a := a2 } R (by omega)
      refine ⟨ρ.set 13 (some (.int (x : Int))), rfl, true, _, by simp [evE, truthR, truth]; rfl, ?_⟩
      dsimp only
      rw [if_pos rfl]
      refine ⟨[e.toD], _, ?_, es ++ [e], a3, by simp [h1], ?_, by simp, rfl⟩
      · have hρ2 : (ρ.set 13 (some (.int (x : Int))))[0]? = some (some (.ref b)) := by rw [List.getElem?_set_ne (by decide)]; exact hρ
        simp at h4
        simp only [evEs, evE, hρ2, bnd_some]
        simp [h4]
      · intro y hy
        rcases List.mem_append.mp hy with hy | hy
        · exact h2 y hy
        · rw [List.mem_singleton.mp hy]; exact h3)
    (List.range m) [] [] (mv M b d p s ++ R) ⟨[], s.a, rfl, by simp, rfl, rfl⟩
  obtain ⟨zs, M', e, es, a2, h1, h2, h3, rfl⟩ := key
  simp at h1 h3
  exact ⟨es, a2, h1, h2, by rw [e, h3]⟩
end
end Pw

end
section
set_option maxHeartbeats 4000000
/-! G4: a template is drawn. -/
namespace Pw
theorem ok_evS {F : FT} {a : S} {ρ ρ' : VEnv} {M M' : Mem} {Q : Out → Mem → Prop} (h : evS F a ρ M = some (.nx ρ', M')) (q : Q (.nx ρ') M') : ok (evS F a ρ M) Q := ⟨_, _, h, q⟩
section
variable {P : Prog} {wl n : Nat} {M : Mem} {b d p : Nat} {ds : List Int}
theorem draw_ev (hw : P.fdef (.fn "_law_draw") = some F.L_draw) (G : Gb M b d p ds) (n : Nat) (s : BS) (R : Mem) (many : Nat) (hm : 0 < many) :
    ∃ v : Nat, v < many ∧ ∀ ρ : VEnv, ρ[0]? = some (some (.ref b)) → evE ⟨P, evF P wl (n + 1), wl⟩ (.call "_law_draw" (.cons (.var 0) (.cons (.int many) .nil))) ρ (mv M b d p s ++ R) = some (.int v, mv M b d p { s with a := s.a + 1 } ++ R) := by
  obtain ⟨v, hv, h⟩ := dr1 (P := P) (wl := wl) (n := n) hw G s R many hm
  exact ⟨v, hv, fun ρ hρ => by simp [evE, evEs, hρ, h]⟩
theorem expr_ev (he : P.fdef (.fn "_law_expr") = some F.L_expr) (hw : P.fdef (.fn "_law_draw") = some F.L_draw) (G : Gb M b d p ds) (n k : Nat) (hk : k ≤ n) (s : BS) (R : Mem) :
    ∃ (e : Ex) (a2 : Nat), e.dep ≤ k ∧ ∀ ρ : VEnv, ρ[0]? = some (some (.ref b)) → evE ⟨P, evF P wl (n + 2), wl⟩ (.call "_law_expr" (.cons (.var 0) (.cons (.int k) .nil))) ρ (mv M b d p s ++ R) = some (e.toD, mv M b d p { s with a := a2 } ++ R) := by
  obtain ⟨e, a2, hd, h⟩ := expr_run (P := P) (wl := wl) he hw G k n s R hk
  exact ⟨e, a2, hd, fun ρ hρ => by simp [evE, evEs, hρ, h]⟩
theorem key_ev (hk : P.fdef (.fn "_law_key") = some F.L_key) (he : P.fdef (.fn "_law_expr") = some F.L_expr) (hw : P.fdef (.fn "_law_draw") = some F.L_draw) (G : Gb M b d p ds) (n : Nat) (s : BS) (R : Mem) :
    ∃ (e : Option Ex) (a2 : Nat), (∀ x, e = some x → x.dep ≤ 1) ∧ ∀ ρ : VEnv, ρ[0]? = some (some (.ref b)) → evE ⟨P, evF P wl (n + 4), wl⟩ (.call "_law_key" (.cons (.var 0) .nil)) ρ (mv M b d p s ++ R) = some (keyD e, mv M b d p { s with a := a2 } ++ R) := by
  obtain ⟨e, a2, hd, h⟩ := key_run (P := P) (wl := wl) hk he hw G n s R
  exact ⟨e, a2, hd, fun ρ hρ => by simp only [evE, evEs, hρ, bnd_some, h]⟩
/-- the i-th of a written list -/
theorem pick_ev {F : FT} {es i : E} {ρ : VEnv} {M M1 : Mem} {xs : List D} {k : Nat} {x : D} (h1 : evEs F es ρ M = some (xs, M)) (h2 : evE F i ρ (M ++ [.lst xs]) = some (.int (k : Int), M1)) (h3 : M1[M.length]? = some (.lst xs)) (h4 : xs[k]? = some x) : evE F (.idx (.lst es) i) ρ M = some (x, M1) := by
  have hk := (List.getElem?_eq_some_iff.mp h4).1
  simp [evE, h1, h2, idxD, h3, pyIx_lt _ _ hk, h4]
abbrev ρT (b own l last : Nat) (free : Bool) (v5 v6 v7 v8 v9 v10 v11 v12 v13 : Option D) : VEnv := [some (.ref b), some (.int own), some (.int l), some (.int last), some (.bl free), v5, v6, v7, v8, v9, v10, v11, v12, v13]
theorem get3 {α : Type} (a b c : α) {v : Nat} (h : v < 3) : ∃ x, [a, b, c][v]? = some x ∧ (x = a ∨ x = b ∨ x = c) := by
  rcases (by omega : v = 0 ∨ v = 1 ∨ v = 2) with rfl | rfl | rfl
  · exact ⟨a, rfl, .inl rfl⟩
  · exact ⟨b, rfl, .inr (.inl rfl)⟩
  · exact ⟨c, rfl, .inr (.inr rfl)⟩
theorem get_act {v : Nat} (h : v < 4) : ∃ a : Option Nat, (∀ i, a = some i → i < 3) ∧ ([D.non, .int 0, .int 1, .int 2])[v]? = some (actD a) := by
  rcases (by omega : v = 0 ∨ v = 1 ∨ v = 2 ∨ v = 3) with rfl | rfl | rfl | rfl
  · exact ⟨none, by simp, rfl⟩
  · exact ⟨some 0, by simp, rfl⟩
  · exact ⟨some 1, by simp, rfl⟩
  · exact ⟨some 2, by simp, rfl⟩
theorem template_run (hf : P.fdef (.fn "_law_template") = some F.L_template) (hk : P.fdef (.fn "_law_key") = some F.L_key) (he : P.fdef (.fn "_law_expr") = some F.L_expr) (hw : P.fdef (.fn "_law_draw") = some F.L_draw) (G : Gb M b d p ds) (np own last l : Nat) (hl : l ≤ 3) (m : Nat)
    (hc : l < 3 → CSpec P wl (m + 5) M b d p np own last (l + 1)) : TSpec P wl (m + 6) M b d p np own last l := by
  intro s R free hc2 hps
  suffices h : ok (evF P wl (m + 6) (.fn "_law_template") [.ref b, .int own, .int l, .int last, .bl free] (mv M b d p s ++ R)) fun x M' => ∃ (t : Tm) (s' : BS), t.ok own last np ∧ (t.size : Int) + s'.c2 ≤ s.c2 ∧ 0 ≤ s'.c2 ∧ InR np s'.ps ∧ t.dep + l ≤ 3 ∧ x = t.toD ∧ M' = mv M b d p s' ++ R by
    obtain ⟨x, M', e, t, s', h1, h2, h3, h4, h5, rfl, rfl⟩ := h
    exact ⟨t, s', h1, h2, h3, h4, h5, e⟩
  refine ok_call (n := m + 5) hf rfl ?_
  generalize hQ : (fun (x : D) (M' : Mem) => ∃ (t : Tm) (s' : BS), t.ok own last np ∧ (t.size : Int) + s'.c2 ≤ s.c2 ∧ 0 ≤ s'.c2 ∧ InR np s'.ps ∧ t.dep + l ≤ 3 ∧ x = t.toD ∧ M' = mv M b d p s' ++ R) = Q
  have fin : ∀ (t : Tm) (s' : BS) (R' : Mem), t.ok own last np → (t.size : Int) + s'.c2 ≤ s.c2 → 0 ≤ s'.c2 → InR np s'.ps → t.dep + l ≤ 3 → KG (mv M b d p s ++ R) Q (.rt t.toD) (mv M b d p s' ++ (R ++ R')) := by
    intro t s' R' h1 h2 h3 h4 h5
    rw [KG_rt, mv_gc G s s' R R' (Tm.belA t), ← hQ]
    exact ⟨t, s', h1, h2, h3, h4, h5, rfl, rfl⟩
  have fin0 : ∀ (t : Tm) (s' : BS), t.ok own last np → (t.size : Int) + s'.c2 ≤ s.c2 → 0 ≤ s'.c2 → InR np s'.ps → t.dep + l ≤ 3 → KG (mv M b d p s ++ R) Q (.rt t.toD) (mv M b d p s' ++ R) := by
    intro t s' h1 h2 h3 h4 h5
    have := fin t s' [] h1 h2 h3 h4 h5
    simpa using this
  clear hQ
  have e0 : (List.map some [D.ref b, .int own, .int l, .int last, .bl free] ++ List.replicate (F.L_template.slots - F.L_template.params) none : VEnv) = ρT b own l last free none none none none none none none none none := rfl
  rw [e0]
  unfold F.L_template
  dsimp only
  -- one template less
  rw [ok_seq]
  refine ok_evS (ρ' := ρT b own l last free none none none none none none none none none) (M' := mv M b d p { s with c2 := s.c2 - 1 } ++ R) ?_ ?_
  · simp [evS, evE, ρT, mv_b G, idxD, pyIx, binD, setD, mv_setb G]
  rw [KS_nx, ok_seq, ok_asg]
  obtain ⟨v, hv, hd⟩ := draw_ev (P := P) (wl := wl) hw G (m + 4) { s with c2 := s.c2 - 1 } R 12 (by decide)
  rw [show (E.int (12)) = .int ((12 : Nat) : Int) by rfl, hd _ rfl, ok_some, KA_, KS_nx]
  generalize hs1 : ({ s with c2 := s.c2 - 1, a := s.a + 1 } : BS) = s1
  have hs1' : ({ a := s.a + 1, c2 := s.c2 - 1, c3 := s.c3, c4 := s.c4, ps := s.ps } : BS) = s1 := hs1
  have c21 : s1.c2 = s.c2 - 1 := by rw [← hs1]
  have ps1 : s1.ps = s.ps := by rw [← hs1]
  dsimp only [ρT, List.set]
  dsimp only at *
  -- a text
  rw [ok_seq, ok_ite]
  have cmpI : ∀ (k : Int) (N : Mem), truthR (evE ⟨P, evF P wl (m + 5), wl⟩ (.cmp .eq (.var 5) (.int k)) (ρT b own l last free (some (.int (v : Int))) none none none none none none none none) N) = some (decide ((v : Int) = k), N) := fun k N => by simp [evE, ρT, cmpD, eqD_i, truthR, truth]
  have cmpL : ∀ (k : Int) (N : Mem), truthR (evE ⟨P, evF P wl (m + 5), wl⟩ (.cmp .lt (.var 5) (.int k)) (ρT b own l last free (some (.int (v : Int))) none none none none none none none none) N) = some (decide ((v : Int) < k), N) := fun k N => by simp [evE, ρT, cmpD, truthR, truth]
  have cmpV : ∀ (N : Mem), truthR (evE ⟨P, evF P wl (m + 5), wl⟩ (.cmp .lt (.var 2) (.int (3))) (ρT b own l last free (some (.int (v : Int))) none none none none none none none none) N) = some (decide ((l : Int) < 3), N) := fun N => by simp [evE, ρT, cmpD, truthR, truth]
  have cmp2 : truthR (evE ⟨P, evF P wl (m + 5), wl⟩ (.cmp .gt (.idx (.var 0) (.int (2))) (.int (0))) (ρT b own l last free (some (.int (v : Int))) none none none none none none none none) (mv M b d p s1 ++ R)) = some (decide (0 < s1.c2), mv M b d p s1 ++ R) := by simp [evE, ρT, cmpD, truthR, truth, mv_b G, idxD, pyIx]
  have cmp3 : truthR (evE ⟨P, evF P wl (m + 5), wl⟩ (.cmp .gt (.idx (.var 0) (.int (3))) (.int (0))) (ρT b own l last free (some (.int (v : Int))) none none none none none none none none) (mv M b d p s1 ++ R)) = some (decide (0 < s1.c3), mv M b d p s1 ++ R) := by simp [evE, ρT, cmpD, truthR, truth, mv_b G, idxD, pyIx]
  have cmp4 : truthR (evE ⟨P, evF P wl (m + 5), wl⟩ (.cmp .gt (.idx (.var 0) (.int (4))) (.int (0))) (ρT b own l last free (some (.int (v : Int))) none none none none none none none none) (mv M b d p s1 ++ R)) = some (decide (0 < s1.c4), mv M b d p s1 ++ R) := by simp [evE, ρT, cmpD, truthR, truth, mv_b G, idxD, pyIx]
  have cmpO : ∀ N, truthR (evE ⟨P, evF P wl (m + 5), wl⟩ (.cmp .lt (.var 1) (.var 3)) (ρT b own l last free (some (.int (v : Int))) none none none none none none none none) N) = some (decide ((own : Int) < last), N) := fun N => by simp [evE, ρT, cmpD, truthR, truth]
  have cmpZ : ∀ N, truthR (evE ⟨P, evF P wl (m + 5), wl⟩ (.cmp .eq (.var 1) (.int (0))) (ρT b own l last free (some (.int (v : Int))) none none none none none none none none) N) = some (decide ((own : Int) = 0), N) := fun N => by simp [evE, ρT, cmpD, eqD_i, truthR, truth]
  have cmpF : ∀ N, truthR (evE ⟨P, evF P wl (m + 5), wl⟩ (.var 4) (ρT b own l last free (some (.int (v : Int))) none none none none none none none none) N) = some (free, N) := fun N => by simp [evE, ρT, truthR, truth]
  have cmp5 : truthR (evE ⟨P, evF P wl (m + 5), wl⟩ (.cmp .gt (.bi .len (.cons (.idx (.var 0) (.int (5))) .nil)) (.int (0))) (ρT b own l last free (some (.int (v : Int))) none none none none none none none none) (mv M b d p s1 ++ R)) = some (decide (0 < s1.ps.length), mv M b d p s1 ++ R) := by simp [evE, evEs, ρT, cmpD, truthR, truth, mv_b G, mv_p G, idxD, pyIx, biD, lenD]
  rw [cmpI, ok_some]
  refine KI_b (fun h => ?_) fun h1 => ?_
  · obtain ⟨u, hu, hd2⟩ := dr1 (P := P) (wl := wl) (n := m + 4) hw G s1 (R ++ [.lst [.str "a", .str "b c", .str "7"]]) 3 (by decide)
    obtain ⟨x, hx, _⟩ := get3 "a" "b c" "7" hu
    have hx2 : ([D.str "a", .str "b c", .str "7"])[u]? = some (.str x) := by
      have : ([D.str "a", .str "b c", .str "7"]) = ["a", "b c", "7"].map D.str := rfl
      rw [this, List.getElem?_map, hx]; rfl
    have hp := pyIx_lt 3 u hu
    have f := fin (.text x) { s1 with a := s1.a + 1 } [.lst [.str "a", .str "b c", .str "7"]] trivial (by show ((1 : Nat) : Int) + s1.c2 ≤ s.c2; omega) (by show 0 ≤ s1.c2; omega) (by show InR np s1.ps; rw [ps1]; exact hps) (by show 0 + l ≤ 3; omega)
    rw [ok_ret]
    simp only [Tm.toD] at f
    simp at hd2 f
    simp [evE, evEs, ρT, hd2, mv_len, g1, idxD, hp, hx2, KR_]
    exact f
  rw [ok_skip, KS_nx, ok_seq, ok_ite]
  -- a box
  rw [truthR_and (cmpL 5 _) (truthR_and (cmpV _) cmp2), ok_some]
  refine KI_b (fun h => ?_) fun h2 => ?_
  · simp only [Bool.and_eq_true, decide_eq_true_eq] at h
    have hl3 : l < 3 := by omega
    obtain ⟨u, hu, hd2⟩ := dr1 (P := P) (wl := wl) (n := m + 4) hw G s1 (R ++ [.lst [.non, .int 0, .int 1, .int 2]]) 4 (by decide)
    obtain ⟨act, hact, ha2⟩ := get_act hu
    have hp := pyIx_lt 4 u hu
    obtain ⟨key, a2, hkey, hk2⟩ := key_run (P := P) (wl := wl) hk he hw G (m + 1) { s1 with a := s1.a + 1 } (R ++ [.lst [.non, .int 0, .int 1, .int 2]])
    obtain ⟨u3, hu3, hd3⟩ := dr1 (P := P) (wl := wl) (n := m + 4) hw G { s1 with a := a2 } (R ++ [.lst [.non, .int 0, .int 1, .int 2]] ++ [.lst [.str "p", .str "div", .str "li"]]) 3 (by decide)
    obtain ⟨tag, htag, _⟩ := get3 "p" "div" "li" hu3
    have htag2 : ([D.str "p", .str "div", .str "li"])[u3]? = some (.str tag) := by
      have : ([D.str "p", .str "div", .str "li"]) = ["p", "div", "li"].map D.str := rfl
      rw [this, List.getElem?_map, htag]; rfl
    have hp3 := pyIx_lt 3 u3 hu3
    obtain ⟨cs, s', i1, i2, i3, i4, i5, i6⟩ := hc hl3 { s1 with a := a2 + 1 } (R ++ [.lst [.non, .int 0, .int 1, .int 2]] ++ [.lst [.str "p", .str "div", .str "li"]]) free (by show 0 ≤ s1.c2; omega) (by show InR np s1.ps; rw [ps1]; exact hps)
    have i2' : (Tm.sizes cs : Int) + s'.c2 ≤ s1.c2 := i2
    have f := fin (.box tag key act cs) s' [.lst [.non, .int 0, .int 1, .int 2], .lst [.str "p", .str "div", .str "li"]] ⟨hkey, hact, i1⟩ (by show ((Tm.sizes cs + 1 : Nat) : Int) + s'.c2 ≤ s.c2; omega) i3 i4 (by show Tm.deps cs + 1 + l ≤ 3; omega)
    simp only [Tm.toD] at f
    simp at hd2 hk2 hd3 i6 f
    simp [ok_seq, ok_asg, ok_ret, evE, evEs, ρT, hd2, mv_len, g1, g2, idxD, hp, ha2, KA_, KS_nx, KR_, hk2, hd3, hp3, htag2, binD, i6, Nat.add_assoc]
    exact f
  rw [ok_skip, KS_nx, ok_seq, ok_ite]
  -- a when
  rw [truthR_and (cmpI 5 _) (truthR_and (cmpV _) cmp2), ok_some]
  refine KI_b (fun h => ?_) fun h3 => ?_
  · simp only [Bool.and_eq_true, decide_eq_true_eq] at h
    have hl3 : l < 3 := by omega
    obtain ⟨e1, a2, hd1, he1⟩ := expr_run (P := P) (wl := wl) he hw G 1 (m + 3) s1 R (by omega)
    obtain ⟨cs, s', i1, i2, i3, i4, i5, i6⟩ := hc hl3 { s1 with a := a2 } R false (by show 0 ≤ s1.c2; omega) (by show InR np s1.ps; rw [ps1]; exact hps)
    obtain ⟨cs2, s'', j1, j2, j3, j4, j5, j6⟩ := hc hl3 s' R false i3 i4
    have i2' : (Tm.sizes cs : Int) + s'.c2 ≤ s1.c2 := i2
    have f := fin0 (.whn e1 cs cs2) s'' ⟨hd1, i1, j1⟩ (by show ((Tm.sizes cs + Tm.sizes cs2 + 1 : Nat) : Int) + s''.c2 ≤ s.c2; omega) j3 j4 (by show max (Tm.deps cs) (Tm.deps cs2) + 1 + l ≤ 3; omega)
    simp only [Tm.toD] at f
    simp at he1 i6 j6 f
    simp [ok_seq, ok_asg, ok_ret, evE, evEs, ρT, he1, i6, j6, KA_, KS_nx, KR_, binD]
    exact f
  rw [ok_skip, KS_nx, ok_seq, ok_ite]
  -- an each
  rw [truthR_and (cmpI 6 _) (truthR_and (cmpV _) (truthR_and cmp2 cmp4)), ok_some]
  refine KI_b (fun h => ?_) fun h4 => ?_
  · simp only [Bool.and_eq_true, decide_eq_true_eq] at h
    have hl3 : l < 3 := by omega
    obtain ⟨e1, a2, hd1, he1⟩ := expr_run (P := P) (wl := wl) he hw G 1 (m + 3) { s1 with c4 := 0 } R (by omega)
    obtain ⟨e2, a3, hd2, he2⟩ := expr_run (P := P) (wl := wl) he hw G 0 (m + 3) { s1 with c4 := 0, a := a2 } R (by omega)
    obtain ⟨u, hu, hd3⟩ := dr1 (P := P) (wl := wl) (n := m + 4) hw G { s1 with c4 := 0, a := a3 } R 2 (by decide)
    obtain ⟨cs, s', i1, i2, i3, i4, i5, i6⟩ := hc hl3 { s1 with c4 := 0, a := a3 + 1 } R false (by show 0 ≤ s1.c2; omega) (by show InR np s1.ps; rw [ps1]; exact hps)
    have i2' : (Tm.sizes cs : Int) + s'.c2 ≤ s1.c2 := i2
    have f := fin0 (.each (.bin .plus (.bin .same e1 e2) (.num u)) cs) s' ⟨by simp only [Ex.dep]; omega, i1⟩ (by show ((Tm.sizes cs + 1 : Nat) : Int) + s'.c2 ≤ s.c2; omega) i3 i4 (by show Tm.deps cs + 1 + l ≤ 3; omega)
    simp only [Tm.toD, Ex.toD, Bn.name] at f
    simp at he1 he2 hd3 i6 f
    rw [ok_seq]
    refine ok_evS (ρ' := ρT b own l last free (some (.int (v : Int))) none none none none none none none none) (M' := mv M b d p { s1 with c4 := 0 } ++ R) ?_ ?_
    · simp [evS, evE, ρT, mv_b G, idxD, pyIx, binD, setD, mv_setb G]
    simp [ok_seq, ok_asg, ok_ret, evE, evEs, ρT, he1, he2, hd3, i6, KA_, KS_nx, KR_, binD]
    exact f
  rw [ok_skip, KS_nx, ok_seq, ok_ite]
  -- a child
  rw [truthR_and (cmpL 9 _) (truthR_and (cmpO _) cmp3), ok_some]
  refine KI_b (fun h => ?_) fun h5 => ?_
  · simp only [Bool.and_eq_true, decide_eq_true_eq] at h
    rw [ok_seq]
    refine ok_evS (ρ' := ρT b own l last free (some (.int (v : Int))) none none none none none none none none) (M' := mv M b d p { s1 with c3 := s1.c3 - 1 } ++ R) ?_ ?_
    · simp [evS, evE, ρT, mv_b G, idxD, pyIx, binD, setD, mv_setb G]
    rw [KS_nx, ok_seq, ok_asg]
    obtain ⟨u, hu, hd2⟩ := dr1 (P := P) (wl := wl) (n := m + 4) hw G { s1 with c3 := s1.c3 - 1 } R 3 (by decide)
    obtain ⟨es, a2, hes, hes2, htr⟩ := exprs_turns (P := P) (wl := wl) he hw G (m + 2) u (ρT b own l last free (some (.int (v : Int))) none none none none none none none none) rfl (by show 13 < 14; decide) { s1 with c3 := s1.c3 - 1, a := s1.a + 1 } R
    have eprops : evE ⟨P, evF P wl (m + 5), wl⟩ (.coll .tuple (.cons (.lcomp (.for1 [13] (.name 13) (.range (.cons (.call "_law_draw" (.cons (.var 0) (.cons (.int (3)) .nil))) .nil)) (.bl true) (.cons (.call "_law_expr" (.cons (.var 0) (.cons (.int (1)) .nil))) .nil))) .nil)) (ρT b own l last free (some (.int (v : Int))) none none none none none none none none) (mv M b d p { s1 with c3 := s1.c3 - 1 } ++ R) =
        some (.tup (es.map Ex.toD), mv M b d p { s1 with c3 := s1.c3 - 1, a := a2 } ++ (R ++ [.lst (es.map Ex.toD)])) := by
      rw [evE_tupleOf', evE_lcomp', evEs_for1', evIt_rng1 (d := .int (u : Int)) (by simp at hd2; simp [evE, evEs, ρT, hd2]; rfl) (rgN u (by omega)), bnd_some]
      have hwp : wipeE (ρT b own l last free (some (.int (v : Int))) none none none none none none none none) [13] = ρT b own l last free (some (.int (v : Int))) none none none none none none none none := rfl
      rw [hwp]
      dsimp only at htr ⊢
      rw [htr, bnd_some, if_pos (by rw [List.length_map, hes]; exact Nat.le_trans (by omega : u ≤ 1000) (by decide)), bnd_some]
      have hl2 : (mv M b d p { s1 with c3 := s1.c3 - 1, a := a2 } ++ R).length = M.length + R.length := by rw [List.length_append, mv_len]
      simp [itemsD, mv_len, g1]
    rw [eprops, ok_some, KA_, KS_nx, ok_ret]
    have hlast : (last : Int) - own = ((last - own : Nat) : Int) := by omega
    obtain ⟨u2, hu2, hd3⟩ := dr1 (P := P) (wl := wl) (n := m + 4) hw G { s1 with c3 := s1.c3 - 1, a := a2 } (R ++ [.lst (es.map Ex.toD)]) (last - own) (by omega)
    obtain ⟨key, a3, hkey, hk2⟩ := key_run (P := P) (wl := wl) hk he hw G (m + 1) { s1 with c3 := s1.c3 - 1, a := a2 + 1 } (R ++ [.lst (es.map Ex.toD)])
    have f := fin (.child (own + 1 + u2) key es) { s1 with c3 := s1.c3 - 1, a := a3 } [.lst (es.map Ex.toD)] ⟨by omega, by omega, hkey, hes2, by omega⟩ (by show ((1 : Nat) : Int) + s1.c2 ≤ s.c2; omega) (by show 0 ≤ s1.c2; omega) (by show InR np s1.ps; rw [ps1]; exact hps) (by show 0 + l ≤ 3; omega)
    simp only [Tm.toD] at f
    rw [← hlast] at hd3
    dsimp only [ρT, List.set]
    simp at hd3 hk2 f
    simp [evE, evEs, hd3, hk2, KR_, binD]
    exact f
  rw [ok_skip, KS_nx, ok_seq, ok_ite]
  -- a part
  rw [truthR_and (cmpI 9 _) (truthR_and (cmpZ _) (truthR_and (cmpF _) cmp5)), ok_some]
  refine KI_b (fun h => ?_) fun h6 => ?_
  · simp only [Bool.and_eq_true, decide_eq_true_eq] at h
    obtain ⟨i, hi⟩ : ∃ i, s1.ps.getLast? = some i := by
      cases hq : s1.ps.getLast? with
      | some i => exact ⟨i, rfl⟩
      | none => rw [List.getLast?_eq_none_iff] at hq; rw [hq] at h; simp at h
    have him : i ∈ s1.ps := List.mem_of_getLast? hi
    have hi2 : (s1.ps.map D.int).getLast? = some (.int i) := by rw [List.getLast?_map, hi]; rfl
    have hdl : (s1.ps.map D.int).dropLast = s1.ps.dropLast.map D.int := List.map_dropLast.symm
    have f := fin0 (.part i) { s1 with ps := s1.ps.dropLast } (by rw [ps1] at him; exact hps.1 i him) (by show ((1 : Nat) : Int) + s1.c2 ≤ s.c2; omega) (by show 0 ≤ s1.c2; omega) ⟨(by intro j hj; have := (List.dropLast_sublist _).subset hj; rw [ps1] at this; exact hps.1 j this), (by have h1 := hps.2; have h2 : s1.ps.dropLast.length ≤ s1.ps.length := (List.dropLast_sublist _).length_le; rw [ps1] at h2; show s1.ps.dropLast.length ≤ np; rw [ps1]; omega)⟩ (by show 0 + l ≤ 3; omega)
    simp only [Tm.toD] at f
    rw [ok_ret]
    have hset : (mv M b d p s1 ++ R).set p (.lst (s1.ps.map D.int).dropLast) = mv M b d p { s1 with ps := s1.ps.dropLast } ++ R := by rw [hdl]; exact mv_setp G _ _ _
    clear hdl
    simp [evE, evEs, ρT, mv_b G, mv_p G, idxD, pyIx, recvOk, bmD, hi2, hset, KR_]
    exact f
  rw [ok_skip, KS_nx, ok_seq, ok_ite]
  -- an input
  rw [cmpI, ok_some]
  refine KI_b (fun h => ?_) fun h7 => ?_
  · obtain ⟨u, hu, hd2⟩ := dr1 (P := P) (wl := wl) (n := m + 4) hw G s1 R 3 (by decide)
    have f := fin0 (.input "q" u) { s1 with a := s1.a + 1 } hu (by show ((1 : Nat) : Int) + s1.c2 ≤ s.c2; omega) (by show 0 ≤ s1.c2; omega) (by show InR np s1.ps; rw [ps1]; exact hps) (by show 0 + l ≤ 3; omega)
    simp only [Tm.toD] at f
    rw [ok_ret]
    simp at hd2 f
    simp [evE, evEs, ρT, hd2, KR_]
    exact f
  rw [ok_skip, KS_nx]
  obtain ⟨e1, a2, hd1, he1⟩ := expr_run (P := P) (wl := wl) he hw G 1 (m + 3) s1 R (by omega)
  have f := fin0 (.shw e1) { s1 with a := a2 } hd1 (by show ((1 : Nat) : Int) + s1.c2 ≤ s.c2; omega) (by show 0 ≤ s1.c2; omega) (by show InR np s1.ps; rw [ps1]; exact hps) (by show 0 + l ≤ 3; omega)
  simp only [Tm.toD] at f
  rw [ok_ret]
  simp at he1 f
  simp [evE, evEs, ρT, he1, KR_]
  exact f
end
end Pw

end
section
set_option maxHeartbeats 4000000
/-! G5: contents, actions are drawn. -/
namespace Pw
section
variable {P : Prog} {wl n : Nat} {M : Mem} {b d p : Nat} {ds : List Int}
abbrev ρC (b own l last : Nat) (free : Bool) (v5 v6 : Option D) : VEnv := [some (.ref b), some (.int own), some (.int l), some (.int last), some (.bl free), v5, v6]
/-- contents over the templates within -/
theorem contents_step (hf : P.fdef (.fn "_law_contents") = some F.L_contents) (hw : P.fdef (.fn "_law_draw") = some F.L_draw) (G : Gb M b d p ds) (np own last l f : Nat) (hl : l ≤ 3) (ht : TSpec P wl (f + 1) M b d p np own last l) : CSpec P wl (f + 2) M b d p np own last l := by
  intro s R free hc2 hps
  suffices h : ok (evF P wl (f + 2) (.fn "_law_contents") [.ref b, .int own, .int l, .int last, .bl free] (mv M b d p s ++ R)) fun x M' => ∃ (cs : List Tm) (s' : BS), Tm.oks own last np cs ∧ (Tm.sizes cs : Int) + s'.c2 ≤ s.c2 ∧ 0 ≤ s'.c2 ∧ InR np s'.ps ∧ Tm.deps cs + l ≤ 3 ∧ x = .tup (Tm.toDs cs) ∧ M' = mv M b d p s' ++ R by
    obtain ⟨x, M', e, t, s', h1, h2, h3, h4, h5, rfl, rfl⟩ := h
    exact ⟨t, s', h1, h2, h3, h4, h5, e⟩
  refine ok_call (n := f + 1) hf rfl ?_
  have e0 : (List.map some [D.ref b, .int own, .int l, .int last, .bl free] ++ List.replicate (F.L_contents.slots - F.L_contents.params) none : VEnv) = ρC b own l last free none none := rfl
  rw [e0]
  unfold F.L_contents
  dsimp only
  rw [ok_seq, ok_asg]
  have e1 : evE ⟨P, evF P wl (f + 1), wl⟩ (.lst .nil) (ρC b own l last free none none) (mv M b d p s ++ R) = some (.ref (M.length + R.length), mv M b d p s ++ (R ++ [.lst []])) := by
    simp [evE, evEs, mv_len]
  rw [e1, ok_some, KA_, KS_nx, ok_seq, ok_forS]
  dsimp only [ρC, List.set]
  obtain ⟨v, hv, hd⟩ := dr1 (P := P) (wl := wl) (n := f) hw G s (R ++ [.lst []]) 3 (by decide)
  have ei : evIt ⟨P, evF P wl (f + 1), wl⟩ (.range (.cons (.bin .add (.int (1)) (.call "_law_draw" (.cons (.var 0) (.cons (.int (3)) .nil)))) .nil)) [some (.ref b), some (.int own), some (.int l), some (.int last), some (.bl free), some (.ref (M.length + R.length)), none] (mv M b d p s ++ (R ++ [.lst []])) =
      some (((List.range (1 + v)).map fun k : Nat => D.int (k : Int), []), mv M b d p { s with a := s.a + 1 } ++ (R ++ [.lst []])) := by
    refine evIt_rng1 (d := .int ((1 + v : Nat) : Int)) ?_ (rgN _ (by omega))
    simp at hd
    simp [evE, evEs, hd, binD]
  rw [ei, ok_some]
  unfold KF
  refine forL_wp (g := []) (fun k : Nat => D.int (k : Int)) (fun done rest ρ M' => ∃ (cs : List Tm) (s' : BS) (v6 : Option D), ρ = ρC b own l last free (some (.ref (M.length + R.length))) v6 ∧ M' = mv M b d p s' ++ (R ++ [.lst (Tm.toDs cs)]) ∧ Tm.oks own last np cs ∧ (Tm.sizes cs : Int) + s'.c2 ≤ s.c2 ∧ 0 ≤ s'.c2 ∧ InR np s'.ps ∧ Tm.deps cs + l ≤ 3 ∧ cs.length ≤ done.length ∧ done.length + rest.length ≤ 3)
    (fun _ _ _ _ _ => rfl) ?_ (List.range (1 + v)) [] _ _ ⟨[], { s with a := s.a + 1 }, none, rfl, rfl, trivial, by simpa [Tm.sizes] using Int.le_refl _, hc2, hps, by simpa [Tm.deps] using hl, by simp, by simp; omega⟩ ?_
  · rintro done x rest ρ M' ⟨cs, s', v6, rfl, rfl, h1, h2, h3, h4, h5, h6, h7⟩
    refine ⟨_, rfl, ?_⟩
    dsimp only [ρC, List.set]
    rw [ok_ite]
    have cmp2 : truthR (evE ⟨P, evF P wl (f + 1), wl⟩ (.cmp .gt (.idx (.var 0) (.int (2))) (.int (0))) [some (.ref b), some (.int own), some (.int l), some (.int last), some (.bl free), some (.ref (M.length + R.length)), some (.int (x : Int))] (mv M b d p s' ++ (R ++ [.lst (Tm.toDs cs)]))) = some (decide (0 < s'.c2), mv M b d p s' ++ (R ++ [.lst (Tm.toDs cs)])) := by simp [evE, cmpD, truthR, truth, mv_b G, idxD, pyIx]
    rw [cmp2, ok_some]
    refine KI_b (fun h => ?_) fun h => ?_
    · obtain ⟨t, s'', i1, i2, i3, i4, i5, i6⟩ := ht s' (R ++ [.lst (Tm.toDs cs)]) free (by simpa using h) h4
      rw [ok_expr]
      have hlen : (Tm.toDs cs).length < LIM := by
        rw [Tm.toDs_map, List.length_map]
        simp at h7
        exact Nat.lt_of_lt_of_le (by omega : cs.length < 1000) (by decide)
      have hset : (mv M b d p s'' ++ (R ++ [MO.lst (Tm.toDs cs)])).set (M.length + R.length) (.lst (Tm.toDs cs ++ [t.toD])) = mv M b d p s'' ++ (R ++ [.lst (Tm.toDs (cs ++ [t]))]) := by
        rw [mv_setR (by omega), show M.length + R.length - M.length = R.length by omega, app_set, Tm.toDs_map, Tm.toDs_map, List.map_append]
        rfl
      have e2 : evE ⟨P, evF P wl (f + 1), wl⟩ (.bm .append (.var 5) (.cons (.call "_law_template" (.cons (.var 0) (.cons (.var 1) (.cons (.var 2) (.cons (.var 3) (.cons (.var 4) .nil)))))) .nil)) [some (.ref b), some (.int own), some (.int l), some (.int last), some (.bl free), some (.ref (M.length + R.length)), some (.int (x : Int))] (mv M b d p s' ++ (R ++ [.lst (Tm.toDs cs)])) =
          some (.non, mv M b d p s'' ++ (R ++ [.lst (Tm.toDs (cs ++ [t]))])) := by
        simp [evE, evEs, recvOk, g1, i6, bmD, hlen, hset]
      rw [e2, ok_some, KX_]
      refine ⟨cs ++ [t], s'', _, rfl, rfl, (Tm.oks_app _ _).mpr ⟨h1, i1, trivial⟩, ?_, i3, i4, ?_, by simp; omega, by simp at h7 ⊢; omega⟩
      · rw [Tm.sizes_app]
        simp only [Tm.sizes]
        omega
      · rw [Tm.deps_app]
        simp only [Tm.deps]
        omega
    · rw [ok_skip]
      exact ⟨cs, s', _, rfl, rfl, h1, h2, h3, h4, h5, by simp; omega, by simp at h7 ⊢; omega⟩
  · rintro ρ M' ⟨cs, s', v6, rfl, rfl, h1, h2, h3, h4, h5, h6, h7⟩
    rw [KS_nx, ok_ret, evE_tupleOf', evE_var' _ 5 _ _ (.ref (M.length + R.length)) rfl, bnd_some]
    have hi : itemsD (mv M b d p s' ++ (R ++ [MO.lst (Tm.toDs cs)])) (.ref (M.length + R.length)) = some (Tm.toDs cs, [(M.length + R.length, .lst (Tm.toDs cs))]) := by simp [itemsD, g1]
    rw [hi, Option.map_some, ok_some, KR_, KG_rt, mv_gc G s s' R [MO.lst (Tm.toDs cs)] (x := .tup (Tm.toDs cs)) (fun n => by simp [D.bel, Tm.belAs])]
    exact ⟨cs, s', h1, h2, h3, h4, h5, rfl, rfl⟩
theorem contents_run (hf : P.fdef (.fn "_law_contents") = some F.L_contents) (htm : P.fdef (.fn "_law_template") = some F.L_template) (hk : P.fdef (.fn "_law_key") = some F.L_key) (he : P.fdef (.fn "_law_expr") = some F.L_expr) (hw : P.fdef (.fn "_law_draw") = some F.L_draw) (G : Gb M b d p ds) (np own last : Nat) :
    ∀ (j m l : Nat), l + j = 3 → CSpec P wl (m + 7 + 2 * j) M b d p np own last l
  | 0, m, l, h => by
    refine contents_step hf hw G np own last l (m + 5) (by omega) ?_
    exact template_run htm hk he hw G np own last l (by omega) m (fun h2 => absurd h2 (by omega))
  | j + 1, m, l, h => by
    have ih := contents_run hf htm hk he hw G np own last j m (l + 1) (by omega)
    have e : m + 7 + 2 * (j + 1) = (m + 2 + 2 * j) + 5 + 2 := by omega
    rw [e]
    refine contents_step hf hw G np own last l (m + 2 + 2 * j + 5) (by omega) ?_
    refine template_run htm hk he hw G np own last l (by omega) (m + 2 + 2 * j) (fun _ => ?_)
    rw [show m + 2 + 2 * j + 5 = m + 7 + 2 * j by omega]
    exact ih
end
end Pw

end
section
set_option maxHeartbeats 4000000
/-! G6: actions are drawn. -/
namespace Pw
inductive Stp where
  | set (i : Nat) (e : Ex) | put (i : Nat) (e : Ex) | up (i : Nat)
def Stp.toD : Stp → D
  | .set i e => .tup [.str "set", .int i, e.toD]
  | .put i e => .tup [.str "put", .int i, e.toD]
  | .up i => .tup [.str "up", .int i]
def Stp.ok : Stp → Prop
  | .set i e => i < 2 ∧ e.dep ≤ 1
  | .put i e => i < 2 ∧ e.dep ≤ 1
  | .up i => i < 2
theorem Stp.belA (t : Stp) (n : Nat) : t.toD.bel n = true := by cases t <;> simp [Stp.toD, D.bel, D.bels, Ex.belA]
abbrev actD' (a : List Stp) : D := .tup (a.map Stp.toD)
abbrev actsD (a : List (List Stp)) : D := .tup (a.map actD')
theorem actsD_bel (a : List (List Stp)) (n : Nat) : (actsD a).bel n = true := by
  simp only [D.bel]
  exact bels_map _ _ _ fun x _ => by simp only [D.bel]; exact bels_map _ _ _ fun y _ => y.belA n
section
variable {P : Prog} {wl n : Nat} {M : Mem} {b d p : Nat} {ds : List Int}
def stepB : S := (.seq (.asg (.name 5) (.call "_law_draw" (.cons (.var 0) (.cons (.int (5)) .nil))))
  (.ite (.cmp .lt (.var 5) (.int (2)))
  (.expr (.bm .append (.var 3) (.cons (.tup (.cons (.str "set") (.cons (.call "_law_draw" (.cons (.var 0) (.cons (.int (2)) .nil))) (.cons (.call "_law_expr" (.cons (.var 0) (.cons (.int (1)) .nil))) .nil)))) .nil)))
  (.ite (.cmp .lt (.var 5) (.int (4)))
  (.expr (.bm .append (.var 3) (.cons (.tup (.cons (.str "put") (.cons (.call "_law_draw" (.cons (.var 0) (.cons (.int (2)) .nil))) (.cons (.call "_law_expr" (.cons (.var 0) (.cons (.int (1)) .nil))) .nil)))) .nil)))
  (.expr (.bm .append (.var 3) (.cons (.tup (.cons (.str "up") (.cons (.call "_law_draw" (.cons (.var 0) (.cons (.int (2)) .nil))) .nil))) .nil))))))
abbrev ρA (b a : Nat) (v2 v3 v4 v5 : Option D) : VEnv := [some (.ref b), some (.ref a), v2, v3, v4, v5]
theorem app_step (s : BS) (R : Mem) (xs : List D) (x : D) : (mv M b d p s ++ (R ++ [MO.lst xs])).set (M.length + R.length) (.lst (xs ++ [x])) = mv M b d p s ++ (R ++ [.lst (xs ++ [x])]) := by
  rw [mv_setR (by omega), show M.length + R.length - M.length = R.length by omega, app_set]
theorem step_run (he : P.fdef (.fn "_law_expr") = some F.L_expr) (hw : P.fdef (.fn "_law_draw") = some F.L_draw) (G : Gb M b d p ds) (m a : Nat) (s : BS) (R : Mem) (xs : List Stp) (hx : xs.length < 100) (v2 v4 v5 : Option D) :
    ∃ (t : Stp) (a2 : Nat) (v5' : Option D), t.ok ∧ evS ⟨P, evF P wl (m + 3), wl⟩ stepB (ρA b a v2 (some (.ref (M.length + R.length))) v4 v5) (mv M b d p s ++ (R ++ [.lst (xs.map Stp.toD)])) =
      some (.nx (ρA b a v2 (some (.ref (M.length + R.length))) v4 v5'), mv M b d p { s with a := a2 } ++ (R ++ [.lst ((xs ++ [t]).map Stp.toD)])) := by
  obtain ⟨v, hv, h1⟩ := dr1 (P := P) (wl := wl) (n := m + 2) hw G s (R ++ [.lst (xs.map Stp.toD)]) 5 (by decide)
  obtain ⟨i, hi, h2⟩ := dr1 (P := P) (wl := wl) (n := m + 2) hw G { s with a := s.a + 1 } (R ++ [.lst (xs.map Stp.toD)]) 2 (by decide)
  obtain ⟨e, a2, hd, h3⟩ := expr_run (P := P) (wl := wl) he hw G 1 (m + 1) { s with a := s.a + 1 + 1 } (R ++ [.lst (xs.map Stp.toD)]) (by omega)
  have hL : xs.length < LIM := Nat.lt_of_lt_of_le hx (by decide)
  have hs := fun (s : BS) (x : D) => app_step (M := M) (b := b) (d := d) (p := p) s R (xs.map Stp.toD) x
  simp at h1 h2 h3
  by_cases c1 : v < 2
  · have c1' : (v : Int) < 2 := by omega
    refine ⟨.set i e, a2, some (.int v), ⟨hi, hd⟩, ?_⟩
    simp [stepB, ρA, evS, evE, evEs, h1, h2, h3, bindPat, cmpD, truthR, truth, c1, c1', recvOk, g1, bmD, hL, hs, Stp.toD]
  · have c1' : ¬ (v : Int) < 2 := by omega
    by_cases c2 : v < 4
    · have c2' : (v : Int) < 4 := by omega
      refine ⟨.put i e, a2, some (.int v), ⟨hi, hd⟩, ?_⟩
      simp [stepB, ρA, evS, evE, evEs, h1, h2, h3, bindPat, cmpD, truthR, truth, c1, c1', c2, c2', recvOk, g1, bmD, hL, hs, Stp.toD]
    · have c2' : ¬ (v : Int) < 4 := by omega
      refine ⟨.up i, s.a + 1 + 1, some (.int v), hi, ?_⟩
      simp [stepB, ρA, evS, evE, evEs, h1, h2, h3, bindPat, cmpD, truthR, truth, c1, c1', c2, c2', recvOk, g1, bmD, hL, hs, Stp.toD]
theorem actions_run (hf : P.fdef (.fn "_law_actions") = some F.L_actions) (he : P.fdef (.fn "_law_expr") = some F.L_expr) (hw : P.fdef (.fn "_law_draw") = some F.L_draw) (G : Gb M b d p ds) (m : Nat) (s : BS) (R : Mem) :
    ∃ (as : List (List Stp)) (a2 : Nat), as.length = 2 ∧ (∀ r ∈ as, r.length ≤ 2 ∧ ∀ t ∈ r, t.ok) ∧ evF P wl (m + 4) (.fn "_law_actions") [.ref b] (mv M b d p s ++ R) = some (actsD as, mv M b d p { s with a := a2 } ++ R) := by
  suffices h : ok (evF P wl (m + 4) (.fn "_law_actions") [.ref b] (mv M b d p s ++ R)) fun x M' => ∃ (as : List (List Stp)) (a2 : Nat), as.length = 2 ∧ (∀ r ∈ as, r.length ≤ 2 ∧ ∀ t ∈ r, t.ok) ∧ x = actsD as ∧ M' = mv M b d p { s with a := a2 } ++ R by
    obtain ⟨x, M', e, as, a2, h1, h2, rfl, rfl⟩ := h
    exact ⟨as, a2, h1, h2, e⟩
  refine ok_call (n := m + 3) hf rfl ?_
  have e0 : (List.map some [D.ref b] ++ List.replicate (F.L_actions.slots - F.L_actions.params) none : VEnv) = [some (.ref b), none, none, none, none, none] := rfl
  rw [e0]
  unfold F.L_actions
  dsimp only
  rw [ok_seq, ok_asg]
  have e1 : evE ⟨P, evF P wl (m + 3), wl⟩ (.lst .nil) [some (.ref b), none, none, none, none, none] (mv M b d p s ++ R) = some (.ref (M.length + R.length), mv M b d p s ++ (R ++ [.lst []])) := by simp [evE, evEs, mv_len]
  rw [e1, ok_some, KA_, KS_nx, ok_seq, ok_forS]
  dsimp only [List.set]
  have ei : ∀ ρ N, evIt ⟨P, evF P wl (m + 3), wl⟩ (.range (.cons (.int (2)) .nil)) ρ N = some (((List.range 2).map fun k : Nat => D.int (k : Int), []), N) := fun ρ N => evIt_rng1 (d := .int ((2 : Nat) : Int)) (by simp [evE]) (rgN 2 (by decide))
  rw [ei, ok_some]
  unfold KF
  refine forL_wp (g := []) (fun k : Nat => D.int (k : Int)) (fun done rest ρ M' => ∃ (as : List (List Stp)) (a2 : Nat) (T : Mem) (v2 v3 v4 v5 : Option D), ρ = ρA b (M.length + R.length) v2 v3 v4 v5 ∧ M' = mv M b d p { s with a := a2 } ++ (R ++ MO.lst (as.map actD') :: T) ∧ as.length = done.length ∧ (∀ r ∈ as, r.length ≤ 2 ∧ ∀ t ∈ r, t.ok) ∧ done.length + rest.length = 2)
    (fun _ _ _ _ _ => rfl) ?_ (List.range 2) [] _ _ ⟨[], s.a, [], none, none, none, none, rfl, rfl, rfl, by simp, rfl⟩ ?_
  · rintro done x rest ρ M' ⟨as, a2, T, v2, v3, v4, v5, rfl, rfl, h1, h2, h3⟩
    refine ⟨_, rfl, ?_⟩
    dsimp only [ρA, List.set]
    rw [ok_seq, ok_asg]
    generalize hR1 : R ++ MO.lst (as.map actD') :: T = R1
    have e2 : evE ⟨P, evF P wl (m + 3), wl⟩ (.lst .nil) [some (.ref b), some (.ref (M.length + R.length)), some (.int (x : Int)), v3, v4, v5] (mv M b d p { s with a := a2 } ++ R1) = some (.ref (M.length + R1.length), mv M b d p { s with a := a2 } ++ (R1 ++ [.lst []])) := by simp [evE, evEs, mv_len]
    rw [e2, ok_some, KA_, KS_nx, ok_seq, ok_forS]
    dsimp only [List.set]
    obtain ⟨v, hv, hd⟩ := dr1 (P := P) (wl := wl) (n := m + 2) hw G { s with a := a2 } (R1 ++ [.lst []]) 2 (by decide)
    have ei2 : evIt ⟨P, evF P wl (m + 3), wl⟩ (.range (.cons (.bin .add (.int (1)) (.call "_law_draw" (.cons (.var 0) (.cons (.int (2)) .nil)))) .nil)) [some (.ref b), some (.ref (M.length + R.length)), some (.int (x : Int)), some (.ref (M.length + R1.length)), v4, v5] (mv M b d p { s with a := a2 } ++ (R1 ++ [.lst []])) =
        some (((List.range (1 + v)).map fun k : Nat => D.int (k : Int), []), mv M b d p { s with a := a2 + 1 } ++ (R1 ++ [.lst []])) := by
      refine evIt_rng1 (d := .int ((1 + v : Nat) : Int)) ?_ (rgN _ (by omega))
      simp at hd
      simp [evE, evEs, hd, binD]
    rw [ei2, ok_some]
    unfold KF
    refine forL_wp (g := []) (fun k : Nat => D.int (k : Int)) (fun done2 rest2 ρ M' => ∃ (r : List Stp) (a3 : Nat) (v4 v5 : Option D), ρ = ρA b (M.length + R.length) (some (.int (x : Int))) (some (.ref (M.length + R1.length))) v4 v5 ∧ M' = mv M b d p { s with a := a3 } ++ (R1 ++ [MO.lst (r.map Stp.toD)]) ∧ r.length = done2.length ∧ (∀ t ∈ r, t.ok) ∧ done2.length + rest2.length ≤ 2)
      (fun _ _ _ _ _ => rfl) ?_ (List.range (1 + v)) [] _ _ ⟨[], a2 + 1, v4, v5, rfl, rfl, rfl, by simp, by simp; omega⟩ ?_
    · rintro done2 y rest2 ρ M' ⟨r, a3, v4, v5, rfl, rfl, i1, i2, i3⟩
      refine ⟨_, rfl, ?_⟩
      dsimp only [ρA, List.set]
      obtain ⟨t, a4, v5', ht, hst⟩ := step_run (P := P) (wl := wl) he hw G m (M.length + R.length) { s with a := a3 } R1 r (by simp at i3; omega) (some (.int (x : Int))) (some (.int (y : Int))) v5
      refine ⟨_, _, hst, ?_⟩
      refine ⟨r ++ [t], a4, _, _, rfl, rfl, by simp [i1], ?_, by simp at i3 ⊢; omega⟩
      intro z hz
      rcases List.mem_append.mp hz with hz | hz
      · exact i2 z hz
      · rw [List.mem_singleton.mp hz]; exact ht
    · rintro ρ M' ⟨r, a3, v4, v5, rfl, rfl, i1, i2, i3⟩
      rw [KS_nx, ok_expr]
      have hi : itemsD (mv M b d p { s with a := a3 } ++ (R1 ++ [MO.lst (r.map Stp.toD)])) (.ref (M.length + R1.length)) = some (r.map Stp.toD, [(M.length + R1.length, .lst (r.map Stp.toD))]) := by simp [itemsD, g1]
      have et : evE ⟨P, evF P wl (m + 3), wl⟩ (.coll .tuple (.cons (.var 3) .nil)) (ρA b (M.length + R.length) (some (.int (x : Int))) (some (.ref (M.length + R1.length))) v4 v5) (mv M b d p { s with a := a3 } ++ (R1 ++ [MO.lst (r.map Stp.toD)])) = some (actD' r, mv M b d p { s with a := a3 } ++ (R1 ++ [MO.lst (r.map Stp.toD)])) := by
        rw [evE_tupleOf', evE_var' _ 3 _ _ (.ref (M.length + R1.length)) rfl, bnd_some, hi, Option.map_some]
      have hget : (mv M b d p { s with a := a3 } ++ (R1 ++ [MO.lst (r.map Stp.toD)]))[M.length + R.length]? = some (.lst (as.map actD')) := by
        rw [← hR1, List.append_assoc, List.cons_append]
        exact g1 _ _ _ _
      have hL : as.length < LIM := Nat.lt_of_lt_of_le (by simp at h3; omega : as.length < 100) (by decide)
      have hset : (mv M b d p { s with a := a3 } ++ (R1 ++ [MO.lst (r.map Stp.toD)])).set (M.length + R.length) (.lst (as.map actD' ++ [actD' r])) = mv M b d p { s with a := a3 } ++ (R ++ MO.lst ((as ++ [r]).map actD') :: (T ++ [MO.lst (r.map Stp.toD)])) := by
        rw [mv_setR (by omega), show M.length + R.length - M.length = R.length by omega, ← hR1, List.append_assoc, List.cons_append, app_set, List.map_append]
        rfl
      have e3 : evE ⟨P, evF P wl (m + 3), wl⟩ (.bm .append (.var 1) (.cons (.coll .tuple (.cons (.var 3) .nil)) .nil)) (ρA b (M.length + R.length) (some (.int (x : Int))) (some (.ref (M.length + R1.length))) v4 v5) (mv M b d p { s with a := a3 } ++ (R1 ++ [MO.lst (r.map Stp.toD)])) = some (.non, mv M b d p { s with a := a3 } ++ (R ++ MO.lst ((as ++ [r]).map actD') :: (T ++ [MO.lst (r.map Stp.toD)]))) := by
        rw [evE_bm', evE_var' _ 1 _ _ (.ref (M.length + R.length)) rfl, bnd_some, if_pos (by simp [recvOk, hget]), evEs_cons', et, bnd_some, evEs_nil', bnd_some, bnd_some]
        simp only [bmD, hget]
        rw [if_pos (by simpa using hL), hset]
      rw [e3, ok_some, KX_]
      refine ⟨as ++ [r], a3, _, _, _, _, _, rfl, rfl, by simp [h1], ?_, by simp at h3 ⊢; omega⟩
      intro z hz
      rcases List.mem_append.mp hz with hz | hz
      · exact h2 z hz
      · rw [List.mem_singleton.mp hz]; exact ⟨by simp at i1 i3; omega, i2⟩
  · rintro ρ M' ⟨as, a2, T, v2, v3, v4, v5, rfl, rfl, h1, h2, h3⟩
    rw [KS_nx, ok_ret]
    have hi : itemsD (mv M b d p { s with a := a2 } ++ (R ++ MO.lst (as.map actD') :: T)) (.ref (M.length + R.length)) = some (as.map actD', [(M.length + R.length, .lst (as.map actD'))]) := by simp [itemsD, g1]
    rw [evE_tupleOf', evE_var' _ 1 _ _ (.ref (M.length + R.length)) rfl, bnd_some, hi, Option.map_some, ok_some, KR_, KG_rt, mv_gc G s { s with a := a2 } R (MO.lst (as.map actD') :: T) (x := actsD as) (actsD_bel as)]
    exact ⟨as, a2, by simpa using h1, h2, rfl, rfl⟩
end
end Pw

end
section
set_option maxHeartbeats 4000000
/-! G7: a component is drawn. -/
namespace Pw
structure Cm where
  cells : List Nat
  cs : List Tm
  acts : List (List Stp)
def natsD (xs : List Nat) : List D := xs.map fun i : Nat => D.int (i : Int)
def Cm.toD (c : Cm) : D := .tup [.str "component", .tup (natsD c.cells), .tup (Tm.toDs c.cs), actsD c.acts]
structure Cm.ok (k last np : Nat) (c : Cm) : Prop where
  cl : c.cells.length ≤ 2
  cb : ∀ x ∈ c.cells, x < 4
  oks : Tm.oks k last np c.cs
  size : Tm.sizes c.cs ≤ 6 + np
  dep : Tm.deps c.cs ≤ 3
  al : c.acts.length = 2
  ab : ∀ r ∈ c.acts, r.length ≤ 2 ∧ ∀ t ∈ r, t.ok
theorem natsD_bel (n : Nat) (xs : List Nat) : D.bels n (natsD xs) = true := bels_map _ _ _ fun x _ => rfl
theorem Cm.belA (c : Cm) (n : Nat) : c.toD.bel n = true := by
  have := actsD_bel c.acts n
  simp only [D.bel] at this
  simp [Cm.toD, D.bel, D.bels, natsD_bel, Tm.belAs, this]
/-- the box stands in N as s tells -/
structure Bk (N : Mem) (b d p : Nat) (ds : List Int) (s : BS) : Prop where
  G : Gb N b d p ds
  eq : mv N b d p s = N
theorem Bk.of {N : Mem} {b d p : Nat} {ds : List Int} {s : BS} (hb : N[b]? = some (s.cell d p)) (hp : N[p]? = some (.lst (s.ps.map .int))) (hd : N[d]? = some (.lst (ds.map .int))) (h1 : b ≠ d) (h2 : b ≠ p) (h3 : d ≠ p) : Bk N b d p ds s := by
  have lb := (List.getElem?_eq_some_iff.mp hb).1
  have lp := (List.getElem?_eq_some_iff.mp hp).1
  refine ⟨⟨lb, lp, hd, h1, h2, h3⟩, ?_⟩
  unfold mv
  have e1 : N.set b (s.cell d p) = N := by
    rw [← (List.getElem?_eq_some_iff.mp hb).2, List.set_getElem_self]
  rw [e1, ← (List.getElem?_eq_some_iff.mp hp).2, List.set_getElem_self]
theorem Bk.b {N : Mem} {b d p : Nat} {ds : List Int} {s : BS} (B : Bk N b d p ds s) : N[b]? = some (s.cell d p) := by
  have := mv_gb B.G s b rfl []
  rw [B.eq] at this
  simpa using this
theorem Bk.p {N : Mem} {b d p : Nat} {ds : List Int} {s : BS} (B : Bk N b d p ds s) : N[p]? = some (.lst (s.ps.map .int)) := by
  have := mv_p B.G s []
  rw [B.eq] at this
  simpa using this
section
variable {P : Prog} {wl n : Nat} {M : Mem} {b d p : Nat} {ds : List Int}
/-- numbers drawn one after the other -/
theorem ints_turns {F : FT} {i : Nat} {Pv : Nat → Prop} {body : E} (ρ : VEnv) (s : BS) (R : Mem) (m : Nat)
    (hb : ∀ (s : BS), ∃ v : Nat, Pv v ∧ ∀ x : Nat, evE F body (ρ.set i (some (.int (x : Int)))) (mv M b d p s ++ R) = some (.int (v : Int), mv M b d p { s with a := s.a + 1 } ++ R)) :
    ∃ (vs : List Nat) (a2 : Nat), vs.length = m ∧ (∀ v ∈ vs, Pv v) ∧ turns [] (.name i) (fun ρ M => truthR (evE F (.bl true) ρ M)) (fun ρ M => evEs F (.cons body .nil) ρ M) ρ ((List.range m).map fun k : Nat => D.int (k : Int)) (mv M b d p s ++ R) =
      some (natsD vs, mv M b d p { s with a := a2 } ++ R) := by
  have key := turns_wp (g := []) (p := .name i) (c := fun ρ M => truthR (evE F (.bl true) ρ M)) (b := fun ρ M => evEs F (.cons body .nil) ρ M) (ρ := ρ)
    (fun k : Nat => D.int (k : Int)) (fun done rest acc M' => ∃ (vs : List Nat) (a2 : Nat), vs.length = done.length ∧ (∀ v ∈ vs, Pv v) ∧ acc = natsD vs ∧ M' = mv M b d p { s with a := a2 } ++ R) (fun _ _ _ _ _ => rfl) (by
      rintro done x rest acc M' ⟨vs, a2, h1, h2, rfl, rfl⟩
      obtain ⟨v, hv, h⟩ := hb { s with a := a2 }
      refine ⟨ρ.set i (some (.int (x : Int))), rfl, true, _, by simp [evE, truthR, truth]; rfl, ?_⟩
      dsimp only
      rw [if_pos rfl]
      refine ⟨[.int (v : Int)], _, ?_, vs ++ [v], a2 + 1, by simp [h1], ?_, by simp [natsD], rfl⟩
      · rw [evEs_cons', h x, bnd_some, evEs_nil', bnd_some]
      · intro y hy
        rcases List.mem_append.mp hy with hy | hy
        · exact h2 y hy
        · rw [List.mem_singleton.mp hy]; exact hv)
    (List.range m) [] [] (mv M b d p s ++ R) ⟨[], s.a, rfl, by simp, rfl, rfl⟩
  obtain ⟨zs, M', e, vs, a2, h1, h2, h3, rfl⟩ := key
  simp at h1 h3
  exact ⟨vs, a2, h1, h2, by rw [e, h3]⟩
abbrev drE (k : Int) : E := .call "_law_draw" (.cons (.var 0) (.cons (.int k) .nil))
theorem drE_ev (hw : P.fdef (.fn "_law_draw") = some F.L_draw) (G : Gb M b d p ds) (m k : Nat) (hk : 0 < k) (s : BS) (R : Mem) : ∃ v : Nat, v < k ∧ ∀ ρ : VEnv, ρ[0]? = some (some (.ref b)) → evE ⟨P, evF P wl (m + 1), wl⟩ (drE k) ρ (mv M b d p s ++ R) = some (.int v, mv M b d p { s with a := s.a + 1 } ++ R) := by
  obtain ⟨v, hv, h⟩ := dr1 (P := P) (wl := wl) (n := m) hw G s R k hk
  exact ⟨v, hv, fun ρ hρ => by simp [evE, evEs, hρ, h]⟩
/-- the list of up to c - 1 numbers under k -/
theorem intsL_ev (hw : P.fdef (.fn "_law_draw") = some F.L_draw) (G : Gb M b d p ds) (m c k i : Nat) (hc : 0 < c) (hc2 : c < 1000) (hk : 0 < k) (hi : i ≠ 0) (ρ : VEnv) (hρ : ρ[0]? = some (some (.ref b))) (s : BS) (R : Mem) :
    ∃ (vs : List Nat) (a2 : Nat), vs.length < c ∧ (∀ v ∈ vs, v < k) ∧ evE ⟨P, evF P wl (m + 1), wl⟩ (.lcomp (.for1 [i] (.name i) (.range (.cons (drE c) .nil)) (.bl true) (.cons (drE k) .nil))) ρ (mv M b d p s ++ R) =
      some (.ref (M.length + R.length), mv M b d p { s with a := a2 } ++ (R ++ [.lst (natsD vs)])) := by
  obtain ⟨u, hu, h⟩ := drE_ev (P := P) (wl := wl) hw G m c hc s R
  obtain ⟨vs, a2, h1, h2, h3⟩ := ints_turns (F := ⟨P, evF P wl (m + 1), wl⟩) (i := i) (Pv := fun v => v < k) (body := drE k) (wipeE ρ [i]) { s with a := s.a + 1 } R u (fun s => by
    obtain ⟨v, hv, h⟩ := drE_ev (P := P) (wl := wl) hw G m k hk s R
    refine ⟨v, hv, fun x => h _ ?_⟩
    rw [List.getElem?_set_ne hi]
    show (ρ.set i none)[0]? = _
    rw [List.getElem?_set_ne hi]
    exact hρ)
  refine ⟨vs, a2, by omega, h2, ?_⟩
  rw [evE_lcomp', evEs_for1', evIt_rng1 (h ρ hρ) (rgN u (by omega)), bnd_some]
  dsimp only at h3 ⊢
  rw [h3, bnd_some, if_pos (by unfold natsD; rw [List.length_map, h1]; exact Nat.le_trans (by omega : u ≤ 1000) (by decide))]
  simp [mv_len]
/-- tuple([..]) of them -/
theorem intsT_ev (hw : P.fdef (.fn "_law_draw") = some F.L_draw) (G : Gb M b d p ds) (m c k i : Nat) (hc : 0 < c) (hc2 : c < 1000) (hk : 0 < k) (hi : i ≠ 0) (ρ : VEnv) (hρ : ρ[0]? = some (some (.ref b))) (s : BS) (R : Mem) :
    ∃ (vs : List Nat) (a2 : Nat), vs.length < c ∧ (∀ v ∈ vs, v < k) ∧ evE ⟨P, evF P wl (m + 1), wl⟩ (.coll .tuple (.cons (.lcomp (.for1 [i] (.name i) (.range (.cons (drE c) .nil)) (.bl true) (.cons (drE k) .nil))) .nil)) ρ (mv M b d p s ++ R) =
      some (.tup (natsD vs), mv M b d p { s with a := a2 } ++ (R ++ [.lst (natsD vs)])) := by
  obtain ⟨vs, a2, h1, h2, h3⟩ := intsL_ev (P := P) (wl := wl) hw G m c k i hc hc2 hk hi ρ hρ s R
  refine ⟨vs, a2, h1, h2, ?_⟩
  rw [evE_tupleOf', h3, bnd_some]
  simp [itemsD, g1]
end
end Pw

end
section
set_option maxHeartbeats 4000000
/-! G8: a program is drawn: one turn. -/
namespace Pw
def progB1 : S := (.ite (.cmp .gt (.var 4) (.int (0)))
  (.setidx (.var 0) (.int (5)) (.lst .nil))
  .skip)
abbrev cellsE : E := (.coll .tuple (.cons (.lcomp (.for1 [8] (.name 8) (.range (.cons (drE 3) .nil)) (.bl true) (.cons (drE 4) .nil))) .nil))
abbrev contE : E := (.call "_law_contents" (.cons (.var 0) (.cons (.var 4) (.cons (.int (0)) (.cons (.bin .sub (.var 1) (.int (1))) (.cons (.bl true) .nil))))))
abbrev restE : E := (.coll .tuple (.cons (.lcomp (.for1 [8] (.name 8) (.cons (.idx (.var 0) (.int (5))) .nil) (.bl true) (.cons (.tup (.cons (.str "part") (.cons (.var 8) .nil))) .nil))) .nil))
abbrev compE : E := (.tup (.cons (.str "component") (.cons (.var 6) (.cons (.var 7) (.cons (.call "_law_actions" (.cons (.var 0) .nil)) .nil)))))
def progB : S := (.seq (.setidx (.var 0) (.int (2)) (.int (6)))
  (.seq (.setidx (.var 0) (.int (3)) (.int (2)))
  (.seq (.setidx (.var 0) (.int (4)) (.int (1)))
  (.seq (.setidx (.var 0) (.int (5)) (.coll .list (.range (.cons (.bi .len (.cons (.var 2) .nil)) .nil))))
  (.seq progB1
  (.seq (.asg (.name 6) cellsE)
  (.seq (.asg (.name 7) (.bin .add contE contE))
  (.seq (.asg (.name 7) (.bin .add (.var 7) restE))
  (.expr (.bm .append (.var 3) (.cons compE .nil)))))))))))
abbrev ρP (b many q c : Nat) (v4 v5 v6 v7 v8 : Option D) : VEnv := [some (.ref b), some (.int many), some (.ref q), some (.ref c), v4, v5, v6, v7, v8]
section
variable {P : Prog} {wl n : Nat} {M : Mem} {b d p : Nat} {ds : List Int}
theorem setb_get {N T : Mem} {b : Nat} {X : MO} (h : b < N.length) : (N.set b X ++ T)[b]? = some X := by
  rw [List.getElem?_append_left (by simpa using h)]
  exact List.getElem?_set_self h
theorem setb_set {N T : Mem} {b : Nat} {X Y : MO} (h : b < N.length) : (N.set b X ++ T).set b Y = N.set b Y ++ T := by
  rw [List.set_append_left _ _ (by simpa using h), List.set_set]
theorem setb_get0 {N : Mem} {b : Nat} {X : MO} (h : b < N.length) : (N.set b X)[b]? = some X := List.getElem?_set_self h
theorem setb_ne {N T : Mem} {b q : Nat} {X o : MO} (h : q ≠ b) (hq : N[q]? = some o) : (N.set b X ++ T)[q]? = some o := by
  rw [List.getElem?_append_left (by simpa using (List.getElem?_eq_some_iff.mp hq).1), List.getElem?_set_ne (Ne.symm h)]
  exact hq
theorem setb_len {N T : Mem} {b : Nat} {X : MO} (x : MO) (T' : Mem) : (N.set b X ++ (T ++ x :: T'))[N.length + T.length]? = some x := by
  rw [List.getElem?_append_right (by simp), List.length_set, show N.length + T.length - N.length = T.length by omega]
  exact app_get
/-- the counters are set, the parts are made -/
theorem progA_run {N : Mem} {q many c k np : Nat} {s : BS} {ps : List D} (B : Bk N b d p ds s) (hq : N[q]? = some (.lst ps)) (hnp : ps.length = np) (hnp2 : np < 1000) (hqb : q ≠ b) (F : FT) (v5 v6 v7 v8 : Option D) (Q : Out → Mem → Prop) (rest : S)
    (h : ∀ (N2 : Mem) (p2 : Nat) (s2 : BS), Bk N2 b d p2 ds s2 → s2.c2 = 6 → s2.c3 = 2 → s2.c4 = 1 → InR np s2.ps → N.length ≤ p2 → p2 < N2.length → (∀ i o, i ≠ b → N[i]? = some o → N2[i]? = some o) → ok (evS F rest (ρP b many q c (some (.int k)) v5 v6 v7 v8) N2) Q) :
    ok (evS F (.seq (.setidx (.var 0) (.int (2)) (.int (6)))
  (.seq (.setidx (.var 0) (.int (3)) (.int (2)))
  (.seq (.setidx (.var 0) (.int (4)) (.int (1)))
  (.seq (.setidx (.var 0) (.int (5)) (.coll .list (.range (.cons (.bi .len (.cons (.var 2) .nil)) .nil))))
  (.seq progB1 rest))))) (ρP b many q c (some (.int k)) v5 v6 v7 v8) N) Q := by
  have hb := B.b
  have lb := B.G.lb
  unfold BS.cell at hb
  rw [ok_seq]
  refine ok_evS (ρ' := ρP b many q c (some (.int k)) v5 v6 v7 v8) (M' := N.set b (.lst [.ref d, .int s.a, .int 6, .int s.c3, .int s.c4, .ref p])) (by simp [evS, evE, ρP, hb, setD, pyIx]) ?_
  rw [KS_nx, ok_seq]
  refine ok_evS (ρ' := ρP b many q c (some (.int k)) v5 v6 v7 v8) (M' := N.set b (.lst [.ref d, .int s.a, .int 6, .int 2, .int s.c4, .ref p])) (by simp [evS, evE, ρP, setb_get0 lb, setD, pyIx]) ?_
  rw [KS_nx, ok_seq]
  refine ok_evS (ρ' := ρP b many q c (some (.int k)) v5 v6 v7 v8) (M' := N.set b (.lst [.ref d, .int s.a, .int 6, .int 2, .int 1, .ref p])) (by simp [evS, evE, ρP, setb_get0 lb, setD, pyIx]) ?_
  rw [KS_nx, ok_seq]
  have hL : np ≤ LIM := Nat.le_trans (by omega : np ≤ 1000) (by decide)
  have hq1 : (N.set b (.lst [.ref d, .int s.a, .int 6, .int 2, .int 1, .ref p]))[q]? = some (.lst ps) := by rw [List.getElem?_set_ne (Ne.symm hqb)]; exact hq
  have hrg := rgN np (by omega)
  refine ok_evS (ρ' := ρP b many q c (some (.int k)) v5 v6 v7 v8) (M' := N.set b (.lst [.ref d, .int s.a, .int 6, .int 2, .int 1, .ref N.length]) ++ [.lst (natsD (List.range np))]) ?_ ?_
  · have e1 : evE F (.coll .list (.range (.cons (.bi .len (.cons (.var 2) .nil)) .nil))) (ρP b many q c (some (.int k)) v5 v6 v7 v8) (N.set b (.lst [.ref d, .int s.a, .int 6, .int 2, .int 1, .ref p])) = some (.ref N.length, N.set b (.lst [.ref d, .int s.a, .int 6, .int 2, .int 1, .ref p]) ++ [.lst (natsD (List.range np))]) := by
      have e2 : evIt F (.range (.cons (.bi .len (.cons (.var 2) .nil)) .nil)) (ρP b many q c (some (.int k)) v5 v6 v7 v8) (N.set b (.lst [.ref d, .int s.a, .int 6, .int 2, .int 1, .ref p])) = some (((List.range np).map fun k : Nat => D.int (k : Int), []), N.set b (.lst [.ref d, .int s.a, .int 6, .int 2, .int 1, .ref p])) :=
        evIt_rng1 (d := .int (np : Int)) (by simp [evE, evEs, ρP, biD, lenD, hq1, hnp]) hrg
      have e3 : ∀ it ρ (M : Mem), evE F (.coll .list it) ρ M = bnd (evIt F it ρ M) fun xs M => collD M .list xs.1 := fun it ρ M => by simp only [evE]
      rw [e3, e2, bnd_some]
      simp [collD, hL, natsD]
    have e4 : ∀ o i e ρ (M : Mem), evS F (.setidx o i e) ρ M = bnd (evE F e ρ M) fun v M => bnd (evE F o ρ M) fun x M => bnd (evE F i ρ M) fun k M => (setD M x k v).map fun M => (.nx ρ, M) := fun o i e ρ M => by simp only [evS]
    rw [e4, e1, bnd_some]
    simp [evE, ρP, setD, setb_get lb, pyIx, setb_set lb]
  rw [KS_nx, ok_seq]
  unfold progB1
  rw [ok_ite]
  have t1 : ∀ N, truthR (evE F (.cmp .gt (.var 4) (.int (0))) (ρP b many q c (some (.int k)) v5 v6 v7 v8) N) = some (decide (0 < (k : Int)), N) := fun N => by simp [evE, ρP, cmpD, truthR, truth]
  rw [t1, ok_some]
  have hdl := (List.getElem?_eq_some_iff.mp B.G.hd).1
  have keep : ∀ (X : MO) (T : Mem) (i : Nat) (o : MO), i ≠ b → N[i]? = some o → (N.set b X ++ T)[i]? = some o := fun X T i o h1 h2 => setb_ne h1 h2
  refine KI_b (fun _ => ?_) fun _ => ?_
  · refine ok_evS (ρ' := ρP b many q c (some (.int k)) v5 v6 v7 v8) (M' := N.set b (.lst [.ref d, .int s.a, .int 6, .int 2, .int 1, .ref (N.length + 1)]) ++ [.lst (natsD (List.range np)), .lst []]) ?_ ?_
    · have l1 : ((N.set b (.lst [.ref d, .int s.a, .int 6, .int 2, .int 1, .ref N.length]) ++ [MO.lst (natsD (List.range np))]) : Mem).length = N.length + 1 := by simp
      have a1 : ∀ X : MO, (N.set b X ++ [MO.lst (natsD (List.range np)), MO.lst []])[b]? = some X := fun X => setb_get lb
      simp [evS, evE, evEs, ρP, setD, a1, pyIx, setb_set lb]
    rw [KS_nx]
    refine h _ (N.length + 1) ⟨s.a, 6, 2, 1, []⟩ (Bk.of (setb_get lb) ?_ (keep _ _ _ _ (Ne.symm B.G.bd) B.G.hd) B.G.bd (by omega) (by omega)) rfl rfl rfl ⟨(fun i hi => by cases hi), Nat.zero_le _⟩ (by omega) (by simp) (keep _ _)
    exact setb_len (T := [.lst (natsD (List.range np))]) _ []
  · rw [ok_skip, KS_nx]
    refine h _ N.length ⟨s.a, 6, 2, 1, (List.range np).map fun i : Nat => (i : Int)⟩ (Bk.of (setb_get lb) ?_ (keep _ _ _ _ (Ne.symm B.G.bd) B.G.hd) B.G.bd (by omega) (by omega)) rfl rfl rfl ⟨?_, by simp⟩ (Nat.le_refl _) (by simp) (keep _ _)
    · rw [List.getElem?_append_right (by simp)]
      simp [natsD, Function.comp_def]
    · intro i hi
      simp at hi
      obtain ⟨j, hj, rfl⟩ := hi
      omega
end
end Pw

end
section
set_option maxHeartbeats 4000000
/-! G9: a component is drawn and put behind the others. -/
namespace Pw
structure GenF (P : Prog) : Prop where
  draw : P.fdef (.fn "_law_draw") = some F.L_draw
  expr : P.fdef (.fn "_law_expr") = some F.L_expr
  key : P.fdef (.fn "_law_key") = some F.L_key
  tmpl : P.fdef (.fn "_law_template") = some F.L_template
  cont : P.fdef (.fn "_law_contents") = some F.L_contents
  acts : P.fdef (.fn "_law_actions") = some F.L_actions
def progC : S := (.seq (.asg (.name 6) cellsE)
  (.seq (.asg (.name 7) (.bin .add contE contE))
  (.seq (.asg (.name 7) (.bin .add (.var 7) restE))
  (.expr (.bm .append (.var 3) (.cons compE .nil))))))
section
variable {P : Prog} {wl n : Nat} {M : Mem} {b d p : Nat} {ds : List Int}
theorem oks_parts {own last np : Nat} : ∀ (ps : List Int), (∀ i ∈ ps, 0 ≤ i ∧ i < np) → Tm.oks own last np (ps.map Tm.part)
  | [], _ => trivial
  | i :: ps, h => ⟨h i List.mem_cons_self, oks_parts ps fun j hj => h j (List.mem_cons_of_mem _ hj)⟩
theorem sizes_parts : ∀ (ps : List Int), Tm.sizes (ps.map Tm.part) = ps.length
  | [] => rfl
  | i :: ps => by simp only [List.map_cons, Tm.sizes, Tm.size, sizes_parts ps, List.length_cons]; omega
theorem deps_parts : ∀ (ps : List Int), Tm.deps (ps.map Tm.part) = 0
  | [] => rfl
  | i :: ps => by simp only [List.map_cons, Tm.deps, Tm.dep, deps_parts ps]; rfl
theorem progC_run (g : GenF P) {N : Mem} {s : BS} (B : Bk N b d p ds s) (m many c k np : Nat) (q : Nat) (h6 : s.c2 = 6) (hps : InR np s.ps) (hnp : np < 100) (hmany : 0 < many) (cms : List Cm) (hcm : N[c]? = some (.lst (cms.map Cm.toD))) (hcl : cms.length < 100) (hcb : c ≠ b) (hcp : c ≠ p) (hcd : c ≠ d) (v5 v6 v7 v8 : Option D) :
    ok (evS ⟨P, evF P wl (m + 13), wl⟩ progC (ρP b many q c (some (.int k)) v5 v6 v7 v8) N) fun o N' => ∃ (cm : Cm) (s' : BS) (v6 v7 : Option D), o = .nx (ρP b many q c (some (.int k)) v5 v6 v7 v8) ∧ cm.ok k (many - 1) np ∧ Bk N' b d p ds s' ∧ N'[c]? = some (.lst ((cms ++ [cm]).map Cm.toD)) ∧ N.length ≤ N'.length ∧
      ∀ i o, i ≠ b → i ≠ p → i ≠ c → N[i]? = some o → N'[i]? = some o := by
  have G := B.G
  have hcl2 := (List.getElem?_eq_some_iff.mp hcm).1
  obtain ⟨cl, a1, hc1, hc2, e1⟩ := intsT_ev (P := P) (wl := wl) g.draw G (m + 12) 3 4 8 (by decide) (by decide) (by decide) (by decide) (ρP b many q c (some (.int k)) v5 v6 v7 v8) rfl s []
  have hM : mv N b d p s ++ [] = N := by rw [List.append_nil]; exact B.eq
  rw [hM] at e1
  have e1' : evE ⟨P, evF P wl (m + 13), wl⟩ cellsE (ρP b many q c (some (.int k)) v5 v6 v7 v8) N = some (.tup (natsD cl), mv N b d p { s with a := a1 } ++ [.lst (natsD cl)]) := e1
  obtain ⟨cs1, s1, i1, i2, i3, i4, i5, i6⟩ := contents_run (P := P) (wl := wl) g.cont g.tmpl g.key g.expr g.draw G np k (many - 1) 3 m 0 rfl { s with a := a1 } [.lst (natsD cl)] true (by show 0 ≤ s.c2; omega) hps
  obtain ⟨cs2, s2, j1, j2, j3, j4, j5, j6⟩ := contents_run (P := P) (wl := wl) g.cont g.tmpl g.key g.expr g.draw G np k (many - 1) 3 m 0 rfl s1 [.lst (natsD cl)] true i3 i4
  have i2' : (Tm.sizes cs1 : Int) + s1.c2 ≤ s.c2 := i2
  have hman : (many : Int) - 1 = ((many - 1 : Nat) : Int) := by omega
  have ec : ∀ ρ : VEnv, ρ[0]? = some (some (.ref b)) → ρ[1]? = some (some (.int many)) → ρ[4]? = some (some (.int k)) → evE ⟨P, evF P wl (m + 13), wl⟩ (.bin .add contE contE) ρ (mv N b d p { s with a := a1 } ++ [.lst (natsD cl)]) = some (.tup (Tm.toDs (cs1 ++ cs2)), mv N b d p s2 ++ [.lst (natsD cl)]) := by
    intro ρ r0 r1 r4
    have hl : (Tm.toDs cs1).length + (Tm.toDs cs2).length ≤ LIM := by
      have l1 := Tm.len_sizes cs1
      have l2 := Tm.len_sizes cs2
      rw [Tm.toDs_map, Tm.toDs_map, List.length_map, List.length_map]
      exact Nat.le_trans (by omega : cs1.length + cs2.length ≤ 1000) (by decide)
    have e : Tm.toDs (cs1 ++ cs2) = Tm.toDs cs1 ++ Tm.toDs cs2 := by rw [Tm.toDs_map, Tm.toDs_map, Tm.toDs_map, List.map_append]
    rw [← hman] at i6 j6
    simp at i6 j6
    simp [evE, evEs, r0, r1, r4, binD, i6, j6, hl, e]
  have htot : Tm.sizes cs1 + Tm.sizes cs2 ≤ 6 := by omega
  have hgp : (mv N b d p s2 ++ [MO.lst (natsD cl)])[p]? = some (.lst (s2.ps.map .int)) := mv_p G s2 _
  have hgb := mv_b G s2 [MO.lst (natsD cl)]
  have tr := turns_map (g := [(p, .lst (s2.ps.map .int))]) (p := .name 8) (c := fun ρ M => truthR (evE ⟨P, evF P wl (m + 13), wl⟩ (.bl true) ρ M)) (b := fun ρ M => evEs ⟨P, evF P wl (m + 13), wl⟩ (.cons (.tup (.cons (.str "part") (.cons (.var 8) .nil))) .nil) ρ M)
    (ρ := wipeE (ρP b many q c (some (.int k)) v5 (some (.tup (natsD cl))) (some (.tup (Tm.toDs (cs1 ++ cs2)))) v8) [8]) (M := mv N b d p s2 ++ [MO.lst (natsD cl)]) (fun i : Int => D.int i) (fun _ => true) (fun i => (Tm.part i).toD) (still_one' hgp) s2.ps (by
      intro x hx
      exact ⟨_, rfl, by simp [evE, truthR, truth], fun _ => by simp [evE, evEs, ρP, wipeE, Tm.toD]⟩)
  have hff : s2.ps.filter (fun _ => true) = s2.ps := by simp
  rw [hff] at tr
  have hpn : s2.ps.length ≤ np := j4.2
  have hmp : s2.ps.map (fun i => (Tm.part i).toD) = Tm.toDs (s2.ps.map Tm.part) := by rw [Tm.toDs_map, List.map_map]; rfl
  rw [hmp] at tr
  have er : evE ⟨P, evF P wl (m + 13), wl⟩ restE (ρP b many q c (some (.int k)) v5 (some (.tup (natsD cl))) (some (.tup (Tm.toDs (cs1 ++ cs2)))) v8) (mv N b d p s2 ++ [.lst (natsD cl)]) = some (.tup (Tm.toDs (s2.ps.map Tm.part)), mv N b d p s2 ++ [.lst (natsD cl), .lst (Tm.toDs (s2.ps.map Tm.part))]) := by
    rw [evE_tupleOf', evE_lcomp', evEs_for1']
    rw [evIt_seq (d := .ref p) (it := (s2.ps.map D.int, [(p, .lst (s2.ps.map .int))])) (by simp [evE, ρP, hgb, idxD, pyIx]; rfl) (by simp [itemsD, hgp]), bnd_some]
    dsimp only at tr ⊢
    rw [tr, bnd_some, if_pos (by rw [Tm.toDs_map, List.length_map, List.length_map]; exact Nat.le_trans (by omega : s2.ps.length ≤ 1000) (by decide)), bnd_some]
    have hg : (mv N b d p s2 ++ [MO.lst (natsD cl), MO.lst (Tm.toDs (s2.ps.map Tm.part))])[N.length + 1]? = some (.lst (Tm.toDs (s2.ps.map Tm.part))) := by
      have := g2 (M := N) (b := b) (d := d) (p := p) s2 [] (.lst (natsD cl)) (.lst (Tm.toDs (s2.ps.map Tm.part))) []
      simpa using this
    simp [itemsD, mv_len, hg]
  generalize hcs : cs1 ++ cs2 ++ s2.ps.map Tm.part = cs
  have hcsD : Tm.toDs (cs1 ++ cs2) ++ Tm.toDs (s2.ps.map Tm.part) = Tm.toDs cs := by rw [← hcs]; simp only [Tm.toDs_map, List.map_append]
  have hsz : Tm.sizes cs ≤ 6 + np := by rw [← hcs, Tm.sizes_app, Tm.sizes_app, sizes_parts]; omega
  have hlc : (Tm.toDs (cs1 ++ cs2)).length + (Tm.toDs (s2.ps.map Tm.part)).length ≤ LIM := by
    have l0 := Tm.len_sizes cs
    rw [← List.length_append, hcsD, Tm.toDs_map, List.length_map]
    exact Nat.le_trans (by omega : cs.length ≤ 1000) (by decide)
  obtain ⟨as, a2, k1, k2, k3⟩ := actions_run (P := P) (wl := wl) g.acts g.expr g.draw G (m + 9) s2 [.lst (natsD cl), .lst (Tm.toDs (s2.ps.map Tm.part))]
  have hfin : (mv N b d p { s2 with a := a2 } ++ [MO.lst (natsD cl), MO.lst (Tm.toDs (s2.ps.map Tm.part))])[c]? = some (.lst (cms.map Cm.toD)) := by rw [mv_other hcb hcp hcl2]; exact hcm
  have hfin2 : (mv N b d p s2 ++ [MO.lst (natsD cl), MO.lst (Tm.toDs (s2.ps.map Tm.part))])[c]? = some (.lst (cms.map Cm.toD)) := by rw [mv_other hcb hcp hcl2]; exact hcm
  unfold progC
  rw [ok_seq, ok_asg, e1', ok_some, KA_, KS_nx, ok_seq, ok_asg]
  dsimp only [ρP, List.set]
  rw [ec _ rfl rfl rfl, ok_some, KA_, KS_nx, ok_seq, ok_asg]
  dsimp only [ρP, List.set] at er ⊢
  have e5 : evE ⟨P, evF P wl (m + 13), wl⟩ (.bin .add (.var 7) restE) [some (.ref b), some (.int many), some (.ref q), some (.ref c), some (.int k), v5, some (.tup (natsD cl)), some (.tup (Tm.toDs (cs1 ++ cs2))), v8] (mv N b d p s2 ++ [.lst (natsD cl)]) =
      some (.tup (Tm.toDs cs), mv N b d p s2 ++ [.lst (natsD cl), .lst (Tm.toDs (s2.ps.map Tm.part))]) := by
    have eb : ∀ op a b ρ (M : Mem), evE ⟨P, evF P wl (m + 13), wl⟩ (.bin op a b) ρ M = bnd (evE ⟨P, evF P wl (m + 13), wl⟩ a ρ M) fun x M => bnd (evE ⟨P, evF P wl (m + 13), wl⟩ b ρ M) fun y M => binD M op x y := fun op a b ρ M => by simp only [evE]
    rw [eb, evE_var' _ 7 _ _ (.tup (Tm.toDs (cs1 ++ cs2))) rfl, bnd_some, er, bnd_some]
    simp only [binD]
    rw [if_pos hlc, hcsD]
  rw [e5, ok_some, KA_, KS_nx, ok_expr]
  dsimp only [List.set]
  have hL : cms.length < LIM := Nat.lt_of_lt_of_le hcl (by decide)
  have e6 : evE ⟨P, evF P wl (m + 13), wl⟩ (.bm .append (.var 3) (.cons compE .nil)) [some (.ref b), some (.int many), some (.ref q), some (.ref c), some (.int k), v5, some (.tup (natsD cl)), some (.tup (Tm.toDs cs)), v8] (mv N b d p s2 ++ [.lst (natsD cl), .lst (Tm.toDs (s2.ps.map Tm.part))]) =
      some (.non, (mv N b d p { s2 with a := a2 } ++ [MO.lst (natsD cl), MO.lst (Tm.toDs (s2.ps.map Tm.part))]).set c (.lst ((cms ++ [(⟨cl, cs, as⟩ : Cm)]).map Cm.toD))) := by
    have e : (cms ++ [(⟨cl, cs, as⟩ : Cm)]).map Cm.toD = cms.map Cm.toD ++ [.tup [.str "component", .tup (natsD cl), .tup (Tm.toDs cs), actsD as]] := by simp [Cm.toD]
    rw [e]
    have k3' : evF P wl (m + 13) (.fn "_law_actions") [.ref b] (mv N b d p s2 ++ [.lst (natsD cl), .lst (Tm.toDs (s2.ps.map Tm.part))]) = _ := k3
    simp only [actsD] at k3' ⊢
    simp [evE, evEs, recvOk, hfin2, k3', bmD, hfin, hL]
  rw [e6, ok_some, KX_]
  refine ⟨⟨cl, cs, as⟩, { s2 with a := a2 }, _, _, rfl, ⟨Nat.le_of_lt_succ hc1, hc2, ?_, hsz, ?_, k1, k2⟩, ?_, List.getElem?_set_self (by rw [List.length_append, mv_len]; omega), (by rw [List.length_set, List.length_append, mv_len]; omega), ?_⟩
  · rw [← hcs]
    exact (Tm.oks_app _ _).mpr ⟨(Tm.oks_app _ _).mpr ⟨i1, j1⟩, oks_parts _ j4.1⟩
  · show Tm.deps cs ≤ 3
    rw [← hcs, Tm.deps_app, Tm.deps_app, deps_parts]
    omega
  · have keep : ∀ {i : Nat} {o : MO}, i ≠ c → (mv N b d p { s2 with a := a2 } ++ [MO.lst (natsD cl), MO.lst (Tm.toDs (s2.ps.map Tm.part))])[i]? = some o → ((mv N b d p { s2 with a := a2 } ++ [MO.lst (natsD cl), MO.lst (Tm.toDs (s2.ps.map Tm.part))]).set c (.lst ((cms ++ [(⟨cl, cs, as⟩ : Cm)]).map Cm.toD)))[i]? = some o := fun h1 h2 => by rw [List.getElem?_set_ne (Ne.symm h1)]; exact h2
    exact Bk.of (keep (Ne.symm hcb) (mv_gb G _ _ rfl _)) (keep (Ne.symm hcp) (mv_p G _ _)) (keep (Ne.symm hcd) (mv_d G _ _)) G.bd G.bp G.dp
  · intro i o h1 h2 h3 h4
    rw [List.getElem?_set_ne (Ne.symm h3), mv_other h1 h2 (List.getElem?_eq_some_iff.mp h4).1]
    exact h4
end
end Pw

end
section
set_option maxHeartbeats 4000000
/-! G10: a program is drawn. -/
namespace Pw
structure Pg where
  comps : List Cm
  store : List Nat
  parts : List Nat
def Pg.toD (g : Pg) : D := .tup [.str "program", .tup (g.comps.map Cm.toD), .tup (natsD g.store), .tup (natsD g.parts)]
structure Pg.ok (g : Pg) : Prop where
  lo : 1 ≤ g.comps.length
  hi : g.comps.length ≤ 3
  c : ∀ (i : Nat) (cm : Cm), g.comps[i]? = some cm → cm.ok i (g.comps.length - 1) g.parts.length
  sl : g.store.length ≤ 2
  sb : ∀ x ∈ g.store, x < 4
  pl : g.parts.length ≤ 2
  pb : ∀ x ∈ g.parts, 1 ≤ x ∧ x < 3
  p3 : g.parts ≠ [] → g.comps.length = 3
theorem Pg.belA (g : Pg) (n : Nat) : g.toD.bel n = true := by
  simp [Pg.toD, D.bel, D.bels, natsD_bel, bels_map _ _ _ fun c _ => Cm.belA c n]
theorem oldOk_no (m : Nat) : ∀ {A B : Mem} {i : Nat} {o x : MO}, A[i]? = some o → B[i]? = some x → o ≠ x → x.bel m = false → oldOk m A B = false
  | [], _, _, _, _, h, _, _, _ => by simp at h
  | a :: A, [], _, _, _, _, h, _, _ => by simp at h
  | a :: A, b :: B, 0, o, x, h1, h2, h3, h4 => by
    simp at h1 h2
    subst h1 h2
    simp [oldOk, h3, h4]
  | a :: A, b :: B, i + 1, o, x, h1, h2, h3, h4 => by
    simp at h1 h2
    simp [oldOk, oldOk_no m h1 h2 h3 h4]
section
variable {P : Prog} {wl n : Nat} {M : Mem} {b d p : Nat} {ds : List Int}
theorem program_body : F.L_program.body = (.seq (.asg (.name 1) (.bin .add (.int (1)) (drE 3)))
  (.seq (.asg (.name 2) (.lcomp (.for1 [4] (.name 4) (.range (.cons (drE 3) .nil)) (.bl true) (.cons (.bin .add (.int (1)) (drE 2)) .nil))))
  (.seq (.ite (.cmp .gt (.bi .len (.cons (.var 2) .nil)) (.int (0)))
  (.asg (.name 1) (.bi .max2 (.cons (.var 1) (.cons (.int (3)) .nil))))
  .skip)
  (.seq (.asg (.name 3) (.lst .nil))
  (.seq (.for (.name 4) (.range (.cons (.var 1) .nil)) (.seq (.setidx (.var 0) (.int (2)) (.int (6)))
  (.seq (.setidx (.var 0) (.int (3)) (.int (2)))
  (.seq (.setidx (.var 0) (.int (4)) (.int (1)))
  (.seq (.setidx (.var 0) (.int (5)) (.coll .list (.range (.cons (.bi .len (.cons (.var 2) .nil)) .nil))))
  (.seq progB1 progC))))))
  (.seq (.asg (.name 5) (.coll .tuple (.cons (.lcomp (.for1 [4] (.name 4) (.range (.cons (drE 3) .nil)) (.bl true) (.cons (drE 4) .nil))) .nil)))
  (.ret (.tup (.cons (.str "program") (.cons (.coll .tuple (.cons (.var 3) .nil)) (.cons (.var 5) (.cons (.coll .tuple (.cons (.var 2) .nil)) .nil))))))))))))  := rfl
theorem program_run (hf : P.fdef (.fn "_law_program") = some F.L_program) (g : GenF P) {s : BS} (B : Bk M b d p ds s) (m : Nat) :
    ∃ (pg : Pg) (N : Mem) (p' : Nat) (s' : BS), pg.ok ∧ Bk N b d p' ds s' ∧ M.length ≤ N.length ∧ (∀ i o, i ≠ b → i ≠ p → M[i]? = some o → N[i]? = some o) ∧ evF P wl (m + 14) (.fn "_law_program") [.ref b] M = some (pg.toD, N) := by
  suffices h : ok (evF P wl (m + 14) (.fn "_law_program") [.ref b] M) fun x N => ∃ (pg : Pg) (p' : Nat) (s' : BS), pg.ok ∧ Bk N b d p' ds s' ∧ M.length ≤ N.length ∧ (∀ i o, i ≠ b → i ≠ p → M[i]? = some o → N[i]? = some o) ∧ x = pg.toD by
    obtain ⟨x, N, e, pg, p', s', h1, h2, h3, h4, rfl⟩ := h
    exact ⟨pg, N, p', s', h1, h2, h3, h4, e⟩
  refine ok_call (n := m + 13) hf rfl ?_
  have e0 : (List.map some [D.ref b] ++ List.replicate (F.L_program.slots - F.L_program.params) none : VEnv) = [some (.ref b), none, none, none, none, none, none, none, none] := rfl
  rw [e0, program_body]
  have G := B.G
  have hM : mv M b d p s ++ [] = M := by rw [List.append_nil]; exact B.eq
  rw [ok_seq, ok_asg]
  obtain ⟨v, hv, h1⟩ := drE_ev (P := P) (wl := wl) g.draw G (m + 12) 3 (by decide) s []
  rw [hM] at h1
  have eb : ∀ op a b ρ (M : Mem), evE ⟨P, evF P wl (m + 13), wl⟩ (.bin op a b) ρ M = bnd (evE ⟨P, evF P wl (m + 13), wl⟩ a ρ M) fun x M => bnd (evE ⟨P, evF P wl (m + 13), wl⟩ b ρ M) fun y M => binD M op x y := fun op a b ρ M => by simp only [evE]
  have ei : ∀ (i : Int) ρ (M : Mem), evE ⟨P, evF P wl (m + 13), wl⟩ (.int i) ρ M = some (.int i, M) := fun i ρ M => by simp only [evE]
  have e1 : ∀ ρ : VEnv, ρ[0]? = some (some (.ref b)) → evE ⟨P, evF P wl (m + 13), wl⟩ (.bin .add (.int (1)) (drE 3)) ρ M = some (.int ((1 + v : Nat) : Int), mv M b d p { s with a := s.a + 1 } ++ []) := by
    intro ρ hρ
    have := h1 ρ hρ
    rw [eb, ei, bnd_some, show drE 3 = drE ((3 : Nat) : Int) from rfl, this, bnd_some]
    simp [binD]
  rw [e1 _ rfl, ok_some, KA_, KS_nx, ok_seq, ok_asg]
  dsimp only [List.set]
  -- the parts
  obtain ⟨u, hu, h2⟩ := drE_ev (P := P) (wl := wl) g.draw G (m + 12) 3 (by decide) { s with a := s.a + 1 } []
  obtain ⟨parts, a2, hp1, hp2, htr⟩ := ints_turns (F := ⟨P, evF P wl (m + 13), wl⟩) (M := M) (b := b) (d := d) (p := p) (i := 4) (Pv := fun v => 1 ≤ v ∧ v < 3) (body := .bin .add (.int (1)) (drE 2)) [some (.ref b), some (.int ((1 + v : Nat) : Int)), none, none, none, none, none, none, none] { s with a := s.a + 1 + 1 } [] u (fun s => by
    obtain ⟨w, hw, h⟩ := drE_ev (P := P) (wl := wl) g.draw G (m + 12) 2 (by decide) s []
    refine ⟨1 + w, ⟨by omega, by omega⟩, fun x => ?_⟩
    rw [eb, ei, bnd_some, show drE 2 = drE ((2 : Nat) : Int) from rfl, h _ rfl, bnd_some]
    simp [binD])
  have e2 : evE ⟨P, evF P wl (m + 13), wl⟩ (.lcomp (.for1 [4] (.name 4) (.range (.cons (drE 3) .nil)) (.bl true) (.cons (.bin .add (.int (1)) (drE 2)) .nil))) [some (.ref b), some (.int ((1 + v : Nat) : Int)), none, none, none, none, none, none, none] (mv M b d p { s with a := s.a + 1 } ++ []) =
      some (.ref M.length, mv M b d p { s with a := a2 } ++ [.lst (natsD parts)]) := by
    have h2' : ∀ ρ : VEnv, ρ[0]? = some (some (.ref b)) → evE ⟨P, evF P wl (m + 13), wl⟩ (drE 3) ρ (mv M b d p { s with a := s.a + 1 } ++ []) = some (.int (u : Int), mv M b d p { s with a := s.a + 1 + 1 } ++ []) := h2
    rw [evE_lcomp', evEs_for1', evIt_rng1 (h2' _ rfl) (rgN u (by omega)), bnd_some]
    have hw : wipeE ([some (.ref b), some (.int ((1 + v : Nat) : Int)), none, none, none, none, none, none, none] : VEnv) [4] = [some (.ref b), some (.int ((1 + v : Nat) : Int)), none, none, none, none, none, none, none] := rfl
    rw [hw]
    dsimp only at htr ⊢
    rw [htr, bnd_some, if_pos (by unfold natsD; rw [List.length_map, hp1]; exact Nat.le_trans (by omega : u ≤ 1000) (by decide))]
    simp [mv_len]
  rw [e2, ok_some, KA_, KS_nx, ok_seq, ok_ite]
  dsimp only [List.set]
  have hq0 : (mv M b d p { s with a := a2 } ++ [MO.lst (natsD parts)])[M.length]? = some (.lst (natsD parts)) := g0 _ _ _
  have hpl : (natsD parts).length = parts.length := by simp [natsD]
  have t1 : truthR (evE ⟨P, evF P wl (m + 13), wl⟩ (.cmp .gt (.bi .len (.cons (.var 2) .nil)) (.int (0))) [some (.ref b), some (.int ((1 + v : Nat) : Int)), some (.ref M.length), none, none, none, none, none, none] (mv M b d p { s with a := a2 } ++ [.lst (natsD parts)])) = some (decide (0 < (parts.length : Int)), mv M b d p { s with a := a2 } ++ [.lst (natsD parts)]) := by
    simp [evE, evEs, biD, lenD, hq0, hpl, cmpD, truthR, truth]
  rw [t1, ok_some]
  -- how many there are
  have key : ∀ many : Nat, 1 ≤ many → many ≤ 3 → (parts ≠ [] → many = 3) → ok (evS ⟨P, evF P wl (m + 13), wl⟩ (.seq (.asg (.name 3) (.lst .nil))
  (.seq (.for (.name 4) (.range (.cons (.var 1) .nil)) (.seq (.setidx (.var 0) (.int (2)) (.int (6)))
  (.seq (.setidx (.var 0) (.int (3)) (.int (2)))
  (.seq (.setidx (.var 0) (.int (4)) (.int (1)))
  (.seq (.setidx (.var 0) (.int (5)) (.coll .list (.range (.cons (.bi .len (.cons (.var 2) .nil)) .nil))))
  (.seq progB1 progC))))))
  (.seq (.asg (.name 5) (.coll .tuple (.cons (.lcomp (.for1 [4] (.name 4) (.range (.cons (drE 3) .nil)) (.bl true) (.cons (drE 4) .nil))) .nil)))
  (.ret (.tup (.cons (.str "program") (.cons (.coll .tuple (.cons (.var 3) .nil)) (.cons (.var 5) (.cons (.coll .tuple (.cons (.var 2) .nil)) .nil)))))))))
    [some (.ref b), some (.int (many : Int)), some (.ref M.length), none, none, none, none, none, none] (mv M b d p { s with a := a2 } ++ [.lst (natsD parts)])) (KG M fun x N => ∃ (pg : Pg) (p' : Nat) (s' : BS), pg.ok ∧ Bk N b d p' ds s' ∧ M.length ≤ N.length ∧ (∀ i o, i ≠ b → i ≠ p → M[i]? = some o → N[i]? = some o) ∧ x = pg.toD) := by
    intro many hm1 hm3 hmp
    rw [ok_seq, ok_asg]
    have e3 : ∀ ρ, evE ⟨P, evF P wl (m + 13), wl⟩ (.lst .nil) ρ (mv M b d p { s with a := a2 } ++ [.lst (natsD parts)]) = some (.ref (M.length + 1), mv M b d p { s with a := a2 } ++ [.lst (natsD parts), .lst []]) := fun ρ => by simp [evE, evEs, mv_len]
    rw [e3, ok_some, KA_, KS_nx, ok_seq, ok_forS]
    dsimp only [List.set]
    rw [evIt_rng1 (d := .int (many : Int)) (by simp [evE]; rfl) (rgN many (by omega)), ok_some]
    unfold KF
    have lb := G.lb
    have lp := G.lp
    have ld := (List.getElem?_eq_some_iff.mp G.hd).1
    have bb := B.b
    have hnp : parts.length ≤ 2 := by omega
    have N0b : Bk (mv M b d p { s with a := a2 } ++ [.lst (natsD parts), .lst []]) b d p ds { s with a := a2 } := Bk.of (mv_gb G _ _ rfl _) (mv_p G _ _) (mv_d G _ _) G.bd G.bp G.dp
    refine forL_wp (g := []) (fun k : Nat => D.int (k : Int)) (fun done rest ρ N => ∃ (p' : Nat) (s' : BS) (cms : List Cm) (v4 v5 v6 v7 v8 : Option D), ρ = ρP b many M.length (M.length + 1) v4 v5 v6 v7 v8 ∧ Bk N b d p' ds s' ∧ N[M.length + 1]? = some (.lst (cms.map Cm.toD)) ∧ N[M.length]? = some (.lst (natsD parts)) ∧
        cms.length = done.length ∧ (∀ (i : Nat) (cm : Cm), cms[i]? = some cm → cm.ok i (many - 1) parts.length) ∧ p' ≠ M.length ∧ p' ≠ M.length + 1 ∧ (done ≠ [] → M.length ≤ p') ∧ M.length + 2 ≤ N.length ∧ (∀ i o, i ≠ b → i ≠ p → M[i]? = some o → N[i]? = some o) ∧ done ++ rest = List.range many ∧ (done = [] → p' = p))
      (fun _ _ _ _ _ => rfl) ?_ (List.range many) [] _ _ ⟨p, { s with a := a2 }, [], none, none, none, none, none, rfl, N0b, ?_, ?_, rfl, by simp, by omega, by omega, by simp, by simp [mv_len], ?_, rfl, fun _ => rfl⟩ ?_
    · rintro done x rest ρ N ⟨p', s', cms, v4, v5, v6, v7, v8, rfl, Bn, hc, hq, hl, hok, n1, n2, hge, hN, hfr, hdr, hp0⟩
      refine ⟨_, rfl, ?_⟩
      dsimp only [ρP, List.set]
      have hx : x = done.length ∧ x < many := by
        have : (done ++ x :: rest)[done.length]? = some x := by rw [List.getElem?_append_right (Nat.le_refl _)]; simp
        rw [hdr] at this
        obtain ⟨z1, z2⟩ := List.getElem?_eq_some_iff.mp this
        simp at z1 z2
        omega
      refine progA_run (many := many) (c := M.length + 1) (q := M.length) (k := x) (np := parts.length) Bn hq hpl (by omega) (by omega) ⟨P, evF P wl (m + 13), wl⟩ v5 v6 v7 v8 _ progC ?_
      intro N2 p2 s2 B2 k2 k3 k4 kr kp kp2 kfr
      have hc2 := kfr (M.length + 1) _ (by omega) hc
      have hq2 := kfr M.length _ (by omega) hq
      refine ok_mono (progC_run (P := P) (wl := wl) g B2 m many (M.length + 1) x parts.length M.length k2 kr (by omega) (by omega) cms hc2 (by
        have : done.length + (x :: rest).length = many := by rw [← List.length_append, hdr, List.length_range]
        simp at this; omega) (by omega) (by omega) (by omega) v5 v6 v7 v8) ?_
      rintro o N3 ⟨cm, s3, w6, w7, rfl, okc, B3, hc3, hl3, fr3⟩
      refine ⟨p2, s3, cms ++ [cm], _, _, _, _, _, rfl, B3, hc3, fr3 _ _ (by omega) (by omega) (by omega) hq2, by simp [hl], ?_, by omega, by omega, fun _ => by omega, by omega, ?_, by simp [hdr], by simp⟩
      · intro i c' hi
        by_cases hil : i < cms.length
        · rw [List.getElem?_append_left hil] at hi
          exact hok i c' hi
        · have hie : i = cms.length := by
            have := (List.getElem?_eq_some_iff.mp hi).1
            simp at this; omega
          subst hie
          simp at hi
          subst hi
          rw [hl, ← hx.1]
          exact okc
      · intro i o h1 h2 h3
        have h4 := hfr i o h1 h2 h3
        have hil := (List.getElem?_eq_some_iff.mp h3).1
        have h5 := kfr i o h1 h4
        exact fr3 i o h1 (by omega) (by omega) h5
    · exact g2 (M := M) (b := b) (d := d) (p := p) { s with a := a2 } [] (.lst (natsD parts)) (.lst []) []
    · exact g0 _ _ _
    · intro i o h1 h2 h3
      rw [mv_other h1 h2 (List.getElem?_eq_some_iff.mp h3).1]
      exact h3
    · rintro ρ N ⟨p', s', cms, v4, v5, v6, v7, v8, rfl, Bn, hc, hq, hl, hok, n1, n2, hge, hN, hfr, hdr, hp0⟩
      simp only [List.nil_append, List.length_range] at hl
      have hge2 : M.length ≤ p' := hge (by
        intro h
        have := congrArg List.length h
        simp at this
        omega)
      rw [KS_nx, ok_seq, ok_asg]
      have hNN : mv N b d p' s' ++ [] = N := by rw [List.append_nil]; exact Bn.eq
      obtain ⟨st, a3, hs1, hs2, e4⟩ := intsT_ev (P := P) (wl := wl) g.draw Bn.G (m + 12) 3 4 4 (by decide) (by decide) (by decide) (by decide) (ρP b many M.length (M.length + 1) v4 v5 v6 v7 v8) rfl s' []
      rw [hNN] at e4
      have e4' : evE ⟨P, evF P wl (m + 13), wl⟩ (.coll .tuple (.cons (.lcomp (.for1 [4] (.name 4) (.range (.cons (drE 3) .nil)) (.bl true) (.cons (drE 4) .nil))) .nil)) (ρP b many M.length (M.length + 1) v4 v5 v6 v7 v8) N = some (.tup (natsD st), mv N b d p' { s' with a := a3 } ++ [.lst (natsD st)]) := e4
      rw [e4', ok_some, KA_, KS_nx, ok_ret]
      dsimp only [ρP, List.set]
      have hc4 : (mv N b d p' { s' with a := a3 } ++ [MO.lst (natsD st)])[M.length + 1]? = some (.lst (cms.map Cm.toD)) := by rw [mv_other (by omega) (Ne.symm n2) (by omega)]; exact hc
      have hq4 : (mv N b d p' { s' with a := a3 } ++ [MO.lst (natsD st)])[M.length]? = some (.lst (natsD parts)) := by rw [mv_other (by omega) (Ne.symm n1) (by omega)]; exact hq
      have e5 : evE ⟨P, evF P wl (m + 13), wl⟩ (.tup (.cons (.str "program") (.cons (.coll .tuple (.cons (.var 3) .nil)) (.cons (.var 5) (.cons (.coll .tuple (.cons (.var 2) .nil)) .nil))))) [some (.ref b), some (.int (many : Int)), some (.ref M.length), some (.ref (M.length + 1)), v4, some (.tup (natsD st)), v6, v7, v8] (mv N b d p' { s' with a := a3 } ++ [.lst (natsD st)]) =
          some (Pg.toD ⟨cms, st, parts⟩, mv N b d p' { s' with a := a3 } ++ [.lst (natsD st)]) := by
        simp [evE, evEs, evIt, itemsD, hc4, hq4, collD, Pg.toD]
      rw [e5, ok_some, KR_, KG_rt]
      have hbN : (mv N b d p' { s' with a := a3 } ++ [MO.lst (natsD st)])[b]? = some (BS.cell d p' { s' with a := a3 }) := mv_gb Bn.G _ _ rfl _
      have hgc : gc M (Pg.toD ⟨cms, st, parts⟩) (mv N b d p' { s' with a := a3 } ++ [MO.lst (natsD st)]) = (Pg.toD ⟨cms, st, parts⟩, mv N b d p' { s' with a := a3 } ++ [MO.lst (natsD st)]) := by
        unfold gc
        rw [if_neg]
        rw [oldOk_no M.length bb hbN (by simp [BS.cell]; omega) (by simp [BS.cell, MO.bel, D.bels, D.bel]; omega)]
        decide
      rw [hgc]
      refine ⟨⟨cms, st, parts⟩, p', { s' with a := a3 }, ⟨by show 1 ≤ cms.length; omega, by show cms.length ≤ 3; omega, ?_, by show st.length ≤ 2; omega, hs2, hnp, ?_, fun h => by show cms.length = 3; rw [hl]; exact hmp h⟩, Bk.of hbN (mv_p Bn.G _ _) (mv_d Bn.G _ _) Bn.G.bd Bn.G.bp Bn.G.dp, by simp [mv_len]; omega, ?_, rfl⟩
      · intro i cm hi
        show cm.ok i (cms.length - 1) parts.length
        rw [hl]
        exact hok i cm hi
      · intro x hx
        exact hp2 x hx
      · intro i o h1 h2 h3
        have hil := (List.getElem?_eq_some_iff.mp h3).1
        rw [mv_other h1 (by omega) (by omega)]
        exact hfr i o h1 h2 h3
  refine KI_b (fun h => ?_) fun h => ?_
  · rw [ok_asg]
    have e6 : ∀ N, evE ⟨P, evF P wl (m + 13), wl⟩ (.bi .max2 (.cons (.var 1) (.cons (.int (3)) .nil))) [some (.ref b), some (.int ((1 + v : Nat) : Int)), some (.ref M.length), none, none, none, none, none, none] N = some (.int ((3 : Nat) : Int), N) := fun N => by
      have : ¬ (3 : Int) > 1 + (v : Int) ∨ (3 : Int) > 1 + (v : Int) := by omega
      rcases this with h9 | h9
      · have h10 : v = 2 := by omega
        subst h10
        simp [evE, evEs, biD]
      · simp [evE, evEs, biD, h9]
    rw [e6, ok_some, KA_, KS_nx]
    dsimp only [List.set]
    exact key 3 (by decide) (by decide) (fun _ => rfl)
  · rw [ok_skip, KS_nx]
    have hpn : parts = [] := by
      simp at h
      cases parts with
      | nil => rfl
      | cons x r => simp at h
    exact key (1 + v) (by omega) (by omega) (fun h2 => absurd hpn h2)
end
end Pw

end
section
set_option maxHeartbeats 4000000
/-! K00a: all templates of contents, in order: the program's walk. -/
namespace Pw
abbrev Ent : Type := List D × Tm × List D
mutual
def lT (place around : List D) : Tm → List Ent
  | .box _ _ _ cs => lC 0 cs place (around ++ [.str "box"])
  | .each _ cs => lC 0 cs place (around ++ [.str "each"])
  | .whn _ y n => lC 0 y (place ++ [.int 0]) (around ++ [.str "when"]) ++ lC 0 n (place ++ [.int 1]) (around ++ [.str "when"])
  | _ => []
def lC (k : Nat) : List Tm → List D → List D → List Ent
  | [], _, _ => []
  | t :: ts, before, around => (before ++ [.int (k : Int)], t, around) :: (lT (before ++ [.int (k : Int)]) around t ++ lC (k + 1) ts before around)
end
mutual
theorem lT_len : ∀ (t : Tm) (pl ar : List D), (lT pl ar t).length + 1 = t.size
  | .text _, _, _ => rfl
  | .shw _, _, _ => rfl
  | .input _ _, _, _ => rfl
  | .part _, _, _ => rfl
  | .child _ _ _, _, _ => rfl
  | .box _ _ _ cs, pl, ar => by simp only [lT, Tm.size]; rw [lC_len cs]
  | .each _ cs, pl, ar => by simp only [lT, Tm.size]; rw [lC_len cs]
  | .whn _ y n, pl, ar => by simp only [lT, Tm.size, List.length_append]; rw [lC_len y, lC_len n]
theorem lC_len : ∀ (cs : List Tm) (k : Nat) (pl ar : List D), (lC k cs pl ar).length = Tm.sizes cs
  | [], _, _, _ => rfl
  | t :: ts, k, pl, ar => by
    have h1 := lT_len t (pl ++ [.int (k : Int)]) ar
    have h2 := lC_len ts (k + 1) pl ar
    simp only [lC, Tm.sizes, List.length_cons, List.length_append]
    omega
end
def entD (e : Ent) : D := .tup [.tup e.1, e.2.1.toD, .tup e.2.2]
def blks : Tm → List (List Tm × List D)
  | .box _ _ _ cs => [(cs, [])]
  | .each _ cs => [(cs, [])]
  | .whn _ y n => [(y, [.int 0]), (n, [.int 1])]
  | _ => []
def blkD (x : List Tm × List D) : D := .tup [.tup (Tm.toDs x.1), .tup x.2]
def headS : Tm → String
  | .text _ => "text"
  | .shw _ => "show"
  | .input _ _ => "input"
  | .part _ => "part"
  | .child _ _ _ => "child"
  | .box _ _ _ _ => "box"
  | .whn _ _ _ => "when"
  | .each _ _ => "each"
theorem lT_blks (t : Tm) (pl ar : List D) : lT pl ar t = (blks t).flatMap fun x => lC 0 x.1 (pl ++ x.2) (ar ++ [.str (headS t)]) := by
  cases t <;> simp [lT, blks, headS]
theorem toD_head (t : Tm) : ∃ r, t.toD = .tup (.str (headS t) :: r) := by cases t <;> exact ⟨_, rfl⟩
def AllB (xs : List D) : Prop := ∀ n, D.bels n xs = true
theorem AllB.app {xs ys : List D} (h : AllB xs) (h2 : AllB ys) : AllB (xs ++ ys) := fun n => by rw [bels_app, h n, h2 n]; rfl
section
variable {P : Prog} {wl n : Nat} {M : Mem}
theorem blocks_run (hf : P.fdef (.fn "blocks_of") = some F.blocks_of) (t : Tm) : evF P wl (n + 1) (.fn "blocks_of") [t.toD] M = some (.tup ((blks t).map blkD), M) := by
  rw [evF_at hf _ rfl]
  have hg : ∀ xs : List (List Tm × List D), (∀ x ∈ xs, AllB x.2) → gc M (.tup (xs.map blkD)) M = (.tup (xs.map blkD), M) := fun xs h => gc_same (by
    simp only [D.bel]
    exact bels_map _ _ _ fun x hx => by simp [blkD, D.bel, D.bels, Tm.belAs, h x hx _])
  have hb : ∀ x ∈ blks t, AllB x.2 := by
    cases t <;> simp [blks, AllB, D.bels, D.bel]
  have hg2 := hg _ hb
  cases t <;> simp [F.blocks_of, evS, evE, evEs, Tm.toD, idxD, pyIx, cmpD, eqD_s, truthR, truth, retOf, blks, blkD] at hg2 ⊢ <;> exact hg2
def listB : S := (.seq (.asg (.name 6) (.bin .add (.var 1) (.tup (.cons (.var 4) .nil))))
  (.seq (.expr (.bm .append (.var 3) (.cons (.tup (.cons (.var 6) (.cons (.var 5) (.cons (.var 2) .nil)))) .nil)))
  (.for (.tup [7, 8]) (.cons (.call "blocks_of" (.cons (.var 5) .nil)) .nil)
  (.expr (.bm .extend (.var 3) (.cons (.call "listed" (.cons (.var 7) (.cons (.bin .add (.var 6) (.var 8)) (.cons (.bin .add (.var 2) (.tup (.cons (.idx (.var 5) (.int (0))) .nil))) .nil)))) .nil))))))
abbrev ρL (cs bf ar : List D) (f : Nat) (v4 v5 v6 v7 v8 : Option D) : VEnv := [some (.tup cs), some (.tup bf), some (.tup ar), some (.ref f), v4, v5, v6, v7, v8]
theorem pre_get {M : Mem} (o : MO) (R : Mem) : (M ++ o :: R)[M.length]? = some o := app_get
theorem blks_dep (t : Tm) : ∀ x ∈ blks t, Tm.deps x.1 + 1 ≤ t.dep ∧ Tm.sizes x.1 + 1 ≤ t.size ∧ AllB x.2 ∧ x.2.length ≤ 1 := by
  cases t <;> simp [blks, Tm.dep, Tm.size, AllB, D.bels, D.bel] <;> omega
def LSpec (P : Prog) (wl k : Nat) : Prop := ∀ (n : Nat) (cs : List Tm) (bf ar : List D) (M : Mem), Tm.deps cs ≤ k → Tm.sizes cs ≤ 1000 → bf.length + 2 * k + 2 ≤ 1000 → ar.length + k + 1 ≤ 1000 → AllB bf → AllB ar →
  evF P wl (n + k + 2) (.fn "listed") [.tup (Tm.toDs cs), .tup bf, .tup ar] M = some (.ref M.length, M ++ [.lst ((lC 0 cs bf ar).map entD)])
theorem ent_bel (e : Ent) (h1 : AllB e.1) (h2 : AllB e.2.2) (n : Nat) : (entD e).bel n = true := by simp [entD, D.bel, D.bels, h1 n, h2 n, Tm.belA]
mutual
theorem lT_bel : ∀ (t : Tm) (pl ar : List D), AllB pl → AllB ar → ∀ e ∈ lT pl ar t, AllB e.1 ∧ AllB e.2.2
  | .text _, _, _, _, _, e, he => by cases he
  | .shw _, _, _, _, _, e, he => by cases he
  | .input _ _, _, _, _, _, e, he => by cases he
  | .part _, _, _, _, _, e, he => by cases he
  | .child _ _ _, _, _, _, _, e, he => by cases he
  | .box _ _ _ cs, pl, ar, h1, h2, e, he => by
    simp only [lT] at he
    exact lC_bel cs 0 pl (ar ++ [.str "box"]) h1 (h2.app fun _ => rfl) e he
  | .each _ cs, pl, ar, h1, h2, e, he => by
    simp only [lT] at he
    exact lC_bel cs 0 pl (ar ++ [.str "each"]) h1 (h2.app fun _ => rfl) e he
  | .whn _ y n, pl, ar, h1, h2, e, he => by
    simp only [lT] at he
    rcases List.mem_append.mp he with he | he
    · exact lC_bel y 0 (pl ++ [.int 0]) (ar ++ [.str "when"]) (h1.app fun _ => rfl) (h2.app fun _ => rfl) e he
    · exact lC_bel n 0 (pl ++ [.int 1]) (ar ++ [.str "when"]) (h1.app fun _ => rfl) (h2.app fun _ => rfl) e he
theorem lC_bel : ∀ (cs : List Tm) (k : Nat) (pl ar : List D), AllB pl → AllB ar → ∀ e ∈ lC k cs pl ar, AllB e.1 ∧ AllB e.2.2
  | [], _, _, _, _, _, e, he => by cases he
  | t :: ts, k, pl, ar, h1, h2, e, he => by
    simp only [lC] at he
    rcases List.mem_cons.mp he with he | he
    · rw [he]; exact ⟨h1.app fun _ => rfl, h2⟩
    · rcases List.mem_append.mp he with he | he
      · exact lT_bel t _ ar (h1.app fun _ => rfl) h2 e he
      · exact lC_bel ts (k + 1) pl ar h1 h2 e he
end
end
end Pw

end
section
set_option maxHeartbeats 4000000
/-! K00b: listed, templates. -/
namespace Pw
section
variable {P : Prog} {wl n : Nat} {M : Mem}
theorem evIt_enum' {F : FT} {e : E} {ρ : VEnv} {M M' : Mem} {d : D} {it : Items} (h : evE F e ρ M = some (d, M')) (hr : itemsD M' d = some it) : evIt F (.enum e) ρ M = some ((it.1.zipIdx.map fun p => .tup [.int p.2, p.1], it.2), M') := by
  simp only [evIt, h, bnd_some, hr, Option.map_some]
theorem zip_toDs : ∀ (cs : List Tm) (k : Nat), ((Tm.toDs cs).zipIdx k).map (fun p => D.tup [.int (p.2 : Int), p.1]) = (cs.zipIdx k).map fun p => D.tup [.int (p.2 : Int), p.1.toD]
  | [], _ => rfl
  | t :: ts, k => by simp [Tm.toDs, List.zipIdx_cons, zip_toDs ts (k + 1)]
theorem lC_snoc (k : Nat) (bf ar : List D) : ∀ (cs : List Tm) (t : Tm), lC k (cs ++ [t]) bf ar = lC k cs bf ar ++ lC (k + cs.length) [t] bf ar
  | [], t => by simp [lC]
  | c :: cs, t => by
    have := lC_snoc (k + 1) bf ar cs t
    simp only [List.cons_append, lC, this]
    simp only [List.length_cons, List.append_assoc, lC, List.append_nil, List.cons_append]
    rw [show k + 1 + cs.length = k + (cs.length + 1) by omega]
theorem sizes_mem {t : Tm} : ∀ {cs : List Tm}, t ∈ cs → t.size ≤ Tm.sizes cs
  | c :: cs, h => by
    rcases List.mem_cons.mp h with h | h
    · rw [h]; simp only [Tm.sizes]; omega
    · have := sizes_mem h; simp only [Tm.sizes]; omega
theorem deps_mem {t : Tm} : ∀ {cs : List Tm}, t ∈ cs → t.dep ≤ Tm.deps cs
  | c :: cs, h => by
    rcases List.mem_cons.mp h with h | h
    · rw [h]; simp only [Tm.deps]; omega
    · have := deps_mem h; simp only [Tm.deps]; omega
theorem acc_set (o o' : MO) (R T : Mem) : (M ++ o :: (R ++ T)).set M.length o' = M ++ o' :: (R ++ T) := app_set
/-- one template of the walk -/
theorem listB_run (hbl : P.fdef (.fn "blocks_of") = some F.blocks_of) (k n j : Nat) (ih : k = 0 ∨ ∃ k', k = k' + 1 ∧ LSpec P wl k') (t : Tm) (hd : t.dep ≤ k) (csd : List D) (bf ar : List D) (hs : t.size ≤ 1000) (hbf : bf.length + 2 * k + 2 ≤ 1000) (har : ar.length + k + 1 ≤ 1000) (b1 : AllB bf) (b2 : AllB ar)
    (acc : List D) (hacc : acc.length + t.size ≤ 10000) (R : Mem) (v6 v7 v8 : Option D) :
    ∃ (R' : Mem) (w6 w7 w8 : Option D), evS ⟨P, evF P wl (n + k + 1), wl⟩ listB (ρL csd bf ar M.length (some (.int (j : Int))) (some t.toD) v6 v7 v8) (M ++ MO.lst acc :: R) =
      some (.nx (ρL csd bf ar M.length (some (.int (j : Int))) (some t.toD) w6 w7 w8), M ++ MO.lst (acc ++ (lC j [t] bf ar).map entD) :: R') := by
  have l1000 : (1000 : Nat) ≤ LIM := by decide
  have l20000 : (20000 : Nat) ≤ LIM := by decide
  generalize hpl : bf ++ [D.int (j : Int)] = pl
  have hpll : pl.length = bf.length + 1 := by rw [← hpl]; simp
  have bpl : AllB pl := by rw [← hpl]; exact b1.app fun _ => rfl
  suffices h : ok (evS ⟨P, evF P wl (n + k + 1), wl⟩ listB (ρL csd bf ar M.length (some (.int (j : Int))) (some t.toD) v6 v7 v8) (M ++ MO.lst acc :: R)) fun o N => ∃ (R' : Mem) (w6 w7 w8 : Option D), o = .nx (ρL csd bf ar M.length (some (.int (j : Int))) (some t.toD) w6 w7 w8) ∧ N = M ++ MO.lst (acc ++ (lC j [t] bf ar).map entD) :: R' by
    obtain ⟨o, N, e, R', v6, v7, v8, rfl, rfl⟩ := h
    exact ⟨R', v6, v7, v8, e⟩
  unfold listB
  rw [ok_seq, ok_asg]
  have e1 : evE ⟨P, evF P wl (n + k + 1), wl⟩ (.bin .add (.var 1) (.tup (.cons (.var 4) .nil))) (ρL csd bf ar M.length (some (.int (j : Int))) (some t.toD) v6 v7 v8) (M ++ MO.lst acc :: R) = some (.tup pl, M ++ MO.lst acc :: R) := by
    have : bf.length + 1 ≤ LIM := by omega
    simp [evE, evEs, ρL, binD, this, hpl]
  rw [e1, ok_some, KA_, KS_nx, ok_seq, ok_expr]
  dsimp only [ρL, List.set]
  have e2 : evE ⟨P, evF P wl (n + k + 1), wl⟩ (.bm .append (.var 3) (.cons (.tup (.cons (.var 6) (.cons (.var 5) (.cons (.var 2) .nil)))) .nil)) [some (.tup csd), some (.tup bf), some (.tup ar), some (.ref M.length), some (.int (j : Int)), some t.toD, some (.tup pl), v7, v8] (M ++ MO.lst acc :: R) =
      some (.non, M ++ MO.lst (acc ++ [entD (pl, t, ar)]) :: R) := by
    have : acc.length < LIM := by omega
    simp [evE, evEs, recvOk, app_get, bmD, this, app_set, entD]
  rw [e2, ok_some, KX_, KS_nx, ok_forS]
  have hb := blocks_run (P := P) (wl := wl) (n := n + k) (M := M ++ MO.lst (acc ++ [entD (pl, t, ar)]) :: R) hbl t
  rw [evIt_seq (d := .tup ((blks t).map blkD)) (by simp [evE, evEs, hb]; rfl) (show itemsD _ (.tup ((blks t).map blkD)) = some ((blks t).map blkD, []) from rfl), ok_some]
  unfold KF
  dsimp only
  have hlen := lT_len t pl ar
  rw [lT_blks] at hlen
  refine forL_wp (g := []) blkD (fun done rest ρ N => ∃ (R' : Mem) (v7 v8 : Option D), ρ = ρL csd bf ar M.length (some (.int (j : Int))) (some t.toD) (some (.tup pl)) v7 v8 ∧ N = M ++ MO.lst (acc ++ [entD (pl, t, ar)] ++ (done.flatMap fun x => lC 0 x.1 (pl ++ x.2) (ar ++ [.str (headS t)])).map entD) :: R' ∧ done ++ rest = blks t)
    (fun _ _ _ _ _ => rfl) ?_ (blks t) [] _ _ ⟨R, v7, v8, rfl, by simp, rfl⟩ ?_
  · rintro done x rest ρ N ⟨R', v7, v8, rfl, rfl, hdr⟩
    have hx : x ∈ blks t := by rw [← hdr]; simp
    obtain ⟨x1, x2, x3, x4⟩ := blks_dep t x hx
    obtain ⟨k', rfl, ih'⟩ : ∃ k', k = k' + 1 ∧ LSpec P wl k' := ih.resolve_left (by omega)
    refine ⟨ρL csd bf ar M.length (some (.int (j : Int))) (some t.toD) (some (.tup pl)) (some (.tup (Tm.toDs x.1))) (some (.tup x.2)), rfl, ?_⟩
    rw [ok_expr]
    generalize hA : acc ++ [entD (pl, t, ar)] ++ (done.flatMap fun x => lC 0 x.1 (pl ++ x.2) (ar ++ [.str (headS t)])).map entD = A
    have hcall := ih' n x.1 (pl ++ x.2) (ar ++ [.str (headS t)]) (M ++ MO.lst A :: R') (by omega) (by omega) (by rw [List.length_append]; omega) (by rw [List.length_append]; simp; omega) (bpl.app x3) (b2.app fun _ => rfl)
    have hcall' : evF P wl (n + (k' + 1) + 1) (.fn "listed") [.tup (Tm.toDs x.1), .tup (pl ++ x.2), .tup (ar ++ [.str (headS t)])] (M ++ MO.lst A :: R') = some (.ref (M ++ MO.lst A :: R').length, M ++ MO.lst A :: R' ++ [.lst ((lC 0 x.1 (pl ++ x.2) (ar ++ [.str (headS t)])).map entD)]) := by
      rw [show n + (k' + 1) + 1 = n + k' + 2 by omega]; exact hcall
    obtain ⟨r, hr⟩ := toD_head t
    have hl1 : pl.length + x.2.length ≤ LIM := by omega
    have hl2 : ar.length + 1 ≤ LIM := by omega
    have hlA : A.length + (lC 0 x.1 (pl ++ x.2) (ar ++ [.str (headS t)])).length ≤ LIM := by
      have h1 : A.length + (lC 0 x.1 (pl ++ x.2) (ar ++ [.str (headS t)])).length ≤ acc.length + 1 + ((blks t).flatMap fun x => lC 0 x.1 (pl ++ x.2) (ar ++ [.str (headS t)])).length := by
        rw [← hdr, ← hA]
        simp only [List.flatMap_append, List.flatMap_cons, List.length_append, List.length_map, List.length_cons, List.length_nil]
        omega
      omega
    have hg1 : (M ++ MO.lst A :: R' ++ [MO.lst ((lC 0 x.1 (pl ++ x.2) (ar ++ [.str (headS t)])).map entD)])[M.length]? = some (.lst A) := by rw [List.append_assoc, List.cons_append]; exact app_get
    have hg2 : (M ++ MO.lst A :: R' ++ [MO.lst ((lC 0 x.1 (pl ++ x.2) (ar ++ [.str (headS t)])).map entD)])[(M ++ MO.lst A :: R').length]? = some (.lst ((lC 0 x.1 (pl ++ x.2) (ar ++ [.str (headS t)])).map entD)) := app_get
    have hset : (M ++ MO.lst A :: R' ++ [MO.lst ((lC 0 x.1 (pl ++ x.2) (ar ++ [.str (headS t)])).map entD)]).set M.length (.lst (A ++ (lC 0 x.1 (pl ++ x.2) (ar ++ [.str (headS t)])).map entD)) = M ++ MO.lst (A ++ (lC 0 x.1 (pl ++ x.2) (ar ++ [.str (headS t)])).map entD) :: (R' ++ [MO.lst ((lC 0 x.1 (pl ++ x.2) (ar ++ [.str (headS t)])).map entD)]) := by
      rw [List.append_assoc, List.cons_append]; exact app_set
    have ea : evEs ⟨P, evF P wl (n + (k' + 1) + 1), wl⟩ (.cons (.call "listed" (.cons (.var 7) (.cons (.bin .add (.var 6) (.var 8)) (.cons (.bin .add (.var 2) (.tup (.cons (.idx (.var 5) (.int (0))) .nil))) .nil)))) .nil) (ρL csd bf ar M.length (some (.int (j : Int))) (some t.toD) (some (.tup pl)) (some (.tup (Tm.toDs x.1))) (some (.tup x.2))) (M ++ MO.lst A :: R') =
        some ([.ref (M ++ MO.lst A :: R').length], M ++ MO.lst A :: R' ++ [.lst ((lC 0 x.1 (pl ++ x.2) (ar ++ [.str (headS t)])).map entD)]) := by
      have hi : evE ⟨P, evF P wl (n + (k' + 1) + 1), wl⟩ (.idx (.var 5) (.int (0))) (ρL csd bf ar M.length (some (.int (j : Int))) (some t.toD) (some (.tup pl)) (some (.tup (Tm.toDs x.1))) (some (.tup x.2))) (M ++ MO.lst A :: R') = some (.str (headS t), M ++ MO.lst A :: R') := by
        rw [hr]
        simp [evE, ρL, idxD, pyIx]
      have hargs : evEs ⟨P, evF P wl (n + (k' + 1) + 1), wl⟩ (.cons (.var 7) (.cons (.bin .add (.var 6) (.var 8)) (.cons (.bin .add (.var 2) (.tup (.cons (.idx (.var 5) (.int (0))) .nil))) .nil))) (ρL csd bf ar M.length (some (.int (j : Int))) (some t.toD) (some (.tup pl)) (some (.tup (Tm.toDs x.1))) (some (.tup x.2))) (M ++ MO.lst A :: R') = some ([.tup (Tm.toDs x.1), .tup (pl ++ x.2), .tup (ar ++ [.str (headS t)])], M ++ MO.lst A :: R') := by
        have eb : ∀ op a b ρ (M : Mem), evE ⟨P, evF P wl (n + (k' + 1) + 1), wl⟩ (.bin op a b) ρ M = bnd (evE ⟨P, evF P wl (n + (k' + 1) + 1), wl⟩ a ρ M) fun x M => bnd (evE ⟨P, evF P wl (n + (k' + 1) + 1), wl⟩ b ρ M) fun y M => binD M op x y := fun op a b ρ M => by simp only [evE]
        have et : ∀ e ρ (M : Mem), evE ⟨P, evF P wl (n + (k' + 1) + 1), wl⟩ (.tup e) ρ M = bnd (evEs ⟨P, evF P wl (n + (k' + 1) + 1), wl⟩ e ρ M) fun xs M => some (.tup xs, M) := fun e ρ M => by simp only [evE]
        rw [evEs_cons', evE_var' _ 7 _ _ (.tup (Tm.toDs x.1)) rfl, bnd_some, evEs_cons', eb, evE_var' _ 6 _ _ (.tup pl) rfl, bnd_some, evE_var' _ 8 _ _ (.tup x.2) rfl, bnd_some]
        simp only [binD]
        rw [if_pos hl1, bnd_some, evEs_cons', eb, evE_var' _ 2 _ _ (.tup ar) rfl, bnd_some, et, evEs_cons', hi, bnd_some, evEs_nil', bnd_some, bnd_some, bnd_some]
        simp only [binD, List.length_cons, List.length_nil, Nat.zero_add]
        rw [if_pos hl2, bnd_some, evEs_nil', bnd_some, bnd_some, bnd_some]
      rw [evEs_cons', evE_call', hargs, bnd_some]
      show bnd (evF P wl (n + (k' + 1) + 1) (.fn "listed") _ _) _ = _
      rw [hcall', bnd_some, evEs_nil', bnd_some]
    have hne : M.length ≠ (M ++ MO.lst A :: R').length := by simp
    have e3 : evE ⟨P, evF P wl (n + (k' + 1) + 1), wl⟩ (.bm .extend (.var 3) (.cons (.call "listed" (.cons (.var 7) (.cons (.bin .add (.var 6) (.var 8)) (.cons (.bin .add (.var 2) (.tup (.cons (.idx (.var 5) (.int (0))) .nil))) .nil)))) .nil)) (ρL csd bf ar M.length (some (.int (j : Int))) (some t.toD) (some (.tup pl)) (some (.tup (Tm.toDs x.1))) (some (.tup x.2))) (M ++ MO.lst A :: R') =
        some (.non, M ++ MO.lst (A ++ (lC 0 x.1 (pl ++ x.2) (ar ++ [.str (headS t)])).map entD) :: (R' ++ [MO.lst ((lC 0 x.1 (pl ++ x.2) (ar ++ [.str (headS t)])).map entD)])) := by
      rw [evE_bm', evE_var' _ 3 _ _ (.ref M.length) rfl, bnd_some, if_pos (by simp [recvOk, app_get]), ea, bnd_some]
      simp only [bmD, hg1, hg2]
      rw [if_pos ⟨hne, by rw [List.length_map]; exact hlA⟩, hset]
    rw [e3, ok_some, KX_]
    refine ⟨R' ++ [MO.lst ((lC 0 x.1 (pl ++ x.2) (ar ++ [.str (headS t)])).map entD)], _, _, rfl, ?_, by simp [hdr]⟩
    rw [← hA, List.flatMap_append, List.map_append, List.append_assoc (acc ++ [entD (pl, t, ar)])]
    simp only [List.flatMap_cons, List.flatMap_nil, List.append_nil]
  · rintro ρ N ⟨R', v7, v8, rfl, rfl, _⟩
    refine ⟨R', _, _, _, rfl, ?_⟩
    have : lC j [t] bf ar = (pl, t, ar) :: ((blks t).flatMap fun x => lC 0 x.1 (pl ++ x.2) (ar ++ [.str (headS t)])) := by
      simp only [lC, hpl, List.append_nil]
      rw [lT_blks]
    rw [this]
    simp
theorem listed_run (hf : P.fdef (.fn "listed") = some F.listed) (hbl : P.fdef (.fn "blocks_of") = some F.blocks_of) : ∀ k, LSpec P wl k := by
  intro k
  induction k with
  | zero => exact aux hf hbl 0 (.inl rfl)
  | succ k ih => exact aux hf hbl (k + 1) (.inr ⟨k, rfl, ih⟩)
where
  aux {P : Prog} {wl : Nat} (hf : P.fdef (.fn "listed") = some F.listed) (hbl : P.fdef (.fn "blocks_of") = some F.blocks_of) (k : Nat) (ih : k = 0 ∨ ∃ k', k = k' + 1 ∧ LSpec P wl k') : LSpec P wl k := by
    intro n cs bf ar M hd hs hbf har b1 b2
    refine eq_of_ok ?_
    refine ok_call (n := n + k + 1) hf rfl ?_
    have e0 : (List.map some [D.tup (Tm.toDs cs), .tup bf, .tup ar] ++ List.replicate (F.listed.slots - F.listed.params) none : VEnv) = [some (.tup (Tm.toDs cs)), some (.tup bf), some (.tup ar), none, none, none, none, none, none] := rfl
    have hbody : F.listed.body = (.seq (.asg (.name 3) (.lst .nil)) (.seq (.for (.tup [4, 5]) (.enum (.var 0)) listB) (.ret (.var 3)))) := rfl
    rw [e0, hbody, ok_seq, ok_asg]
    have e1 : ∀ ρ, evE ⟨P, evF P wl (n + k + 1), wl⟩ (.lst .nil) ρ M = some (.ref M.length, M ++ [MO.lst []]) := fun ρ => by simp [evE, evEs]
    rw [e1, ok_some, KA_, KS_nx, ok_seq, ok_forS]
    dsimp only [List.set]
    rw [evIt_enum' (d := .tup (Tm.toDs cs)) (it := (Tm.toDs cs, [])) (by simp [evE]; rfl) rfl, ok_some]
    unfold KF
    dsimp only
    have hz := zip_toDs cs 0
    rw [hz]
    refine forL_wp (g := []) (fun p : Tm × Nat => D.tup [.int (p.2 : Int), p.1.toD]) (fun done rest ρ N => ∃ (R' : Mem) (v4 v5 v6 v7 v8 : Option D), ρ = ρL (Tm.toDs cs) bf ar M.length v4 v5 v6 v7 v8 ∧ N = M ++ MO.lst ((lC 0 (done.map (·.1)) bf ar).map entD) :: R' ∧ done ++ rest = cs.zipIdx)
      (fun _ _ _ _ _ => rfl) ?_ cs.zipIdx [] _ _ ⟨[], none, none, none, none, none, rfl, rfl, rfl⟩ ?_
    · rintro done x rest ρ N ⟨R', v4, v5, v6, v7, v8, rfl, rfl, hdr⟩
      obtain ⟨t, j⟩ := x
      have hx : cs[done.length]? = some t ∧ j = done.length := by
        have h1 : (done ++ (t, j) :: rest)[done.length]? = some (t, j) := by rw [List.getElem?_append_right (Nat.le_refl _)]; simp
        rw [hdr, List.getElem?_zipIdx] at h1
        obtain ⟨a, h2, h3⟩ := Option.map_eq_some_iff.mp h1
        cases h3
        exact ⟨h2, by omega⟩
      have htm := List.mem_of_getElem? hx.1
      have hsz := sizes_mem htm
      have hdp := deps_mem htm
      refine ⟨ρL (Tm.toDs cs) bf ar M.length (some (.int (j : Int))) (some t.toD) v6 v7 v8, rfl, ?_⟩
      have hlen : Tm.sizes (done.map (·.1)) ≤ Tm.sizes cs := by
        have e : done.map (·.1) ++ ((t, j) :: rest).map (·.1) = cs := by
          rw [← List.map_append, hdr]
          simp
        rw [← e, Tm.sizes_app]
        omega
      obtain ⟨R2, w6, w7, w8, h⟩ := listB_run (P := P) (wl := wl) (M := M) hbl k n j ih t (by omega) (Tm.toDs cs) bf ar (by omega) hbf har b1 b2 ((lC 0 (done.map (·.1)) bf ar).map entD) (by rw [List.length_map, lC_len]; omega) R' v6 v7 v8
      refine ⟨_, _, h, ?_⟩
      refine ⟨R2, _, _, _, _, _, rfl, ?_, by simp [hdr]⟩
      rw [List.map_append, List.map_cons, List.map_nil, lC_snoc, List.map_append, List.length_map, Nat.zero_add, ← hx.2]
    · rintro ρ N ⟨R', v4, v5, v6, v7, v8, rfl, rfl, hdr⟩
      have e : (([] : List (Tm × Nat)) ++ cs.zipIdx).map (·.1) = cs := by simp
      rw [e, KS_nx, ok_ret, evE_var' _ 3 _ _ (.ref M.length) rfl, ok_some, KR_, KG_rt, pre_bel_self (by
        simp only [MO.bel]
        refine bels_map _ _ _ fun x hx => ?_
        obtain ⟨h1, h2⟩ := lC_bel cs 0 bf ar b1 b2 x hx
        exact ent_bel x h1 h2 _)]
      exact ⟨rfl, rfl⟩
/-- what templates gives -/
def tmplD (es : List Ent) : D := .tup (es.map fun e => .tup [.tup e.1, e.2.1.toD])
theorem tmplD_bel (es : List Ent) (h : ∀ e ∈ es, AllB e.1) (n : Nat) : (tmplD es).bel n = true := by
  simp only [tmplD, D.bel]
  exact bels_map _ _ _ fun e he => by simp [D.bel, D.bels, h e he n, Tm.belA]
theorem templates_run (ht : P.fdef (.fn "templates") = some F.templates) (hf : P.fdef (.fn "listed") = some F.listed) (hbl : P.fdef (.fn "blocks_of") = some F.blocks_of) (n : Nat) (cs : List Tm) (hd : Tm.deps cs ≤ 20) (hs : Tm.sizes cs ≤ 1000) :
    evF P wl (n + 23) (.fn "templates") [.tup (Tm.toDs cs)] M = some (tmplD (lC 0 cs [] []), M) := by
  have hl := listed_run (wl := wl) hf hbl 20 n cs [] [] M hd hs (by simp) (by simp) (fun _ => rfl) (fun _ => rfl)
  rw [evF_at ht _ rfl]
  have tr := turns_map (g := [(M.length, .lst ((lC 0 cs [] []).map entD))]) (p := .tup [1, 2, 3]) (c := fun ρ M => truthR (evE ⟨P, evF P wl (n + 22), wl⟩ (.bl true) ρ M)) (b := fun ρ M => evEs ⟨P, evF P wl (n + 22), wl⟩ (.cons (.tup (.cons (.var 1) (.cons (.var 2) .nil))) .nil) ρ M)
    (ρ := [some (.tup (Tm.toDs cs)), none, none, none]) (M := M ++ [MO.lst ((lC 0 cs [] []).map entD)]) entD (fun _ => true) (fun e => .tup [.tup e.1, e.2.1.toD]) (still_one' app_get) (lC 0 cs [] []) (by
      intro e he
      exact ⟨[some (.tup (Tm.toDs cs)), some (.tup e.1), some e.2.1.toD, some (.tup e.2.2)], rfl, by simp [evE, truthR, truth], fun _ => by simp [evE, evEs]⟩)
  have hff : (lC 0 cs [] []).filter (fun _ => true) = lC 0 cs [] [] := by simp
  rw [hff] at tr
  have ei : evIt ⟨P, evF P wl (n + 22), wl⟩ (.cons (.call "listed" (.cons (.var 0) (.cons (.tup .nil) (.cons (.tup .nil) .nil)))) .nil) [some (.tup (Tm.toDs cs)), none, none, none] M = some (((lC 0 cs [] []).map entD, [(M.length, .lst ((lC 0 cs [] []).map entD))]), M ++ [MO.lst ((lC 0 cs [] []).map entD)]) := by
    refine evIt_seq (d := .ref M.length) ?_ (by simp [itemsD])
    simp [evE, evEs]
    exact hl
  have eg : ∀ p ρ (M : Mem), evE ⟨P, evF P wl (n + 22), wl⟩ (.gtup p) ρ M = bnd (evEs ⟨P, evF P wl (n + 22), wl⟩ p ρ M) fun xs M => if xs.length < LIM then some (.tup xs, M) else none := fun p ρ M => by simp only [evE]
  have hE : evS ⟨P, evF P wl (n + 22), wl⟩ F.templates.body (List.map some [D.tup (Tm.toDs cs)] ++ List.replicate (F.templates.slots - F.templates.params) none) M = some (.rt (tmplD (lC 0 cs [] [])), M ++ [MO.lst ((lC 0 cs [] []).map entD)]) := by
    have hbody : F.templates.body = .ret (.gtup (.for1 [1, 2, 3] (.tup [1, 2, 3]) (.cons (.call "listed" (.cons (.var 0) (.cons (.tup .nil) (.cons (.tup .nil) .nil)))) .nil) (.bl true) (.cons (.tup (.cons (.var 1) (.cons (.var 2) .nil))) .nil))) := rfl
    have e0 : (List.map some [D.tup (Tm.toDs cs)] ++ List.replicate (F.templates.slots - F.templates.params) none : VEnv) = [some (.tup (Tm.toDs cs)), none, none, none] := rfl
    rw [hbody, e0, evS_ret', eg, evEs_for1', ei, bnd_some]
    have hw : wipeE ([some (.tup (Tm.toDs cs)), none, none, none] : VEnv) [1, 2, 3] = [some (.tup (Tm.toDs cs)), none, none, none] := rfl
    rw [hw]
    dsimp only
    rw [tr, bnd_some, if_pos (by rw [List.length_map, lC_len]; exact Nat.lt_of_le_of_lt hs (by decide)), bnd_some]
    rfl
  rw [hE]
  show some (gc M _ _) = _
  rw [gc_pre (tmplD_bel _ (fun e he => (lC_bel cs 0 [] [] (fun _ => rfl) (fun _ => rfl) e he).1) _)]
end
end Pw

end
section
set_option maxHeartbeats 4000000
/-! K00c: a tree is the same as itself; the keys' depth. -/
namespace Pw
mutual
/-- a tree of numbers, texts and short tuples, nested at most n deep -/
def D.kk : Nat → D → Bool
  | _, .non => true
  | _, .int _ => true
  | _, .str _ => true
  | n + 1, .tup xs => decide (xs.length < 1000000) && D.kks n xs
  | _, _ => false
def D.kks : Nat → List D → Bool
  | _, [] => true
  | n, x :: xs => D.kk n x && D.kks n xs
end
section
variable {P : Prog} {wl n : Nat} {M : Mem}
theorem keys_get : ∀ {k : Nat} {xs : List D}, D.kks k xs = true → ∀ x ∈ xs, D.kk k x = true
  | k, [], _, x, hx => by cases hx
  | k, y :: ys, h, x, hx => by
    simp only [D.kks, Bool.and_eq_true] at h
    rcases List.mem_cons.mp hx with hx | hx
    · rw [hx]; exact h.1
    · exact keys_get h.2 x hx
def sameB : S := (.ite (.no (.call "_law_same" (.cons (.idx (.var 0) (.var 2)) (.cons (.idx (.var 1) (.var 2)) .nil))))
  (.ret (.bl false))
  .skip)
theorem same_refl (hf : P.fdef (.fn "_law_same") = some F.L_same) : ∀ (k : Nat) (d : D), D.kk k d = true → ∀ (n : Nat) (M : Mem), evF P wl (n + k + 1) (.fn "_law_same") [d, d] M = some (.bl true, M) := by
  intro k
  induction k with
  | zero =>
    intro d h n M
    rw [evF_at hf _ rfl]
    cases d with
    | non => simp [F.L_same, evS, evE, evEs, isiD, truthR, truth, retOf, gc_bl0]
    | int i => simp [F.L_same, evS, evE, evEs, isiD, cmpD, eqD_i, truthR, truth, retOf, gc_bl0]
    | str s => simp [F.L_same, evS, evE, evEs, isiD, cmpD, eqD_s, truthR, truth, retOf, gc_bl0]
    | _ => simp [D.kk] at h
  | succ k ih =>
    intro d h n M
    cases d with
    | non => rw [evF_at hf _ rfl]; simp [F.L_same, evS, evE, evEs, isiD, truthR, truth, retOf, gc_bl0]
    | int i => rw [evF_at hf _ rfl]; simp [F.L_same, evS, evE, evEs, isiD, cmpD, eqD_i, truthR, truth, retOf, gc_bl0]
    | str s => rw [evF_at hf _ rfl]; simp [F.L_same, evS, evE, evEs, isiD, cmpD, eqD_s, truthR, truth, retOf, gc_bl0]
    | bl _ => simp [D.kk] at h
    | ref _ => simp [D.kk] at h
    | scr => simp [D.kk] at h
    | tup xs =>
      simp only [D.kk, Bool.and_eq_true, decide_eq_true_eq] at h
      have hx : ∀ x ∈ xs, D.kk k x = true := keys_get h.2
      have hlen := h.1
      · refine eq_of_ok ?_
        refine ok_call (n := n + (k + 1)) hf rfl ?_
        have e0 : (List.map some [D.tup xs, .tup xs] ++ List.replicate (F.L_same.slots - F.L_same.params) none : VEnv) = [some (.tup xs), some (.tup xs), none] := rfl
        rw [e0]
        unfold F.L_same
        dsimp only
        rw [ok_seq, ok_ite]
        have t1 : truthR (evE ⟨P, evF P wl (n + (k + 1)), wl⟩ (.isi (.var 1) .tuple) [some (.tup xs), some (.tup xs), none] M) = some (true, M) := by simp [evE, isiD, truthR, truth]
        rw [t1, ok_some, KI_t, ok_seq, ok_ite]
        have t2 : truthR (evE ⟨P, evF P wl (n + (k + 1)), wl⟩ (.or (.no (.isi (.var 0) .tuple)) (.cmp .ne (.bi .len (.cons (.var 0) .nil)) (.bi .len (.cons (.var 1) .nil)))) [some (.tup xs), some (.tup xs), none] M) = some (false, M) := by simp [evE, evEs, isiD, biD, lenD, cmpD, eqD_i, truthR, truth]
        rw [t2, ok_some, KI_f, ok_skip, KS_nx, ok_seq, ok_forS]
        rw [evIt_rng1 (d := .int (xs.length : Int)) (by simp [evE, evEs, biD, lenD]; rfl) (rgN xs.length hlen), ok_some]
        unfold KF
        refine forL_wp (g := []) (fun k : Nat => D.int (k : Int)) (fun done rest ρ N => ∃ v2, ρ = [some (.tup xs), some (.tup xs), v2] ∧ N = M ∧ done ++ rest = List.range xs.length) (fun _ _ _ _ _ => rfl) ?_ (List.range xs.length) [] _ _ ⟨none, rfl, rfl, rfl⟩ ?_
        · rintro done x rest ρ N ⟨v2, rfl, rfl, hdr⟩
          refine ⟨_, rfl, ?_⟩
          have hxl : x < xs.length := by
            have : x ∈ List.range xs.length := by rw [← hdr]; simp
            simpa using this
          have hs := ih xs[x] (hx _ (List.getElem_mem hxl)) n N
          have hs' : evF P wl (n + (k + 1)) (.fn "_law_same") [xs[x], xs[x]] N = some (.bl true, N) := hs
          dsimp only [List.set]
          rw [ok_ite]
          have t3 : truthR (evE ⟨P, evF P wl (n + (k + 1)), wl⟩ (.no (.call "_law_same" (.cons (.idx (.var 0) (.var 2)) (.cons (.idx (.var 1) (.var 2)) .nil)))) [some (.tup xs), some (.tup xs), some (.int (x : Int))] N) = some (false, N) := by
            simp [evE, evEs, idxD, pyIx_lt _ _ hxl, List.getElem?_eq_getElem hxl, hs', truthR, truth]
          rw [t3, ok_some, KI_f, ok_skip]
          exact ⟨_, rfl, rfl, by simp [hdr]⟩
        · rintro ρ N ⟨v2, rfl, rfl, _⟩
          rw [KS_nx, ok_ret]
          have e9 : ∀ (ρ : VEnv) (M : Mem), evE ⟨P, evF P wl (n + (k + 1)), wl⟩ (.bl true) ρ M = some (.bl true, M) := fun ρ M => by simp only [evE]
          rw [e9, ok_some, KR_, KS_rt, KG_rt, gc_bl0]
          exact ⟨rfl, rfl⟩
/-! ### how deep trees are -/
theorem Ex.keyA : ∀ (e : Ex) (n : Nat), e.dep < n → D.kk n e.toD = true
  | .num i, n + 1, _ => by cases n <;> simp [Ex.toD, D.kk, D.kks]
  | .cell i, n + 1, _ => by cases n <;> simp [Ex.toD, D.kk, D.kks]
  | .prop i, n + 1, _ => by cases n <;> simp [Ex.toD, D.kk, D.kks]
  | .store i, n + 1, _ => by cases n <;> simp [Ex.toD, D.kk, D.kks]
  | .index, n + 1, _ => by cases n <;> simp [Ex.toD, D.kk, D.kks]
  | .iff a b c, n + 1, h => by
    simp only [Ex.dep] at h
    have h1 := Ex.keyA a n (by omega)
    have h2 := Ex.keyA b n (by omega)
    have h3 := Ex.keyA c n (by omega)
    cases n <;> simp [Ex.toD, D.kk, D.kks, h1, h2, h3]
  | .bin k a b, n + 1, h => by
    simp only [Ex.dep] at h
    have h1 := Ex.keyA a n (by omega)
    have h2 := Ex.keyA b n (by omega)
    cases n <;> simp [Ex.toD, D.kk, D.kks, h1, h2]
  | _, 0, h => by omega
theorem keys_map {α : Type} (f : α → D) (n : Nat) : ∀ l : List α, (∀ x ∈ l, D.kk n (f x) = true) → D.kks n (l.map f) = true
  | [], _ => by cases n <;> rfl
  | x :: l, h => by simp [D.kks, h x List.mem_cons_self, keys_map f n l fun y hy => h y (List.mem_cons_of_mem _ hy)]
theorem key_key (k : Option Ex) (n : Nat) (h : ∀ e, k = some e → e.dep ≤ 1) : D.kk (n + 2) (keyD k) = true := by
  cases k with
  | none => rfl
  | some e => exact e.keyA _ (by have := h e rfl; omega)
theorem act_key (a : Option Nat) (n : Nat) : D.kk n (actD a) = true := by cases a <;> cases n <;> rfl
theorem toDs_short (cs : List Tm) (h : Tm.sizes cs < 1000000) : (Tm.toDs cs).length < 1000000 := by
  have := Tm.len_sizes cs
  rw [Tm.toDs_map, List.length_map]
  omega
mutual
theorem Tm.keyA {own last np : Nat} : ∀ (t : Tm) (n : Nat), t.ok own last np → 2 * t.dep + 5 ≤ n → t.size < 1000000 → D.kk n t.toD = true
  | .text s, n + 1, _, _, _ => by cases n <;> simp [Tm.toD, D.kk, D.kks]
  | .shw e, n + 1, h, hn, _ => by
    simp only [Tm.ok] at h
    have h1 := e.keyA n (by omega)
    cases n <;> simp [Tm.toD, D.kk, D.kks, h1]
  | .input s i, n + 1, _, _, _ => by cases n <;> simp [Tm.toD, D.kk, D.kks]
  | .part i, n + 1, _, _, _ => by cases n <;> simp [Tm.toD, D.kk, D.kks]
  | .child c k ps, n + 1, h, hn, hs => by
    obtain ⟨_, _, h1, h2, h9⟩ := h
    have h9' : ps.length < 1000000 := by omega
    obtain ⟨m, rfl⟩ : ∃ m, n = m + 3 := ⟨n - 3, by simp only [Tm.dep] at hn; omega⟩
    have h3 := key_key k (m + 1) h1
    have h4 : D.kks (m + 2) (ps.map Ex.toD) = true := keys_map _ _ _ fun e he => e.keyA _ (by have := h2 e he; omega)
    simp [Tm.toD, D.kk, D.kks, h3, h4, h9']
  | .box t k a cs, n + 1, h, hn, hs => by
    obtain ⟨h1, _, h2⟩ := h
    simp only [Tm.dep] at hn
    obtain ⟨m, rfl⟩ : ∃ m, n = m + 3 := ⟨n - 3, by omega⟩
    have h3 := key_key k (m + 1) h1
    simp only [Tm.size] at hs
    have h4 := Tm.keyAs cs (m + 2) h2 (by omega) (by omega)
    have hl := toDs_short cs (by omega)
    have h5 := act_key a (m + 3)
    simp [Tm.toD, D.kk, D.kks, h3, h4, h5, hl]
  | .whn e y z, n + 1, h, hn, hs => by
    obtain ⟨h1, h2, h3⟩ := h
    simp only [Tm.dep] at hn
    obtain ⟨m, rfl⟩ : ∃ m, n = m + 3 := ⟨n - 3, by omega⟩
    simp only [Tm.size] at hs
    have h4 := Tm.keyAs y (m + 2) h2 (by omega) (by omega)
    have h5 := Tm.keyAs z (m + 2) h3 (by omega) (by omega)
    have hl := toDs_short y (by omega)
    have hl2 := toDs_short z (by omega)
    have h6 := e.keyA (m + 3) (by omega)
    simp [Tm.toD, D.kk, D.kks, h4, h5, h6, hl, hl2]
  | .each e cs, n + 1, h, hn, hs => by
    obtain ⟨h1, h2⟩ := h
    simp only [Tm.dep] at hn
    obtain ⟨m, rfl⟩ : ∃ m, n = m + 3 := ⟨n - 3, by omega⟩
    simp only [Tm.size] at hs
    have h4 := Tm.keyAs cs (m + 2) h2 (by omega) (by omega)
    have hl := toDs_short cs (by omega)
    have h6 := e.keyA (m + 3) (by omega)
    simp [Tm.toD, D.kk, D.kks, h4, h6, hl]
  | _, 0, _, hn, _ => by omega
theorem Tm.keyAs {own last np : Nat} : ∀ (ts : List Tm) (n : Nat), Tm.oks own last np ts → 2 * Tm.deps ts + 5 ≤ n → Tm.sizes ts < 1000000 → D.kks n (Tm.toDs ts) = true
  | [], n, _, _, _ => by cases n <;> rfl
  | t :: ts, n, h, hn, hs => by
    simp only [Tm.deps] at hn
    simp only [Tm.sizes] at hs
    simp only [Tm.toDs, D.kks, Tm.keyA t n h.1 (by omega) (by omega), Tm.keyAs ts n h.2 (by omega) (by omega), Bool.and_self]
end
end
end Pw

end
section
set_option maxHeartbeats 4000000
/-! K00d: the law's own walk. -/
namespace Pw
def Rows (M : Mem) : List Nat → List Ent → Prop
  | [], [] => True
  | a :: as, e :: es => (∃ x, M[a]? = some (.lst [.tup e.1, e.2.1.toD, x])) ∧ Rows M as es
  | _, _ => False
theorem Rows.len {M : Mem} : ∀ {as : List Nat} {es : List Ent}, Rows M as es → as.length = es.length
  | [], [], _ => rfl
  | a :: as, e :: es, h => by simp [Rows.len h.2]
theorem Rows.app {M : Mem} : ∀ {as : List Nat} {es : List Ent} {as' : List Nat} {es' : List Ent}, Rows M as es → Rows M as' es' → Rows M (as ++ as') (es ++ es')
  | [], [], _, _, _, h2 => h2
  | a :: as, e :: es, _, _, h, h2 => ⟨h.1, Rows.app h.2 h2⟩
theorem Rows.keep {M M' : Mem} : ∀ {as : List Nat} {es : List Ent}, Rows M as es → (∀ a ∈ as, ∀ o, M[a]? = some o → M'[a]? = some o) → Rows M' as es
  | [], [], _, _ => trivial
  | a :: as, e :: es, h, k => ⟨let ⟨x, hx⟩ := h.1; ⟨x, k a List.mem_cons_self _ hx⟩, Rows.keep h.2 fun b hb => k b (List.mem_cons_of_mem _ hb)⟩
theorem Rows.mem {M : Mem} : ∀ {as : List Nat} {es : List Ent}, Rows M as es → ∀ a ∈ as, ∃ p t x, M[a]? = some (.lst [.tup p, t, x])
  | a :: as, e :: es, h, b, hb => by
    rcases List.mem_cons.mp hb with hb | hb
    · rw [hb]; obtain ⟨x, hx⟩ := h.1; exact ⟨_, _, _, hx⟩
    · exact Rows.mem h.2 b hb
theorem pre_keep {M N : Mem} (h : M <+: N) {i : Nat} {o : MO} (hi : M[i]? = some o) : N[i]? = some o := by
  obtain ⟨T, rfl⟩ := h
  rw [List.getElem?_append_left (List.getElem?_eq_some_iff.mp hi).1]
  exact hi
structure RSt (M N : Mem) (rr : Nat) (as : List Nat) (es : List Ent) : Prop where
  pre : M <+: N
  ge : M.length ≤ rr
  lst : N[rr]? = some (.lst (as.map D.ref))
  rows : Rows N as es
theorem RSt.ne {M N : Mem} {rr : Nat} {as : List Nat} {es : List Ent} (S : RSt M N rr as es) : ∀ a ∈ as, a ≠ rr := by
  intro a ha e
  obtain ⟨p, t, x, h⟩ := S.rows.mem a ha
  rw [e, S.lst] at h
  simp at h
  cases as with
  | nil => cases ha
  | cons b r => simp at h
def lT_sz (t : Tm) : Nat := t.size - 1
theorem lT_sz_len (t : Tm) (pl ar : List D) : (lT pl ar t).length = lT_sz t := by
  have := lT_len t pl ar
  unfold lT_sz
  omega
section
variable {P : Prog} {wl n : Nat} {M : Mem}
/-- what a call leaves of it -/
theorem RSt.gc {N : Mem} {rr : Nat} {as : List Nat} {es : List Ent} (S : RSt M N rr as es) : ∃ r M', gc M (.ref rr) N = (.ref r, M') ∧ RSt M M' r as es := by
  obtain ⟨T, rfl⟩ := S.pre
  unfold Pw.gc
  rw [if_pos (oldOk_app _ _ _), if_neg (by simp [D.bel]; exact S.ge)]
  simp only [S.lst]
  split
  · rename_i hb
    refine ⟨M.length, _, rfl, ⟨(by rw [List.take_left]; exact List.prefix_append _ _), Nat.le_refl _, by rw [List.take_left]; exact app_get, ?_⟩⟩
    rw [List.take_left]
    refine S.rows.keep fun a ha o h => ?_
    have hl : a < M.length := by
      have hbb : D.bels M.length (as.map D.ref) = true := hb
      clear hb
      have : ∀ l : List Nat, D.bels M.length (l.map D.ref) = true → ∀ a ∈ l, a < M.length := by
        intro l
        induction l with
        | nil => intro _ a ha; cases ha
        | cons b r ih =>
          intro h a ha
          simp only [List.map_cons, D.bels, D.bel, Bool.and_eq_true, decide_eq_true_eq] at h
          rcases List.mem_cons.mp ha with ha | ha
          · rw [ha]; exact h.1
          · exact ih h.2 a ha
      exact this as hbb a ha
    rw [List.getElem?_append_left hl] at h ⊢
    exact h
  · exact ⟨rr, _, rfl, S⟩
def LLSpec (P : Prog) (wl k : Nat) : Prop := ∀ (n : Nat) (cs : List Tm) (bf A : List D) (ar : Nat) (xs : List D) (M : Mem), Tm.deps cs ≤ k → Tm.sizes cs ≤ 1000 → bf.length + 2 * k + 2 ≤ 1000 → M[ar]? = some (.lst xs) → xs.length + k ≤ 1000 →
  ∃ r M' as, evF P wl (n + k + 1) (.fn "_law_listed") [.tup (Tm.toDs cs), .tup bf, .ref ar] M = some (.ref r, M') ∧ RSt M M' r as (lC 0 cs bf A)
abbrev catS (e1 e2 : E) (s : String) : S := .asg (.name 3) (.bin .add (.var 3) (.call "_law_listed" (.cons e1 (.cons e2 (.cons (.bin .add (.var 2) (.lst (.cons (.str s) .nil))) .nil)))))
abbrev ρW (csd bf : List D) (ar rr : Nat) (v4 v5 v6 : Option D) : VEnv := [some (.tup csd), some (.tup bf), some (.ref ar), some (.ref rr), v4, v5, v6]
theorem cat_run {k f : Nat} (n : Nat) (ih : LLSpec P wl k) (hf : f = n + k + 1) {csd bf : List D} {ar rr : Nat} {v4 v5 v6 : Option D} {N : Mem} {as : List Nat} {es : List Ent} {xs : List D} (S : RSt M N rr as es) (har : M[ar]? = some (.lst xs)) {e1 e2 : E} {s : String} {cs : List Tm} {pl A : List D}
    (h1 : ∀ N, evE ⟨P, evF P wl f, wl⟩ e1 (ρW csd bf ar rr v4 v5 v6) N = some (.tup (Tm.toDs cs), N)) (h2 : ∀ N, evE ⟨P, evF P wl f, wl⟩ e2 (ρW csd bf ar rr v4 v5 v6) N = some (.tup pl, N))
    (hd : Tm.deps cs ≤ k) (hs : Tm.sizes cs ≤ 1000) (hpl : pl.length + 2 * k + 2 ≤ 1000) (hx : xs.length + k + 1 ≤ 1000) (hes : es.length ≤ 1000) :
    ∃ N' rr' as', evS ⟨P, evF P wl f, wl⟩ (catS e1 e2 s) (ρW csd bf ar rr v4 v5 v6) N = some (.nx (ρW csd bf ar rr' v4 v5 v6), N') ∧ RSt M N' rr' as' (es ++ lC 0 cs pl A) := by
  subst hf
  have hl1 : (1000 : Nat) ≤ LIM := by decide
  have harN := pre_keep S.pre har
  have e3 : evE ⟨P, evF P wl (n + k + 1), wl⟩ (.bin .add (.var 2) (.lst (.cons (.str s) .nil))) (ρW csd bf ar rr v4 v5 v6) N = some (.ref (N.length + 1), N ++ [MO.lst [.str s], MO.lst (xs ++ [.str s])]) := by
    have a1 : (N ++ [MO.lst [D.str s]])[ar]? = some (.lst xs) := by rw [List.getElem?_append_left (List.getElem?_eq_some_iff.mp harN).1]; exact harN
    have a2 : (N ++ [MO.lst [D.str s]])[N.length]? = some (.lst [.str s]) := app_get
    have a3 : xs.length + 1 ≤ LIM := by omega
    simp [evE, evEs, ρW, binD, a1, a3]
  have hN2 : (N ++ [MO.lst [.str s], MO.lst (xs ++ [.str s])])[N.length + 1]? = some (.lst (xs ++ [.str s])) := by
    rw [List.getElem?_append_right (by omega)]; simp
  obtain ⟨r, N3, as', hcall, S3⟩ := ih n cs pl A (N.length + 1) (xs ++ [.str s]) (N ++ [MO.lst [.str s], MO.lst (xs ++ [.str s])]) hd hs hpl hN2 (by rw [List.length_append]; simp; omega)
  have pre3 : N <+: N3 := List.IsPrefix.trans (List.prefix_append _ _) S3.pre
  have hrr3 := pre_keep pre3 S.lst
  have hlen : (as.map D.ref).length + (as'.map D.ref).length ≤ LIM := by
    have l1 := S.rows.len
    have l2 := S3.rows.len
    rw [lC_len] at l2
    rw [List.length_map, List.length_map]
    exact Nat.le_trans (by omega : as.length + as'.length ≤ 2000) (by decide)
  refine ⟨N3 ++ [MO.lst (as.map D.ref ++ as'.map D.ref)], N3.length, as ++ as', ?_, ⟨List.IsPrefix.trans (List.IsPrefix.trans S.pre pre3) (List.prefix_append _ _), ?_, ?_, ?_⟩⟩
  · have eb : ∀ op a b ρ (M : Mem), evE ⟨P, evF P wl (n + k + 1), wl⟩ (.bin op a b) ρ M = bnd (evE ⟨P, evF P wl (n + k + 1), wl⟩ a ρ M) fun x M => bnd (evE ⟨P, evF P wl (n + k + 1), wl⟩ b ρ M) fun y M => binD M op x y := fun op a b ρ M => by simp only [evE]
    unfold catS
    rw [evS_asg', eb, evE_var' _ 3 _ _ (.ref rr) rfl, bnd_some, evE_call', evEs_cons', h1, bnd_some, evEs_cons', h2, bnd_some, evEs_cons', e3, bnd_some, evEs_nil', bnd_some, bnd_some, bnd_some, bnd_some]
    show bnd (bnd (evF P wl (n + k + 1) (.fn "_law_listed") _ _) _) _ = _
    rw [hcall, bnd_some]
    simp only [binD, hrr3, S3.lst]
    rw [if_pos hlen, bnd_some]
    rfl
  · have := S.pre.length_le
    have := pre3.length_le
    omega
  · rw [List.map_append]; exact app_get
  · refine Rows.app ?_ ?_
    · exact S.rows.keep fun a _ o h => by
        have := pre_keep pre3 h
        rw [List.getElem?_append_left (List.getElem?_eq_some_iff.mp this).1]
        exact this
    · exact S3.rows.keep fun a _ o h => by rw [List.getElem?_append_left (List.getElem?_eq_some_iff.mp h).1]; exact h
theorem llisted_body : F.L_listed.body = (.seq (.asg (.name 3) (.lst .nil))
  (.seq (.for (.name 4) (.range (.cons (.bi .len (.cons (.var 0) .nil)) .nil))
  (.seq (.asg (.name 5) (.idx (.var 0) (.var 4)))
  (.seq (.asg (.name 6) (.bin .add (.var 1) (.tup (.cons (.var 4) .nil))))
  (.seq (.expr (.bm .append (.var 3) (.cons (.lst (.cons (.var 6) (.cons (.var 5) (.cons (.var 2) .nil)))) .nil)))
  (.ite (.cmp .eq (.idx (.var 5) (.int (0))) (.str "box"))
  (catS (.idx (.var 5) (.int (4))) (.var 6) "box")
  (.ite (.cmp .eq (.idx (.var 5) (.int (0))) (.str "each"))
  (catS (.idx (.var 5) (.int (2))) (.var 6) "each")
  (.ite (.cmp .eq (.idx (.var 5) (.int (0))) (.str "when"))
  (.seq (catS (.idx (.var 5) (.int (2))) (.bin .add (.var 6) (.tup (.cons (.int (0)) .nil))) "when")
  (catS (.idx (.var 5) (.int (3))) (.bin .add (.var 6) (.tup (.cons (.int (1)) .nil))) "when"))
  .skip)))))))
  (.ret (.var 3)))) := rfl
theorem llisted_run (hf : P.fdef (.fn "_law_listed") = some F.L_listed) : ∀ k, LLSpec P wl k := by
  intro k
  induction k with
  | zero => exact aux hf 0 (.inl rfl)
  | succ k ih => exact aux hf (k + 1) (.inr ⟨k, rfl, ih⟩)
where
  aux {P : Prog} {wl : Nat} (hf : P.fdef (.fn "_law_listed") = some F.L_listed) (k : Nat) (ih : k = 0 ∨ ∃ k', k = k' + 1 ∧ LLSpec P wl k') : LLSpec P wl k := by
    intro n cs bf A ar xs M hd hs hbf har hxl
    have l1000 : (1000 : Nat) ≤ LIM := by decide
    suffices h : ok (evF P wl (n + k + 1) (.fn "_law_listed") [.tup (Tm.toDs cs), .tup bf, .ref ar] M) fun x M' => ∃ r as, x = .ref r ∧ RSt M M' r as (lC 0 cs bf A) by
      obtain ⟨x, M', e, r, as, rfl, S⟩ := h
      exact ⟨r, M', as, e, S⟩
    refine ok_call (n := n + k) hf rfl ?_
    have e0 : (List.map some [D.tup (Tm.toDs cs), .tup bf, .ref ar] ++ List.replicate (F.L_listed.slots - F.L_listed.params) none : VEnv) = [some (.tup (Tm.toDs cs)), some (.tup bf), some (.ref ar), none, none, none, none] := rfl
    rw [e0, llisted_body, ok_seq, ok_asg]
    have e1 : ∀ ρ, evE ⟨P, evF P wl (n + k), wl⟩ (.lst .nil) ρ M = some (.ref M.length, M ++ [MO.lst []]) := fun ρ => by simp [evE, evEs]
    rw [e1, ok_some, KA_, KS_nx, ok_seq, ok_forS]
    dsimp only [List.set]
    have hcl : (Tm.toDs cs).length = cs.length := by rw [Tm.toDs_map, List.length_map]
    have hcs := Tm.len_sizes cs
    rw [evIt_rng1 (d := .int (cs.length : Int)) (by simp [evE, evEs, biD, lenD, hcl]; rfl) (rgN cs.length (by omega)), ok_some]
    unfold KF
    dsimp only
    refine forL_wp (g := []) (fun k : Nat => D.int (k : Int)) (fun done rest ρ N => ∃ (rr : Nat) (as : List Nat) (v4 v5 v6 : Option D), ρ = ρW (Tm.toDs cs) bf ar rr v4 v5 v6 ∧ RSt M N rr as (lC 0 (cs.take done.length) bf A) ∧ done ++ rest = List.range cs.length)
      (fun _ _ _ _ _ => rfl) ?_ (List.range cs.length) [] _ _ ⟨M.length, [], none, none, none, rfl, ⟨List.prefix_append _ _, Nat.le_refl _, app_get, trivial⟩, rfl⟩ ?_
    · rintro done x rest ρ N ⟨rr, as, v4, v5, v6, rfl, S, hdr⟩
      have hx : x = done.length ∧ x < cs.length := by
        have : (done ++ x :: rest)[done.length]? = some x := by rw [List.getElem?_append_right (Nat.le_refl _)]; simp
        rw [hdr] at this
        obtain ⟨z1, z2⟩ := List.getElem?_eq_some_iff.mp this
        simp at z1 z2
        omega
      obtain ⟨hxd, hxl2⟩ := hx
      obtain ⟨t, ht⟩ : ∃ t, cs[x]? = some t := ⟨cs[x], List.getElem?_eq_getElem hxl2⟩
      have htD : (Tm.toDs cs)[x]? = some t.toD := by rw [Tm.toDs_map, List.getElem?_map, ht]; rfl
      have htm := List.mem_of_getElem? ht
      have hsz := sizes_mem htm
      have hdp := deps_mem htm
      refine ⟨ρW (Tm.toDs cs) bf ar rr (some (.int (x : Int))) v5 v6, rfl, ?_⟩
      rw [ok_seq, ok_asg]
      have e2 : ∀ N, evE ⟨P, evF P wl (n + k), wl⟩ (.idx (.var 0) (.var 4)) (ρW (Tm.toDs cs) bf ar rr (some (.int (x : Int))) v5 v6) N = some (t.toD, N) := fun N => by
        simp [evE, ρW, idxD, pyIx_lt _ _ (by rw [hcl]; exact hxl2 : x < (Tm.toDs cs).length), htD]
      rw [e2, ok_some, KA_, KS_nx, ok_seq, ok_asg]
      dsimp only [ρW, List.set]
      generalize hpl : bf ++ [D.int (x : Int)] = pl
      have hpll : pl.length = bf.length + 1 := by rw [← hpl]; simp
      have e3 : ∀ N, evE ⟨P, evF P wl (n + k), wl⟩ (.bin .add (.var 1) (.tup (.cons (.var 4) .nil))) [some (.tup (Tm.toDs cs)), some (.tup bf), some (.ref ar), some (.ref rr), some (.int (x : Int)), some t.toD, v6] N = some (.tup pl, N) := fun N => by
        have : bf.length + 1 ≤ LIM := by omega
        simp [evE, evEs, binD, this, hpl]
      rw [e3, ok_some, KA_, KS_nx, ok_seq, ok_expr]
      dsimp only [List.set]
      have hasl : as.length ≤ 1000 := by
        have h1 := S.rows.len
        rw [lC_len] at h1
        have h2 : Tm.sizes (cs.take done.length) ≤ Tm.sizes cs := by
          conv => rhs; rw [← List.take_append_drop done.length cs, Tm.sizes_app]
          omega
        omega
      have hN1 : (N ++ [MO.lst [.tup pl, t.toD, .ref ar]])[rr]? = some (.lst (as.map D.ref)) := by rw [List.getElem?_append_left (List.getElem?_eq_some_iff.mp S.lst).1]; exact S.lst
      have e4 : evE ⟨P, evF P wl (n + k), wl⟩ (.bm .append (.var 3) (.cons (.lst (.cons (.var 6) (.cons (.var 5) (.cons (.var 2) .nil)))) .nil)) [some (.tup (Tm.toDs cs)), some (.tup bf), some (.ref ar), some (.ref rr), some (.int (x : Int)), some t.toD, some (.tup pl)] N =
          some (.non, (N ++ [MO.lst [.tup pl, t.toD, .ref ar]]).set rr (.lst ((as ++ [N.length]).map D.ref))) := by
        have hL : as.length < LIM := Nat.lt_of_le_of_lt hasl (by decide)
        have hl := S.lst
        simp [evE, evEs, recvOk, hl, bmD, hN1, hL]
      rw [e4, ok_some, KX_, KS_nx]
      have hrl := (List.getElem?_eq_some_iff.mp S.lst).1
      have S1 : RSt M ((N ++ [MO.lst [.tup pl, t.toD, .ref ar]]).set rr (.lst ((as ++ [N.length]).map D.ref))) rr (as ++ [N.length]) (lC 0 (cs.take done.length) bf A ++ [(pl, t, A)]) := by
        obtain ⟨T, hT⟩ := S.pre
        refine ⟨?_, S.ge, List.getElem?_set_self (by simp; omega), Rows.app ?_ ⟨⟨.ref ar, ?_⟩, trivial⟩⟩
        · rw [← hT, List.append_assoc, List.set_append_right _ _ S.ge]
          exact List.prefix_append _ _
        · refine S.rows.keep fun a ha o h => ?_
          rw [List.getElem?_set_ne (Ne.symm (S.ne a ha)), List.getElem?_append_left (List.getElem?_eq_some_iff.mp h).1]
          exact h
        · rw [List.getElem?_set_ne (by omega)]
          exact app_get
      generalize (N ++ [MO.lst [.tup pl, t.toD, .ref ar]]).set rr (.lst ((as ++ [N.length]).map D.ref)) = N1 at S1
      have hsnoc : lC 0 (cs.take (done ++ [x]).length) bf A = lC 0 (cs.take done.length) bf A ++ [(pl, t, A)] ++ lT pl A t := by
        rw [List.length_append, List.length_singleton, List.take_add_one, ← hxd, ht]
        rw [Option.toList_some, lC_snoc]
        have hlen : (cs.take x).length = x := by rw [List.length_take]; omega
        rw [hlen, Nat.zero_add]
        simp only [lC, hpl, List.append_nil, List.append_assoc, List.cons_append, List.nil_append]
      have hes : (lC 0 (cs.take done.length) bf A ++ [(pl, t, A)]).length + lT_sz t ≤ 1000 := by
        have h2 : Tm.sizes (cs.take (done ++ [x]).length) ≤ Tm.sizes cs := by
          conv => rhs; rw [← List.take_append_drop (done ++ [x]).length cs, Tm.sizes_app]
          omega
        have h3 := lC_len (cs.take (done ++ [x]).length) 0 bf A
        rw [hsnoc, List.length_append, lT_sz_len t pl A] at h3
        omega
      -- the test of the kind
      obtain ⟨hr, hhr⟩ := toD_head t
      have ct : ∀ (s : String) (N : Mem), truthR (evE ⟨P, evF P wl (n + k), wl⟩ (.cmp .eq (.idx (.var 5) (.int (0))) (.str s)) [some (.tup (Tm.toDs cs)), some (.tup bf), some (.ref ar), some (.ref rr), some (.int (x : Int)), some t.toD, some (.tup pl)] N) = some (decide (headS t = s), N) := fun s N => by
        rw [hhr]
        simp [evE, idxD, pyIx, cmpD, eqD_s, truthR, truth]
      have fin : ∀ {o : Out} {N' : Mem}, (∃ N2 rr' as', o = .nx (ρW (Tm.toDs cs) bf ar rr' (some (.int (x : Int))) (some t.toD) (some (.tup pl))) ∧ N' = N2 ∧ RSt M N2 rr' as' (lC 0 (cs.take done.length) bf A ++ [(pl, t, A)] ++ lT pl A t)) → (match o with
          | .nx ρ2 => (fun done rest ρ N => ∃ (rr : Nat) (as : List Nat) (v4 v5 v6 : Option D), ρ = ρW (Tm.toDs cs) bf ar rr v4 v5 v6 ∧ RSt M N rr as (lC 0 (cs.take done.length) bf A) ∧ done ++ rest = List.range cs.length) (done ++ [x]) rest ρ2 N'
          | _ => False) := by
        rintro o N' ⟨N2, rr', as', rfl, rfl, S2⟩
        refine ⟨rr', as', _, _, _, rfl, ?_, by simp [hdr]⟩
        rw [hsnoc]
        exact S2
      rw [ok_ite, ct, ok_some]
      refine KI_b (fun h => ?_) fun hn1 => ?_
      · cases t with
        | box tg ky ac cs' =>
          simp only [Tm.dep] at hdp
          simp only [Tm.size] at hsz
          obtain ⟨k', rfl, ih'⟩ : ∃ k', k = k' + 1 ∧ LLSpec P wl k' := ih.resolve_left (by omega)
          obtain ⟨N', rr', as', e, S2⟩ := cat_run (M := M) (P := P) (wl := wl) (f := n + (k' + 1)) (v4 := some (.int (x : Int))) (v5 := some (Tm.box tg ky ac cs').toD) (v6 := some (.tup pl)) n ih' (by omega) (csd := Tm.toDs cs) (bf := bf) S1 har (e1 := .idx (.var 5) (.int (4))) (e2 := .var 6) (s := "box") (cs := cs') (pl := pl) (A := A ++ [.str "box"])
            (fun N => by simp [evE, ρW, Tm.toD, idxD, pyIx]) (fun N => by simp [evE, ρW]) (by omega) (by omega) (by omega) (by omega) (by omega)
          exact ⟨_, _, e, fin ⟨_, _, _, rfl, rfl, S2⟩⟩
        | _ => simp [headS] at h
      rw [ok_ite, ct, ok_some]
      refine KI_b (fun h => ?_) fun hn2 => ?_
      · cases t with
        | each ex cs' =>
          simp only [Tm.dep] at hdp
          simp only [Tm.size] at hsz
          obtain ⟨k', rfl, ih'⟩ : ∃ k', k = k' + 1 ∧ LLSpec P wl k' := ih.resolve_left (by omega)
          obtain ⟨N', rr', as', e, S2⟩ := cat_run (M := M) (P := P) (wl := wl) (f := n + (k' + 1)) (v4 := some (.int (x : Int))) (v5 := some (Tm.each ex cs').toD) (v6 := some (.tup pl)) n ih' (by omega) (csd := Tm.toDs cs) (bf := bf) S1 har (e1 := .idx (.var 5) (.int (2))) (e2 := .var 6) (s := "each") (cs := cs') (pl := pl) (A := A ++ [.str "each"])
            (fun N => by simp [evE, ρW, Tm.toD, idxD, pyIx]) (fun N => by simp [evE, ρW]) (by omega) (by omega) (by omega) (by omega) (by omega)
          exact ⟨_, _, e, fin ⟨_, _, _, rfl, rfl, S2⟩⟩
        | _ => simp [headS] at h
      rw [ok_ite, ct, ok_some]
      refine KI_b (fun h => ?_) fun hn3 => ?_
      · cases t with
        | whn ex y z =>
          simp only [Tm.dep] at hdp
          simp only [Tm.size] at hsz
          have hes2 : (lC 0 (cs.take done.length) bf A ++ [(pl, Tm.whn ex y z, A)]).length + (Tm.sizes y + Tm.sizes z) ≤ 1000 := by
            simp only [lT_sz, Tm.size] at hes
            omega
          obtain ⟨k', rfl, ih'⟩ : ∃ k', k = k' + 1 ∧ LLSpec P wl k' := ih.resolve_left (by omega)
          have hp1 : pl.length + 1 ≤ LIM := by omega
          obtain ⟨N', rr', as', e, S2⟩ := cat_run (M := M) (P := P) (wl := wl) (f := n + (k' + 1)) (v4 := some (.int (x : Int))) (v5 := some (Tm.whn ex y z).toD) (v6 := some (.tup pl)) n ih' (by omega) (csd := Tm.toDs cs) (bf := bf) S1 har (e1 := .idx (.var 5) (.int (2))) (e2 := .bin .add (.var 6) (.tup (.cons (.int (0)) .nil))) (s := "when") (cs := y) (pl := pl ++ [.int 0]) (A := A ++ [.str "when"])
            (fun N => by simp [evE, ρW, Tm.toD, idxD, pyIx]) (fun N => by simp [evE, evEs, ρW, binD, hp1]) (by omega) (by omega) (by rw [List.length_append]; simp; omega) (by omega) (by omega)
          obtain ⟨N2, rr2, as2, e2', S3⟩ := cat_run (M := M) (P := P) (wl := wl) (f := n + (k' + 1)) (v4 := some (.int (x : Int))) (v5 := some (Tm.whn ex y z).toD) (v6 := some (.tup pl)) n ih' (by omega) (csd := Tm.toDs cs) (bf := bf) S2 har (e1 := .idx (.var 5) (.int (3))) (e2 := .bin .add (.var 6) (.tup (.cons (.int (1)) .nil))) (s := "when") (cs := z) (pl := pl ++ [.int 1]) (A := A ++ [.str "when"])
            (fun N => by simp [evE, ρW, Tm.toD, idxD, pyIx]) (fun N => by simp [evE, evEs, ρW, binD, hp1]) (by omega) (by omega) (by rw [List.length_append]; simp; omega) (by omega) (by rw [List.length_append, lC_len]; omega)
          rw [ok_seq]
          refine ok_evS e ?_
          rw [KS_nx]
          refine ⟨_, _, e2', fin ⟨N2, rr2, as2, rfl, rfl, ?_⟩⟩
          simp only [lT]
          rw [← List.append_assoc]
          exact S3
        | _ => simp [headS] at h
      rw [ok_skip]
      refine fin ⟨N1, rr, as ++ [N.length], rfl, rfl, ?_⟩
      have : lT pl A t = [] := by
        cases t <;> first | rfl | (exfalso; simp [headS] at hn1; done) | (exfalso; simp [headS] at hn2; done) | (exfalso; simp [headS] at hn3; done)
      rw [this, List.append_nil]
      exact S1
    · rintro ρ N ⟨rr, as, v4, v5, v6, rfl, S, hdr⟩
      rw [KS_nx, ok_ret, evE_var' _ 3 _ _ (.ref rr) rfl, ok_some, KR_, KG_rt]
      obtain ⟨r, M', e, S'⟩ := S.gc
      rw [e]
      refine ⟨r, as, rfl, ?_⟩
      have : cs.take ([] ++ List.range cs.length).length = cs := by simp
      rw [this] at S'
      exact S'
end
end Pw

end
section
set_option maxHeartbeats 4000000
/-! K00e: the law. -/
namespace Pw
theorem Rows.zip {M : Mem} : ∀ {as : List Nat} {es : List Ent}, Rows M as es → (∀ p ∈ as.zip es, ∃ x, M[p.1]? = some (.lst [.tup p.2.1, p.2.2.1.toD, x])) ∧ (as.zip es).map (·.1) = as ∧ (as.zip es).map (·.2) = es
  | [], [], _ => ⟨(fun p hp => by cases hp), rfl, rfl⟩
  | a :: as, e :: es, h => by
    obtain ⟨h1, h2, h3⟩ := Rows.zip h.2
    refine ⟨fun p hp => ?_, by simp [h2], by simp [h3]⟩
    rcases List.mem_cons.mp hp with hp | hp
    · rw [hp]; exact h.1
    · exact h1 p hp
/-- what is so of each entry -/
structure EOk (own last np L d s : Nat) (e : Ent) : Prop where
  pl : e.1.length ≤ L
  pi : ∀ x ∈ e.1, ∃ i : Int, x = .int i
  ok : e.2.1.ok own last np
  dep : e.2.1.dep ≤ d
  size : e.2.1.size ≤ s
theorem EOk.mono {own last np L d s L' d' s' : Nat} {e : Ent} (h : EOk own last np L d s e) (h1 : L ≤ L') (h2 : d ≤ d') (h3 : s ≤ s') : EOk own last np L' d' s' e := ⟨by have := h.pl; omega, h.pi, h.ok, by have := h.dep; omega, by have := h.size; omega⟩
theorem ints_snoc {bf : List D} {i : Int} (h : ∀ x ∈ bf, ∃ i : Int, x = .int i) : ∀ x ∈ bf ++ [D.int i], ∃ i : Int, x = .int i := fun x hx => by
  rcases List.mem_append.mp hx with hx | hx
  · exact h x hx
  · rw [List.mem_singleton.mp hx]; exact ⟨i, rfl⟩
mutual
theorem lT_ok {own last np : Nat} : ∀ (t : Tm) (pl ar : List D), t.ok own last np → (∀ x ∈ pl, ∃ i : Int, x = .int i) → ∀ e ∈ lT pl ar t, EOk own last np (pl.length + 2 * t.dep) t.dep t.size e
  | .text _, _, _, _, _, e, he => by cases he
  | .shw _, _, _, _, _, e, he => by cases he
  | .input _ _, _, _, _, _, e, he => by cases he
  | .part _, _, _, _, _, e, he => by cases he
  | .child _ _ _, _, _, _, _, e, he => by cases he
  | .box _ _ _ cs, pl, ar, h, hp, e, he => by
    simp only [lT] at he
    exact (lC_ok cs 0 pl _ h.2.2 hp e he).mono (by simp only [Tm.dep]; omega) (by simp only [Tm.dep]; omega) (by simp only [Tm.size]; omega)
  | .each _ cs, pl, ar, h, hp, e, he => by
    simp only [lT] at he
    exact (lC_ok cs 0 pl _ h.2 hp e he).mono (by simp only [Tm.dep]; omega) (by simp only [Tm.dep]; omega) (by simp only [Tm.size]; omega)
  | .whn _ y z, pl, ar, h, hp, e, he => by
    simp only [lT] at he
    rcases List.mem_append.mp he with he | he
    · exact (lC_ok y 0 _ _ h.2.1 (ints_snoc hp) e he).mono (by simp only [Tm.dep, List.length_append, List.length_singleton]; omega) (by simp only [Tm.dep]; omega) (by simp only [Tm.size]; omega)
    · exact (lC_ok z 0 _ _ h.2.2 (ints_snoc hp) e he).mono (by simp only [Tm.dep, List.length_append, List.length_singleton]; omega) (by simp only [Tm.dep]; omega) (by simp only [Tm.size]; omega)
theorem lC_ok {own last np : Nat} : ∀ (cs : List Tm) (k : Nat) (pl ar : List D), Tm.oks own last np cs → (∀ x ∈ pl, ∃ i : Int, x = .int i) → ∀ e ∈ lC k cs pl ar, EOk own last np (pl.length + 2 * Tm.deps cs + 1) (Tm.deps cs) (Tm.sizes cs) e
  | [], _, _, _, _, _, e, he => by cases he
  | t :: ts, k, pl, ar, h, hp, e, he => by
    simp only [lC] at he
    rcases List.mem_cons.mp he with he | he
    · rw [he]
      exact ⟨by simp, ints_snoc hp, h.1, by simp only [Tm.deps]; omega, by simp only [Tm.sizes]; omega⟩
    · rcases List.mem_append.mp he with he | he
      · exact (lT_ok t _ ar h.1 (ints_snoc hp) e he).mono (by simp only [Tm.deps, List.length_append, List.length_singleton]; omega) (by simp only [Tm.deps]; omega) (by simp only [Tm.sizes]; omega)
      · exact (lC_ok ts (k + 1) pl ar h.2 hp e he).mono (by simp only [Tm.deps]; omega) (by simp only [Tm.deps]; omega) (by simp only [Tm.sizes]; omega)
end
def pairD (e : Ent) : D := .tup [.tup e.1, e.2.1.toD]
theorem pairD_kk {own last np : Nat} {e : Ent} (h : EOk own last np 100 3 1000 e) : D.kk 14 (pairD e) = true := by
  have h1 := Tm.keyA e.2.1 13 h.ok (by have := h.dep; omega) (by have := h.size; omega)
  have h2 : e.1.length < 1000000 := by have := h.pl; omega
  have h3 : D.kks 12 e.1 = true := by
    have : ∀ l : List D, (∀ x ∈ l, ∃ i : Int, x = .int i) → D.kks 12 l = true := by
      intro l
      induction l with
      | nil => intro _; rfl
      | cons x r ih =>
        intro h
        obtain ⟨i, rfl⟩ := h x List.mem_cons_self
        simp [D.kks, D.kk, ih fun y hy => h y (List.mem_cons_of_mem _ hy)]
    exact this _ h.pi
  simp [pairD, D.kk, D.kks, h1, h2, h3]
section
variable {P : Prog} {wl n : Nat} {M : Mem}
abbrev dueE : E := (.coll .tuple (.cons (.lcomp (.for1 [6] (.name 6) (.cons (.call "_law_listed" (.cons (.idx (.var 3) (.int (2))) (.cons (.tup .nil) (.cons (.lst .nil) .nil)))) .nil) (.bl true) (.cons (.tup (.cons (.idx (.var 6) (.int (0))) (.cons (.idx (.var 6) (.int (1))) .nil))) .nil))) .nil))
theorem due_ev (hf : P.fdef (.fn "_law_listed") = some F.L_listed) (n : Nat) (cm : Cm) (hd : Tm.deps cm.cs ≤ 3) (hs : Tm.sizes cm.cs ≤ 100) (v1 v2 v4 v5 v6 : Option D) (v0 : Option D) :
    ∃ M', evE ⟨P, evF P wl (n + 4), wl⟩ dueE [v0, v1, v2, some cm.toD, v4, v5, v6] M = some (.tup ((lC 0 cm.cs [] []).map pairD), M') := by
  obtain ⟨r, M1, as, hcall, S⟩ := llisted_run (P := P) (wl := wl) hf 3 n cm.cs [] [] M.length [] (M ++ [MO.lst []]) hd (by omega) (by simp) app_get (by simp)
  obtain ⟨z1, z2, z3⟩ := S.rows.zip
  have ei : evIt ⟨P, evF P wl (n + 4), wl⟩ (.cons (.call "_law_listed" (.cons (.idx (.var 3) (.int (2))) (.cons (.tup .nil) (.cons (.lst .nil) .nil)))) .nil) [v0, v1, v2, some cm.toD, v4, v5, v6] M = some ((as.map D.ref, [(r, .lst (as.map D.ref))]), M1) := by
    refine evIt_seq (d := .ref r) ?_ (by simp [itemsD, S.lst])
    have hcall' : evF P wl (n + 4) (.fn "_law_listed") [.tup (Tm.toDs cm.cs), .tup [], .ref M.length] (M ++ [MO.lst []]) = some (.ref r, M1) := hcall
    simp [evE, evEs, Cm.toD, idxD, pyIx, hcall']
  have tr := turns_map (g := [(r, .lst (as.map D.ref))]) (p := .name 6) (c := fun ρ M => truthR (evE ⟨P, evF P wl (n + 4), wl⟩ (.bl true) ρ M)) (b := fun ρ M => evEs ⟨P, evF P wl (n + 4), wl⟩ (.cons (.tup (.cons (.idx (.var 6) (.int (0))) (.cons (.idx (.var 6) (.int (1))) .nil))) .nil) ρ M)
    (ρ := [v0, v1, v2, some cm.toD, v4, v5, none]) (M := M1) (fun p : Nat × Ent => D.ref p.1) (fun _ => true) (fun p => pairD p.2) (still_one' S.lst) (as.zip (lC 0 cm.cs [] [])) (by
      intro p hp
      obtain ⟨x, hx⟩ := z1 p hp
      exact ⟨[v0, v1, v2, some cm.toD, v4, v5, some (.ref p.1)], rfl, by simp [evE, truthR, truth], fun _ => by simp [evE, evEs, idxD, hx, pyIx, pairD]⟩)
  have hff : (as.zip (lC 0 cm.cs [] [])).filter (fun _ => true) = as.zip (lC 0 cm.cs [] []) := by simp
  rw [hff] at tr
  have m1 : (as.zip (lC 0 cm.cs [] [])).map (fun p => D.ref p.1) = as.map D.ref := by
    rw [show (fun p : Nat × Ent => D.ref p.1) = D.ref ∘ (·.1) from rfl, ← List.map_map, z2]
  have m2 : (as.zip (lC 0 cm.cs [] [])).map (fun p => pairD p.2) = (lC 0 cm.cs [] []).map pairD := by
    rw [show (fun p : Nat × Ent => pairD p.2) = pairD ∘ (·.2) from rfl, ← List.map_map, z3]
  rw [m1, m2] at tr
  refine ⟨M1 ++ [MO.lst ((lC 0 cm.cs [] []).map pairD)], ?_⟩
  rw [evE_tupleOf', evE_lcomp', evEs_for1', ei, bnd_some]
  have hw : wipeE ([v0, v1, v2, some cm.toD, v4, v5, v6] : VEnv) [6] = [v0, v1, v2, some cm.toD, v4, v5, none] := rfl
  rw [hw]
  dsimp only
  rw [tr, bnd_some, if_pos (by rw [List.length_map, lC_len]; exact Nat.le_trans hs (by decide)), bnd_some]
  simp [itemsD]
end
theorem law00_body : F.law_k00.body = (.seq (.asg (.name 1) (.call "_law_box" (.cons (.var 0) (.cons (.int (0)) (.cons (.int (63)) .nil)))))
  (.seq (.asg (.name 2) (.call "_law_program" (.cons (.var 1) .nil)))
  (.seq (.for (.name 3) (.cons (.idx (.var 2) (.int (1))) .nil)
  (.seq (.asg (.name 4) dueE)
  (.seq (.ite (.no (.call "_law_same" (.cons (.call "templates" (.cons (.idx (.var 3) (.int (2))) .nil)) (.cons (.var 4) .nil))))
  (.ret (.bl false))
  .skip)
  (.for (.name 5) (.cons (.var 4) .nil)
  (.ite (.no (.call "_law_same" (.cons (.idx (.call "templates" (.cons (.tup (.cons (.idx (.var 5) (.int (1))) .nil)) .nil)) (.int (0))) (.cons (.tup (.cons (.tup (.cons (.int (0)) .nil)) (.cons (.idx (.var 5) (.int (1))) .nil))) .nil))))
  (.ret (.bl false))
  .skip)))))
  (.ret (.bl true))))) := rfl
theorem tmplD_pair (es : List Ent) : tmplD es = .tup (es.map pairD) := rfl
theorem k00_run (ns : List Int) (n : Nat) : ∃ M, evF (prog_k00 ns) wl_k00 (n + 40) (.fn "law") [.scr] [] = some (.bl true, M) := by
  have f1 : (prog_k00 ns).fdef (.fn "_law_box") = some F.L_box := rfl
  have f2 : (prog_k00 ns).fdef (.fn "_law_digits") = some F.L_digits := rfl
  have f3 : (prog_k00 ns).fdef (.fn "_law_cell") = some F.L_cell := rfl
  have g : GenF (prog_k00 ns) := ⟨rfl, rfl, rfl, rfl, rfl, rfl⟩
  have f4 : (prog_k00 ns).fdef (.fn "_law_program") = some F.L_program := rfl
  have f5 : (prog_k00 ns).fdef (.fn "_law_same") = some F.L_same := rfl
  have f6 : (prog_k00 ns).fdef (.fn "_law_listed") = some F.L_listed := rfl
  have f7 : (prog_k00 ns).fdef (.fn "templates") = some F.templates := rfl
  have f8 : (prog_k00 ns).fdef (.fn "listed") = some F.listed := rfl
  have f9 : (prog_k00 ns).fdef (.fn "blocks_of") = some F.blocks_of := rfl
  have f0 : (prog_k00 ns).fdef (.fn "law") = some F.law_k00 := rfl
  generalize prog_k00 ns = P at *
  obtain ⟨ds, M0, h0, hM0, B0⟩ := boxB_run (P := P) (wl := wl_k00) (n := n + 36) f1 f2 f3
  have Bk0 : Bk M0 2 0 1 ds ⟨0, 0, 0, 0, []⟩ := Bk.of B0.hb B0.hp B0.hd (by decide) (by decide) (by decide)
  obtain ⟨pg, N, p', s', hpg, _, _, _, hprog⟩ := program_run (P := P) (wl := wl_k00) f4 g Bk0 (n + 25)
  suffices h : ok (evS ⟨P, evF P wl_k00 (n + 39), wl_k00⟩ F.law_k00.body (List.map some [D.scr] ++ List.replicate (F.law_k00.slots - F.law_k00.params) none) []) (KG [] fun d _ => d = .bl true) by
    obtain ⟨d, M, h1, rfl⟩ := ok_call (n := n + 39) f0 rfl h
    exact ⟨M, h1⟩
  have e0 : (List.map some [D.scr] ++ List.replicate (F.law_k00.slots - F.law_k00.params) none : VEnv) = [some .scr, none, none, none, none, none, none] := rfl
  rw [e0, law00_body, ok_seq, ok_asg]
  have b1 : evE ⟨P, evF P wl_k00 (n + 39), wl_k00⟩ (.call "_law_box" (.cons (.var 0) (.cons (.int (0)) (.cons (.int (63)) .nil)))) [some .scr, none, none, none, none, none, none] [] = some (.ref 2, M0) := by
    simp [evE, evEs]
    exact h0
  rw [b1, ok_some, KA_, KS_nx, ok_seq, ok_asg]
  dsimp only [List.set]
  have b2 : evE ⟨P, evF P wl_k00 (n + 39), wl_k00⟩ (.call "_law_program" (.cons (.var 1) .nil)) [some .scr, some (.ref 2), none, none, none, none, none] M0 = some (pg.toD, N) := by
    simp [evE, evEs]
    exact hprog
  rw [b2, ok_some, KA_, KS_nx, ok_seq, ok_forS]
  dsimp only [List.set]
  rw [evIt_seq (d := .tup (pg.comps.map Cm.toD)) (it := (pg.comps.map Cm.toD, [])) (by simp [evE, Pg.toD, idxD, pyIx]; rfl) rfl, ok_some]
  unfold KF
  dsimp only
  have bt : ∀ (ρ : VEnv) (M : Mem), evE ⟨P, evF P wl_k00 (n + 39), wl_k00⟩ (.bl true) ρ M = some (.bl true, M) := fun ρ M => by simp only [evE]
  refine forL_wp (g := []) Cm.toD (fun done rest ρ _ => ∃ v3 v4 v5 v6 : Option D, ρ = [some .scr, some (.ref 2), some pg.toD, v3, v4, v5, v6] ∧ done ++ rest = pg.comps) (fun _ _ _ _ _ => rfl) ?_ pg.comps [] _ _ ⟨none, none, none, none, rfl, rfl⟩ ?_
  · rintro done cm rest ρ N1 ⟨v3, v4, v5, v6, rfl, hdr⟩
    refine ⟨_, rfl, ?_⟩
    dsimp only [List.set]
    have hget : pg.comps[done.length]? = some cm := by rw [← hdr, List.getElem?_append_right (Nat.le_refl _)]; simp
    have hok := hpg.c _ _ hget
    have hpl := hpg.pl
    have hsz : Tm.sizes cm.cs ≤ 100 := by have := hok.size; omega
    obtain ⟨N2, hdue⟩ := due_ev (P := P) (wl := wl_k00) (M := N1) f6 (n + 35) cm hok.dep hsz (some (.ref 2)) (some pg.toD) v4 v5 v6 (some .scr)
    have hdue' : evE ⟨P, evF P wl_k00 (n + 39), wl_k00⟩ dueE [some .scr, some (.ref 2), some pg.toD, some cm.toD, v4, v5, v6] N1 = some (.tup ((lC 0 cm.cs [] []).map pairD), N2) := hdue
    have heok : ∀ e ∈ lC 0 cm.cs [] [], EOk done.length (pg.comps.length - 1) pg.parts.length 100 3 1000 e := fun e he => (lC_ok cm.cs 0 [] [] hok.oks (by simp) e he).mono (by have := hok.dep; simp; omega) hok.dep (by omega)
    have hkk : D.kk 15 (.tup ((lC 0 cm.cs [] []).map pairD)) = true := by
      simp only [D.kk, Bool.and_eq_true, decide_eq_true_eq]
      exact ⟨by rw [List.length_map, lC_len]; omega, by
        have : ∀ l : List Ent, (∀ e ∈ l, D.kk 14 (pairD e) = true) → D.kks 14 (l.map pairD) = true := by
          intro l
          induction l with
          | nil => intro _; rfl
          | cons x r ih => intro h; simp [D.kks, h x List.mem_cons_self, ih fun y hy => h y (List.mem_cons_of_mem _ hy)]
        exact this _ fun e he => pairD_kk (heok e he)⟩
    rw [ok_seq, ok_asg, hdue', ok_some, KA_, KS_nx, ok_seq, ok_ite]
    dsimp only [List.set]
    have htm := templates_run (P := P) (wl := wl_k00) (M := N2) f7 f8 f9 (n + 16) cm.cs (by have := hok.dep; omega) (by omega)
    have hsame := same_refl (P := P) (wl := wl_k00) f5 15 _ hkk (n + 23) N2
    rw [tmplD_pair] at htm
    have t1 : truthR (evE ⟨P, evF P wl_k00 (n + 39), wl_k00⟩ (.no (.call "_law_same" (.cons (.call "templates" (.cons (.idx (.var 3) (.int (2))) .nil)) (.cons (.var 4) .nil)))) [some .scr, some (.ref 2), some pg.toD, some cm.toD, some (.tup ((lC 0 cm.cs [] []).map pairD)), v5, v6] N2) = some (false, N2) := by
      have hsame' : evF P wl_k00 (n + 39) (.fn "_law_same") [.tup ((lC 0 cm.cs [] []).map pairD), .tup ((lC 0 cm.cs [] []).map pairD)] N2 = some (.bl true, N2) := hsame
      have htm' : evF P wl_k00 (n + 39) (.fn "templates") [.tup (Tm.toDs cm.cs)] N2 = some (.tup ((lC 0 cm.cs [] []).map pairD), N2) := htm
      simp [evE, evEs, Cm.toD, idxD, pyIx, htm', hsame', truthR, truth]
    rw [t1, ok_some, KI_f, ok_skip, KS_nx, ok_forS]
    rw [evIt_seq (d := .tup ((lC 0 cm.cs [] []).map pairD)) (it := ((lC 0 cm.cs [] []).map pairD, [])) (evE_var' _ 4 _ _ _ rfl) rfl, ok_some]
    unfold KF
    dsimp only
    refine forL_wp (g := []) pairD (fun done2 rest2 ρ _ => ∃ v5 v6 : Option D, ρ = [some .scr, some (.ref 2), some pg.toD, some cm.toD, some (.tup ((lC 0 cm.cs [] []).map pairD)), v5, v6] ∧ done2 ++ rest2 = lC 0 cm.cs [] []) (fun _ _ _ _ _ => rfl) ?_ (lC 0 cm.cs [] []) [] _ _ ⟨v5, v6, rfl, rfl⟩ ?_
    · rintro done2 e rest2 ρ N3 ⟨v5, v6, rfl, hdr2⟩
      refine ⟨_, rfl, ?_⟩
      dsimp only [List.set]
      have he := heok e (by rw [← hdr2]; simp)
      have h1 := he.dep
      have h2 := he.size
      have htm2 := templates_run (P := P) (wl := wl_k00) (M := N3) f7 f8 f9 (n + 16) [e.2.1] (by simp only [Tm.deps]; omega) (by simp only [Tm.sizes]; omega)
      have hl : lC 0 [e.2.1] [] [] = ([.int ((0 : Nat) : Int)], e.2.1, []) :: lT [.int ((0 : Nat) : Int)] [] e.2.1 := by simp [lC]
      rw [tmplD_pair, hl] at htm2
      have hkk2 : D.kk 14 (pairD ([.int ((0 : Nat) : Int)], e.2.1, [])) = true := pairD_kk (own := done.length) (last := pg.comps.length - 1) (np := pg.parts.length) ⟨by simp, by simp, he.ok, h1, h2⟩
      have hsame2 := same_refl (P := P) (wl := wl_k00) f5 14 _ hkk2 (n + 24) N3
      rw [ok_ite]
      have hix : ∀ (a : D) (r : List D), pyIx (a :: r).length 0 = some 0 := fun a r => by unfold pyIx; simp
      have t2 : truthR (evE ⟨P, evF P wl_k00 (n + 39), wl_k00⟩ (.no (.call "_law_same" (.cons (.idx (.call "templates" (.cons (.tup (.cons (.idx (.var 5) (.int (1))) .nil)) .nil)) (.int (0))) (.cons (.tup (.cons (.tup (.cons (.int (0)) .nil)) (.cons (.idx (.var 5) (.int (1))) .nil))) .nil)))) [some .scr, some (.ref 2), some pg.toD, some cm.toD, some (.tup ((lC 0 cm.cs [] []).map pairD)), some (pairD e), v6] N3) = some (false, N3) := by
        simp [pairD, Tm.toDs] at htm2 hsame2
        simp [evE, evEs, pairD, idxD, pyIx, htm2, hsame2, truthR, truth]
      rw [t2, ok_some, KI_f, ok_skip]
      exact ⟨_, _, rfl, by simp [hdr2]⟩
    · rintro ρ N3 ⟨v5, v6, rfl, _⟩
      exact ⟨_, _, _, _, rfl, by simp [hdr]⟩
  · rintro ρ N1 ⟨v3, v4, v5, v6, rfl, _⟩
    rw [KS_nx, ok_ret, bt, ok_some, KR_, KG_rt]
    unfold gc
    split <;> rfl
theorem runs_k00 : ∀ ns : List Int, ns.length ≤ 63 → ∃ M, evF (prog_k00 ns) wl_k00 71 (.fn "law") [.scr] [] = some (.bl true, M) := fun ns _ => k00_run ns 31
end Pw

end
section
namespace Pw.k00
open PySem PySem.Spec PyProof.Rows L2
def topS (i : Nat) : Stmt := PySem.Challenge.pw_pagewake_k00_templates_in_order.main.body.getD i (.Pass ⟨0, 0, 0, 0⟩)
def ats : List String := ["append", "extend", "pop"]
def cls : List String := []
def T : Tb := ⟨["_law_actions", "_law_box", "_law_cell", "_law_contents", "_law_digits", "_law_draw", "_law_expr", "_law_key", "_law_listed", "_law_program", "_law_same", "_law_template", "blocks_of", "law", "listed", "templates"], cls, ats, []⟩
def tf : List He.Defn := [atOf (.fn "templates")]
abbrev s0 : Stmt := (topS 1)
def d0 : He.DefD := ⟨atOf (.fn "blocks_of"), "blocks_of", "blocks_of", defArgs s0, defBody s0, defScope s0, [], []⟩
theorem sc0 : FnScope ["template"] ["template"] (defScope s0) := ⟨rfl, rfl, rfl, by decide +kernel, rfl, by decide +kernel, by decide +kernel⟩
theorem ck0 : ckSs T F.blocks_of.body ⟨["template"], defScope s0, fun _ => true, none⟩ (defBody s0) = true := by decide +kernel
theorem good0 : Good T tf (.fn "blocks_of") F.blocks_of d0 := ⟨rfl, rfl, rfl, ["template"], ["template"], sc0, rfl, rfl, fun _ _ _ F => F.bindsN fun _ _ _ _ _ _ us hl => match us, hl with | [_], _ => rfl, .inl ck0⟩
abbrev s1 : Stmt := (topS 2)
def d1 : He.DefD := ⟨atOf (.fn "listed"), "listed", "listed", defArgs s1, defBody s1, defScope s1, [], []⟩
theorem sc1 : FnScope ["contents", "before", "around", "found", "number", "template", "place", "block", "more"] ["contents", "before", "around"] (defScope s1) := ⟨rfl, rfl, rfl, by decide +kernel, rfl, by decide +kernel, by decide +kernel⟩
theorem ck1 : ckSs T F.listed.body ⟨["contents", "before", "around", "found", "number", "template", "place", "block", "more"], defScope s1, fun _ => true, none⟩ (defBody s1) = true := by decide +kernel
theorem good1 : Good T tf (.fn "listed") F.listed d1 := ⟨rfl, rfl, rfl, ["contents", "before", "around", "found", "number", "template", "place", "block", "more"], ["contents", "before", "around"], sc1, rfl, rfl, fun _ _ _ F => F.bindsN fun _ _ _ _ _ _ us hl => match us, hl with | [_, _, _], _ => rfl, .inl ck1⟩
abbrev s2 : Stmt := (topS 3)
def d2 : He.DefD := ⟨atOf (.fn "templates"), "templates", "templates", defArgs s2, defBody s2, defScope s2, [], []⟩
theorem sc2 : FnScope ["contents", "place", "template", "around"] ["contents"] (defScope s2) := ⟨rfl, rfl, rfl, by decide +kernel, rfl, by decide +kernel, by decide +kernel⟩
theorem ck2 (p : Addr × Addr) : ckSs T F.templates.body ⟨["contents", "place", "template", "around"], defScope s2, fun _ => true, some p⟩ (defBody s2) = true := by kernel_rfl
theorem good2 : Good T tf (.fn "templates") F.templates d2 := ⟨rfl, rfl, rfl, ["contents", "place", "template", "around"], ["contents"], sc2, rfl, rfl, fun _ _ _ F => F.bindsN fun _ _ _ _ _ _ us hl => match us, hl with | [_], _ => rfl, .inr ⟨by simp only [tf]; decide +kernel, ck2⟩⟩
abbrev s3 : Stmt := (topS 5)
def d3 : He.DefD := ⟨atOf (.fn "_law_cell"), "_law_cell", "_law_cell", defArgs s3, defBody s3, defScope s3, [], []⟩
theorem sc3 : FnScope ["_law_script", "_law_k"] ["_law_script", "_law_k"] (defScope s3) := ⟨rfl, rfl, rfl, by decide +kernel, rfl, by decide +kernel, by decide +kernel⟩
theorem ck3 : ckSs T F.L_cell.body ⟨["_law_script", "_law_k"], defScope s3, fun _ => true, none⟩ (defBody s3) = true := by decide +kernel
theorem good3 : Good T tf (.fn "_law_cell") F.L_cell d3 := ⟨rfl, rfl, rfl, ["_law_script", "_law_k"], ["_law_script", "_law_k"], sc3, rfl, rfl, fun _ _ _ F => F.bindsN fun _ _ _ _ _ _ us hl => match us, hl with | [_, _], _ => rfl, .inl ck3⟩
abbrev s4 : Stmt := (topS 6)
def d4 : He.DefD := ⟨atOf (.fn "_law_digits"), "_law_digits", "_law_digits", defArgs s4, defBody s4, defScope s4, [], []⟩
theorem sc4 : FnScope ["_law_script", "_law_first", "_law_last", "_law_digits_here", "_law_k", "_law_cell_here", "_law_turn", "_law_seed"] ["_law_script", "_law_first", "_law_last"] (defScope s4) := ⟨rfl, rfl, rfl, by decide +kernel, rfl, by decide +kernel, by decide +kernel⟩
theorem ck4 : ckSs T F.L_digits.body ⟨["_law_script", "_law_first", "_law_last", "_law_digits_here", "_law_k", "_law_cell_here", "_law_turn", "_law_seed"], defScope s4, fun _ => true, none⟩ (defBody s4) = true := by decide +kernel
theorem good4 : Good T tf (.fn "_law_digits") F.L_digits d4 := ⟨rfl, rfl, rfl, ["_law_script", "_law_first", "_law_last", "_law_digits_here", "_law_k", "_law_cell_here", "_law_turn", "_law_seed"], ["_law_script", "_law_first", "_law_last"], sc4, rfl, rfl, fun _ _ _ F => F.bindsN fun _ _ _ _ _ _ us hl => match us, hl with | [_, _, _], _ => rfl, .inl ck4⟩
abbrev s5 : Stmt := (topS 7)
def d5 : He.DefD := ⟨atOf (.fn "_law_draw"), "_law_draw", "_law_draw", defArgs s5, defBody s5, defScope s5, [], []⟩
theorem sc5 : FnScope ["_law_box_here", "_law_many", "_law_at"] ["_law_box_here", "_law_many"] (defScope s5) := ⟨rfl, rfl, rfl, by decide +kernel, rfl, by decide +kernel, by decide +kernel⟩
theorem ck5 : ckSs T F.L_draw.body ⟨["_law_box_here", "_law_many", "_law_at"], defScope s5, fun _ => true, none⟩ (defBody s5) = true := by decide +kernel
theorem good5 : Good T tf (.fn "_law_draw") F.L_draw d5 := ⟨rfl, rfl, rfl, ["_law_box_here", "_law_many", "_law_at"], ["_law_box_here", "_law_many"], sc5, rfl, rfl, fun _ _ _ F => F.bindsN fun _ _ _ _ _ _ us hl => match us, hl with | [_, _], _ => rfl, .inl ck5⟩
abbrev s6 : Stmt := (topS 8)
def d6 : He.DefD := ⟨atOf (.fn "_law_same"), "_law_same", "_law_same", defArgs s6, defBody s6, defScope s6, [], []⟩
theorem sc6 : FnScope ["_law_actual", "_law_expected", "_law_k"] ["_law_actual", "_law_expected"] (defScope s6) := ⟨rfl, rfl, rfl, by decide +kernel, rfl, by decide +kernel, by decide +kernel⟩
theorem ck6 : ckSs T F.L_same.body ⟨["_law_actual", "_law_expected", "_law_k"], defScope s6, fun _ => true, none⟩ (defBody s6) = true := by decide +kernel
theorem good6 : Good T tf (.fn "_law_same") F.L_same d6 := ⟨rfl, rfl, rfl, ["_law_actual", "_law_expected", "_law_k"], ["_law_actual", "_law_expected"], sc6, rfl, rfl, fun _ _ _ F => F.bindsN fun _ _ _ _ _ _ us hl => match us, hl with | [_, _], _ => rfl, .inl ck6⟩
abbrev s7 : Stmt := (topS 9)
def d7 : He.DefD := ⟨atOf (.fn "_law_expr"), "_law_expr", "_law_expr", defArgs s7, defBody s7, defScope s7, [], []⟩
theorem sc7 : FnScope ["_law_box_here", "_law_depth", "_law_kind", "_law_one", "_law_two", "_law_leaves"] ["_law_box_here", "_law_depth"] (defScope s7) := ⟨rfl, rfl, rfl, by decide +kernel, rfl, by decide +kernel, by decide +kernel⟩
theorem ck7 : ckSs T F.L_expr.body ⟨["_law_box_here", "_law_depth", "_law_kind", "_law_one", "_law_two", "_law_leaves"], defScope s7, fun _ => true, none⟩ (defBody s7) = true := by decide +kernel
theorem good7 : Good T tf (.fn "_law_expr") F.L_expr d7 := ⟨rfl, rfl, rfl, ["_law_box_here", "_law_depth", "_law_kind", "_law_one", "_law_two", "_law_leaves"], ["_law_box_here", "_law_depth"], sc7, rfl, rfl, fun _ _ _ F => F.bindsN fun _ _ _ _ _ _ us hl => match us, hl with | [_, _], _ => rfl, .inl ck7⟩
abbrev s8 : Stmt := (topS 10)
def d8 : He.DefD := ⟨atOf (.fn "_law_key"), "_law_key", "_law_key", defArgs s8, defBody s8, defScope s8, [], []⟩
theorem sc8 : FnScope ["_law_box_here"] ["_law_box_here"] (defScope s8) := ⟨rfl, rfl, rfl, by decide +kernel, rfl, by decide +kernel, by decide +kernel⟩
theorem ck8 : ckSs T F.L_key.body ⟨["_law_box_here"], defScope s8, fun _ => true, none⟩ (defBody s8) = true := by decide +kernel
theorem good8 : Good T tf (.fn "_law_key") F.L_key d8 := ⟨rfl, rfl, rfl, ["_law_box_here"], ["_law_box_here"], sc8, rfl, rfl, fun _ _ _ F => F.bindsN fun _ _ _ _ _ _ us hl => match us, hl with | [_], _ => rfl, .inl ck8⟩
abbrev s9 : Stmt := (topS 11)
def d9 : He.DefD := ⟨atOf (.fn "_law_template"), "_law_template", "_law_template", defArgs s9, defBody s9, defScope s9, [], []⟩
theorem sc9 : FnScope ["_law_box_here", "_law_own", "_law_level", "_law_last", "_law_free", "_law_kind", "_law_action", "_law_key_here", "_law_tag", "_law_test", "_law_yes", "_law_count", "_law_props", "_law_k"] ["_law_box_here", "_law_own", "_law_level", "_law_last", "_law_free"] (defScope s9) := ⟨rfl, rfl, rfl, by decide +kernel, rfl, by decide +kernel, by decide +kernel⟩
theorem ck9 : ckSs T F.L_template.body ⟨["_law_box_here", "_law_own", "_law_level", "_law_last", "_law_free", "_law_kind", "_law_action", "_law_key_here", "_law_tag", "_law_test", "_law_yes", "_law_count", "_law_props", "_law_k"], defScope s9, fun _ => true, none⟩ (defBody s9) = true := by decide +kernel
theorem good9 : Good T tf (.fn "_law_template") F.L_template d9 := ⟨rfl, rfl, rfl, ["_law_box_here", "_law_own", "_law_level", "_law_last", "_law_free", "_law_kind", "_law_action", "_law_key_here", "_law_tag", "_law_test", "_law_yes", "_law_count", "_law_props", "_law_k"], ["_law_box_here", "_law_own", "_law_level", "_law_last", "_law_free"], sc9, rfl, rfl, fun _ _ _ F => F.bindsN fun _ _ _ _ _ _ us hl => match us, hl with | [_, _, _, _, _], _ => rfl, .inl ck9⟩
abbrev s10 : Stmt := (topS 12)
def d10 : He.DefD := ⟨atOf (.fn "_law_contents"), "_law_contents", "_law_contents", defArgs s10, defBody s10, defScope s10, [], []⟩
theorem sc10 : FnScope ["_law_box_here", "_law_own", "_law_level", "_law_last", "_law_free", "_law_rows", "_law_k"] ["_law_box_here", "_law_own", "_law_level", "_law_last", "_law_free"] (defScope s10) := ⟨rfl, rfl, rfl, by decide +kernel, rfl, by decide +kernel, by decide +kernel⟩
theorem ck10 : ckSs T F.L_contents.body ⟨["_law_box_here", "_law_own", "_law_level", "_law_last", "_law_free", "_law_rows", "_law_k"], defScope s10, fun _ => true, none⟩ (defBody s10) = true := by decide +kernel
theorem good10 : Good T tf (.fn "_law_contents") F.L_contents d10 := ⟨rfl, rfl, rfl, ["_law_box_here", "_law_own", "_law_level", "_law_last", "_law_free", "_law_rows", "_law_k"], ["_law_box_here", "_law_own", "_law_level", "_law_last", "_law_free"], sc10, rfl, rfl, fun _ _ _ F => F.bindsN fun _ _ _ _ _ _ us hl => match us, hl with | [_, _, _, _, _], _ => rfl, .inl ck10⟩
abbrev s11 : Stmt := (topS 13)
def d11 : He.DefD := ⟨atOf (.fn "_law_actions"), "_law_actions", "_law_actions", defArgs s11, defBody s11, defScope s11, [], []⟩
theorem sc11 : FnScope ["_law_box_here", "_law_actions_here", "_law_k", "_law_steps", "_law_j", "_law_kind"] ["_law_box_here"] (defScope s11) := ⟨rfl, rfl, rfl, by decide +kernel, rfl, by decide +kernel, by decide +kernel⟩
theorem ck11 : ckSs T F.L_actions.body ⟨["_law_box_here", "_law_actions_here", "_law_k", "_law_steps", "_law_j", "_law_kind"], defScope s11, fun _ => true, none⟩ (defBody s11) = true := by decide +kernel
theorem good11 : Good T tf (.fn "_law_actions") F.L_actions d11 := ⟨rfl, rfl, rfl, ["_law_box_here", "_law_actions_here", "_law_k", "_law_steps", "_law_j", "_law_kind"], ["_law_box_here"], sc11, rfl, rfl, fun _ _ _ F => F.bindsN fun _ _ _ _ _ _ us hl => match us, hl with | [_], _ => rfl, .inl ck11⟩
abbrev s12 : Stmt := (topS 14)
def d12 : He.DefD := ⟨atOf (.fn "_law_program"), "_law_program", "_law_program", defArgs s12, defBody s12, defScope s12, [], []⟩
theorem sc12 : FnScope ["_law_box_here", "_law_many", "_law_parts", "_law_components", "_law_k", "_law_store", "_law_cells", "_law_contents_here", "_law_j"] ["_law_box_here"] (defScope s12) := ⟨rfl, rfl, rfl, by decide +kernel, rfl, by decide +kernel, by decide +kernel⟩
theorem ck12 : ckSs T F.L_program.body ⟨["_law_box_here", "_law_many", "_law_parts", "_law_components", "_law_k", "_law_store", "_law_cells", "_law_contents_here", "_law_j"], defScope s12, fun _ => true, none⟩ (defBody s12) = true := by decide +kernel
theorem good12 : Good T tf (.fn "_law_program") F.L_program d12 := ⟨rfl, rfl, rfl, ["_law_box_here", "_law_many", "_law_parts", "_law_components", "_law_k", "_law_store", "_law_cells", "_law_contents_here", "_law_j"], ["_law_box_here"], sc12, rfl, rfl, fun _ _ _ F => F.bindsN fun _ _ _ _ _ _ us hl => match us, hl with | [_], _ => rfl, .inl ck12⟩
abbrev s13 : Stmt := (topS 15)
def d13 : He.DefD := ⟨atOf (.fn "_law_box"), "_law_box", "_law_box", defArgs s13, defBody s13, defScope s13, [], []⟩
theorem sc13 : FnScope ["_law_script", "_law_first", "_law_last"] ["_law_script", "_law_first", "_law_last"] (defScope s13) := ⟨rfl, rfl, rfl, by decide +kernel, rfl, by decide +kernel, by decide +kernel⟩
theorem ck13 : ckSs T F.L_box.body ⟨["_law_script", "_law_first", "_law_last"], defScope s13, fun _ => true, none⟩ (defBody s13) = true := by decide +kernel
theorem good13 : Good T tf (.fn "_law_box") F.L_box d13 := ⟨rfl, rfl, rfl, ["_law_script", "_law_first", "_law_last"], ["_law_script", "_law_first", "_law_last"], sc13, rfl, rfl, fun _ _ _ F => F.bindsN fun _ _ _ _ _ _ us hl => match us, hl with | [_, _, _], _ => rfl, .inl ck13⟩
abbrev s14 : Stmt := (topS 16)
def d14 : He.DefD := ⟨atOf (.fn "_law_listed"), "_law_listed", "_law_listed", defArgs s14, defBody s14, defScope s14, [], []⟩
theorem sc14 : FnScope ["_law_contents_here", "_law_before", "_law_around", "_law_rows", "_law_k", "_law_row", "_law_place"] ["_law_contents_here", "_law_before", "_law_around"] (defScope s14) := ⟨rfl, rfl, rfl, by decide +kernel, rfl, by decide +kernel, by decide +kernel⟩
theorem ck14 : ckSs T F.L_listed.body ⟨["_law_contents_here", "_law_before", "_law_around", "_law_rows", "_law_k", "_law_row", "_law_place"], defScope s14, fun _ => true, none⟩ (defBody s14) = true := by decide +kernel
theorem good14 : Good T tf (.fn "_law_listed") F.L_listed d14 := ⟨rfl, rfl, rfl, ["_law_contents_here", "_law_before", "_law_around", "_law_rows", "_law_k", "_law_row", "_law_place"], ["_law_contents_here", "_law_before", "_law_around"], sc14, rfl, rfl, fun _ _ _ F => F.bindsN fun _ _ _ _ _ _ us hl => match us, hl with | [_, _, _], _ => rfl, .inl ck14⟩
abbrev s15 : Stmt := (topS 17)
def d15 : He.DefD := ⟨atOf (.fn "law"), "law", "law", defArgs s15, defBody s15, defScope s15, [], []⟩
theorem sc15 : FnScope ["_law_script", "_law_box_here", "_law_program_here", "_law_component", "_law_due", "_law_item", "_law_row"] ["_law_script"] (defScope s15) := ⟨rfl, rfl, rfl, by decide +kernel, rfl, by decide +kernel, by decide +kernel⟩
theorem ck15 : ckSs T F.law_k00.body ⟨["_law_script", "_law_box_here", "_law_program_here", "_law_component", "_law_due", "_law_item", "_law_row"], defScope s15, fun _ => true, none⟩ (defBody s15) = true := by decide +kernel
theorem good15 : Good T tf (.fn "law") F.law_k00 d15 := ⟨rfl, rfl, rfl, ["_law_script", "_law_box_here", "_law_program_here", "_law_component", "_law_due", "_law_item", "_law_row"], ["_law_script"], sc15, rfl, rfl, fun _ _ _ F => F.bindsN fun _ _ _ _ _ _ us hl => match us, hl with | [_], _ => rfl, .inl ck15⟩
def ds : List He.DefD := ([d0, d1, d2, d3, d4, d5, d6, d7, d8, d9, d10, d11, d12, d13, d14, d15] : List He.DefD)
theorem allG : AllG T tf tbl_k00 ds := .cons good0 (.cons good1 (.cons good2 (.cons good3 (.cons good4 (.cons good5 (.cons good6 (.cons good7 (.cons good8 (.cons good9 (.cons good10 (.cons good11 (.cons good12 (.cons good13 (.cons good14 (.cons good15 (.nil))))))))))))))))
def fa : List He.Fa := faOf (tbl_k00.map (·.1)) cls ats cis_k00
abbrev R : PySem.W.OpenRow := PySem.W.OpenLaw.row PySem.Challenge.rw_pagewake_k00_templates_in_order
abbrev qv : Program := PySem.W.view R.prog [17]
def names : List PySem.Str := (["_law_actions", "_law_box", "_law_cell", "_law_contents", "_law_digits", "_law_draw", "_law_expr", "_law_key", "_law_listed", "_law_program", "_law_same", "_law_template", "blocks_of", "listed", "templates"] : List Str)
abbrev hk : PySem.W.Hook := He.hookX 6 fa ds [] tf (fun _ => true)
def ob (s : PySem.W.SharedT) : He.AlX := He.obsX 6 fa ds [] tf (fun _ => true) (HandSHeadRun.getT s)
theorem ob_eq (s : PySem.W.SharedT) : ob s = hk.obs s.abs := He.obsX_eq (HandSHeadRun.getT_eq s)
set_option maxHeartbeats 0 in
theorem run (w : World) : HandSHeadRun.RunEq R qv hk ob 6000 names w := by
  intro os
  kernel_rfl
end Pw.k00
namespace Pw.k00
theorem runs : ∀ ns : List Int, ns.length ≤ 63 → ∃ M, evF (prog_k00 ns) wl_k00 71 (.fn "law") [.scr] [] = some (.bl true, M) := runs_k00
end Pw.k00
open PySem PySem.W PySem.Calls PyProof.Rows
set_option maxHeartbeats 0 in
theorem PySem.Challenge.cw_pagewake_k00_templates_in_order_holds : PySem.Challenge.rw_pagewake_k00_templates_in_order.Holds := by
  w_on; o_law
  refine HandSHeadRun.head_any (r := Pw.k00.R) (q := Pw.k00.qv) (H := Pw.k00.hk) (ob := Pw.k00.ob) (M := 6000) (loose := Pw.k00.names) (d := HandSHeadRun.topDef Pw.k00.R.prog 17) (kwd := []) Pw.k00.ob_eq
    (by kernel_rfl) (fun s => by kernel_rfl) Pw.k00.run (by kernel_rfl) (by kernel_rfl) (by kernel_rfl) (by rfl) (by first | assumption | decide +kernel) (by decide +kernel) ⟨rfl, rfl, rfl, rfl, rfl, by decide +kernel⟩ ?hw ?hc
  case hw => w_witness2
  case hc =>
    refine LamX.walk_ofTsE (l := PySem.Challenge.rw_pagewake_k00_templates_in_order) (n := 63) (k := 213) (x := "_law_script") (CX := fun _ => Pw.CXn) rfl (by decide) (by kernel_rfl) ⟨rfl, by decide, by decide⟩ ?F (fun _ _ _ _ _ z => z)
    intro w mg fa h Y G hmg0
    obtain ⟨K, KX, c⟩ := Y
    have hmg : mg ("law" : PySem.Str) = some (.ref fa) := by
      have e : (HandSHeadRun.topDef Pw.k00.R.prog 17).name = ("law" : PySem.Str) := by kernel_rfl
      rw [← e]
      exact hmg0
    exact ⟨K, KX, Pw.lawAt_he (tbl := Pw.tbl_k00) (cis := Pw.cis_k00) (wl := Pw.wl_k00) (T := Pw.k00.T) (fd0 := Pw.F.law_k00) (dl := Pw.k00.d15) (N := ["_law_script", "_law_box_here", "_law_program_here", "_law_component", "_law_due", "_law_item", "_law_row"]) KX G c hmg Pw.k00.allG (by decide +kernel) (fun x hx => List.contains_iff_mem.mp hx) rfl rfl (by simp [Pw.k00.ds]) rfl rfl rfl rfl Pw.k00.sc15 rfl (.inl Pw.k00.ck15) (fun g F => fun s u => F.bindsA (ps := ["_law_script"]) (fun _ _ _ _ _ _ us hl => match us, hl with | [_], _ => rfl) s [u] rfl) Pw.k00.runs⟩

end