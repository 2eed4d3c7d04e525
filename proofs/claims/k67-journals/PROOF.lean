import PyProof.Rows.All
import Wide.All
import OpenK.AllK
import Wide.FinOn
import HandS.ForMost
import HandS.Style
import HandS.FStr
import HandS.IsInst
import HandS.Deep
import HandS.TupAny
import PyProof.Draws
import PySem.Challenge.RW_plainproofs_k67_whole_journals_and_their
set_option Elab.async false
set_option linter.all false
set_option autoImplicit false
set_option maxRecDepth 100000
set_option maxHeartbeats 1000000
/-! Pd0: plain data, a small language over it, its interpreter. No Python model in sight. -/
namespace Pd

/-- data: a tree of plain things; scr: the law's script; obj i: the i-th changing thing of the store -/
inductive D where
  | non | bl (b : Bool) | int (i : Int) | str (s : List Nat) | lst (xs : List D) | tup (xs : List D) | scr (xs : List D) | obj (i : Nat)
  deriving Inhabited

mutual
/-- == of Python on data -/
def D.eqv : D → D → Bool
  | .non, .non => true
  | .bl a, .bl b => a == b
  | .bl a, .int j => (if a then 1 else 0) == j
  | .int i, .bl b => i == (if b then 1 else 0)
  | .int i, .int j => i == j
  | .str x, .str y => x == y
  | .lst xs, .lst ys => D.eqvs xs ys
  | .tup xs, .tup ys => D.eqvs xs ys
  | _, _ => false
def D.eqvs : List D → List D → Bool
  | [], [] => true
  | x :: xs, y :: ys => D.eqv x y && D.eqvs xs ys
  | _, _ => false
end
mutual
/-- without changing things, at most n deep -/
def D.okN : Nat → D → Bool
  | _, .non => true
  | _, .bl _ => true
  | _, .int _ => true
  | _, .str _ => true
  | 0, .lst _ => false
  | 0, .tup _ => false
  | n + 1, .lst xs => D.oksN n xs
  | n + 1, .tup xs => D.oksN n xs
  | _, .scr _ => false
  | _, .obj _ => false
def D.oksN : Nat → List D → Bool
  | _, [] => true
  | n, x :: xs => D.okN n x && D.oksN n xs
end
mutual
/-- no changing thing within -/
def D.pure : D → Bool
  | .lst xs => D.pures xs
  | .tup xs => D.pures xs
  | .scr xs => D.pures xs
  | .obj _ => false
  | _ => true
def D.pures : List D → Bool
  | [] => true
  | x :: xs => D.pure x && D.pures xs
end
mutual
/-- the very same data -/
def D.same : D → D → Bool
  | .non, .non => true
  | .bl a, .bl b => a == b
  | .int i, .int j => i == j
  | .str x, .str y => x == y
  | .lst xs, .lst ys => D.sames xs ys
  | .tup xs, .tup ys => D.sames xs ys
  | .scr xs, .scr ys => D.sames xs ys
  | .obj i, .obj j => i == j
  | _, _ => false
def D.sames : List D → List D → Bool
  | [], [] => true
  | x :: xs, y :: ys => D.same x y && D.sames xs ys
  | _, _ => false
end
mutual
theorem D.same_eq : ∀ x y : D, D.same x y = true → x = y
  | .non, y, h => by cases y <;> simp_all [D.same]
  | .bl a, y, h => by cases y <;> simp_all [D.same]
  | .int a, y, h => by cases y <;> simp_all [D.same]
  | .str a, y, h => by cases y <;> simp_all [D.same]
  | .obj a, y, h => by cases y <;> simp_all [D.same]
  | .lst xs, y, h => by
    cases y with
    | lst ys => rw [D.sames_eq xs ys (by simpa [D.same] using h)]
    | _ => simp [D.same] at h
  | .tup xs, y, h => by
    cases y with
    | tup ys => rw [D.sames_eq xs ys (by simpa [D.same] using h)]
    | _ => simp [D.same] at h
  | .scr xs, y, h => by
    cases y with
    | scr ys => rw [D.sames_eq xs ys (by simpa [D.same] using h)]
    | _ => simp [D.same] at h
theorem D.sames_eq : ∀ xs ys : List D, D.sames xs ys = true → xs = ys
  | [], ys, h => by cases ys <;> simp_all [D.sames]
  | x :: xs, ys, h => by
    cases ys with
    | nil => simp [D.sames] at h
    | cons y ys =>
      simp only [D.sames, Bool.and_eq_true] at h
      rw [D.same_eq x y h.1, D.sames_eq xs ys h.2]
end
def D.scalar : D → Bool
  | .non => true
  | .bl _ => true
  | .int _ => true
  | .str _ => true
  | _ => false

/-- a changing thing -/
inductive Cell where
  | lst (xs : List D)
  | dead
  deriving Inhabited
abbrev G := List Cell
/-- a value: data, or a list that was just made -/
inductive R where
  | d (x : D) | fl (xs : List D)
/-- an outcome -/
inductive O (α : Type) where
  | ok (a : α) (g : G) | ex (c : List Nat) (g : G) | no
def O.bind {α β : Type} : O α → (α → G → O β) → O β
  | .ok a g, f => f a g
  | .ex c g, _ => .ex c g
  | .no, _ => .no
@[simp] theorem O.bind_ok {α β : Type} (a : α) (g : G) (f : α → G → O β) : O.bind (.ok a g) f = f a g := rfl
@[simp] theorem O.bind_ex {α β : Type} (c : List Nat) (g : G) (f : α → G → O β) : O.bind (.ex c g) f = .ex c g := rfl
@[simp] theorem O.bind_no {α β : Type} (f : α → G → O β) : O.bind .no f = .no := rfl
def O.of {α : Type} (o : Option α) (g : G) : O α := match o with
  | some a => .ok a g
  | none => .no
@[simp] theorem O.of_some {α : Type} (a : α) (g : G) : O.of (some a) g = .ok a g := rfl
@[simp] theorem O.of_none {α : Type} (g : G) : O.of (none : Option α) g = .no := rfl
def R.toD : R → D
  | .d x => x
  | .fl xs => .lst xs
@[simp] theorem R.toD_d (x : D) : R.toD (.d x) = x := rfl
@[simp] theorem R.toD_fl (xs : List D) : R.toD (.fl xs) = .lst xs := rfl

/-! ### operations -/
/-- most signs of a text, most items of a list -/
def LIM : Nat := 1000000
def isShort {α : Type} : Nat → List α → Bool
  | _, [] => true
  | 0, _ :: _ => false
  | n + 1, _ :: r => isShort n r
theorem isShort_iff {α : Type} : ∀ (n : Nat) (l : List α), isShort n l = true ↔ l.length ≤ n
  | n, [] => by simp [isShort]
  | 0, a :: r => by simp [isShort]
  | n + 1, a :: r => by
    rw [isShort, isShort_iff n r, List.length_cons]
    omega
def look (g : G) : D → D
  | .obj i => (match g[i]? with
    | some (.lst xs) => .lst xs
    | _ => .obj i)
  | d => d
/-- a text of a number -/
def natL (n : Nat) : List Nat := (Nat.toDigits 10 n).map Char.toNat
def intL (i : Int) : List Nat := match i with
  | .ofNat n => natL n
  | .negSucc n => 45 :: natL (n + 1)
def ltL : List Nat → List Nat → Bool
  | [], [] => false
  | [], _ :: _ => true
  | _ :: _, [] => false
  | x :: xs, y :: ys => if x = y then ltL xs ys else decide (x < y)

inductive Bop where | add | sub | mul | fdiv | mod | pow
  deriving DecidableEq
def binop (op : Bop) (x y : D) : Option R := match op, x, y with
  | .add, .int i, .int j => some (.d (.int (i + j)))
  | .add, .str a, .str b => if isShort LIM (a ++ b) then some (.d (.str (a ++ b))) else none
  | .add, .lst a, .lst b => if isShort LIM (a ++ b) then some (.fl (a ++ b)) else none
  | .sub, .int i, .int j => some (.d (.int (i - j)))
  | .mul, .int i, .int j => if i.natAbs < 18446744073709551616 ∨ j.natAbs < 18446744073709551616 then some (.d (.int (i * j))) else none
  | .mul, .str a, .int j => if a.length * j.toNat ≤ LIM ∧ j.natAbs ≤ LIM then some (.d (.str (List.replicate j.toNat a).flatten)) else none
  | .mul, .lst a, .int j => if a.length * j.toNat ≤ LIM ∧ j.natAbs ≤ LIM then some (.fl (List.replicate j.toNat a).flatten) else none
  | .fdiv, .int i, .int j => if 0 < j ∧ j < 1073741824 then some (.d (.int (i / j))) else none
  | .mod, .int i, .int j => if 0 < j then some (.d (.int (i % j))) else none
  | .pow, .int i, .int j => if 0 ≤ j ∧ j ≤ 1000 ∧ i.natAbs < 1000 then some (.d (.int (i ^ j.toNat))) else none
  | _, _, _ => none
inductive Cop where | eq | ne | lt | le | gt | ge | in_ | nin
  deriving DecidableEq
/-- x in xs -/
def memD (x : D) : List D → Bool
  | [] => false
  | y :: ys => D.eqv y x || memD x ys
/-- a within b -/
def isPre : List Nat → List Nat → Bool
  | [], _ => true
  | _ :: _, [] => false
  | x :: xs, y :: ys => (x == y) && isPre xs ys
def isSub (a : List Nat) : List Nat → Bool
  | [] => isPre a []
  | y :: ys => isPre a (y :: ys) || isSub a ys
def inop (x y : D) : Option Bool := match x, y with
  | .str [c], .str b => some (decide (c ∈ b))
  | x, .lst ys => if D.okN 60 x && D.oksN 60 ys then some (memD x ys) else none
  | x, .tup ys => if D.okN 60 x && D.oksN 60 ys then some (memD x ys) else none
  | _, _ => none
def cmpop (op : Cop) (x y : D) : Option Bool := match op with
  | .eq => if D.okN 60 x && D.okN 60 y then some (D.eqv x y) else none
  | .ne => if D.okN 60 x && D.okN 60 y then some (!D.eqv x y) else none
  | .lt => (match x, y with
    | .int i, .int j => some (decide (i < j))
    | .str a, .str b => some (ltL a b)
    | _, _ => none)
  | .le => (match x, y with
    | .int i, .int j => some (decide (i ≤ j))
    | .str a, .str b => some (!ltL b a)
    | _, _ => none)
  | .gt => (match x, y with
    | .int i, .int j => some (decide (j < i))
    | .str a, .str b => some (ltL b a)
    | _, _ => none)
  | .ge => (match x, y with
    | .int i, .int j => some (decide (j ≤ i))
    | .str a, .str b => some (!ltL a b)
    | _, _ => none)
  | .in_ => inop x y
  | .nin => (inop x y).map not
/-- truth -/
def truth : D → Option Bool
  | .bl b => some b
  | .int i => some (i != 0)
  | .str s => some (!s.isEmpty)
  | .lst xs => some (!xs.isEmpty)
  | .non => some false
  | _ => none

def dInts : List D → Option (List Int)
  | [] => some []
  | .int i :: r => (dInts r).map (i :: ·)
  | _ => none
def dBls : List D → Option (List Bool)
  | [] => some []
  | .bl b :: r => (dBls r).map (b :: ·)
  | _ => none
def dStrs : List D → Option (List (List Nat))
  | [] => some []
  | .str s :: r => (dStrs r).map (s :: ·)
  | _ => none
def joinL (s : List Nat) : List (List Nat) → List Nat
  | [] => []
  | [p] => p
  | p :: q :: r => p ++ s ++ joinL s (q :: r)
/-- cut at each S from the left; k signs are still to be passed over -/
def spl (S : List Nat) : Nat → List Nat → List Nat → List (List Nat)
  | _, acc, [] => [acc]
  | 0, acc, c :: r => if isPre S (c :: r) = true then acc :: spl S (S.length - 1) [] r else spl S 0 (acc ++ [c]) r
  | k + 1, acc, _ :: r => spl S k acc r
/-- what stands before the first S, and behind it -/
def par (S : List Nat) : List Nat → List Nat → Option (List Nat × List Nat)
  | _, [] => none
  | acc, c :: r => if isPre S (c :: r) = true then some (acc, (c :: r).drop S.length) else par S (acc ++ [c]) r
inductive BI where
  | len | int | str | ord | sum | all | any | max | min | list | tuple
  deriving DecidableEq
def maxI : Int → List Int → Int
  | m, [] => m
  | m, x :: r => maxI (if x > m then x else m) r
def bi1 (b : BI) (d : D) : Option R := match b, d with
  | .len, .str s => some (.d (.int s.length))
  | .len, .lst xs => some (.d (.int xs.length))
  | .len, .tup xs => some (.d (.int xs.length))
  | .len, .scr xs => some (.d (.int xs.length))
  | .int, .int i => some (.d (.int i))
  | .int, .bl b => some (.d (.int (if b then 1 else 0)))
  | .str, .int i => if i.natAbs < 1000000000000000000000 then some (.d (.str (intL i))) else none
  | .ord, .str [c] => some (.d (.int c))
  | .sum, .lst xs => (dInts xs).map fun l => .d (.int l.sum)
  | .all, .lst xs => (dBls xs).map fun l => .d (.bl (l.all id))
  | .any, .lst xs => (dBls xs).map fun l => .d (.bl (l.any id))
  | .list, .lst xs => some (.fl xs)
  | .list, .tup xs => some (.fl xs)
  | .tuple, .lst xs => some (.d (.tup xs))
  | _, _ => none
def bi2 (b : BI) (d e : D) : Option R := match b, d, e with
  | .max, .int i, .int j => some (.d (.int (if j > i then j else i)))
  | .min, .int i, .int j => some (.d (.int (if j < i then j else i)))
  | _, _, _ => none
def bi (b : BI) : List D → Option R
  | [d] => bi1 b d
  | [d, e] => bi2 b d e
  | _ => none
/-- methods of texts -/
inductive Met where | join | split | partition
  deriving DecidableEq
def met (m : Met) (s : List Nat) (args : List D) : Option R := match m, args with
  | .join, [.lst xs] => (dStrs xs).bind fun l => if isShort LIM (joinL s l) then some (.d (.str (joinL s l))) else none
  | .split, [.str (c :: t)] => some (.fl ((spl (c :: t) 0 [] s).map .str))
  | .partition, [.str (c :: t)] => (match par (c :: t) [] s with
    | some (a, b) => some (.d (.tup [.str a, .str (c :: t), .str b]))
    | none => some (.d (.tup [.str s, .str [], .str []])))
  | _, _ => none
/-- the place of an index -/
def ixOf (n : Nat) (i : Int) : Option Nat := if 0 ≤ i then (if i < n then some i.toNat else none) else if -(n : Int) ≤ i then some (i + n).toNat else none
def atD {α : Type} (xs : List α) (i : Int) : Option α := (ixOf xs.length i).bind fun j => xs[j]?
def ixop (x i : D) : Option D := match x, i with
  | .lst xs, .int i => atD xs i
  | .tup xs, .int i => atD xs i
  | .scr xs, .int i => atD xs i
  | .str s, .int i => (atD s i).map fun c => .str [c]
  | _, _ => none
/-- an end of a slice -/
def slIx (n d : Nat) : Option Int → Nat
  | none => d
  | some i => if i < 0 then (i + n).toNat else min i.toNat n
def cut {α : Type} (xs : List α) (lo hi : Option Int) : List α := (xs.drop (slIx xs.length 0 lo)).take (slIx xs.length xs.length hi - slIx xs.length 0 lo)
def slop (x : D) (lo hi : Option Int) : Option R := match x with
  | .lst xs => some (.fl (cut xs lo hi))
  | .tup xs => some (.d (.tup (cut xs lo hi)))
  | .str s => some (.d (.str (cut s lo hi)))
  | _ => none
/-- a part of an f-string -/
def fmt : D → Option (List Nat)
  | .str s => some s
  | .int i => if i.natAbs < 1000000000000000000000 then some (intL i) else none
  | _ => none
/-- the built-in classes -/
inductive Ty where | int | str | list | tuple | bool
  deriving DecidableEq
def isTy (t : Ty) : D → Option Bool
  | .non => some false
  | .bl _ => some (t == .bool || t == .int)
  | .int _ => some (t == .int)
  | .str _ => some (t == .str)
  | .lst _ => some (t == .list)
  | .tup _ => some (t == .tuple)
  | _ => none

/-! ### the language -/
inductive Tg where
  | v (i : Nat) | t (is : List Nat)
mutual
inductive C where
  | var (i : Nat) | con (d : D) | glo (k : Nat)
  | bin (op : Bop) (a b : C) | neg (i : Nat)
  | cmp (op : Cop) (a b : C) | chain (op op' : Cop) (a b c : C) | isN (neg : Bool) (a : C)
  | not (a : C) | and (a b : C) | or (a b : C) | ite (t : T) (a b : C)
  | call (f : Nat) (args : Cs) | bi (b : BI) (args : Cs) | isi (a : C) (t : Ty) | met (m : Met) (o : C) (args : Cs)
  | ix (a i : C) | sl (a : C) (lo hi : Co) | rev (a : C)
  | lst (es : Cs) | tup (es : Cs) | fstr (es : Cs) | fmt (e : C)
  | lc (it : It) (tg : Tg) (c : To) (elt : C) (own : List Nat)
  | new (e : C)
inductive Cs where | nil | cons (a : C) (r : Cs)
inductive Co where | non | some (a : C)
inductive T where
  | val (a : C) | cmp (op : Cop) (a b : C) | chain (op op' : Cop) (a b c : C) | isN (neg : Bool) (a : C) | not (t : T) | and (ts : Ts) | or (ts : Ts)
inductive Ts where | one (t : T) | cons (t : T) (r : Ts)
inductive To where | non | some (t : T)
inductive It where
  | seq (e : C) | range1 (a : C) | range2 (a b : C) | enum (a : C)
end
mutual
inductive S where
  | asg (g : Tg) (e : C) | aug (i : Nat) (op : Bop) (e : C) | setIx (o i e : C) | app (o e : C) | drop (e : C)
  | ret (e : C) | retN | ifS (t : T) (a b : Ss) | forS (it : It) (g : Tg) (b : Ss) | pass
inductive Ss where | nil | cons (s : S) (r : Ss)
end

abbrev Lo := List (Option D)
def setAll : List Nat → List D → Lo → Option Lo
  | [], [], l => some l
  | i :: is, d :: ds, l => if i < l.length then setAll is ds (l.set i (some d)) else none
  | _, _, _ => none
def assign (g : Tg) (d : D) (l : Lo) : Option Lo := match g with
  | .v i => if i < l.length then some (l.set i (some d)) else none
  | .t is => (match d with
    | .tup ds => setAll is ds l
    | _ => none)
def wipeL (l : Lo) : List Nat → Lo
  | [] => l
  | v :: vs => (wipeL l vs).set v none
/-- the data of a snapshot -/
def snap (g : G) (x : D) : Option D := match x with
  | .obj i => (match g[i]? with
    | some (.lst xs) => if D.pures xs then some (.lst xs) else none
    | _ => none)
  | x => if D.pure x then some x else none
def snaps (g : G) : List D → Option (List D)
  | [] => some []
  | x :: xs => (snap g x).bind fun y => (snaps g xs).map (y :: ·)
structure Env where
  glo : Nat → Option D
  call : Nat → List D → O R
/-- a call of a def that changes nothing of ours -/
def callW (E : Env) (f : Nat) (ds : List D) (g : G) : O R :=
  if D.pures ds then (match E.call f ds with
    | .ok r _ => .ok r g
    | .ex c _ => .ex c g
    | .no => .no)
  else (match snaps g ds with
    | none => .no
    | some es => (match E.call f es with
      | .ok (.d x) _ => if D.scalar x then .ok (.d x) g else .no
      | .ok (.fl xs) _ => if xs.all D.scalar then .ok (.fl xs) g else .no
      | .ex c _ => .ex c g
      | _ => .no))
/-- the loop of a comprehension -/
def lcLoop (f : D → G → O (Option D)) (same : G → Bool) : List D → List D → G → O R
  | acc, [], g => if same g then .ok (.fl acc) g else .no
  | acc, x :: xs, g => if same g then (f x g).bind fun y g => lcLoop f same (match y with
      | some y => acc ++ [y]
      | none => acc) xs g else .no
def alive (x : D) (g : G) : Bool := match x with
  | .obj i => (match g[i]? with
    | some (.lst _) => true
    | _ => false)
  | _ => true
def enumD : Nat → List D → List D
  | _, [] => []
  | k, x :: xs => .tup [.int k, x] :: enumD (k + 1) xs
def rangeD (lo : Int) (n : Nat) : List D := (List.range n).map fun (k : Nat) => .int (lo + k)
def seqD : D → Option (List D)
  | .lst xs => some xs
  | .tup xs => some xs
  | .str s => some (s.map fun c => .str [c])
  | _ => none
/-- what enumerate walks -/
def seqE : D → Option (List D)
  | .lst xs => some xs
  | .str s => some (s.map fun c => .str [c])
  | _ => none
/-- the thing that is walked stands as it stood -/
def stands (x : D) (xs : List D) (g : G) : Bool := match x with
  | .obj i => (match g[i]? with
    | some (.lst ys) => D.sames ys xs
    | _ => false)
  | _ => true
/-- a walk: the thing, what it holds, what comes turn by turn -/
structure Wk where
  it : D
  raw : List D
  its : List D
def small (i : Int) : Bool := decide (-1000000 ≤ i ∧ i ≤ 1000000)

mutual
def ev (E : Env) : C → Lo → G → O R
  | .var i, l, g => (match l[i]? with
    | some (some d) => .ok (.d d) g
    | _ => .no)
  | .con d, _, g => .ok (.d d) g
  | .glo k, _, g => O.of ((E.glo k).map .d) g
  | .neg n, _, g => .ok (.d (.int (-(n : Int)))) g
  | .bin op a b, l, g => (ev E a l g).bind fun x g => (ev E b l g).bind fun y g => O.of (binop op (look g x.toD) (look g y.toD)) g
  | .cmp op a b, l, g => (ev E a l g).bind fun x g => (ev E b l g).bind fun y g => O.of ((cmpop op (look g x.toD) (look g y.toD)).map fun b => .d (.bl b)) g
  | .chain op op' a b c, l, g => (ev E a l g).bind fun x g => (ev E b l g).bind fun y g => (O.of (cmpop op (look g x.toD) (look g y.toD)) g).bind fun k g =>
      if k then (ev E c l g).bind fun z g => O.of ((cmpop op' (look g y.toD) (look g z.toD)).map fun b => .d (.bl b)) g else .ok (.d (.bl false)) g
  | .isN neg a, l, g => (ev E a l g).bind fun x g => (match x.toD with
      | .non => .ok (.d (.bl (!neg))) g
      | _ => .ok (.d (.bl neg)) g)
  | .not a, l, g => (ev E a l g).bind fun x g => (match x with
      | .d (.bl b) => .ok (.d (.bl (!b))) g
      | _ => .no)
  | .and a b, l, g => (ev E a l g).bind fun x g => (match x with
      | .d (.bl c) => if c then ev E b l g else .ok (.d (.bl false)) g
      | _ => .no)
  | .or a b, l, g => (ev E a l g).bind fun x g => (match x with
      | .d (.bl c) => if c then .ok (.d (.bl true)) g else ev E b l g
      | _ => .no)
  | .ite t a b, l, g => (evT E t l g).bind fun c g => if c then ev E a l g else ev E b l g
  | .call f args, l, g => (evs E args l g).bind fun ds g => callW E f ds g
  | .bi b args, l, g => (evs E args l g).bind fun ds g => O.of (bi b (ds.map (look g))) g
  | .isi a t, l, g => (ev E a l g).bind fun x g => O.of ((isTy t (look g x.toD)).map fun b => .d (.bl b)) g
  | .met m o args, l, g => (ev E o l g).bind fun x g => (match x with
      | .d (.str s) => (evs E args l g).bind fun ds g => O.of (met m s (ds.map (look g))) g
      | _ => .no)
  | .ix a i, l, g => (ev E a l g).bind fun x g => (ev E i l g).bind fun y g => O.of ((ixop (look g x.toD) y.toD).map .d) g
  | .sl a lo hi, l, g => (ev E a l g).bind fun x g => (evo E lo l g).bind fun p g => (evo E hi l g).bind fun q g => O.of (slop (look g x.toD) p q) g
  | .rev a, l, g => (ev E a l g).bind fun x g => (match look g x.toD with
      | .lst xs => .ok (.fl xs.reverse) g
      | _ => .no)
  | .lst es, l, g => (evs E es l g).bind fun ds g => if isShort LIM ds then .ok (.fl ds) g else .no
  | .tup es, l, g => (evs E es l g).bind fun ds g => if isShort LIM ds then .ok (.d (.tup ds)) g else .no
  | .fmt e, l, g => (ev E e l g).bind fun x g => O.of ((fmt x.toD).map fun s => .d (.str s)) g
  | .fstr es, l, g => (evs E es l g).bind fun ds g => O.of ((dStrs ds).bind fun ss => if isShort LIM ss.flatten then some (.d (.str ss.flatten)) else none) g
  | .lc it tg c elt own, l, g => (evI E it l g).bind fun w g =>
      if isShort LIM w.its then lcLoop (fun x g => (O.of (assign tg x (wipeL l own)) g).bind fun l' g => (evO E c l' g).bind fun b g => if b then (ev E elt l' g).bind fun y g => .ok (some y.toD) g else .ok none g) (stands w.it w.raw) [] w.its g else .no
  | .new e, l, g => (ev E e l g).bind fun x g => (match x with
      | .fl xs => .ok (.d (.obj g.length)) (g ++ [.lst xs])
      | _ => .no)
def evs (E : Env) : Cs → Lo → G → O (List D)
  | .nil, _, g => .ok [] g
  | .cons a r, l, g => (ev E a l g).bind fun x g => (evs E r l g).bind fun xs g => .ok (x.toD :: xs) g
def evo (E : Env) : Co → Lo → G → O (Option Int)
  | .non, _, g => .ok none g
  | .some a, l, g => (ev E a l g).bind fun x g => (match x with
      | .d (.int i) => .ok (some i) g
      | _ => .no)
def evT (E : Env) : T → Lo → G → O Bool
  | .val a, l, g => (ev E a l g).bind fun x g => O.of (truth (look g x.toD)) g
  | .cmp op a b, l, g => (ev E a l g).bind fun x g => (ev E b l g).bind fun y g => O.of (cmpop op (look g x.toD) (look g y.toD)) g
  | .chain op op' a b c, l, g => (ev E a l g).bind fun x g => (ev E b l g).bind fun y g => (O.of (cmpop op (look g x.toD) (look g y.toD)) g).bind fun k g =>
      if k then (ev E c l g).bind fun z g => O.of (cmpop op' (look g y.toD) (look g z.toD)) g else .ok false g
  | .isN neg a, l, g => (ev E a l g).bind fun x g => (match x.toD with
      | .non => .ok (!neg) g
      | _ => .ok neg g)
  | .not t, l, g => (evT E t l g).bind fun b g => .ok (!b) g
  | .and ts, l, g => evA E ts l g
  | .or ts, l, g => evR E ts l g
def evA (E : Env) : Ts → Lo → G → O Bool
  | .one t, l, g => evT E t l g
  | .cons t r, l, g => (evT E t l g).bind fun b g => if b then evA E r l g else .ok false g
def evR (E : Env) : Ts → Lo → G → O Bool
  | .one t, l, g => evT E t l g
  | .cons t r, l, g => (evT E t l g).bind fun b g => if b then .ok true g else evR E r l g
def evO (E : Env) : To → Lo → G → O Bool
  | .non, _, g => .ok true g
  | .some t, l, g => evT E t l g
/-- what is walked: the thing itself, its items -/
def evI (E : Env) : It → Lo → G → O Wk
  | .seq e, l, g => (ev E e l g).bind fun x g => O.of ((seqD (look g x.toD)).map fun xs => ⟨x.toD, xs, xs⟩) g
  | .range1 a, l, g => (ev E a l g).bind fun x g => (match x with
      | .d (.int i) => if small i then .ok ⟨.non, [], rangeD 0 i.toNat⟩ g else .no
      | _ => .no)
  | .range2 a b, l, g => (ev E a l g).bind fun x g => (ev E b l g).bind fun y g => (match x, y with
      | .d (.int i), .d (.int j) => if small i && small j then .ok ⟨.non, [], rangeD i (j - i).toNat⟩ g else .no
      | _, _ => .no)
  | .enum e, l, g => (ev E e l g).bind fun x g => O.of ((seqE (look g x.toD)).map fun xs => ⟨x.toD, xs, enumD 0 xs⟩) g
end

/-! ### statements -/
inductive Fl where
  | nx | rt (r : R)
def augop : Bop → D → R → Option D
  | .add, .int a, .d (.int b) => some (.int (a + b))
  | .sub, .int a, .d (.int b) => some (.int (a - b))
  | _, _, _ => none
def forLoop (body : D → Lo → G → O (Fl × Lo)) (same : G → Bool) : List D → Lo → G → O (Fl × Lo)
  | [], l, g => if same g then .ok (.nx, l) g else .no
  | x :: xs, l, g => if same g then (body x l g).bind fun (f, l) g => (match f with
      | .nx => forLoop body same xs l g
      | .rt r => .ok (.rt r, l) g) else .no
mutual
def exec (E : Env) : S → Lo → G → O (Fl × Lo)
  | .asg tg e, l, g => (ev E e l g).bind fun x g => (O.of (assign tg x.toD l) g).bind fun l g => .ok (.nx, l) g
  | .aug i op e, l, g => (match l[i]? with
      | some (some d) => (ev E e l g).bind fun x g => (O.of (augop op d x) g).bind fun z g => .ok (.nx, l.set i (some z)) g
      | _ => .no)
  | .setIx o i e, l, g => (ev E e l g).bind fun x g => (ev E o l g).bind fun y g => (ev E i l g).bind fun z g => (match y, z with
      | .d (.obj n), .d (.int k) => (match g[n]? with
        | some (.lst xs) => (match ixOf xs.length k with
          | some j => .ok (.nx, l) (g.set n (.lst (xs.set j x.toD)))
          | none => .no)
        | _ => .no)
      | _, _ => .no)
  | .app o e, l, g => (ev E o l g).bind fun y g => (match y with
      | .d (.obj n) => (match g[n]? with
        | some (.lst _) => (ev E e l g).bind fun x g => (match g[n]? with
          | some (.lst xs) => if isShort LIM xs then .ok (.nx, l) (g.set n (.lst (xs ++ [x.toD]))) else .no
          | _ => .no)
        | _ => .no)
      | _ => .no)
  | .drop e, l, g => (ev E e l g).bind fun _ g => .ok (.nx, l) g
  | .ret e, l, g => (ev E e l g).bind fun x g => .ok (.rt x, l) g
  | .retN, l, g => .ok (.rt (.d .non), l) g
  | .ifS t a b, l, g => (evT E t l g).bind fun c g => if c then execs E a l g else execs E b l g
  | .forS it tg b, l, g => (evI E it l g).bind fun w g =>
      if isShort LIM w.its then forLoop (fun x l g => (O.of (assign tg x l) g).bind fun l g => execs E b l g) (stands w.it w.raw) w.its l g else .no
  | .pass, l, g => .ok (.nx, l) g
def execs (E : Env) : Ss → Lo → G → O (Fl × Lo)
  | .nil, l, g => .ok (.nx, l) g
  | .cons s r, l, g => (exec E s l g).bind fun (f, l) g => (match f with
      | .nx => execs E r l g
      | .rt x => .ok (.rt x, l) g)
end

/-! ### a program -/
structure Fn where
  ar : Nat
  sz : Nat
  body : Ss
structure Prog where
  glo : Nat → Option D
  fn : Nat → Option Fn
/-- what a def hands back -/
def back (r : R) (g : G) : O R := match r with
  | .fl xs => if D.pures xs then .ok (.fl xs) [] else .no
  | .d (.obj i) => (match g[i]? with
    | some (.lst xs) => if D.pures xs then .ok (.fl xs) [] else .no
    | _ => .no)
  | .d x => if D.pure x then .ok (.d x) [] else .no
def runFn (E : Env) (fn : Fn) (ds : List D) : O R :=
  if ds.length = fn.ar ∧ fn.ar ≤ fn.sz then
    (execs E fn.body (ds.map some ++ List.replicate (fn.sz - fn.ar) none) []).bind fun (f, _) g => (match f with
      | .nx => .ok (.d .non) []
      | .rt r => back r g)
  else .no
def run (P : Prog) : Nat → Nat → List D → O R
  | 0, _, _ => .no
  | k + 1, f, ds => (match P.fn f with
    | some fn => runFn ⟨P.glo, run P k⟩ fn ds
    | none => .no)
end Pd
/-! Pd1: how plain data stands in the heap. -/
namespace Pd
open PySem PySem.Spec PyProof.Rows L2

/-- at most LIM signs, all of ASCII -/
def SOk (s : List Nat) : Prop := s.length ≤ LIM ∧ ∀ c ∈ s, c < 128
abbrev sV (s : List Nat) : V := .str ⟨s.toArray⟩
def Ex (H H' : Hp) : Prop := ∀ a o, H a = some o → H' a = some o
theorem Ex.refl (H : Hp) : Ex H H := fun _ _ h => h
theorem Ex.trans {H H1 H2 : Hp} (a : Ex H H1) (b : Ex H1 H2) : Ex H H2 := fun x o h => b x o (a x o h)
theorem Ex.new {H : Hp} {p : Addr} {o : HO} (h : H p = none) : Ex H (upd H p o) := fun a u e => by
  rw [upd_ne (ne_of_none e h)]
  exact e
theorem Ex.none {H H' : Hp} (e : Ex H H') {a : Addr} (h : H' a = none) : H a = none := by
  cases q : H a with
  | none => rfl
  | some o =>
    rw [e a o q] at h
    cases h
theorem Ex.rd {H H' : Hp} {a : Addr} {u : HO} (e : Ex H H') (h : Rd H a u) : Rd H' a u := by
  rcases h with h | ⟨o, h⟩
  · exact .inl (e a _ h)
  · exact .inr ⟨o, e a _ h⟩
theorem Ex.l {K : PySem.W.Frag} {H H' : Hp} {a : Addr} {xs : List V} (e : Ex H H') (h : SqL K H a xs) : SqL K H' a xs := by
  rcases h with h | h
  · exact .inl (e.rd h)
  · exact .inr h
theorem Ex.t {K : PySem.W.Frag} {H H' : Hp} {a : Addr} {xs : List V} (e : Ex H H') (h : SqT K H a xs) : SqT K H' a xs := by
  rcases h with h | h
  · exact .inl (e.rd h)
  · exact .inr h

/-! the value v is the data d; F: what never changes; m: where the changing things stand -/
mutual
inductive Rep (K : PySem.W.Frag) (m : List Addr) (F : Hp) : D → V → Prop where
  | non : Rep K m F .non .non
  | bl (b : Bool) : Rep K m F (.bl b) (.bl b)
  | int (i : Int) : Rep K m F (.int i) (.int i)
  | str {s : List Nat} (h : SOk s) : Rep K m F (.str s) (sV s)
  | lst {a : Addr} {vs : List V} {ds : List D} (h : F a = some (.lst vs)) (r : Reps K m F ds vs) : Rep K m F (.lst ds) (.ref a)
  | tup {a : Addr} {vs : List V} {ds : List D} (h : SqT K F a vs) (r : Reps K m F ds vs) : Rep K m F (.tup ds) (.ref a)
  | scr {a : Addr} {vs : List V} {ds : List D} (h : SqL K F a vs) (r : Reps K m F ds vs) : Rep K m F (.scr ds) (.ref a)
  | obj {i : Nat} {a : Addr} (h : m[i]? = some a) : Rep K m F (.obj i) (.ref a)
inductive Reps (K : PySem.W.Frag) (m : List Addr) (F : Hp) : List D → List V → Prop where
  | nil : Reps K m F [] []
  | cons {d : D} {v : V} {ds : List D} {vs : List V} (h : Rep K m F d v) (r : Reps K m F ds vs) : Reps K m F (d :: ds) (v :: vs)
end
def Pre (m m' : List Addr) : Prop := ∀ (i : Nat) (a : Addr), m[i]? = some a → m'[i]? = some a
theorem Pre.refl (m : List Addr) : Pre m m := fun _ _ h => h
theorem Pre.trans {m m1 m2 : List Addr} (a : Pre m m1) (b : Pre m1 m2) : Pre m m2 := fun i x h => b i x (a i x h)
theorem Pre.nil (m : List Addr) : Pre [] m := fun i a h => by simp at h
theorem Pre.mem {m m' : List Addr} (p : Pre m m') {a : Addr} (h : a ∈ m) : a ∈ m' := by
  obtain ⟨i, hi⟩ := List.getElem?_of_mem h
  exact List.mem_of_getElem? (p i a hi)
section
variable {K : PySem.W.Frag} {m m' : List Addr} {F F' : Hp}
mutual
theorem Rep.mono (e : Ex F F') (p : Pre m m') : ∀ {d : D} {v : V}, Rep K m F d v → Rep K m' F' d v
  | _, _, .non => .non
  | _, _, .bl b => .bl b
  | _, _, .int i => .int i
  | _, _, .str h => .str h
  | _, _, .lst h r => .lst (e _ _ h) (Reps.mono e p r)
  | _, _, .scr h r => .scr (e.l h) (Reps.mono e p r)
  | _, _, .tup h r => .tup (e.t h) (Reps.mono e p r)
  | _, _, .obj h => .obj (p _ _ h)
theorem Reps.mono (e : Ex F F') (p : Pre m m') : ∀ {ds : List D} {vs : List V}, Reps K m F ds vs → Reps K m' F' ds vs
  | _, _, .nil => .nil
  | _, _, .cons h r => .cons (Rep.mono e p h) (Reps.mono e p r)
end
mutual
theorem Rep.pure : ∀ {d : D} {v : V}, Rep K m F d v → D.pure d = true → Rep K [] F d v
  | _, _, .non, _ => .non
  | _, _, .bl b, _ => .bl b
  | _, _, .int i, _ => .int i
  | _, _, .str h, _ => .str h
  | _, _, .lst h r, z => .lst h (Reps.pure r (by simpa [D.pure] using z))
  | _, _, .tup h r, z => .tup h (Reps.pure r (by simpa [D.pure] using z))
  | _, _, .scr h r, z => .scr h (Reps.pure r (by simpa [D.pure] using z))
  | _, _, .obj h, z => by simp [D.pure] at z
theorem Reps.pure : ∀ {ds : List D} {vs : List V}, Reps K m F ds vs → D.pures ds = true → Reps K [] F ds vs
  | _, _, .nil, _ => .nil
  | _, _, .cons h r, z => by
    simp only [D.pures, Bool.and_eq_true] at z
    exact .cons (Rep.pure h z.1) (Reps.pure r z.2)
end
theorem Rep.scalar {F' : Hp} : ∀ {d : D} {v : V}, Rep K m F d v → D.scalar d = true → Rep K m' F' d v
  | _, _, .non, _ => .non
  | _, _, .bl b, _ => .bl b
  | _, _, .int i, _ => .int i
  | _, _, .str h, _ => .str h
  | _, _, .lst h r, z => by simp [D.scalar] at z
  | _, _, .tup h r, z => by simp [D.scalar] at z
  | _, _, .scr h r, z => by simp [D.scalar] at z
  | _, _, .obj h, z => by simp [D.scalar] at z
theorem Reps.length : ∀ {ds : List D} {vs : List V}, Reps K m F ds vs → ds.length = vs.length
  | _, _, .nil => rfl
  | _, _, .cons h r => by rw [List.length_cons, List.length_cons, Reps.length r]
theorem Reps.append : ∀ {ds es : List D} {vs us : List V}, Reps K m F ds vs → Reps K m F es us → Reps K m F (ds ++ es) (vs ++ us)
  | _, _, _, _, .nil, s => s
  | _, _, _, _, .cons h r, s => .cons h (Reps.append r s)
theorem Reps.get : ∀ {ds : List D} {vs : List V} {i : Nat} {d : D}, Reps K m F ds vs → ds[i]? = some d → ∃ v, vs[i]? = some v ∧ Rep K m F d v
  | _, _, i, d, .nil, e => by simp at e
  | _, _, 0, d, .cons h r, e => by simp at e; subst e; exact ⟨_, rfl, h⟩
  | _, _, i + 1, d, .cons h r, e => by
    obtain ⟨v, q1, q2⟩ := Reps.get (i := i) (d := d) r (by simpa using e)
    exact ⟨v, by simpa using q1, q2⟩
theorem Reps.getV : ∀ {ds : List D} {vs : List V} {i : Nat} {v : V}, Reps K m F ds vs → vs[i]? = some v → ∃ d, ds[i]? = some d ∧ Rep K m F d v
  | _, _, i, d, .nil, e => by simp at e
  | _, _, 0, d, .cons h r, e => by simp at e; subst e; exact ⟨_, rfl, h⟩
  | _, _, i + 1, v, .cons h r, e => by
    obtain ⟨d, q1, q2⟩ := Reps.getV (i := i) (v := v) r (by simpa using e)
    exact ⟨d, by simpa using q1, q2⟩
theorem Reps.set {d : D} {v : V} (h : Rep K m F d v) : ∀ {ds : List D} {vs : List V} (i : Nat), Reps K m F ds vs → Reps K m F (ds.set i d) (vs.set i v)
  | _, _, _, .nil => .nil
  | _, _, 0, .cons _ r => .cons h r
  | _, _, i + 1, .cons q r => .cons q (Reps.set h i r)
theorem Reps.drop : ∀ {ds : List D} {vs : List V} (n : Nat), Reps K m F ds vs → Reps K m F (ds.drop n) (vs.drop n)
  | _, _, 0, r => r
  | _, _, _ + 1, .nil => .nil
  | _, _, n + 1, .cons _ r => Reps.drop n r
theorem Reps.take : ∀ {ds : List D} {vs : List V} (n : Nat), Reps K m F ds vs → Reps K m F (ds.take n) (vs.take n)
  | _, _, 0, _ => .nil
  | _, _, _ + 1, .nil => .nil
  | _, _, n + 1, .cons q r => .cons q (Reps.take n r)
theorem Reps.reverse {ds : List D} {vs : List V} (h : Reps K m F ds vs) : Reps K m F ds.reverse vs.reverse := by
  induction ds generalizing vs with
  | nil => cases h; exact .nil
  | cons d ds ih =>
    cases h with
    | cons q r =>
      rw [List.reverse_cons, List.reverse_cons]
      exact (ih r).append (.cons q .nil)
theorem Reps.rep {ds : List D} {vs : List V} (h : Reps K m F ds vs) : ∀ k : Nat, Reps K m F (List.replicate k ds).flatten (List.replicate k vs).flatten
  | 0 => .nil
  | k + 1 => by
    rw [List.replicate_succ, List.replicate_succ, List.flatten_cons, List.flatten_cons]
    exact h.append (Reps.rep h k)
end

/-! ### the store -/
structure Sim (K : PySem.W.Frag) (m : List Addr) (F : Hp) (g : G) (H : Hp) : Prop where
  ex : Ex F H
  len : m.length = g.length
  inj : ∀ (i j : Nat) (a : Addr), m[i]? = some a → m[j]? = some a → i = j
  apart : ∀ (i : Nat) (a : Addr), m[i]? = some a → F a = none
  there : ∀ (i : Nat) (a : Addr), m[i]? = some a → H a ≠ none
  lst : ∀ (i : Nat) (xs : List D), g[i]? = some (.lst xs) → ∃ (a : Addr) (vs : List V), m[i]? = some a ∧ H a = some (.lst vs) ∧ Reps K m F xs vs
structure Grow (m : List Addr) (F H : Hp) (m' : List Addr) (F' H' : Hp) : Prop where
  ex : Ex F F'
  pre : Pre m m'
  keep : ∀ a o, H a = some o → a ∉ m → H' a = some o
  apart : ∀ a, H a ≠ none → F a = none → F' a = none
  fresh : ∀ a ∈ m', a ∈ m ∨ H a = none
  there : ∀ a, H a ≠ none → H' a ≠ none
theorem Grow.refl (m : List Addr) (F H : Hp) : Grow m F H m F H :=
  ⟨Ex.refl F, Pre.refl m, fun _ _ h _ => h, fun _ _ h => h, fun _ h => .inl h, fun _ h => h⟩
theorem Grow.trans {m m1 m2 : List Addr} {F F1 F2 H H1 H2 : Hp} (a : Grow m F H m1 F1 H1) (b : Grow m1 F1 H1 m2 F2 H2) : Grow m F H m2 F2 H2 where
  ex := a.ex.trans b.ex
  pre := a.pre.trans b.pre
  keep := fun x o h n => b.keep x o (a.keep x o h n) fun z => by
    rcases a.fresh x z with q | q
    · exact n q
    · rw [h] at q; cases q
  apart := fun x h n => b.apart x (a.there x h) (a.apart x h n)
  fresh := fun x z => by
    rcases b.fresh x z with q | q
    · exact a.fresh x q
    · refine .inr ?_
      cases r : H x with
      | none => rfl
      | some o => exact absurd q (a.there x (by rw [r]; simp))
  there := fun x h => b.there x (a.there x h)
/-- a new object, not of the store, not (yet) fixed -/
theorem Grow.new {m : List Addr} {F H : Hp} {p : Addr} {o : HO} (h : H p = none) : Grow m F H m F (upd H p o) where
  ex := Ex.refl F
  pre := Pre.refl m
  keep := fun a u e _ => Ex.new h a u e
  apart := fun _ _ h => h
  fresh := fun _ h => .inl h
  there := fun a e => by
    by_cases z : a = p
    · subst z; exact absurd h e
    · rw [upd_ne z]; exact e
/-- a new object that is fixed at once -/
theorem Grow.newF {m : List Addr} {F H : Hp} {p : Addr} {o : HO} (e : Ex F H) (h : H p = none) : Grow m F H m (upd F p o) (upd H p o) where
  ex := Ex.new (e.none h)
  pre := Pre.refl m
  keep := fun a u e _ => Ex.new h a u e
  apart := fun a q n => by
    rw [upd_ne (show a ≠ p from fun z => q (by rw [z]; exact h))]
    exact n
  fresh := fun _ h => .inl h
  there := (Grow.new (m := m) (F := F) (o := o) h).there
theorem Sim.ne {K : PySem.W.Frag} {m : List Addr} {F H : Hp} {g : G} (s : Sim K m F g H) {p : Addr} (h : H p = none) : p ∉ m := fun z => by
  obtain ⟨i, hi⟩ := List.getElem?_of_mem z
  exact s.there i p hi h
theorem Sim.new {K : PySem.W.Frag} {m : List Addr} {F H : Hp} {g : G} {p : Addr} {o : HO} (s : Sim K m F g H) (h : H p = none) : Sim K m F g (upd H p o) where
  ex := s.ex.trans (Ex.new h)
  len := s.len
  inj := s.inj
  apart := s.apart
  there := fun i a e => (Grow.new (m := m) (F := F) (o := o) h).there a (s.there i a e)
  lst := fun i xs e => by
    obtain ⟨a, vs, h1, h2, h3⟩ := s.lst i xs e
    exact ⟨a, vs, h1, by rw [upd_ne (ne_of_none h2 h)]; exact h2, h3⟩
theorem Sim.newF {K : PySem.W.Frag} {m : List Addr} {F H : Hp} {g : G} {p : Addr} {o : HO} (s : Sim K m F g H) (h : H p = none) : Sim K m (upd F p o) g (upd H p o) where
  ex := fun a u e => by
    by_cases z : a = p
    · subst z; rw [upd_same] at e ⊢; exact e
    · rw [upd_ne z] at e ⊢; exact s.ex a u e
  len := s.len
  inj := s.inj
  apart := fun i a e => by
    rw [upd_ne (show a ≠ p from fun z => s.there i a e (by rw [z]; exact h))]
    exact s.apart i a e
  there := (s.new (o := o) h).there
  lst := fun i xs e => by
    obtain ⟨a, vs, h1, h2, h3⟩ := (s.new (o := o) h).lst i xs e
    exact ⟨a, vs, h1, h2, h3.mono (Ex.new (s.ex.none h)) (Pre.refl m)⟩
/-- an object of the heap is fixed -/
theorem Sim.fix {K : PySem.W.Frag} {m : List Addr} {F H : Hp} {g : G} {p : Addr} {o : HO} (s : Sim K m F g H) (hF : F p = none) (hm : p ∉ m) (h : H p = some o) : Sim K m (upd F p o) g H where
  ex := fun a u e => by
    by_cases z : a = p
    · subst z; rw [upd_same] at e; rw [h]; exact e
    · rw [upd_ne z] at e; exact s.ex a u e
  len := s.len
  inj := s.inj
  apart := fun i a e => by
    rw [upd_ne (show a ≠ p from fun z => hm (z ▸ List.mem_of_getElem? e))]
    exact s.apart i a e
  there := s.there
  lst := fun i xs e => by
    obtain ⟨a, vs, h1, h2, h3⟩ := s.lst i xs e
    exact ⟨a, vs, h1, h2, h3.mono (Ex.new hF) (Pre.refl m)⟩

/-! ### outcomes -/
/-- the value of an R; B: the heap at the start of what gave it -/
def RelR (K : PySem.W.Frag) : Hp → List Addr → Hp → Hp → R → V → Prop := fun B m F H r v => match r with
  | .d x => Rep K m F x v
  | .fl xs => ∃ a vs, v = .ref a ∧ B a = none ∧ F a = none ∧ a ∉ m ∧ H a = some (.lst vs) ∧ Reps K m F xs vs
def RelA (K : PySem.W.Frag) : Hp → List Addr → Hp → Hp → List D → List V → Prop := fun _ m F _ ds vs => Reps K m F ds vs
def RelE {α : Type} : Hp → List Addr → Hp → Hp → α → α → Prop := fun _ _ _ _ a b => a = b
abbrev Rl (α β : Type) := Hp → List Addr → Hp → Hp → α → β → Prop
/-- a relation that an elder start bears -/
def Elder {α β : Type} (rel : Rl α β) : Prop := ∀ B B' m F H a b, (∀ x, B x ≠ none → B' x ≠ none) → rel B' m F H a b → rel B m F H a b
theorem elderR {K : PySem.W.Frag} : Elder (RelR K) := fun B B' m F H r v h q => by
  cases r with
  | d x => exact q
  | fl xs =>
    obtain ⟨a, vs, h1, h2, h3⟩ := q
    refine ⟨a, vs, h1, ?_, h3⟩
    cases z : B a with
    | none => rfl
    | some o => exact absurd h2 (h a (by rw [z]; simp))
theorem elderA {K : PySem.W.Frag} : Elder (RelA K) := fun _ _ _ _ _ _ _ _ q => q
theorem elderE {α : Type} : Elder (RelE (α := α)) := fun _ _ _ _ _ _ _ _ q => q
/-- what an outcome asks of what follows -/
def Res {α β : Type} (K : PySem.W.Frag) (rel : Rl α β) (m : List Addr) (F H : Hp) (o : O α) (Q : β → Hp → Prop) : Prop := match o with
  | .ok a g => ∀ b m' F' H', Grow m F H m' F' H' → Sim K m' F' g H' → rel H m' F' H' a b → Q b H'
  | .ex _ _ => False
  | .no => False
section
variable {K : PySem.W.Frag} {α β γ δ : Type} {rel : Rl α β} {rel' : Rl γ δ} {m m1 : List Addr} {F F1 H H1 : Hp}
theorem Res.mono {o : O α} {Q : β → Hp → Prop} (he : Elder rel) (gr : Grow m F H m1 F1 H1) (h : Res K rel m F H o Q) : Res K rel m1 F1 H1 o Q := by
  cases o with
  | ok a g => exact fun b m' F' H' g' s r => h b m' F' H' (gr.trans g') s (he H H1 m' F' H' a b gr.there r)
  | ex c g => exact h
  | no => exact h
theorem Res.imp {o : O α} {Q Q' : β → Hp → Prop} (h : Res K rel m F H o Q) (q : ∀ b H', Q b H' → Q' b H') : Res K rel m F H o Q' := by
  cases o with
  | ok a g => exact fun b m' F' H' g' s r => q b H' (h b m' F' H' g' s r)
  | ex c g => exact h
  | no => exact h
theorem Res.bind {o : O α} {f : α → G → O γ} {Q : δ → Hp → Prop} (he : Elder rel') (h : Res K rel' m F H (o.bind f) Q) :
    Res K rel m F H o fun b H1 => ∃ m1 F1 g1 a, o = .ok a g1 ∧ Grow m F H m1 F1 H1 ∧ Sim K m1 F1 g1 H1 ∧ rel H m1 F1 H1 a b ∧ Res K rel' m1 F1 H1 (f a g1) Q := by
  cases o with
  | ok a g => exact fun b m' F' H' gr s r => ⟨m', F', g, a, rfl, gr, s, r, Res.mono he gr h⟩
  | ex c g => exact h
  | no => exact h
/-- the outcome as it is -/
theorem Res.here {a : α} {b : β} {g : G} {Q : β → Hp → Prop} (h : Res K rel m F H (.ok a g) Q) (s : Sim K m F g H) (r : rel H m F H a b) : Q b H := h b m F H (Grow.refl m F H) s r
theorem Res.of_some {o : Option α} {g : G} {Q : β → Hp → Prop} (h : Res K rel m F H (O.of o g) Q) : ∃ a, o = some a ∧ Res K rel m F H (.ok a g) Q := by
  cases o with
  | some a => exact ⟨a, rfl, h⟩
  | none => exact h.elim
end

/-- slots -/
def RepS (K : PySem.W.Frag) (m : List Addr) (F : Hp) (l : Lo) (σ : L2.St) : Prop := l.length = σ.length ∧ ∀ (i : Nat) (d : D), l[i]? = some (some d) → ∃ v : V, σ[i]? = some (some v) ∧ Rep K m F d v
theorem RepS.mono {K : PySem.W.Frag} {m m' : List Addr} {F F' : Hp} {l : Lo} {σ : L2.St} (e : Ex F F') (p : Pre m m') (h : RepS K m F l σ) : RepS K m' F' l σ :=
  ⟨h.1, fun i d q => let ⟨v, q1, q2⟩ := h.2 i d q; ⟨v, q1, q2.mono e p⟩⟩
theorem RepS.grow {K : PySem.W.Frag} {m m' : List Addr} {F F' H H' : Hp} {l : Lo} {σ : L2.St} (g : Grow m F H m' F' H') (h : RepS K m F l σ) : RepS K m' F' l σ := h.mono g.ex g.pre
theorem RepS.set {K : PySem.W.Frag} {m : List Addr} {F : Hp} {l : Lo} {σ : L2.St} {i : Nat} {d : D} {v : V} (h : RepS K m F l σ) (r : Rep K m F d v) : RepS K m F (l.set i (some d)) (σ.set i (some v)) := by
  refine ⟨by rw [List.length_set, List.length_set]; exact h.1, fun j e q => ?_⟩
  by_cases z : i = j
  · subst z
    by_cases hi : i < l.length
    · rw [List.getElem?_set_self hi] at q
      cases q
      exact ⟨v, by rw [List.getElem?_set_self (by rw [← h.1]; exact hi)], r⟩
    · rw [List.getElem?_eq_none (by rw [List.length_set]; omega)] at q
      cases q
  · rw [List.getElem?_set_ne z] at q
    obtain ⟨w, q1, q2⟩ := h.2 j e q
    exact ⟨w, by rw [List.getElem?_set_ne z]; exact q1, q2⟩
theorem RepS.wipe {K : PySem.W.Frag} {m : List Addr} {F : Hp} {l : Lo} {σ : L2.St} (h : RepS K m F l σ) : ∀ vs : List Nat, RepS K m F (wipeL l vs) (wipe σ vs)
  | [] => h
  | v :: vs => by
    have ih := RepS.wipe h vs
    refine ⟨by show ((wipeL l vs).set v none).length = ((L2.wipe σ vs).set v none).length; rw [List.length_set, List.length_set]; exact ih.1, fun j e q => ?_⟩
    have q : ((wipeL l vs).set v none)[j]? = some (some e) := q
    show ∃ w, ((L2.wipe σ vs).set v none)[j]? = some (some w) ∧ _
    by_cases z : v = j
    · subst z
      by_cases hi : v < (wipeL l vs).length
      · rw [List.getElem?_set_self hi] at q; cases q
      · rw [List.getElem?_eq_none (by rw [List.length_set]; omega)] at q; cases q
    · rw [List.getElem?_set_ne z] at q
      obtain ⟨w, q1, q2⟩ := ih.2 j e q
      exact ⟨w, by rw [List.getElem?_set_ne z]; exact q1, q2⟩

/-! ### values as they are read -/
/-- the data that is seen at v: a list of the store may stand there -/
def Sees (K : PySem.W.Frag) (m : List Addr) (F H : Hp) : D → V → Prop
  | .lst ds, v => ∃ a vs, v = .ref a ∧ H a = some (.lst vs) ∧ Reps K m F ds vs
  | .scr ds, v => ∃ a vs, v = .ref a ∧ SqL K H a vs ∧ Reps K m F ds vs
  | .tup ds, v => ∃ a vs, v = .ref a ∧ SqT K F a vs ∧ Reps K m F ds vs
  | d, v => Rep K m F d v
section
variable {K : PySem.W.Frag} {m m1 : List Addr} {F F1 H H1 B : Hp} {g : G}
theorem Rep.sees {d : D} {v : V} (e : Ex F H) (h : Rep K m F d v) : Sees K m F H d v := by
  cases h with
  | non => exact .non
  | bl b => exact .bl b
  | int i => exact .int i
  | str h => exact .str h
  | lst h r => exact ⟨_, _, rfl, e _ _ h, r⟩
  | tup h r => exact ⟨_, _, rfl, h, r⟩
  | scr h r => exact ⟨_, _, rfl, e.l h, r⟩
  | obj h => exact .obj h
/-- the value of an R at a later state -/
theorem RelR.grow {r : R} {v : V} (h : RelR K B m F H r v) (gr : Grow m F H m1 F1 H1) : RelR K B m1 F1 H1 r v := by
  cases r with
  | d x => exact Rep.mono gr.ex gr.pre h
  | fl xs =>
    obtain ⟨a, vs, h1, h2, h3, h4, h5, h6⟩ := h
    refine ⟨a, vs, h1, h2, gr.apart a (by rw [h5]; simp) h3, fun z => ?_, gr.keep a _ h5 h4, h6.mono gr.ex gr.pre⟩
    rcases gr.fresh a z with q | q
    · exact h4 q
    · rw [h5] at q; cases q
theorem RelR.sees {r : R} {v : V} (h : RelR K B m F H r v) (s : Sim K m F g H) : Sees K m F H (look g r.toD) v := by
  cases r with
  | d x =>
    have h : Rep K m F x v := h
    cases h with
    | @obj i a e =>
      show Sees K m F H (match g[i]? with | some (.lst xs) => .lst xs | _ => .obj i) _
      cases q : g[i]? with
      | none => exact Rep.obj e
      | some c =>
        cases c with
        | dead => exact Rep.obj e
        | lst xs =>
          obtain ⟨b, vs, h1, h2, h3⟩ := s.lst i xs q
          rw [e] at h1
          cases h1
          exact ⟨a, vs, rfl, h2, h3⟩
    | non => exact Rep.non
    | bl b => exact Rep.bl b
    | int i => exact Rep.int i
    | str h0 => exact Rep.str h0
    | lst h0 r => exact ⟨_, _, rfl, s.ex _ _ h0, r⟩
    | tup h0 r => exact ⟨_, _, rfl, h0, r⟩
    | scr h0 r => exact ⟨_, _, rfl, s.ex.l h0, r⟩
  | fl xs =>
    obtain ⟨a, vs, h1, h2, h3, h4, h5, h6⟩ := h
    exact ⟨a, vs, h1, h5, h6⟩
/-- a list that was just made is fixed -/
theorem RelR.commit {r : R} {v : V} (h : RelR K H m1 F1 H1 r v) (gr : Grow m F H m1 F1 H1) (s : Sim K m1 F1 g H1) : ∃ F2, Grow m F H m1 F2 H1 ∧ Sim K m1 F2 g H1 ∧ Rep K m1 F2 r.toD v ∧ Ex F1 F2 := by
  cases r with
  | d x => exact ⟨F1, gr, s, h, Ex.refl _⟩
  | fl xs =>
    obtain ⟨a, vs, rfl, h2, h3, h4, h5, h6⟩ := h
    refine ⟨upd F1 a (.lst vs), ⟨gr.ex.trans (Ex.new h3), gr.pre, gr.keep, fun b q n => ?_, gr.fresh, gr.there⟩, s.fix h3 h4 h5, .lst upd_same (h6.mono (Ex.new h3) (Pre.refl _)), Ex.new h3⟩
    rw [upd_ne (show b ≠ a from fun z => q (by rw [z]; exact h2))]
    exact gr.apart b q n
end
end Pd
/-! Pd2: the operations on data are those of the model. -/
namespace Pd
open PySem PySem.Spec PyProof.Rows L2

theorem LIM_eq : LIM = 1000000 := rfl
theorem lim_line {n : Nat} (h : n ≤ LIM) : n ≤ sizeLine := by
  rw [LIM_eq] at h
  rw [sizeLine_eq]
  omega
theorem str_inj {x y : List Nat} (h : (⟨x.toArray⟩ : Str) = ⟨y.toArray⟩) : x = y := by
  have h1 : x.toArray = y.toArray := by injection h
  simpa using congrArg Array.toList h1
theorem str_beq (x y : List Nat) : ((⟨x.toArray⟩ : Str) == ⟨y.toArray⟩) = (x == y) := by
  rw [Bool.eq_iff_iff]
  simp only [beq_iff_eq]
  exact ⟨str_inj, fun h => by rw [h]⟩
theorem str_len (x : List Nat) : (⟨x.toArray⟩ : Str).length = x.length := by simp [Str.length]
theorem str_app (x y : List Nat) : (⟨x.toArray⟩ : Str) ++ ⟨y.toArray⟩ = ⟨(x ++ y).toArray⟩ := by
  show (⟨x.toArray ++ y.toArray⟩ : Str) = _
  simp

mutual
def toPy : D → PyData
  | .non => .none
  | .bl b => .bool b
  | .int i => .int i
  | .str s => .str ⟨s.toArray⟩
  | .lst xs => .list (toPys xs)
  | .tup xs => .tuple (toPys xs)
  | .scr _ => .none
  | .obj _ => .none
def toPys : List D → List PyData
  | [] => []
  | x :: xs => toPy x :: toPys xs
end
mutual
theorem eqv_py : ∀ (n m : Nat) (d e : D), D.okN n d = true → D.okN m e = true → PyData.eqv (toPy d) (toPy e) = D.eqv d e
  | _, _, .non, e, _, h => by cases e <;> simp_all [toPy, PyData.eqv, D.eqv, D.okN]
  | _, _, .bl b, e, _, h => by cases e <;> simp_all [toPy, PyData.eqv, D.eqv, D.okN]
  | _, _, .int i, e, _, h => by cases e <;> simp_all [toPy, PyData.eqv, D.eqv, D.okN]
  | _, _, .str s, e, _, h => by cases e <;> simp_all [toPy, PyData.eqv, D.eqv, D.okN, str_beq]
  | n, m, .lst xs, .lst ys, h1, h2 => by
    cases n with
    | zero => simp [D.okN] at h1
    | succ n =>
      cases m with
      | zero => simp [D.okN] at h2
      | succ m =>
        simp only [D.okN] at h1 h2
        simp only [toPy, PyData.eqv, D.eqv]
        exact eqvs_py n m xs ys h1 h2
  | n, m, .tup xs, .tup ys, h1, h2 => by
    cases n with
    | zero => simp [D.okN] at h1
    | succ n =>
      cases m with
      | zero => simp [D.okN] at h2
      | succ m =>
        simp only [D.okN] at h1 h2
        simp only [toPy, PyData.eqv, D.eqv]
        exact eqvs_py n m xs ys h1 h2
  | _, _, .lst xs, .non, _, _ => by simp [toPy, PyData.eqv, D.eqv]
  | _, _, .lst xs, .bl _, _, _ => by simp [toPy, PyData.eqv, D.eqv]
  | _, _, .lst xs, .int _, _, _ => by simp [toPy, PyData.eqv, D.eqv]
  | _, _, .lst xs, .str _, _, _ => by simp [toPy, PyData.eqv, D.eqv]
  | _, _, .lst xs, .tup _, _, _ => by simp [toPy, PyData.eqv, D.eqv]
  | _, m, .lst xs, .obj _, _, h => by cases m <;> simp [D.okN] at h
  | _, m, .lst xs, .scr _, _, h => by cases m <;> simp [D.okN] at h
  | _, m, .tup xs, .scr _, _, h => by cases m <;> simp [D.okN] at h
  | n, _, .scr _, _, h, _ => by cases n <;> simp [D.okN] at h
  | _, _, .tup xs, .non, _, _ => by simp [toPy, PyData.eqv, D.eqv]
  | _, _, .tup xs, .bl _, _, _ => by simp [toPy, PyData.eqv, D.eqv]
  | _, _, .tup xs, .int _, _, _ => by simp [toPy, PyData.eqv, D.eqv]
  | _, _, .tup xs, .str _, _, _ => by simp [toPy, PyData.eqv, D.eqv]
  | _, _, .tup xs, .lst _, _, _ => by simp [toPy, PyData.eqv, D.eqv]
  | _, m, .tup xs, .obj _, _, h => by cases m <;> simp [D.okN] at h
  | n, _, .obj _, _, h, _ => by cases n <;> simp [D.okN] at h
theorem eqvs_py : ∀ (n m : Nat) (ds es : List D), D.oksN n ds = true → D.oksN m es = true → PyData.eqvAll (toPys ds) (toPys es) = D.eqvs ds es
  | _, _, [], [], _, _ => by simp [toPys, PyData.eqvAll, D.eqvs]
  | _, _, [], _ :: _, _, _ => by simp [toPys, PyData.eqvAll, D.eqvs]
  | _, _, _ :: _, [], _, _ => by simp [toPys, PyData.eqvAll, D.eqvs]
  | n, m, d :: ds, e :: es, h1, h2 => by
    simp only [D.oksN, Bool.and_eq_true] at h1 h2
    simp only [toPys, PyData.eqvAll, D.eqvs]
    rw [eqv_py n m d e h1.1 h2.1, eqvs_py n m ds es h1.2 h2.2]
end
section
variable {K : PySem.W.Frag} {m : List Addr} {F H : Hp} {g : G}
mutual
theorem Rep.dp (e : Ex F H) : ∀ (n : Nat) {d : D} {v : V}, Rep K m F d v → D.okN n d = true → Dp K H v (toPy d)
  | _, _, _, .non, _ => by unfold toPy; exact .non
  | _, _, _, .bl b, _ => by unfold toPy; exact .bl b
  | _, _, _, .int i, _ => by unfold toPy; exact .int i
  | _, _, _, .str h, _ => by unfold toPy; exact .str _
  | n, _, _, .lst h r, z => by
    cases n with
    | zero => simp [D.okN] at z
    | succ n =>
      simp only [D.okN] at z
      unfold toPy
      exact .lst (.inl (.inl (e _ _ h))) (Reps.dp e n r z)
  | n, _, _, .tup h r, z => by
    cases n with
    | zero => simp [D.okN] at z
    | succ n =>
      simp only [D.okN] at z
      unfold toPy
      exact .tup (e.t h) (Reps.dp e n r z)
  | n, _, _, .scr h r, z => by cases n <;> simp [D.okN] at z
  | n, _, _, .obj h, z => by cases n <;> simp [D.okN] at z
theorem Reps.dp (e : Ex F H) : ∀ (n : Nat) {ds : List D} {vs : List V}, Reps K m F ds vs → D.oksN n ds = true → DpAll K H vs (toPys ds)
  | _, _, _, .nil, _ => by unfold toPys; exact .nil
  | n, _, _, .cons h r, z => by
    simp only [D.oksN, Bool.and_eq_true] at z
    unfold toPys
    exact .cons (Rep.dp e n h z.1) (Reps.dp e n r z.2)
end
theorem sok_strOk {s : List Nat} (h : SOk s) : PyData.strOk ⟨s.toArray⟩ = true := by
  unfold PyData.strOk
  simp only [List.all_toArray, List.all_eq_true, decide_eq_true_eq]
  intro c hc
  have := h.2 c hc
  omega
mutual
theorem Rep.lay : ∀ {d : D} {v : V}, Rep K m F d v → (toPy d).canLay0 = true
  | _, _, .non => by simp [toPy, PyData.canLay0]
  | _, _, .bl b => by simp [toPy, PyData.canLay0]
  | _, _, .int i => by simp [toPy, PyData.canLay0]
  | _, _, .str h => by simp only [toPy, PyData.canLay0]; exact sok_strOk h
  | _, _, .lst h r => by simp only [toPy, PyData.canLay0]; exact Reps.lay r
  | _, _, .tup h r => by simp only [toPy, PyData.canLay0]; exact Reps.lay r
  | _, _, .scr h r => by simp [toPy, PyData.canLay0]
  | _, _, .obj h => by simp [toPy, PyData.canLay0]
theorem Reps.lay : ∀ {ds : List D} {vs : List V}, Reps K m F ds vs → PyData.canLayAll0 (toPys ds) = true
  | _, _, .nil => by simp [toPys, PyData.canLayAll0]
  | _, _, .cons h r => by simp only [toPys, PyData.canLayAll0, Bool.and_eq_true]; exact ⟨Rep.lay h, Reps.lay r⟩
end
end
mutual
theorem depth_py : ∀ (n : Nat) (d : D), D.okN n d = true → (toPy d).depth ≤ n
  | n, .non, _ => by simp [toPy, PyData.depth]
  | n, .bl _, _ => by simp [toPy, PyData.depth]
  | n, .int _, _ => by simp [toPy, PyData.depth]
  | n, .str _, _ => by simp [toPy, PyData.depth]
  | 0, .lst xs, h => by simp [D.okN] at h
  | 0, .tup xs, h => by simp [D.okN] at h
  | n + 1, .lst xs, h => by
    simp only [D.okN] at h
    simp only [toPy, PyData.depth]
    have := depths_py n xs h
    omega
  | n + 1, .tup xs, h => by
    simp only [D.okN] at h
    simp only [toPy, PyData.depth]
    have := depths_py n xs h
    omega
  | n, .scr _, h => by cases n <;> simp [D.okN] at h
  | n, .obj _, h => by cases n <;> simp [D.okN] at h
theorem depths_py : ∀ (n : Nat) (ds : List D), D.oksN n ds = true → PyData.depthAll (toPys ds) ≤ n
  | n, [], _ => by simp [toPys, PyData.depthAll]
  | n, d :: ds, h => by
    simp only [D.oksN, Bool.and_eq_true] at h
    simp only [toPys, PyData.depthAll]
    have h1 := depth_py n d h.1
    have h2 := depths_py n ds h.2
    omega
end
section
variable {K : PySem.W.Frag} {m : List Addr} {F H : Hp} {g : G}
/-! what is seen -/
theorem Sees.dp {d : D} {v : V} {n : Nat} (e : Ex F H) (h : Sees K m F H d v) (z : D.okN n d = true) : Dp K H v (toPy d) ∧ (toPy d).canLay0 = true := by
  cases d with
  | lst ds =>
    obtain ⟨a, vs, rfl, h1, h2⟩ := h
    cases n with
    | zero => simp [D.okN] at z
    | succ n =>
      simp only [D.okN] at z
      exact ⟨by unfold toPy; exact .lst (.inl (.inl h1)) (h2.dp e n z), by simp only [toPy, PyData.canLay0]; exact h2.lay⟩
  | tup ds =>
    obtain ⟨a, vs, rfl, h1, h2⟩ := h
    cases n with
    | zero => simp [D.okN] at z
    | succ n =>
      simp only [D.okN] at z
      exact ⟨by unfold toPy; exact .tup (e.t h1) (h2.dp e n z), by simp only [toPy, PyData.canLay0]; exact h2.lay⟩
  | non => exact ⟨Rep.dp e n h z, Rep.lay h⟩
  | bl b => exact ⟨Rep.dp e n h z, Rep.lay h⟩
  | int i => exact ⟨Rep.dp e n h z, Rep.lay h⟩
  | str s => exact ⟨Rep.dp e n h z, Rep.lay h⟩
  | scr i => cases n <;> simp [D.okN] at z
  | obj i => cases n <;> simp [D.okN] at z
theorem Sees.shaped {d : D} {v : V} {n : Nat} (e : Ex F H) (h : Sees K m F H d v) (z : D.okN n d = true) (hn : n ≤ 64) : SeqAt.shaped (toPy d) = true := by
  have h1 := depth_py n d z
  show ((toPy d).canLay0 && decide ((toPy d).depth ≤ 64)) = true
  rw [Bool.and_eq_true]
  exact ⟨(h.dp e z).2, decide_eq_true (by omega)⟩
theorem Sees.int {i : Int} {v : V} (h : Sees K m F H (.int i) v) : v = .int i := by cases (show Rep K m F (.int i) v from h); rfl
theorem Sees.bl {b : Bool} {v : V} (h : Sees K m F H (.bl b) v) : v = .bl b := by cases (show Rep K m F (.bl b) v from h); rfl
theorem Sees.non {v : V} (h : Sees K m F H .non v) : v = .non := by cases (show Rep K m F .non v from h); rfl
theorem Sees.str {s : List Nat} {v : V} (h : Sees K m F H (.str s) v) : v = sV s ∧ SOk s := by
  cases (show Rep K m F (.str s) v from h) with
  | str q => exact ⟨rfl, q⟩
/-! what follows a result -/
theorem done_d {x : D} {v : V} {Q : VK} (q : Res K (RelR K) m F H (.ok (.d x) g) Q) (s : Sim K m F g H) (r : Rep K m F x v) : Q v H := Res.here q s r
theorem done_fl {xs : List D} {vs : List V} {Q : VK} (q : Res K (RelR K) m F H (.ok (.fl xs) g) Q) (s : Sim K m F g H) (r : Reps K m F xs vs) : ∀ p, H p = none → Q (.ref p) (upd H p (.lst vs)) := fun p hp =>
  q (.ref p) m F _ (Grow.new hp) (s.new hp) ⟨p, vs, rfl, hp, s.ex.none hp, s.ne hp, upd_same, r⟩
theorem done_tup {xs : List D} {vs : List V} {Q : VK} (q : Res K (RelR K) m F H (.ok (.d (.tup xs)) g) Q) (s : Sim K m F g H) (r : Reps K m F xs vs) : ∀ p, H p = none → Q (.ref p) (upd H p (.tup vs)) := fun p hp =>
  q (.ref p) m (upd F p (.tup vs)) _ (Grow.newF s.ex hp) (s.newF hp) (.tup (.inl (.inl upd_same)) (r.mono (Ex.new (s.ex.none hp)) (Pre.refl m)))
end

theorem sok_app {a b : List Nat} (ha : SOk a) (hb : SOk b) (h : isShort LIM (a ++ b) = true) : SOk (a ++ b) :=
  ⟨(isShort_iff _ _).mp h, fun c hc => (List.mem_append.mp hc).elim (ha.2 c) (hb.2 c)⟩

/-! ### binary operators -/
def bopOf : Bop → Operator
  | .add => .Add | .sub => .Sub | .mul => .Mult | .fdiv => .FloorDiv | .mod => .Mod | .pow => .Pow
def rBin (K : PySem.W.Frag) (op : Bop) : R2 := fun x y H Q => ∃ m F g d e r, Sim K m F g H ∧ Sees K m F H d x ∧ Sees K m F H e y ∧ binop op d e = some r ∧ Res K (RelR K) m F H (.ok r g) Q
section
variable {X : Cx} {pins : List (Addr × Obj)} {σ : L2.St} {H : Hp} {s : Shared} {Q : VK}
theorem foldl_cps (l : List Nat) : ∀ (k : Nat) (acc : List Nat), List.foldl (fun x1 x2 => x1 ++ x2) acc.toArray (List.replicate k l.toArray) = (acc ++ (List.replicate k l).flatten).toArray
  | 0, acc => by simp
  | k + 1, acc => by
    rw [List.replicate_succ, List.foldl_cons, List.replicate_succ, List.flatten_cons]
    have e : acc.toArray ++ l.toArray = (acc ++ l).toArray := by simp
    rw [e, foldl_cps l k (acc ++ l), List.append_assoc]
theorem len_rep (l : List Nat) (k : Nat) : (List.replicate k l).flatten.length = l.length * k := by
  induction k with
  | zero => simp
  | succ k ih => rw [List.replicate_succ, List.flatten_cons, List.length_append, ih, Nat.mul_succ, Nat.add_comm]
theorem flat_one (l : List Nat) : (List.replicate 1 l).flatten = l := by simp
theorem flat_nil (k : Nat) : (List.replicate k ([] : List Nat)).flatten = [] := by
  induction k with
  | zero => rfl
  | succ k ih => rw [List.replicate_succ, List.flatten_cons, ih]; rfl
/-- a text times a number -/
theorem mul_text {E : Value → Shared → Prop} {P : Value → Shared → Prop} {a : List Nat} {j : Int} {t u : Tok} (hz : a.length * j.toNat ≤ LIM ∧ j.natAbs ≤ LIM) (q : ∀ k t', P (.str ⟨((List.replicate j.toNat a).flatten).toArray⟩ t') { s with toks := k }) :
    wpAny (model X.prog X.w) X.A (binaryOp .Mult (.str ⟨a.toArray⟩ t) (.int j u)) P E s := by
  have hl : LIM = 1000000 := rfl
  have hs : sizeLine = 16777216 := sizeLine_eq
  refine PySem.P.mul_str ?_ ?_ ?_ ?_
  · have e1 : decide (j < -(2 ^ 63 : Int)) = false := decide_eq_false (by omega)
    have e2 : decide (j ≥ 2 ^ 63) = false := decide_eq_false (by omega)
    rw [e1, e2]
    rfl
  · intro h1 _ h2
    rw [str_len] at h2
    have h3 : ((a.length : Nat) : Int) ≤ (2 ^ 63 - 1) / j := by
      rw [Int.le_ediv_iff_mul_le (by omega)]
      have h4 : ((a.length * j.toNat : Nat) : Int) ≤ 1000000 := by omega
      rw [Int.natCast_mul, Int.toNat_of_nonneg (by omega)] at h4
      omega
    omega
  · intro h1 _
    rw [str_len]
    show decide (a.length * j.toNat > sizeLine) = false
    exact decide_eq_false (by omega)
  · by_cases h1 : j < 1
    · rw [if_pos h1]
      have e : j.toNat = 0 := by omega
      rw [e] at q
      exact ⟨Nat.zero_le _, q _ _⟩
    · rw [if_neg h1]
      by_cases h2 : (j == 1 || (⟨a.toArray⟩ : Str).length == 0) = true
      · rw [if_pos h2]
        have e : (List.replicate j.toNat a).flatten = a := by
          rw [Bool.or_eq_true, beq_iff_eq, beq_iff_eq, str_len] at h2
          rcases h2 with h2 | h2
          · rw [h2]; exact flat_one a
          · rw [List.length_eq_zero_iff.mp h2]; exact flat_nil _
        rw [e] at q
        exact q s.toks t
      · rw [if_neg h2]
        have e := foldl_cps a j.toNat []
        rw [List.nil_append] at e
        have e2 : (⟨List.foldl (fun x1 x2 => x1 ++ x2) #[] (List.replicate j.toNat a.toArray)⟩ : Str) = ⟨((List.replicate j.toNat a).flatten).toArray⟩ := by
          rw [show (#[] : Array Nat) = ([] : List Nat).toArray from rfl, e]
        show (⟨List.foldl (fun x1 x2 => x1 ++ x2) #[] (List.replicate j.toNat a.toArray)⟩ : Str).length ≤ sizeLine ∧ P (.str ⟨List.foldl (fun x1 x2 => x1 ++ x2) #[] (List.replicate j.toNat a.toArray)⟩ s.toks) _
        rw [e2, str_len, len_rep]
        exact ⟨by omega, q _ _⟩
theorem mem_rep {a : List Nat} {k : Nat} {c : Nat} (h : c ∈ (List.replicate k a).flatten) : c ∈ a := by
  obtain ⟨l, h1, h2⟩ := List.mem_flatten.mp h
  rw [List.eq_of_mem_replicate h1] at h2
  exact h2
theorem op_bin (op : Bop) : OpR X (binaryOp (bopOf op)) (rBin X.K op) := by
  intro pins s σ H x y v u Q I rx ry h
  obtain ⟨m, F, g, d, e, r, sm, hx, hy, hr, q⟩ := h
  have hl : LIM = 1000000 := rfl
  have hs : sizeLine = 16777216 := sizeLine_eq
  cases op with
  | add =>
    cases d <;> cases e <;> first | (exfalso; simp [binop] at hr; done) | skip
    · rename_i i j
      rw [hx.int] at rx
      rw [hy.int] at ry
      cases hr
      exact op_add pins s σ H _ _ v u Q I rx ry ⟨i, j, rfl, rfl, done_d q sm (.int _)⟩
    · rename_i a b
      obtain ⟨e1, s1⟩ := hx.str
      obtain ⟨e2, s2⟩ := hy.str
      rw [e1] at rx
      rw [e2] at ry
      simp only [binop] at hr
      by_cases z : isShort LIM (a ++ b) = true
      · rw [if_pos z] at hr
        cases hr
        have z1 := (isShort_iff _ _).mp z
        rw [List.length_append] at z1
        refine op_add_str pins s σ H _ _ v u Q I rx ry ⟨_, _, rfl, rfl, by rw [str_len, str_len]; omega, ?_⟩
        rw [str_app]
        exact done_d q sm (.str (sok_app s1 s2 z))
      · rw [if_neg z] at hr; cases hr
    · rename_i a b
      obtain ⟨p1, vs, e1, h1, r1⟩ := hx
      obtain ⟨p2, us, e2, h2, r2⟩ := hy
      simp only [binop] at hr
      by_cases z : isShort LIM (a ++ b) = true
      · rw [if_pos z] at hr
        cases hr
        have z1 := (isShort_iff _ _).mp z
        rw [List.length_append, r1.length, r2.length] at z1
        rw [e1] at rx
        rw [e2] at ry
        exact op_cat pins s σ H _ _ v u Q I rx ry ⟨p1, p2, vs, us, rfl, rfl, h1, h2, by omega, done_fl q sm (r1.append r2)⟩
      · rw [if_neg z] at hr; cases hr
  | sub =>
    cases d <;> cases e <;> first | (exfalso; simp [binop] at hr; done) | skip
    rename_i i j
    rw [hx.int] at rx
    rw [hy.int] at ry
    cases hr
    exact op_sub pins s σ H _ _ v u Q I rx ry ⟨i, j, rfl, rfl, done_d q sm (.int _)⟩
  | mul =>
    cases d <;> cases e <;> first | (exfalso; simp [binop] at hr; done) | skip
    · rename_i i j
      rw [hx.int] at rx
      rw [hy.int] at ry
      simp only [binop] at hr
      by_cases z : i.natAbs < 18446744073709551616 ∨ j.natAbs < 18446744073709551616
      · rw [if_pos z] at hr
        cases hr
        refine op_mul pins s σ H _ _ v u Q I rx ry ⟨i, j, rfl, rfl, ?_, done_d q sm (.int _)⟩
        rcases z with z | z
        · exact .inl ⟨by omega, by omega⟩
        · exact .inr ⟨by omega, by omega⟩
      · rw [if_neg z] at hr; cases hr
    · rename_i a j
      obtain ⟨e1, s1⟩ := hx.str
      rw [e1] at rx
      rw [hy.int] at ry
      simp only [binop] at hr
      by_cases z : a.length * j.toNat ≤ LIM ∧ j.natAbs ≤ LIM
      · rw [if_pos z] at hr
        cases hr
        obtain ⟨t, rfl⟩ := rx
        obtain ⟨t', rfl⟩ := ry
        refine mul_text z fun k t' => ⟨sV _, H, I.tok _, ⟨_, rfl⟩, done_d q sm (.str ⟨by rw [len_rep]; exact z.1, fun c hc => s1.2 c (mem_rep hc)⟩)⟩
      · rw [if_neg z] at hr; cases hr
    · rename_i a j
      obtain ⟨p1, vs, e1, h1, r1⟩ := hx
      rw [e1] at rx
      rw [hy.int] at ry
      simp only [binop] at hr
      by_cases z : a.length * j.toNat ≤ LIM ∧ j.natAbs ≤ LIM
      · rw [if_pos z] at hr
        cases hr
        obtain ⟨z1, z2⟩ := z
        rw [r1.length] at z1
        exact op_rep pins s σ H _ _ v u Q I rx ry ⟨p1, j, vs, rfl, rfl, h1, by omega, by omega, by omega, done_fl q sm (r1.rep _)⟩
      · rw [if_neg z] at hr; cases hr
  | fdiv =>
    cases d <;> cases e <;> first | (exfalso; simp [binop] at hr; done) | skip
    rename_i i j
    rw [hx.int] at rx
    rw [hy.int] at ry
    simp only [binop] at hr
    by_cases z : 0 < j ∧ j < 1073741824
    · rw [if_pos z] at hr
      cases hr
      exact op_fdiv pins s σ H _ _ v u Q I rx ry ⟨i, j, rfl, rfl, z, done_d q sm (.int _)⟩
    · rw [if_neg z] at hr; cases hr
  | mod =>
    cases d <;> cases e <;> first | (exfalso; simp [binop] at hr; done) | skip
    rename_i i j
    rw [hx.int] at rx
    rw [hy.int] at ry
    simp only [binop] at hr
    by_cases z : 0 < j
    · rw [if_pos z] at hr
      cases hr
      exact op_mod pins s σ H _ _ v u Q I rx ry ⟨i, j, rfl, rfl, z, done_d q sm (.int _)⟩
    · rw [if_neg z] at hr; cases hr
  | pow =>
    cases d <;> cases e <;> first | (exfalso; simp [binop] at hr; done) | skip
    rename_i i j
    rw [hx.int] at rx
    rw [hy.int] at ry
    simp only [binop] at hr
    by_cases z : 0 ≤ j ∧ j ≤ 1000 ∧ i.natAbs < 1000
    · rw [if_pos z] at hr
      cases hr
      exact op_pow pins s σ H _ _ v u Q I rx ry ⟨i, j, rfl, rfl, ⟨z.1, by omega, by omega⟩, done_d q sm (.int _)⟩
    · rw [if_neg z] at hr; cases hr

/-! ### comparisons -/
def copOf : Cop → CmpOp
  | .eq => .Eq | .ne => .NotEq | .lt => .Lt | .le => .LtE | .gt => .Gt | .ge => .GtE | .in_ => .In | .nin => .NotIn
def rCmp (K : PySem.W.Frag) (op : Cop) : R2 := fun x y H Q => ∃ m F d e b, Ex F H ∧ Sees K m F H d x ∧ Sees K m F H e y ∧ cmpop op d e = some b ∧ Q (.bl b) H
theorem ltL_eq : ∀ a b : List Nat, ltL a b = decide (a < b)
  | [], [] => by simp [ltL]
  | [], y :: ys => by simp [ltL]
  | x :: xs, [] => by simp [ltL]
  | x :: xs, y :: ys => by
    rw [ltL, Bool.eq_iff_iff]
    by_cases h : x = y
    · subst h
      rw [if_pos rfl, ltL_eq xs ys]
      simp [List.cons_lt_cons_iff]
    · rw [if_neg h]
      simp [List.cons_lt_cons_iff, h]
theorem memD_py {n : Nat} {x : D} (hx : D.okN n x = true) : ∀ {ys : List D}, D.oksN n ys = true → (toPys ys).any (fun z => PyData.eqv z (toPy x)) = memD x ys
  | [], _ => by simp [toPys, memD]
  | y :: ys, h => by
    simp only [D.oksN, Bool.and_eq_true] at h
    simp only [toPys, memD, List.any_cons]
    rw [eqv_py n n y x h.1 hx, memD_py hx h.2]
theorem sign_eq {c : Nat} : (⟨[c].toArray⟩ : Str) = ⟨#[c]⟩ := rfl
theorem in_data {neg : Bool} {x y : V} {v u : Value} {d e : D} {m : List Addr} {F : Hp} {b : Bool} (hu : X.A.units + 65 < cLine) (I : Inv X pins σ H s) (ex : Ex F H) (rx : RelV x v) (ry : RelV y u) (hx : Sees X.K m F H d x) (hy : Sees X.K m F H e y) (hr : inop d e = some b)
    (q : Q (.bl (if neg then !b else b)) H) : wpAny (model X.prog X.w) X.A (compareOp (if neg then .NotIn else .In) v u) (EP X pins σ Q) X.xe s := by
  have deep : ∀ {es : List D} {n : Nat}, D.okN n d = true → D.oksN n es = true → n ≤ 63 → memD d es = b → ((toPys es).any fun z => PyData.eqv z (toPy d)) = b := fun hd he _ hb => by rw [memD_py hd he, hb]
  cases e with
  | str z =>
    cases d with
    | str w =>
      match w, hr with
      | [c], hr =>
        obtain ⟨e1, s1⟩ := hx.str
        obtain ⟨e2, s2⟩ := hy.str
        rw [e1] at rx
        rw [e2] at ry
        have hb : decide (c ∈ z) = b := Option.some.inj hr
        cases neg with
        | false => exact op_in_sign pins s σ H _ _ v u Q I rx ry ⟨c, _, rfl, rfl, by rw [show decide (c ∈ (⟨z.toArray⟩ : Str).cps.toList) = b by simpa using hb]; exact q⟩
        | true => exact op_notIn_sign pins s σ H _ _ v u Q I rx ry ⟨c, _, rfl, rfl, by rw [show decide (c ∈ (⟨z.toArray⟩ : Str).cps.toList) = b by simpa using hb]; exact q⟩
      | [], hr => exact absurd hr (by simp [inop])
      | _ :: _ :: _, hr => exact absurd hr (by simp [inop])
    | _ => exact absurd hr (by simp [inop])
  | lst es =>
    have hr2 : (if (D.okN 60 d && D.oksN 60 es) = true then some (memD d es) else none) = some b := by
      cases d <;> first | exact hr | (rename_i w; match w, hr with
        | [], hr => exact hr
        | [c], hr => exact hr
        | _ :: _ :: _, hr => exact hr)
    by_cases z : (D.okN 60 d && D.oksN 60 es) = true
    · rw [if_pos z] at hr2
      rw [Bool.and_eq_true] at z
      have hb : memD d es = b := Option.some.inj hr2
      have z3 : D.okN 61 (.lst es) = true := by simp only [D.okN]; exact z.2
      obtain ⟨dp2, l2⟩ := hy.dp ex z3
      obtain ⟨dp1, l1⟩ := hx.dp ex z.1
      obtain ⟨as, r1⟩ := Dp.reads I _ x v dp1 rx
      obtain ⟨bs, r2⟩ := Dp.reads I _ y u dp2 ry
      have sd := hx.shaped ex z.1 (by decide)
      have ea := deep z.1 z.2 (by decide) hb
      simp only [toPy, PyData.canLay0] at r2 l2
      cases neg with
      | false => exact SeqAt.in_list_reads r2 r1 l2 l1 (room_in_shaped sd hu) ⟨.bl _, H, I, rfl, by rw [ea]; exact q⟩
      | true => exact SeqAt.notIn_list_reads r2 r1 l2 l1 (room_in_shaped sd hu) ⟨.bl _, H, I, rfl, by rw [ea]; exact q⟩
    · rw [if_neg z] at hr2; cases hr2
  | tup es =>
    have hr2 : (if (D.okN 60 d && D.oksN 60 es) = true then some (memD d es) else none) = some b := by
      cases d <;> first | exact hr | (rename_i w; match w, hr with
        | [], hr => exact hr
        | [c], hr => exact hr
        | _ :: _ :: _, hr => exact hr)
    by_cases z : (D.okN 60 d && D.oksN 60 es) = true
    · rw [if_pos z] at hr2
      rw [Bool.and_eq_true] at z
      have hb : memD d es = b := Option.some.inj hr2
      have z3 : D.okN 61 (.tup es) = true := by simp only [D.okN]; exact z.2
      obtain ⟨dp2, l2⟩ := hy.dp ex z3
      obtain ⟨dp1, l1⟩ := hx.dp ex z.1
      obtain ⟨as, r1⟩ := Dp.reads I _ x v dp1 rx
      obtain ⟨bs, r2⟩ := Dp.reads I _ y u dp2 ry
      have sd := hx.shaped ex z.1 (by decide)
      have ea := deep z.1 z.2 (by decide) hb
      simp only [toPy, PyData.canLay0] at r2 l2
      cases neg with
      | false => exact SeqAt.in_tuple_reads r2 r1 l2 l1 (room_in_shaped sd hu) ⟨.bl _, H, I, rfl, by rw [ea]; exact q⟩
      | true => exact SeqAt.notIn_tuple_reads r2 r1 l2 l1 (room_in_shaped sd hu) ⟨.bl _, H, I, rfl, by rw [ea]; exact q⟩
    · rw [if_neg z] at hr2; cases hr2
  | _ => exact absurd hr (by cases d <;> simp [inop])
theorem op_cmp (hu : X.A.units + 65 < cLine) (op : Cop) : OpR X (compareOp (copOf op)) (rCmp X.K op) := by
  intro pins s σ H x y v u Q I rx ry h
  obtain ⟨m, F, d, e, b, ex, hx, hy, hr, q⟩ := h
  have eqs : ∀ {z : Bool}, D.okN 60 d = true → D.okN 60 e = true → D.eqv d e = z → PyData.eqv (toPy d) (toPy e) = z := fun h1 h2 h3 => by rw [eqv_py 60 60 d e h1 h2, h3]
  cases op with
  | eq =>
    simp only [cmpop] at hr
    by_cases z : (D.okN 60 d && D.okN 60 e) = true
    · rw [if_pos z] at hr
      rw [Bool.and_eq_true] at z
      refine op_eqD (by omega) pins s σ H x y v u Q I rx ry ⟨_, _, (hx.dp ex z.1).1, (hy.dp ex z.2).1, hx.shaped ex z.1 (by decide), hy.shaped ex z.2 (by decide), ?_⟩
      rw [eqs z.1 z.2 (Option.some.inj hr)]
      exact q
    · rw [if_neg z] at hr; cases hr
  | ne =>
    simp only [cmpop] at hr
    by_cases z : (D.okN 60 d && D.okN 60 e) = true
    · rw [if_pos z] at hr
      rw [Bool.and_eq_true] at z
      refine op_neD (by omega) pins s σ H x y v u Q I rx ry ⟨_, _, (hx.dp ex z.1).1, (hy.dp ex z.2).1, hx.shaped ex z.1 (by decide), hy.shaped ex z.2 (by decide), ?_⟩
      rw [eqv_py 60 60 d e z.1 z.2, Option.some.inj hr]
      exact q
    · rw [if_neg z] at hr; cases hr
  | lt =>
    cases d <;> cases e <;> first | (exfalso; simp [cmpop] at hr; done) | skip
    · rename_i i j
      rw [hx.int] at rx
      rw [hy.int] at ry
      exact op_lt pins s σ H _ _ v u Q I rx ry ⟨i, j, rfl, rfl, by show Q (.bl (decide (i < j))) H; rw [Option.some.inj hr]; exact q⟩
    · rename_i i j
      rw [hx.str.1] at rx
      rw [hy.str.1] at ry
      refine op_lt_str pins s σ H _ _ v u Q I rx ry ⟨_, _, rfl, rfl, ?_⟩
      have hb : ltL i j = b := Option.some.inj hr
      rw [ltL_eq] at hb
      rw [show decide ((⟨i.toArray⟩ : Str).cps.toList < (⟨j.toArray⟩ : Str).cps.toList) = b from hb]
      exact q
  | le =>
    cases d <;> cases e <;> first | (exfalso; simp [cmpop] at hr; done) | skip
    · rename_i i j
      rw [hx.int] at rx
      rw [hy.int] at ry
      exact op_le pins s σ H _ _ v u Q I rx ry ⟨i, j, rfl, rfl, by show Q (.bl (decide (i ≤ j))) H; rw [Option.some.inj hr]; exact q⟩
    · rename_i i j
      rw [hx.str.1] at rx
      rw [hy.str.1] at ry
      refine op_le_str pins s σ H _ _ v u Q I rx ry ⟨_, _, rfl, rfl, ?_⟩
      have hb : (!ltL j i) = b := Option.some.inj hr
      rw [ltL_eq] at hb
      rw [show (!decide ((⟨j.toArray⟩ : Str).cps.toList < (⟨i.toArray⟩ : Str).cps.toList)) = b from hb]
      exact q
  | gt =>
    cases d <;> cases e <;> first | (exfalso; simp [cmpop] at hr; done) | skip
    · rename_i i j
      rw [hx.int] at rx
      rw [hy.int] at ry
      exact op_gt pins s σ H _ _ v u Q I rx ry ⟨i, j, rfl, rfl, by show Q (.bl (decide (j < i))) H; rw [Option.some.inj hr]; exact q⟩
    · rename_i i j
      rw [hx.str.1] at rx
      rw [hy.str.1] at ry
      refine op_gt_str pins s σ H _ _ v u Q I rx ry ⟨_, _, rfl, rfl, ?_⟩
      have hb : ltL j i = b := Option.some.inj hr
      rw [ltL_eq] at hb
      rw [show decide ((⟨j.toArray⟩ : Str).cps.toList < (⟨i.toArray⟩ : Str).cps.toList) = b from hb]
      exact q
  | ge =>
    cases d <;> cases e <;> first | (exfalso; simp [cmpop] at hr; done) | skip
    · rename_i i j
      rw [hx.int] at rx
      rw [hy.int] at ry
      exact op_ge pins s σ H _ _ v u Q I rx ry ⟨i, j, rfl, rfl, by show Q (.bl (decide (j ≤ i))) H; rw [Option.some.inj hr]; exact q⟩
    · rename_i i j
      rw [hx.str.1] at rx
      rw [hy.str.1] at ry
      refine op_ge_str pins s σ H _ _ v u Q I rx ry ⟨_, _, rfl, rfl, ?_⟩
      have hb : (!ltL i j) = b := Option.some.inj hr
      rw [ltL_eq] at hb
      rw [show (!decide ((⟨i.toArray⟩ : Str).cps.toList < (⟨j.toArray⟩ : Str).cps.toList)) = b from hb]
      exact q
  | in_ => exact in_data (neg := false) hu I ex rx ry hx hy hr q
  | nin =>
    simp only [cmpop] at hr
    obtain ⟨c, h1, h2⟩ := Option.map_eq_some_iff.mp hr
    exact in_data (neg := true) hu I ex rx ry hx hy h1 (by rw [← h2] at q; exact q)
end
end Pd
/-! Pd3: built-in functions, methods, subscripts, truth on data. -/
namespace Pd
open PySem PySem.Spec PyProof.Rows L2

def SeesL (K : PySem.W.Frag) (m : List Addr) (F H : Hp) : List D → List V → Prop
  | [], [] => True
  | d :: ds, v :: vs => Sees K m F H d v ∧ SeesL K m F H ds vs
  | _, _ => False
section
variable {K : PySem.W.Frag} {m : List Addr} {F H : Hp} {g : G}
theorem Reps.sees (s : Sim K m F g H) : ∀ {ds : List D} {vs : List V}, Reps K m F ds vs → SeesL K m F H (ds.map (look g)) vs
  | _, _, .nil => True.intro
  | _, _, .cons h r => ⟨RelR.sees (B := H) (r := .d _) h s, Reps.sees s r⟩
theorem SeesL.one {d : D} {vs : List V} (h : SeesL K m F H [d] vs) : ∃ v, vs = [v] ∧ Sees K m F H d v := by
  match vs, h with
  | [v], h => exact ⟨v, rfl, h.1⟩
theorem SeesL.two {d e : D} {vs : List V} (h : SeesL K m F H [d, e] vs) : ∃ v u, vs = [v, u] ∧ Sees K m F H d v ∧ Sees K m F H e u := by
  match vs, h with
  | [v, u], h => exact ⟨v, u, rfl, h.1, h.2.1⟩
theorem Sees.lst {ds : List D} {v : V} (h : Sees K m F H (.lst ds) v) : ∃ a vs, v = .ref a ∧ H a = some (.lst vs) ∧ Reps K m F ds vs := h
theorem Sees.tup {ds : List D} {v : V} (e : Ex F H) (h : Sees K m F H (.tup ds) v) : ∃ a vs, v = .ref a ∧ SqT K H a vs ∧ Reps K m F ds vs := let ⟨a, vs, h1, h2, h3⟩ := h; ⟨a, vs, h1, e.t h2, h3⟩
theorem Sees.scr {ds : List D} {v : V} (h : Sees K m F H (.scr ds) v) : ∃ a vs, v = .ref a ∧ SqL K H a vs ∧ Reps K m F ds vs := h
theorem Reps.gInts : ∀ {ds : List D} {vs : List V} {l : List Int}, Reps K m F ds vs → dInts ds = some l → vs = l.map V.int
  | _, _, _, .nil, e => by cases e; rfl
  | .int i :: ds, _, l, .cons h r, e => by
    cases h
    obtain ⟨l', e1, rfl⟩ := Option.map_eq_some_iff.mp (show (Pd.dInts ds).map (i :: ·) = some l from e)
    rw [Reps.gInts r e1]
    rfl
  | .non :: _, _, _, .cons _ _, e => by cases e
  | .bl _ :: _, _, _, .cons _ _, e => by cases e
  | .str _ :: _, _, _, .cons _ _, e => by cases e
  | .lst _ :: _, _, _, .cons _ _, e => by cases e
  | .tup _ :: _, _, _, .cons _ _, e => by cases e
  | .scr _ :: _, _, _, .cons _ _, e => by cases e
  | .obj _ :: _, _, _, .cons _ _, e => by cases e
theorem Reps.gBls : ∀ {ds : List D} {vs : List V} {l : List Bool}, Reps K m F ds vs → dBls ds = some l → vs = l.map V.bl
  | _, _, _, .nil, e => by cases e; rfl
  | .bl i :: ds, _, l, .cons h r, e => by
    cases h
    obtain ⟨l', e1, rfl⟩ := Option.map_eq_some_iff.mp (show (Pd.dBls ds).map (i :: ·) = some l from e)
    rw [Reps.gBls r e1]
    rfl
  | .non :: _, _, _, .cons _ _, e => by cases e
  | .int _ :: _, _, _, .cons _ _, e => by cases e
  | .str _ :: _, _, _, .cons _ _, e => by cases e
  | .lst _ :: _, _, _, .cons _ _, e => by cases e
  | .tup _ :: _, _, _, .cons _ _, e => by cases e
  | .scr _ :: _, _, _, .cons _ _, e => by cases e
  | .obj _ :: _, _, _, .cons _ _, e => by cases e
theorem Reps.gStrs : ∀ {ds : List D} {vs : List V} {l : List (List Nat)}, Reps K m F ds vs → dStrs ds = some l → vs = (l.map fun s => (⟨s.toArray⟩ : Str)).map V.str ∧ ∀ s ∈ l, SOk s
  | _, _, _, .nil, e => by cases e; exact ⟨rfl, by simp⟩
  | .str i :: ds, _, l, .cons h r, e => by
    cases h with
    | str hs =>
      obtain ⟨l', e1, rfl⟩ := Option.map_eq_some_iff.mp (show (Pd.dStrs ds).map (i :: ·) = some l from e)
      obtain ⟨h1, h2⟩ := Reps.gStrs r e1
      rw [h1]
      refine ⟨rfl, fun s hm => ?_⟩
      rcases List.mem_cons.mp hm with rfl | hm
      · exact hs
      · exact h2 s hm
  | .non :: _, _, _, .cons _ _, e => by cases e
  | .int _ :: _, _, _, .cons _ _, e => by cases e
  | .bl _ :: _, _, _, .cons _ _, e => by cases e
  | .lst _ :: _, _, _, .cons _ _, e => by cases e
  | .tup _ :: _, _, _, .cons _ _, e => by cases e
  | .scr _ :: _, _, _, .cons _ _, e => by cases e
  | .obj _ :: _, _, _, .cons _ _, e => by cases e
theorem Reps.ofStrs (h : List (List Nat)) (hs : ∀ s ∈ h, SOk s) : Reps K m F (h.map .str) ((h.map fun s => (⟨s.toArray⟩ : Str)).map V.str) := by
  induction h with
  | nil => exact .nil
  | cons s r ih =>
    exact .cons (.str (hs s List.mem_cons_self)) (ih fun x hx => hs x (List.mem_cons_of_mem _ hx))
end

/-! ### numbers as texts -/
theorem natL_digits (n : Nat) : ∀ c ∈ natL n, c < 128 := fun c hc => by
  have := TL.numL_digits n c hc
  omega
theorem natL_len {n : Nat} (h : n < 1000000000000000000000) : (natL n).length ≤ 21 := TL.numL_len (k := 21) (by decide) (by omega)
theorem tl_int (i : Int) : TL.tl (Str.ofString (toString i)) = intL i := by
  cases i with
  | ofNat n => exact TL.tl_num n
  | negSucc n =>
    have e : toString (Int.negSucc n) = "-" ++ toString (n + 1) := rfl
    rw [e, TL.tl_ofString, String.toList_append, List.map_append]
    have h := TL.tl_num (n + 1)
    rw [TL.tl_ofString] at h
    show "-".toList.map Char.toNat ++ _ = 45 :: natL (n + 1)
    have e2 : "-".toList.map Char.toNat = [45] := by decide
    rw [e2]
    show 45 :: _ = _
    rw [show natL (n + 1) = TL.numL (n + 1) from rfl, ← h]
    rfl
theorem str_int (i : Int) : (Str.ofString (toString i)) = ⟨(intL i).toArray⟩ := TL.ext_tl (tl_int i)
theorem sok_int {i : Int} (h : i.natAbs < 1000000000000000000000) : SOk (intL i) := by
  have hl : LIM = 1000000 := rfl
  cases i with
  | ofNat n =>
    have h1 := natL_len (n := n) h
    exact ⟨by show (natL n).length ≤ LIM; omega, natL_digits n⟩
  | negSucc n =>
    have h1 := natL_len (n := n + 1) h
    refine ⟨by show (45 :: natL (n + 1)).length ≤ LIM; rw [List.length_cons]; omega, fun c hc => ?_⟩
    rcases List.mem_cons.mp (show c ∈ 45 :: natL (n + 1) from hc) with rfl | hc
    · decide
    · exact natL_digits _ c hc
theorem log_int {i : Int} (h : i.natAbs < 1000000000000000000000) : i.natAbs.log2 < 1920 :=
  PySem.Flt.log2_lt_of (by decide) (Nat.lt_trans h (by decide))

/-! ### built-in functions -/
def biV : BI → Value
  | .len => .builtin "len" | .int => .type "int" | .str => .type "str" | .ord => .builtin "ord" | .sum => .builtin "sum" | .all => .builtin "all" | .any => .builtin "any"
  | .max => .builtin "max" | .min => .builtin "min" | .list => .type "list" | .tuple => .type "tuple"
def rBi (K : PySem.W.Frag) (b : BI) : List V → Hp → VK → Prop := fun xs H Q => ∃ m F g ds r, Sim K m F g H ∧ SeesL K m F H ds xs ∧ bi b ds = some r ∧ Res K (RelR K) m F H (.ok r g) Q
section
variable {X : Cx}
theorem bi_one {b : BI} {ds : List D} {r : R} (h : bi b ds = some r) : (∃ d, ds = [d]) ∨ ∃ d e, ds = [d, e] := by
  match ds, h with
  | [d], _ => exact .inl ⟨d, rfl⟩
  | [d, e], _ => exact .inr ⟨d, e, rfl⟩
  | [], h => cases h
  | _ :: _ :: _ :: _, h => cases h
theorem op_bi (hc : X.calm = true) (b : BI) : CallR X (biV b) (rBi X.K b) := by
  intro pins s σ H xs us Q I rx h
  obtain ⟨m, F, g, ds, r, sm, hs, hr, q⟩ := h
  have hl : LIM = 1000000 := rfl
  have hz : sizeLine = 16777216 := sizeLine_eq
  cases b with
  | len =>
    rcases bi_one hr with ⟨d, rfl⟩ | ⟨i, j, rfl⟩
    · obtain ⟨v, rfl, hv⟩ := hs.one
      cases d with
      | str w =>
        cases hr
        obtain ⟨rfl, so⟩ := hv.str
        refine call_len pins s σ H _ us Q I rx ⟨_, w.length, rfl, ⟨by rw [str_len]; have := so.1; omega, (str_len w).symm⟩, done_d q sm (.int _)⟩
      | lst ys =>
        cases hr
        obtain ⟨a, vs, rfl, h1, h2⟩ := hv.lst
        exact call_len pins s σ H _ us Q I rx ⟨_, ys.length, rfl, .inl ⟨vs, .inl (.inl h1), h2.length⟩, done_d q sm (.int _)⟩
      | tup ys =>
        cases hr
        obtain ⟨a, vs, rfl, h1, h2⟩ := hv.tup sm.ex
        exact call_len pins s σ H _ us Q I rx ⟨_, ys.length, rfl, .inr ⟨vs, h1, h2.length⟩, done_d q sm (.int _)⟩
      | scr ys =>
        cases hr
        obtain ⟨a, vs, rfl, h1, h2⟩ := hv.scr
        exact call_len pins s σ H _ us Q I rx ⟨_, ys.length, rfl, .inl ⟨vs, h1, h2.length⟩, done_d q sm (.int _)⟩
      | _ => cases hr
    · cases hr
  | int =>
    rcases bi_one hr with ⟨d, rfl⟩ | ⟨i, j, rfl⟩
    · obtain ⟨v, rfl, hv⟩ := hs.one
      cases d with
      | int i =>
        cases hr
        rw [hv.int] at rx
        exact call_int1 pins s σ H _ us Q I rx (.inl ⟨i, rfl, done_d q sm (.int _)⟩)
      | bl i =>
        cases hr
        rw [hv.bl] at rx
        exact call_int1 pins s σ H _ us Q I rx (.inr ⟨i, rfl, done_d q sm (.int _)⟩)
      | _ => cases hr
    · cases hr
  | str =>
    rcases bi_one hr with ⟨d, rfl⟩ | ⟨i, j, rfl⟩
    · obtain ⟨v, rfl, hv⟩ := hs.one
      cases d with
      | int i =>
        rw [hv.int] at rx
        simp only [bi, bi1] at hr
        by_cases z : i.natAbs < 1000000000000000000000
        · rw [if_pos z] at hr
          cases hr
          refine call_str_int pins s σ H _ us Q I rx ⟨i, rfl, log_int z, ?_⟩
          rw [show ((toString i : String) : Str) = Str.ofString (toString i) from rfl, str_int]
          exact done_d q sm (.str (sok_int z))
        · rw [if_neg z] at hr; cases hr
      | _ => cases hr
    · cases hr
  | ord =>
    rcases bi_one hr with ⟨d, rfl⟩ | ⟨i, j, rfl⟩
    · obtain ⟨v, rfl, hv⟩ := hs.one
      cases d with
      | str w =>
        match w, hr with
        | [c], hr =>
          cases hr
          rw [hv.str.1] at rx
          exact call_ord pins s σ H _ us Q I rx ⟨_, rfl, rfl, done_d q sm (.int _)⟩
      | _ => cases hr
    · cases hr
  | sum =>
    rcases bi_one hr with ⟨d, rfl⟩ | ⟨i, j, rfl⟩
    · obtain ⟨v, rfl, hv⟩ := hs.one
      cases d with
      | lst ys =>
        obtain ⟨a, vs, rfl, h1, h2⟩ := hv.lst
        obtain ⟨l, e1, rfl⟩ := Option.map_eq_some_iff.mp (show (dInts ys).map (fun l => R.d (.int l.sum)) = some r from hr)
        have e2 := h2.gInts e1
        subst e2
        exact cr_sum hc pins s σ H _ us Q I rx ⟨a, l, rfl, .inl (.inl h1), done_d q sm (.int _)⟩
      | _ => cases hr
    · cases hr
  | all =>
    rcases bi_one hr with ⟨d, rfl⟩ | ⟨i, j, rfl⟩
    · obtain ⟨v, rfl, hv⟩ := hs.one
      cases d with
      | lst ys =>
        obtain ⟨a, vs, rfl, h1, h2⟩ := hv.lst
        obtain ⟨l, e1, rfl⟩ := Option.map_eq_some_iff.mp (show (dBls ys).map (fun l => R.d (.bl (l.all id))) = some r from hr)
        have e2 := h2.gBls e1
        subst e2
        exact cr_all hc pins s σ H _ us Q I rx ⟨a, l, rfl, .inl (.inl h1), done_d q sm (.bl _)⟩
      | _ => cases hr
    · cases hr
  | any =>
    rcases bi_one hr with ⟨d, rfl⟩ | ⟨i, j, rfl⟩
    · obtain ⟨v, rfl, hv⟩ := hs.one
      cases d with
      | lst ys =>
        obtain ⟨a, vs, rfl, h1, h2⟩ := hv.lst
        obtain ⟨l, e1, rfl⟩ := Option.map_eq_some_iff.mp (show (dBls ys).map (fun l => R.d (.bl (l.any id))) = some r from hr)
        have e2 := h2.gBls e1
        subst e2
        exact cr_any hc pins s σ H _ us Q I rx ⟨a, l, rfl, .inl (.inl h1), done_d q sm (.bl _)⟩
      | _ => cases hr
    · cases hr
  | max =>
    rcases bi_one hr with ⟨d, rfl⟩ | ⟨i, j, rfl⟩
    · cases d <;> cases hr
    · obtain ⟨v, u, rfl, hv, hu⟩ := hs.two
      cases i <;> cases j <;> first | (cases hr; done) | skip
      cases hr
      rw [hv.int, hu.int] at rx
      exact call_max2 hc pins s σ H _ us Q I rx ⟨_, _, rfl, done_d q sm (.int _)⟩
  | min =>
    rcases bi_one hr with ⟨d, rfl⟩ | ⟨i, j, rfl⟩
    · cases d <;> cases hr
    · obtain ⟨v, u, rfl, hv, hu⟩ := hs.two
      cases i <;> cases j <;> first | (cases hr; done) | skip
      cases hr
      rw [hv.int, hu.int] at rx
      exact call_min2 hc pins s σ H _ us Q I rx ⟨_, _, rfl, done_d q sm (.int _)⟩
  | list =>
    rcases bi_one hr with ⟨d, rfl⟩ | ⟨i, j, rfl⟩
    · obtain ⟨v, rfl, hv⟩ := hs.one
      cases d with
      | lst ys =>
        cases hr
        obtain ⟨a, vs, rfl, h1, h2⟩ := hv.lst
        exact call_list_of pins s σ H _ us Q I rx ⟨a, vs, rfl, .inl (.inl (.inl h1)), done_fl q sm h2⟩
      | tup ys =>
        cases hr
        obtain ⟨a, vs, rfl, h1, h2⟩ := hv.tup sm.ex
        exact call_list_of pins s σ H _ us Q I rx ⟨a, vs, rfl, .inr h1, done_fl q sm h2⟩
      | _ => cases hr
    · cases hr
  | tuple =>
    rcases bi_one hr with ⟨d, rfl⟩ | ⟨i, j, rfl⟩
    · obtain ⟨v, rfl, hv⟩ := hs.one
      cases d with
      | lst ys =>
        cases hr
        obtain ⟨a, vs, rfl, h1, h2⟩ := hv.lst
        exact call_tuple_of pins s σ H _ us Q I rx ⟨a, vs, rfl, .inl ⟨.inl (.inl h1), done_tup q sm h2⟩⟩
      | _ => cases hr
    · cases hr

/-! ### isinstance -/
def tyS : Ty → String
  | .int => "int" | .str => "str" | .list => "list" | .tuple => "tuple" | .bool => "bool"
theorem kit_all : (∀ t : Ty, kitB "NoneType" (tyS t) = some false) ∧ (∀ t : Ty, kitB "bool" (tyS t) = some (t == .bool || t == .int)) ∧ (∀ t : Ty, kitB "int" (tyS t) = some (t == .int)) ∧ (∀ t : Ty, kitB "str" (tyS t) = some (t == .str)) ∧
    (∀ t : Ty, kitB "list" (tyS t) = some (t == .list)) ∧ ∀ t : Ty, kitB "tuple" (tyS t) = some (t == .tuple) := by
  refine ⟨fun t => ?_, fun t => ?_, fun t => ?_, fun t => ?_, fun t => ?_, fun t => ?_⟩ <;> cases t <;> decide +kernel
theorem sees_ty {K : PySem.W.Frag} {m : List Addr} {F H : Hp} {d : D} {v : V} {t : Ty} {b : Bool} (ex : Ex F H) (h : Sees K m F H d v) (e : isTy t d = some b) : ∃ c, TyX K H v (.type c) ∧ kitB c (tyS t) = some b := by
  obtain ⟨k1, k2, k3, k4, k5, k6⟩ := kit_all
  cases d with
  | non => rw [h.non]; cases e; exact ⟨_, .base .non, k1 t⟩
  | bl x => rw [h.bl]; cases e; exact ⟨_, .base (.bl x), k2 t⟩
  | int x => rw [h.int]; cases e; exact ⟨_, .base (.int x), k3 t⟩
  | str x => rw [h.str.1]; cases e; exact ⟨_, .base (.str _), k4 t⟩
  | lst x =>
    obtain ⟨a, vs, rfl, h1, h2⟩ := h.lst
    cases e
    exact ⟨_, .base (.lst h1), k5 t⟩
  | tup x =>
    obtain ⟨a, vs, rfl, h1, h2⟩ := h.tup ex
    cases e
    rcases h1 with (h1 | ⟨o, h1⟩) | ⟨o, its, n, h1, h3, _⟩
    · exact ⟨_, .base (.tup h1), k6 t⟩
    · exact ⟨_, .fTuple h1, k6 t⟩
    · exact ⟨_, .kTuple h1 h3, k6 t⟩
  | scr x => cases e
  | obj x => cases e
def rIsD (K : PySem.W.Frag) (t : Ty) : List V → Hp → VK → Prop := fun xs H Q => ∃ m F d v b, xs = [v, .ty (tyS t)] ∧ Ex F H ∧ Sees K m F H d v ∧ isTy t d = some b ∧ Q (.bl b) H
theorem op_isi (t : Ty) : CallR X (.builtin "isinstance") (rIsD X.K t) := by
  intro pins s σ H xs us Q I rx h
  obtain ⟨m, F, d, v, b, rfl, ex, hv, e, q⟩ := h
  obtain ⟨c, tx, k⟩ := sees_ty ex hv e
  exact call_isi pins s σ H _ us Q I rx ⟨v, .ty (tyS t), .type c, .type (tyS t), b, rfl, .ty _, tx, kit_ty k, q⟩

/-! ### truth -/
theorem sees_truth {K : PySem.W.Frag} {m : List Addr} {F H : Hp} {d : D} {v : V} {b : Bool} (h : Sees K m F H d v) (e : truth d = some b) : TruV K v H b := by
  have hl : LIM = 1000000 := rfl
  have hz : sizeLine = 16777216 := sizeLine_eq
  cases d with
  | non => rw [h.non]; cases e; rfl
  | bl x => rw [h.bl]; cases e; rfl
  | int x => rw [h.int]; cases e; rfl
  | str x =>
    obtain ⟨rfl, so⟩ := h.str
    cases e
    refine ⟨by rw [str_len]; have := so.1; omega, ?_⟩
    rw [str_len]
    cases x with
    | nil => rfl
    | cons a r => simp; omega
  | lst x =>
    obtain ⟨a, vs, rfl, h1, h2⟩ := h.lst
    cases e
    refine .inl ⟨vs, .inl (.inl h1), ?_⟩
    cases h2 <;> rfl
  | _ => cases e

/-! ### methods of texts -/
theorem pre_eq : ∀ S l : List Nat, isPre S l = TL.pre S l
  | [], l => by simp [isPre, TL.pre]
  | a :: S, [] => by simp [isPre, TL.pre]
  | a :: S, b :: l => by
    rw [isPre, pre_eq S l, TL.pre, TL.pre, List.length_cons, List.take_succ_cons, Bool.eq_iff_iff]
    simp only [Bool.and_eq_true, beq_iff_eq, List.cons.injEq]
    exact ⟨fun h => ⟨h.1.symm, h.2⟩, fun h => ⟨h.1.symm, h.2⟩⟩
theorem spl_eq (S : List Nat) : ∀ (l : List Nat) (k : Nat) (acc : List Nat), spl S k acc l = TL.spl S k acc l
  | [], k, acc => by cases k <;> rfl
  | c :: r, 0, acc => by
    rw [spl, TL.spl, pre_eq, spl_eq S r, spl_eq S r]
  | c :: r, k + 1, acc => by rw [spl, TL.spl, spl_eq S r]
theorem par_eq (S : List Nat) : ∀ (l : List Nat) (acc : List Nat), par S acc l = TL.par S acc l
  | [], acc => rfl
  | c :: r, acc => by rw [par, TL.par, pre_eq, par_eq S r]
theorem join_eqL (s : List Nat) : ∀ l : List (List Nat), joinL s l = TL.joinL s l
  | [] => rfl
  | [p] => rfl
  | p :: q :: r => by rw [joinL, TL.joinL, join_eqL s (q :: r), List.append_assoc]
/-- what is cut out of signs below 128 is of such -/
theorem spl_mem (S : List Nat) : ∀ (l : List Nat) (k : Nat) (acc : List Nat), ∀ p ∈ spl S k acc l, (∀ c ∈ p, c ∈ acc ∨ c ∈ l) ∧ p.length ≤ acc.length + l.length
  | [], k, acc, p, h => by
    have e : p = acc := by cases k <;> simpa [spl] using h
    subst e
    exact ⟨fun c hc => .inl hc, by simp⟩
  | x :: r, 0, acc, p, h => by
    rw [spl] at h
    by_cases z : isPre S (x :: r) = true
    · rw [if_pos z] at h
      rcases List.mem_cons.mp h with rfl | h
      · exact ⟨fun c hc => .inl hc, by simp⟩
      · obtain ⟨h1, h2⟩ := spl_mem S r _ [] p h
        refine ⟨fun c hc => .inr ?_, by rw [List.length_cons]; simp at h2; omega⟩
        rcases h1 c hc with q | q
        · simp at q
        · exact List.mem_cons_of_mem _ q
    · rw [if_neg z] at h
      obtain ⟨h1, h2⟩ := spl_mem S r _ _ p h
      refine ⟨fun c hc => ?_, by rw [List.length_append] at h2; simp at h2 ⊢; omega⟩
      rcases h1 c hc with q | q
      · rcases List.mem_append.mp q with q | q
        · exact .inl q
        · exact .inr (by rw [List.mem_singleton.mp q]; exact List.mem_cons_self)
      · exact .inr (List.mem_cons_of_mem _ q)
  | x :: r, k + 1, acc, p, h => by
    rw [spl] at h
    obtain ⟨h1, h2⟩ := spl_mem S r _ _ p h
    refine ⟨fun c hc => ?_, by rw [List.length_cons]; omega⟩
    rcases h1 c hc with q | q
    · exact .inl q
    · exact .inr (List.mem_cons_of_mem _ q)
theorem par_mem (S : List Nat) : ∀ (l : List Nat) (acc a b : List Nat), par S acc l = some (a, b) → (∀ c ∈ a, c ∈ acc ∨ c ∈ l) ∧ (∀ c ∈ b, c ∈ l) ∧ a.length + b.length ≤ acc.length + l.length
  | [], acc, a, b, h => by cases h
  | x :: r, acc, a, b, h => by
    rw [par] at h
    by_cases z : isPre S (x :: r) = true
    · rw [if_pos z] at h
      cases h
      exact ⟨fun c hc => .inl hc, fun c hc => List.mem_of_mem_drop hc, by rw [List.length_drop]; omega⟩
    · rw [if_neg z] at h
      obtain ⟨h1, h2, h3⟩ := par_mem S r _ a b h
      refine ⟨fun c hc => ?_, fun c hc => List.mem_cons_of_mem _ (h2 c hc), by rw [List.length_append] at h3; simp at h3 ⊢; omega⟩
      rcases h1 c hc with q | q
      · rcases List.mem_append.mp q with q | q
        · exact .inl q
        · exact .inr (by rw [List.mem_singleton.mp q]; exact List.mem_cons_self)
      · exact .inr (List.mem_cons_of_mem _ q)
theorem joinL_len (s : List Nat) : ∀ l : List (List Nat), (l.map List.length).sum + l.length * s.length ≤ (joinL s l).length + s.length
  | [] => by simp
  | [p] => by simp [joinL]
  | p :: q :: r => by
    have ih := joinL_len s (q :: r)
    rw [joinL, List.length_append, List.length_append]
    simp only [List.map_cons, List.sum_cons, List.length_cons] at ih ⊢
    have e : (r.length + 1 + 1) * s.length = (r.length + 1) * s.length + s.length := Nat.succ_mul _ _
    omega
theorem joinL_mem {s : List Nat} {c : Nat} : ∀ {l : List (List Nat)}, c ∈ joinL s l → c ∈ s ∨ ∃ p ∈ l, c ∈ p
  | [], h => by simp [joinL] at h
  | [p], h => .inr ⟨p, by simp, by simpa [joinL] using h⟩
  | p :: q :: r, h => by
    rw [joinL, List.mem_append, List.mem_append] at h
    rcases h with (h | h) | h
    · exact .inr ⟨p, by simp, h⟩
    · exact .inl h
    · rcases joinL_mem h with h | ⟨x, h1, h2⟩
      · exact .inl h
      · exact .inr ⟨x, List.mem_cons_of_mem _ h1, h2⟩
def metId : Met → String
  | .join => "str.join" | .split => "str.split" | .partition => "str.partition"
def rMet (K : PySem.W.Frag) (mt : Met) : V → List V → Hp → VK → Prop := fun x xs H Q => ∃ m F g s ds r, x = sV s ∧ SOk s ∧ Sim K m F g H ∧ SeesL K m F H ds xs ∧ met mt s ds = some r ∧ Res K (RelR K) m F H (.ok r g) Q
theorem map_tl_mk (l : List (List Nat)) : (l.map fun s => (⟨s.toArray⟩ : Str)).map TL.tl = l := by
  rw [List.map_map]
  exact List.map_id'' (fun x => rfl) l
theorem small_kind {x : Str} {t : List Nat} (h : ∀ c ∈ t, c < 128) : ¬ Builtin.Str.strKind x < Builtin.Str.strKind ⟨t.toArray⟩ := TL.kind_ok (by
  simp only [List.all_toArray, List.all_eq_true, decide_eq_true_eq]
  intro c hc
  have := h c hc
  omega)
theorem op_met (mt : Met) : MtR X (metId mt) (rMet X.K mt) := by
  intro pins s σ H x xs v us Q I rx rxs h
  obtain ⟨m, F, g, w, ds, r, rfl, so, sm, hs, hr, q⟩ := h
  have hl : LIM = 1000000 := rfl
  have hz : sizeLine = 16777216 := sizeLine_eq
  have so1 := so.1
  cases mt with
  | join =>
    match ds, hr with
    | [.lst ys], hr =>
      obtain ⟨v1, rfl, hv⟩ := hs.one
      obtain ⟨a, vs, rfl, h1, h2⟩ := hv.lst
      obtain ⟨l, e1, e2⟩ := Option.bind_eq_some_iff.mp (show (dStrs ys).bind _ = some r from hr)
      obtain ⟨e3, sl⟩ := h2.gStrs e1
      subst e3
      by_cases z : isShort LIM (joinL w l) = true
      · rw [if_pos z] at e2
        cases e2
        have z1 := (isShort_iff _ _).mp z
        have z2 := joinL_len w l
        refine mt_join pins s σ H _ _ v us Q I rx rxs ⟨_, a, _, rfl, rfl, .inl (.inl (.inl h1)), ?_, ?_⟩
        · have e5 : ((fun x : Str => x.length) ∘ fun s : List Nat => (⟨s.toArray⟩ : Str)) = List.length := funext fun x => str_len x
          rw [List.map_map, List.length_map, str_len, e5]
          omega
        · rw [TL.join_eq]
          have e4 : Str.join ⟨w.toArray⟩ (l.map fun s => (⟨s.toArray⟩ : Str)) = ⟨(joinL w l).toArray⟩ := TL.ext_tl (by
            rw [TL.tl_join, map_tl_mk, TL.tl_mk, TL.tl_mk, join_eqL])
          rw [e4]
          refine done_d q sm (.str ⟨z1, fun c hc => ?_⟩)
          rcases joinL_mem hc with hc | ⟨p, hp, hc⟩
          · exact so.2 c hc
          · exact (sl p hp).2 c hc
      · rw [if_neg z] at e2; cases e2
  | split =>
    match ds, hr with
    | [.str (c :: t)], hr =>
      cases hr
      obtain ⟨v1, rfl, hv⟩ := hs.one
      obtain ⟨rfl, so2⟩ := hv.str
      refine mt_split pins s σ H _ _ v us Q I rx rxs ⟨_, _, rfl, rfl, rfl, by rw [str_len]; omega, ?_⟩
      have e1 : (Txt.split ⟨w.toArray⟩ ⟨(c :: t).toArray⟩) = (spl (c :: t) 0 [] w).map fun s => (⟨s.toArray⟩ : Str) := TL.map_tl_inj (by
        rw [TL.split_spl _ _ (by simp [TL.tl]) (small_kind so2.2), map_tl_mk, TL.tl_mk, TL.tl_mk, spl_eq])
      intro p hp
      rw [e1]
      refine done_fl q sm (Reps.ofStrs _ fun y hy => ?_) p hp
      obtain ⟨h1, h2⟩ := spl_mem (c :: t) w 0 [] y hy
      refine ⟨by simp at h2; omega, fun k hk => ?_⟩
      rcases h1 k hk with h3 | h3
      · simp at h3
      · exact so.2 k h3
  | partition =>
    match ds, hr with
    | [.str (c :: t)], hr =>
      obtain ⟨v1, rfl, hv⟩ := hs.one
      obtain ⟨rfl, so2⟩ := hv.str
      refine mt_partition pins s σ H _ _ v us Q I rx rxs ⟨_, _, rfl, rfl, rfl, by rw [str_len]; omega, ?_⟩
      rw [TL.partition_par _ _ (by simp [TL.tl]), TL.tl_mk, TL.tl_mk, ← par_eq]
      simp only [met] at hr
      cases e : par (c :: t) [] w with
      | none =>
        rw [e] at hr
        cases hr
        exact done_tup q sm (.cons (.str so) (.cons (.str ⟨Nat.zero_le _, by simp⟩) (.cons (.str ⟨Nat.zero_le _, by simp⟩) .nil)))
      | some ab =>
        obtain ⟨a, b⟩ := ab
        rw [e] at hr
        cases hr
        obtain ⟨h1, h2, h3⟩ := par_mem (c :: t) w [] a b e
        rw [List.length_nil] at h3
        refine done_tup q sm (.cons (.str ⟨by omega, fun k hk => ?_⟩) (.cons (.str so2) (.cons (.str ⟨by omega, fun k hk => so.2 k (h2 k hk)⟩) .nil)))
        rcases h1 k hk with h4 | h4
        · simp at h4
        · exact so.2 k h4

/-! ### subscripts, slices -/
theorem ix_eq {α : Type} (xs : List α) (i : Int) : atD xs i = L2.atI xs i := rfl
def rIxD (K : PySem.W.Frag) : R2 := fun x y H Q => ∃ m F g d i e, Sim K m F g H ∧ Sees K m F H d x ∧ y = .int i ∧ ixop d (.int i) = some e ∧ Res K (RelR K) m F H (.ok (.d e) g) Q
theorem at_reps {K : PySem.W.Frag} {m : List Addr} {F : Hp} {ds : List D} {vs : List V} {i : Int} {e : D} (h : Reps K m F ds vs) (q : atD ds i = some e) : ∃ v, L2.atI vs i = some v ∧ Rep K m F e v := by
  obtain ⟨j, h1, h2⟩ := Option.bind_eq_some_iff.mp q
  obtain ⟨v, h3, h4⟩ := h.get h2
  refine ⟨v, ?_, h4⟩
  unfold L2.atI
  rw [← h.length, show L2.ixN ds.length i = some j from h1]
  exact h3
theorem op_ix : IxR X (rIxD X.K) := by
  intro value slice pins s σ H x y v u Q I rx ry h hp
  obtain ⟨m, F, g, d, i, e, sm, hx, ey, hr, q⟩ := h
  subst ey
  have hl : LIM = 1000000 := rfl
  have hz : sizeLine = 16777216 := sizeLine_eq
  cases d with
  | lst ds =>
    obtain ⟨a, vs, rfl, h1, h2⟩ := hx.lst
    obtain ⟨w, h3, h4⟩ := at_reps h2 hr
    exact ix_seq value slice pins s σ H _ _ v u Q I rx ry (.inl ⟨a, vs, i, w, rfl, rfl, .inl (.inl h1), h3, done_d q sm h4⟩) hp
  | tup ds =>
    obtain ⟨a, vs, rfl, h1, h2⟩ := hx.tup sm.ex
    obtain ⟨w, h3, h4⟩ := at_reps h2 hr
    exact ix_seq value slice pins s σ H _ _ v u Q I rx ry (.inr (.inl ⟨a, vs, i, w, rfl, rfl, h1, h3, done_d q sm h4⟩)) hp
  | scr ds =>
    obtain ⟨a, vs, rfl, h1, h2⟩ := hx.scr
    obtain ⟨w, h3, h4⟩ := at_reps h2 hr
    exact ix_seq value slice pins s σ H _ _ v u Q I rx ry (.inl ⟨a, vs, i, w, rfl, rfl, h1, h3, done_d q sm h4⟩) hp
  | str w =>
    obtain ⟨rfl, so⟩ := hx.str
    obtain ⟨c, h1, rfl⟩ := Option.map_eq_some_iff.mp (show (atD w i).map _ = some e from hr)
    refine ix_seq value slice pins s σ H _ _ v u Q I rx ry (.inr (.inr ⟨_, i, c, rfl, rfl, by rw [str_len]; have := so.1; omega, h1, done_d q sm (.str ⟨by simp [hl], fun k hk => ?_⟩)⟩)) hp
    rw [List.mem_singleton.mp hk]
    obtain ⟨j, h2, h3⟩ := Option.bind_eq_some_iff.mp h1
    exact so.2 c (List.mem_of_getElem? h3)
  | _ => cases hr
def rSlD (K : PySem.W.Frag) : V → Option Int → Option Int → Hp → VK → Prop := fun x lo hi H Q => ∃ m F g d r, Sim K m F g H ∧ Sees K m F H d x ∧ slop d lo hi = some r ∧ Res K (RelR K) m F H (.ok r g) Q
theorem slIx_eq (n d : Nat) (o : Option Int) : slIx n d o = HT.sIx n d o := by
  cases o <;> rfl
theorem cut_reps {K : PySem.W.Frag} {m : List Addr} {F : Hp} {ds : List D} {vs : List V} (h : Reps K m F ds vs) (lo hi : Option Int) : Reps K m F (cut ds lo hi) (L2.cutV vs lo hi) := by
  unfold cut L2.cutV
  rw [h.length, slIx_eq, slIx_eq]
  exact (h.drop _).take _
theorem op_sl : SlR X (rSlD X.K) := by
  intro pins s σ H x v vl vu lo hi sl Q I rx hs pl pu h
  obtain ⟨m, F, g, d, r, sm, hx, hr, q⟩ := h
  have hl : LIM = 1000000 := rfl
  have hz : sizeLine = 16777216 := sizeLine_eq
  cases d with
  | lst ds =>
    cases hr
    obtain ⟨a, vs, rfl, h1, h2⟩ := hx.lst
    exact sl_list pins s σ H _ v vl vu lo hi sl Q I rx hs pl pu ⟨a, vs, rfl, .inl (.inl h1), done_fl q sm (cut_reps h2 lo hi)⟩
  | tup ds =>
    cases hr
    obtain ⟨a, vs, rfl, h0, h2⟩ := (show ∃ a vs, x = V.ref a ∧ SqT X.K F a vs ∧ Reps X.K m F ds vs from hx)
    have h1 : SqT X.K H a vs := sm.ex.t h0
    refine sl_tupA pins s σ H _ v vl vu lo hi sl Q I rx hs pl pu ⟨a, vs, rfl, h1, fun hw => ?_, fun _ => done_tup q sm (cut_reps h2 lo hi)⟩
    have e : cut ds lo hi = ds := by
      unfold cut
      rw [slIx_eq, slIx_eq, h2.length, hw.1, hw.2, List.drop_zero, Nat.sub_zero, ← h2.length, List.take_length]
    rw [e] at q
    refine q (.ref a) m F H (Grow.refl m F H) sm ?_
    exact Rep.tup h0 h2
  | str w =>
    cases hr
    obtain ⟨rfl, so⟩ := hx.str
    have so1 := so.1
    refine sl_str pins s σ H _ v vl vu lo hi sl Q I rx hs pl pu ⟨_, rfl, by rw [str_len]; omega, ?_⟩
    have e : L2.cutS ⟨w.toArray⟩ lo hi = ⟨(cut w lo hi).toArray⟩ := by
      unfold L2.cutS cut
      rw [slIx_eq, slIx_eq, str_len]
    rw [e]
    refine done_d q sm (.str ⟨?_, fun c hc => so.2 c (List.mem_of_mem_drop (List.mem_of_mem_take hc))⟩)
    unfold cut
    rw [List.length_take, List.length_drop]
    omega
  | _ => cases hr
end
end Pd
/-! Pd4: enumerate of a text; what a walk asks. -/
namespace Pd
open PySem PySem.Spec PyProof.Rows L2

/-! ### enumerate(text) -/
def Ites (x : Str) : L2.It :=
  ⟨fun i _ => i < x.cps.size, fun i H v H' => ∃ T c, v = .ref T ∧ H T = none ∧ H' = upd H T (.tup [.int (i : Nat), .str ⟨#[c]⟩]) ∧ x.cps[i]? = some c, fun i _ => x.cps.size ≤ i⟩
theorem turn_enumS {P : Program} {w : World} {K : PySem.W.Frag} {elts : List Expr} {kk : Nat} {tpos : Pos} (x : Str) (t : Tok) (e it : Addr) :
    Turn P w K (.Tuple elts kk tpos) (Ites x) [e, it] e (fun i h => (∃ old, IsEnum h e it ((i : Nat) : Int) old) ∧ h.IsStrIter it "str_ascii_iterator" x t i ∧ e ≠ it) where
  mem := by simp
  obj := fun i h st b hb => by
    obtain ⟨⟨old, he⟩, ⟨o, ho, hc, hd⟩, _⟩ := st
    have e' : b = e ∨ b = it := by simpa using hb
    rcases e' with z | z
    · rw [z]; exact ⟨_, he, fun v q => nomatch q⟩
    · rw [z]; exact ⟨o, ho, fun v q => by rw [hd] at q; cases q⟩
  keep := fun i h h' st k => by
    obtain ⟨⟨old, he⟩, ⟨o, ho, r⟩, hne⟩ := st
    exact ⟨⟨old, k e (by simp) _ he⟩, ⟨o, k it (by simp) o ho, r⟩, hne⟩
  item := by
    intro X hP hw hK hc i pins s σ H E I hf st hg
    subst hP hw hK
    obtain ⟨⟨old, he⟩, hit, hne⟩ := st
    have hel : e < s.heap.objs.size := Heap.lt_size he
    have hil : it < s.heap.objs.size := by obtain ⟨_, q, _⟩ := hit; exact Heap.lt_size q
    refine wpAny_pyNext_enum_itemD (Draws.strAscii (prog := X.prog) (w := X.w) (A := X.A.in1) (I.ok.hd hc) it x t) he hit hg hne (by simpa using hne) fun u h' tk hu ho hit' hT hsz hk => ?_
    obtain ⟨c, t', hc', rfl⟩ := hu
    refine ⟨_, rfl, wpAny_letOwnedTupleGo_enum (s := { s with heap := h', toks := tk + 1 }) ho fun h'' he' sb => ?_⟩
    have hT2 : h''.get? s.heap.objs.size = some { cls := .type "tuple", data := .seq #[.int i tk, .str ⟨#[c]⟩ t'] } := (sb.2 _ (Nat.ne_of_gt hel)).trans hT
    have new : ObjOk X.prog X.w (upd H s.heap.objs.size (.tup [.int (i : Nat), .str ⟨#[c]⟩])) h'' s.heap.objs.size (.tup [.int (i : Nat), .str ⟨#[c]⟩]) :=
      ⟨by show 2 ≤ sizeLine; decide, [.int i tk, .str ⟨#[c]⟩ t'], .cons ⟨_, rfl⟩ (.cons ⟨_, rfl⟩ .nil), ⟨_, hT2, rfl, _, rfl⟩⟩
    have I1 : L2.Inv X pins σ (upd H s.heap.objs.size (.tup [.int (i : Nat), .str ⟨#[c]⟩])) { s with heap := h'', toks := tk + 1 } :=
      I.turnedNew (ch := [e, it]) (fun b ob hb q => (sb.2 b (fun z => hb (by simp [z]))).trans (hk b ob (fun z => hb (by simp [z])) (fun z => hb (by simp [z])) q)) hf (Nat.le_refl _) new
    refine ⟨.ref s.heap.objs.size, _, I1, rfl, ⟨_, c, rfl, I.hok.fresh (Nat.le_refl _), rfl, hc'⟩, ⟨⟨.str ⟨#[c]⟩ t', ?_⟩, ?_, hne⟩, fun b hb => ?_⟩
    · have e1 : ((i + 1 : Nat) : Int) = (i : Int) + 1 := by omega
      rw [e1]; exact he'
    · obtain ⟨o, q, r⟩ := hit'
      exact ⟨o, (sb.2 it (Ne.symm hne)).trans q, r⟩
    · have hb' : b < s.heap.objs.size := by
        have e' : b = e ∨ b = it := by simpa using hb
        rcases e' with z | z
        · rw [z]; exact hel
        · rw [z]; exact hil
      rw [upd_ne (Nat.ne_of_lt hb')]
      exact (hf b hb).1
  done := by
    intro X hP hw hK hc i pins s σ H E I hf st hg
    subst hP hw hK
    obtain ⟨⟨old, he⟩, hit, hne⟩ := st
    obtain ⟨f0, f1, f2, f3, f4, f5⟩ := hf it (by simp)
    have hT : s.TypeIs (.ref e) "enumerate" := ⟨_, he, rfl⟩
    have hx : x.cps[i]? = none := Array.getElem?_eq_none hg
    unfold pyNext
    refine wpAny_bind (wpAny_attempt (wpAny_callSpecial?_slot (name := Str.ofString "__next__") hT F.slot_enumerate_next
      (wpAny_call_entry F.slot_enumerate_next hT F.entry_enumerate_next ?_ (F.args_enumerate_next_1 _))))
    show wpAny _ _ (field (.ref e) 2 >>= _) _ _ _
    refine wpAny_bind (wpAny_field he rfl (x := .ref it) rfl ?_)
    refine wpAny_bind (wpAny_nextOf_ascii_end (show X.A.in1.handled = none from I.ok.hd hc) hit hx fun h' a eb ⟨o, ho, hc2⟩ => ?_)
    refine wpAny_bind (wpAny_isInstance (T := "StopIteration") (b := true) ⟨o, ho, hc2⟩ isSubtype_stop ?_)
    exact wpAny_pure ⟨rfl, I.turned (t' := s.toks) (fun b o hb q => eb b o hb q) f0 f1 f3 f4 f5⟩
  self := fun A i s Q E st h => let ⟨⟨_, he⟩, _⟩ := st; wpAny_pyIter_enum he h
def iEnumS (ta : TA) : TI := fun σ H R => ta σ H fun vs H1 => ∃ x : Str, vs = [.str x] ∧ x.cps.all (· < 128) = true ∧ R (Ites x) H1
theorem pi_enumS {X : Cx} {e : Expr} {ta : TA} {p pos tpos : Pos} {elts : List Expr} {kk : Nat} (hg : Gl X "enumerate") (hm : X.mg "enumerate" = none) (ha : PA X [e] ta) (hs : starEach [e] X.env = [(false, eval e X.env)]) :
    PI X (.Tuple elts kk tpos) (.Call (.Name "enumerate" p) [e] [] pos) (iEnumS ta) := by
  refine ⟨fun pins s σ H R I h => ?_⟩
  refine Call_ (ld_blt I hg hm boot_enumerate (PyProof.Rows.callWith_type1 (thn (ha.run pos pins s σ H _ I h) fun us s1 ⟨vs, H1, I1, r1, q1⟩ => ?_) hs rfl))
  obtain ⟨x, ex, hx, q⟩ := q1
  subst ex
  cases r1 with
  | cons r rr =>
    cases rr
    obtain ⟨t, rfl⟩ := r
    refine call_enumerate_str fun h' he hit hsz hk => wpAny_pyIter_enum he ?_
    have I2 : L2.Inv X pins σ H1 { s1 with heap := h' } := I1.kept (t' := s1.toks) hk
    have hty : strIterType x = "str_ascii_iterator" := by simp [strIterType, hx]
    rw [hty] at hit
    refine ⟨s1.heap.objs.size + 1, [s1.heap.objs.size + 1, s1.heap.objs.size], _, _, H1, rfl, I2, turn_enumS x t (s1.heap.objs.size + 1) s1.heap.objs.size, ⟨⟨.none, he⟩, hit, Nat.succ_ne_self _⟩, fun b hb => ?_, q⟩
    have e' : b = s1.heap.objs.size + 1 ∨ b = s1.heap.objs.size := by simpa using hb
    have hle : s1.heap.objs.size ≤ b := by
      rcases e' with z | z
      · rw [z]; exact Nat.le_add_right _ _
      · rw [z]; exact Nat.le_refl _
    exact I1.fpOk hle (I1.hok.fresh hle)

/-! ### either of two readings -/
theorem _root_.L2.PI.or {X : Cx} {tg iter : Expr} {t u : TI} (h : PI X tg iter t) (k : PI X tg iter u) : PI X tg iter (fun σ H R => t σ H R ∨ u σ H R) := ⟨fun pins s σ H R I q => by
  rcases q with q | q
  · exact h.run pins s σ H R I q
  · exact k.run pins s σ H R I q⟩
theorem _root_.L2.PI.imp {X : Cx} {tg iter : Expr} {t u : TI} (h : PI X tg iter t) (k : ∀ σ H R, u σ H R → t σ H R) : PI X tg iter u := ⟨fun pins s σ H R I q => h.run pins s σ H R I (k σ H R q)⟩
theorem _root_.L2.PE.imp {X : Cx} {e : Expr} {t u : TE} (h : PE X e t) (k : ∀ σ H Q, u σ H Q → t σ H Q) : PE X e u := ⟨fun pins s σ H Q I q => h.run pins s σ H Q I (k σ H Q q)⟩
theorem _root_.L2.PT.imp {X : Cx} {e : Expr} {t u : TT} (h : PT X e t) (k : ∀ σ H Q, u σ H Q → t σ H Q) : PT X e u := ⟨fun pins s σ H Q I q => h.run pins s σ H Q I (k σ H Q q)⟩
theorem _root_.L2.PA.imp {X : Cx} {e : List Expr} {t u : TA} (h : PA X e t) (k : ∀ σ H Q, u σ H Q → t σ H Q) : PA X e u := ⟨fun pos pins s σ H Q I q => h.run pos pins s σ H Q I (k σ H Q q)⟩
theorem _root_.L2.PO.imp {X : Cx} {e : Option Expr} {t u : TO} (h : PO X e t) (k : ∀ σ H Q, u σ H Q → t σ H Q) : PO X e u := ⟨fun pins s σ H Q I q => h.run pins s σ H Q I (k σ H Q q)⟩
theorem _root_.L2.PTs.imp {X : Cx} {e : List Expr} {t u : TT} (h : PTs X e t) (k : ∀ σ H Q, u σ H Q → t σ H Q) : PTs X e u := ⟨fun pins s σ H Q I q => h.run pins s σ H Q I (k σ H Q q)⟩
theorem _root_.L2.PS.imp {X : Cx} {e : Stmt} {t u : TS} (h : PS X e t) (k : ∀ D σ H, u D σ H → t D σ H) : PS X e u := ⟨fun pins s σ H D I q => h.run pins s σ H D I (k D σ H q)⟩
theorem _root_.L2.PSs.imp {X : Cx} {e : List Stmt} {t u : TS} (h : PSs X e t) (k : ∀ D σ H, u D σ H → t D σ H) : PSs X e u := ⟨fun pins s σ H D I q => h.run pins s σ H D I (k D σ H q)⟩

/-! ### a walk -/
/-- what is walked gives the data told by w, as long as it stands -/
def JOk (K : PySem.W.Frag) (m : List Addr) (F : Hp) (w : Wk) (J : L2.It) : Prop :=
  ∀ (m1 : List Addr) (F1 H1 : Hp) (g1 : G) (i : Nat), Ex F F1 → Pre m m1 → Sim K m1 F1 g1 H1 → stands w.it w.raw g1 = true →
    (w.its.length ≤ i → J.stop i H1) ∧ ∀ d, w.its[i]? = some d → J.go i H1 ∧ ∀ x H2, J.yld i H1 x H2 → ∃ F2, Grow m1 F1 H1 m1 F2 H2 ∧ Sim K m1 F2 g1 H2 ∧ Rep K m1 F2 d x
def RelW (K : PySem.W.Frag) : Rl Wk L2.It := fun _ m F _ w J => JOk K m F w J
theorem elderW {K : PySem.W.Frag} : Elder (RelW K) := fun _ _ _ _ _ _ _ _ q => q
section
variable {K : PySem.W.Frag} {m : List Addr} {F H : Hp} {g : G}
theorem walk_of_list {it : D} {xs : List D} {a : Addr} {vs : List V} (hs : ∀ m1 F1 H1 g1, Ex F F1 → Pre m m1 → Sim K m1 F1 g1 H1 → stands it xs g1 = true → ∃ vs, H1 a = some (.lst vs) ∧ Reps K m1 F1 xs vs) : JOk K m F ⟨it, xs, xs⟩ (Itl K a) := by
  intro m1 F1 H1 g1 i e p s st
  obtain ⟨vs, h1, h2⟩ := hs m1 F1 H1 g1 e p s st
  have h3 : SqL K H1 a vs := .inl (.inl h1)
  refine ⟨fun hi => ⟨vs, h3, by rw [← h2.length]; exact hi⟩, fun d hd => ?_⟩
  obtain ⟨v, h4, h5⟩ := h2.get hd
  refine ⟨⟨vs, v, h3, h4⟩, fun x H2 y => ?_⟩
  obtain ⟨rfl, y⟩ := y
  have := y vs h3
  rw [h4] at this
  cases this
  exact ⟨F1, Grow.refl _ _ _, s, h5⟩
/-- the list that an R is: at its address it stands as long as told -/
theorem list_stands {r : R} {xs : List D} {v : V} (h : Rep K m F r.toD v) (s : Sim K m F g H) (e : look g r.toD = .lst xs) : ∃ a, v = .ref a ∧ (∃ vs, H a = some (.lst vs)) ∧
    ∀ m1 F1 H1 g1, Ex F F1 → Pre m m1 → Sim K m1 F1 g1 H1 → stands r.toD xs g1 = true → ∃ vs, H1 a = some (.lst vs) ∧ Reps K m1 F1 xs vs := by
  generalize r.toD = d at h e
  cases h with
  | @lst a vs ds h0 h1 =>
    cases (show D.lst ds = .lst xs from e)
    exact ⟨a, rfl, ⟨vs, s.ex _ _ h0⟩, fun m1 F1 H1 g1 e1 p s1 _ => ⟨vs, s1.ex _ _ (e1 _ _ h0), h1.mono e1 p⟩⟩
  | @obj i a h0 =>
    refine ⟨a, rfl, ?_, fun m1 F1 H1 g1 e1 p s1 st => ?_⟩
    · have e : (match g[i]? with | some (.lst xs) => D.lst xs | _ => D.obj i) = .lst xs := e
      cases q : g[i]? with
      | none => rw [q] at e; cases e
      | some c =>
        cases c with
        | dead => rw [q] at e; cases e
        | lst ys =>
          obtain ⟨b, vs, q1, q2, q3⟩ := s.lst i ys q
          rw [h0] at q1
          cases q1
          exact ⟨vs, q2⟩
    · have st : (match g1[i]? with | some (.lst ys) => D.sames ys xs | _ => false) = true := st
      cases q : g1[i]? with
      | none => rw [q] at st; cases st
      | some c =>
        cases c with
        | dead => rw [q] at st; cases st
        | lst ys =>
          rw [q] at st
          have e2 := D.sames_eq ys xs st
          subst e2
          obtain ⟨b, vs, q1, q2, q3⟩ := s1.lst i ys q
          rw [p i a h0] at q1
          cases q1
          exact ⟨vs, q2, q3⟩
  | non => cases e
  | bl b => cases e
  | int i => cases e
  | str h => cases e
  | tup h r => cases e
  | scr h r => cases e
theorem walk_of_tup {it : D} {xs raw : List D} {a : Addr} {vs : List V} (h1 : SqT K F a vs) (h2 : Reps K m F xs vs) : JOk K m F ⟨it, raw, xs⟩ (Itt K a) := by
  intro m1 F1 H1 g1 i e p s st
  have h3 : SqT K H1 a vs := s.ex.t (e.t h1)
  refine ⟨fun hi => ⟨vs, h3, by rw [← h2.length]; exact hi⟩, fun d hd => ?_⟩
  obtain ⟨v, h4, h5⟩ := h2.get hd
  refine ⟨⟨vs, v, h3, h4⟩, fun x H2 y => ?_⟩
  obtain ⟨rfl, y⟩ := y
  have := y vs h3
  rw [h4] at this
  cases this
  exact ⟨F1, Grow.refl _ _ _, s, h5.mono e p⟩
theorem sok_one {s : List Nat} {c : Nat} (h : SOk s) (hc : c ∈ s) : SOk [c] := ⟨by show 1 ≤ LIM; decide, fun k hk => by rw [List.mem_singleton.mp hk]; exact h.2 c hc⟩
theorem walk_of_str {it : D} {raw : List D} {s : List Nat} (so : SOk s) : JOk K m F ⟨it, raw, s.map fun c => .str [c]⟩ (Its ⟨s.toArray⟩) := by
  intro m1 F1 H1 g1 i e p sm st
  refine ⟨fun hi => ?_, fun d hd => ?_⟩
  · show (⟨s.toArray⟩ : Str).cps.size ≤ i
    rw [List.length_map] at hi
    simpa using hi
  · rw [List.getElem?_map] at hd
    obtain ⟨c, h1, rfl⟩ := Option.map_eq_some_iff.mp hd
    have h2 := List.getElem?_eq_some_iff.mp h1
    refine ⟨by show i < (⟨s.toArray⟩ : Str).cps.size; simpa using h2.1, fun x H2 y => ?_⟩
    obtain ⟨rfl, c', h3, rfl⟩ := y
    have h4 : c' = c := by
      have : s[i]? = some c' := by simpa using h3
      rw [h1] at this
      exact (Option.some.inj this).symm
    subst h4
    exact ⟨F1, Grow.refl _ _ _, sm, .str (sok_one so (List.mem_of_getElem? h1))⟩
theorem walk_of_range {it : D} {raw : List D} {lo : Int} {n : Nat} : JOk K m F ⟨it, raw, rangeD lo n⟩ (Itr lo n) := by
  intro m1 F1 H1 g1 i e p sm st
  refine ⟨fun hi => ?_, fun d hd => ?_⟩
  · show n ≤ i
    simpa [rangeD] using hi
  · have hd : ((List.range n).map fun (k : Nat) => D.int (lo + k))[i]? = some d := hd
    rw [List.getElem?_map] at hd
    obtain ⟨c, h1, rfl⟩ := Option.map_eq_some_iff.mp hd
    obtain ⟨h2, h3⟩ := List.getElem?_eq_some_iff.mp h1
    simp at h2 h3
    subst h3
    refine ⟨h2, fun x H2 y => ?_⟩
    obtain ⟨rfl, rfl⟩ := y
    exact ⟨F1, Grow.refl _ _ _, sm, .int _⟩
theorem enumD_get : ∀ (k : Nat) (xs : List D) (i : Nat), (enumD k xs)[i]? = xs[i]?.map fun x => .tup [.int ((k + i : Nat) : Int), x]
  | k, [], i => by simp [enumD]
  | k, x :: xs, 0 => by simp [enumD]
  | k, x :: xs, i + 1 => by
    rw [enumD, List.getElem?_cons_succ, enumD_get (k + 1) xs i, List.getElem?_cons_succ]
    congr 1
    funext y
    congr 3
    omega
theorem enumD_len : ∀ (k : Nat) (xs : List D), (enumD k xs).length = xs.length
  | k, [] => rfl
  | k, x :: xs => by rw [enumD, List.length_cons, enumD_len (k + 1) xs, List.length_cons]
theorem walk_of_enum {it : D} {xs : List D} {a : Addr} (hs : ∀ m1 F1 H1 g1, Ex F F1 → Pre m m1 → Sim K m1 F1 g1 H1 → stands it xs g1 = true → ∃ vs, H1 a = some (.lst vs) ∧ Reps K m1 F1 xs vs) : JOk K m F ⟨it, xs, enumD 0 xs⟩ (Ite K a) := by
  intro m1 F1 H1 g1 i e p s st
  obtain ⟨vs, h1, h2⟩ := hs m1 F1 H1 g1 e p s st
  have h3 : SqL K H1 a vs := .inl (.inl h1)
  refine ⟨fun hi => ⟨vs, h3, by rw [← h2.length]; rw [enumD_len] at hi; exact hi⟩, fun d hd => ?_⟩
  have hd : (enumD 0 xs)[i]? = some d := hd
  rw [enumD_get] at hd
  obtain ⟨x0, h0, rfl⟩ := Option.map_eq_some_iff.mp hd
  obtain ⟨v, h4, h5⟩ := h2.get h0
  refine ⟨⟨vs, v, h3, h4⟩, fun x H2 y => ?_⟩
  obtain ⟨T, w, rfl, hT, rfl, y⟩ := y
  have := y vs h3
  rw [h4] at this
  cases this
  refine ⟨upd F1 T (.tup [.int (i : Nat), v]), Grow.newF s.ex hT, s.newF hT, .tup (.inl (.inl upd_same)) ?_⟩
  rw [Nat.zero_add]
  exact .cons (.int _) (.cons (h5.mono (Ex.new (s.ex.none hT)) (Pre.refl _)) .nil)
theorem walk_of_enumS {it : D} {raw : List D} {s : List Nat} (so : SOk s) : JOk K m F ⟨it, raw, enumD 0 (s.map fun c => .str [c])⟩ (Ites ⟨s.toArray⟩) := by
  intro m1 F1 H1 g1 i e p sm st
  refine ⟨fun hi => ?_, fun d hd => ?_⟩
  · have hi : (enumD 0 (s.map fun c => D.str [c])).length ≤ i := hi
    show (⟨s.toArray⟩ : Str).cps.size ≤ i
    rw [enumD_len, List.length_map] at hi
    simpa using hi
  · have hd : (enumD 0 (s.map fun c => D.str [c]))[i]? = some d := hd
    rw [enumD_get, List.getElem?_map] at hd
    obtain ⟨x0, h0, rfl⟩ := Option.map_eq_some_iff.mp hd
    obtain ⟨c, h1, rfl⟩ := Option.map_eq_some_iff.mp h0
    have h2 := List.getElem?_eq_some_iff.mp h1
    refine ⟨by show i < (⟨s.toArray⟩ : Str).cps.size; simpa using h2.1, fun x H2 y => ?_⟩
    obtain ⟨T, c', rfl, hT, rfl, h3⟩ := y
    have h4 : c' = c := by
      have : s[i]? = some c' := by simpa using h3
      rw [h1] at this
      exact (Option.some.inj this).symm
    subst h4
    refine ⟨upd F1 T (.tup [.int (i : Nat), .str ⟨#[c']⟩]), Grow.newF sm.ex hT, sm.newF hT, .tup (.inl (.inl upd_same)) ?_⟩
    rw [Nat.zero_add]
    exact .cons (.int _) (.cons (.str (sok_one so (List.mem_of_getElem? h1))) .nil)
end
end Pd
/-! Pd5: the language against the model's text: the checker of expressions, and that what it takes is so. -/
namespace Pd
open PySem PySem.Spec PyProof.Rows L2

/-! ### the text's own conditions -/
def attrOk : Expr → Bool
  | .Call (.Name _ _) [] [] _ => false
  | _ => true
theorem attr_base {o : Expr} (h : attrOk o = true) (name : Str) (env : PySem.Env) (whole : Sem Value) : attributeBase o name env whole = whole := by
  unfold attributeBase
  split
  · exact absurd h (by simp [attrOk])
  · rfl
def noStar : Expr → Bool
  | .Starred _ _ => false
  | _ => true
theorem star_cons {e : Expr} (h : noStar e = true) (es : List Expr) (env : PySem.Env) : starEach (e :: es) env = (false, eval e env) :: starEach es env := by
  cases e <;> first
    | rfl
    | exact absurd h (by simp [noStar])
theorem star_any {es : List Expr} (h : es.all noStar = true) (pos : Pos) (env : PySem.Env) : (backTo pos (starEach es env)).any (·.1) = false := by
  induction es with
  | nil => rfl
  | cons e es ih =>
    rw [List.all_cons, Bool.and_eq_true] at h
    rw [star_cons h.1]
    show (false || (backTo pos (starEach es env)).any (·.1)) = false
    rw [ih h.2]
    rfl
def plainIx : Expr → Bool
  | .Slice _ _ none _ => false
  | _ => true
theorem plain_ix {b : Expr} (h : plainIx b = true) : PlainIx b := by
  intro o i
  unfold subscripted
  split
  · exact absurd h (by simp [plainIx])
  · rename_i e; cases e
  · rfl
def plainTest : Expr → Bool
  | .UnaryOp .Not _ _ => false
  | .BoolOp _ _ _ => false
  | .IfExp _ _ _ _ => false
  | .Compare _ _ _ _ => false
  | _ => true
theorem plain_test {e : Expr} (h : plainTest e = true) (env : PySem.Env) (whole : Sem Value) : isTrue e env whole = (do let v ← whole; standAt e.pos; holding [v] (truthy v)) := by
  cases e <;> first
    | rfl
    | (rename_i op x p; cases op <;> first | rfl | exact absurd h (by simp [plainTest]))
    | exact absurd h (by simp [plainTest])
def notSet : Expr → Bool
  | .Set _ _ _ => false
  | _ => true
theorem not_set {e : Expr} (h : notSet e = true) (env : PySem.Env) (x : Value) : foldedSetIterable e env x = pure x := by
  unfold foldedSetIterable
  split
  · exact absurd h (by simp [notSet])
  · rfl
def notComp : Expr → Bool
  | .ListComp _ _ _ _ => false
  | .SetComp _ _ _ _ => false
  | .DictComp _ _ _ _ _ => false
  | _ => true
theorem not_comp {e : Expr} (h : notComp e = true) (t : Option Expr) (l : Nat) (env : PySem.Env) : swapsWith e t l env = pure false := by
  cases e <;> first
    | rfl
    | exact absurd h (by simp [notComp])
def noPair : Expr → Expr → Bool
  | .Tuple _ _ _, .Tuple _ _ _ => false
  | .List _ _, .Tuple _ _ _ => false
  | _, _ => true
theorem no_pair {t e : Expr} (h : noPair t e = true) (env : PySem.Env) : swappedStores [t] e env = pure none := by
  unfold swappedStores
  cases t <;> cases e <;> first
    | rfl
    | exact absurd h (by simp [noPair])

/-! ### names -/
def isVis (sc : Scope) (x : Str) : Bool := match sc.names.lookup x with
  | some .local => true
  | some .cell => true
  | some .free => true
  | _ => false
def isGl (sc : Scope) (x : Str) : Bool := match sc.names.lookup x with
  | some .globalImplicit => true
  | _ => false
theorem vis_of {sc : Scope} {x : Str} (h : isVis sc x = true) : Vis sc x := by
  unfold isVis at h
  split at h <;> first
    | exact .inl (by assumption)
    | exact .inr (.inl (by assumption))
    | exact .inr (.inr (by assumption))
    | cases h
theorem gl_of {X : Cx} {x : Str} (h : isGl X.env.scope x = true) : Gl X x := by
  unfold isGl at h
  split at h
  · assumption
  · cases h
def okName (x : Str) : Bool := !(x == ("__debug__" : Str)) && !(x == ("__classdict__" : Str)) && !(x == ("__name__" : Str))
theorem ok_name {x : Str} (h : okName x = true) : (x == ("__debug__" : Str)) = false ∧ (x == ("__classdict__" : Str)) = false ∧ x ≠ "__name__" := by
  unfold okName at h
  simp only [Bool.and_eq_true, Bool.not_eq_true'] at h
  exact ⟨h.1.1, h.1.2, fun e => by rw [e] at h; exact absurd h.2 (by decide)⟩
def biName : BI → Str
  | .len => "len" | .int => "int" | .str => "str" | .ord => "ord" | .sum => "sum" | .all => "all" | .any => "any" | .max => "max" | .min => "min" | .list => "list" | .tuple => "tuple"
def tyN : Ty → Str
  | .int => "int" | .str => "str" | .list => "list" | .tuple => "tuple" | .bool => "bool"
def metName : Met → Str
  | .join => "join" | .split => "split" | .partition => "partition"
/-- the names that must be built-in -/
def free : List Str := ["len", "int", "str", "ord", "sum", "all", "any", "max", "min", "list", "tuple", "bool", "isinstance", "range", "enumerate"]
/-- the tables of a program: its defs and its module's constants, by their names -/
structure Tab where
  fns : List Str
  glo : List Str

/-! ### targets, slots -/
def isLoc (sc : Scope) (fb : Str → Bool) (x : Str) : Bool := match sc.names.lookup x with
  | some .local => true
  | some .cell => fb x
  | _ => false
def ckV (N : List Str) (sc : Scope) (fb : Str → Bool) (i : Nat) : Expr → Bool
  | .Name x _ => decide (N[i]? = some x) && isLoc sc fb x
  | _ => false
def ckVs (N : List Str) (sc : Scope) (fb : Str → Bool) : List Nat → List Expr → Bool
  | [], [] => true
  | i :: is, e :: es => ckV N sc fb i e && ckVs N sc fb is es
  | _, _ => false
def ckTg (N : List Str) (sc : Scope) (fb : Str → Bool) : Tg → Expr → Bool
  | .v i, e => ckV N sc fb i e
  | .t is, .Tuple es _ _ => ckVs N sc fb is es
  | _, _ => false
def ownOf (N : List Str) (own : List Nat) : List (Str × Nat) := own.filterMap fun i => N[i]?.map fun x => (x, i)
def tgIn (own : List Nat) : Tg → Bool
  | .v i => own.contains i
  | .t is => is.all own.contains
def ckCon : D → Const → Bool
  | .non, .none => true
  | .bl b, .bool c => b == c
  | .int i, .int j => i == j
  | .str s, .str x => decide (x.cps.toList = s) && isShort LIM s && s.all (· < 128)
  | _, _ => false

/-! ### the checker -/
mutual
def ckE (B : Tab) (N : List Str) (sc : Scope) : C → Expr → Bool
  | .var i, ee => (match ee with
    | .Name x _ => decide (N[i]? = some x) && isVis sc x && okName x
    | _ => false)
  | .con d, ee => (match ee with
    | .Constant c _ _ => ckCon d c
    | _ => false)
  | .glo k, ee => (match ee with
    | .Name x _ => decide (B.glo[k]? = some x) && isGl sc x && okName x
    | _ => false)
  | .neg n, ee => (match ee with
    | .UnaryOp .USub (.Constant (.int i) _ _) _ => decide (i = (n : Int))
    | _ => false)
  | .bin op a b, ee => (match ee with
    | .BinOp x o y _ => decide (o = bopOf op) && ckE B N sc a x && ckE B N sc b y
    | _ => false)
  | .cmp op a b, ee => (match ee with
    | .Compare x [o] [y] _ => decide (o = copOf op) && !behindInMarks o y && ckE B N sc a x && ckE B N sc b y
    | _ => false)
  | .chain op op' a b c, ee => (match ee with
    | .Compare x [o, o'] [y, z] _ => decide (o = copOf op) && decide (o' = copOf op') && !lastMarks [o, o'] [y, z] && ckE B N sc a x && ckE B N sc b y && ckE B N sc c z
    | _ => false)
  | .isN neg a, ee => (match ee with
    | .Compare x [o] [.Constant .none _ _] _ => decide (o = if neg then .IsNot else .Is) && ckE B N sc a x
    | _ => false)
  | .not a, ee => (match ee with
    | .UnaryOp .Not x _ => ckE B N sc a x
    | _ => false)
  | .and a b, ee => (match ee with
    | .BoolOp .And (x :: y :: rest) pos => ckE B N sc a x && (match rest with
      | [] => ckE B N sc b y
      | _ => ckE B N sc b (.BoolOp .And (y :: rest) pos))
    | _ => false)
  | .or a b, ee => (match ee with
    | .BoolOp .Or (x :: y :: rest) pos => ckE B N sc a x && (match rest with
      | [] => ckE B N sc b y
      | _ => ckE B N sc b (.BoolOp .Or (y :: rest) pos))
    | _ => false)
  | .ite t a b, ee => (match ee with
    | .IfExp c x y _ => ckT B N sc t c && ckE B N sc a x && ckE B N sc b y
    | _ => false)
  | .call f args, ee => (match ee with
    | .Call (.Name x _) es [] _ => decide (B.fns[f]? = some x) && isGl sc x && okName x && es.all noStar && ckEs B N sc args es
    | _ => false)
  | .bi b args, ee => (match ee with
    | .Call (.Name x _) (e :: es) [] _ => decide (x = biName b) && isGl sc x && (e :: es).all noStar && ckEs B N sc args (e :: es)
    | _ => false)
  | .isi a t, ee => (match ee with
    | .Call (.Name x _) [e, .Name y _] [] _ => decide (x = "isinstance") && decide (y = tyN t) && isGl sc x && isGl sc y && noStar e && ckE B N sc a e
    | _ => false)
  | .met m o args, ee => (match ee with
    | .Call (.Attribute ov name ap) [e] [] cp => decide (name = metName m) && attrOk ov && decide (ap.endLine = cp.line) && noStar e && ckE B N sc o ov && ckEs B N sc args [e]
    | _ => false)
  | .ix a i, ee => (match ee with
    | .Subscript x y _ => plainIx y && ckE B N sc a x && ckE B N sc i y
    | _ => false)
  | .sl a lo hi, ee => (match ee with
    | .Subscript x (.Slice l h none _) _ => ckE B N sc a x && ckO B N sc lo l && ckO B N sc hi h
    | _ => false)
  | .rev a, ee => (match ee with
    | .Subscript x (.Slice none none (some (.UnaryOp .USub (.Constant (.int 1) _ _) _)) _) _ => ckE B N sc a x
    | _ => false)
  | .lst es, ee => (match ee with
    | .List xs _ => xs.all noStar && ckEs B N sc es xs
    | _ => false)
  | .tup es, ee => (match ee with
    | .Tuple xs _ _ => xs.all noStar && ckEs B N sc es xs
    | _ => false)
  | .fmt a, ee => (match ee with
    | .FormattedValue x k none _ => decide (k = -1) && ckE B N sc a x
    | _ => false)
  | .fstr es, ee => (match ee with
    | .JoinedStr (x :: y :: xs) _ => ckEs B N sc es (x :: y :: xs)
    | _ => false)
  | .lc it tg c elt own, ee => (match ee with
    | .ListComp elt' [⟨tg', iter, ifs, 0⟩] scope _ => ckI B N sc it tg' iter && blkC N sc scope (ownOf N own) && decide ((ownOf N own).map (·.2) = own) && tgIn own tg &&
      ckTg N (relS scope sc) (fun x => scope.names.lookup x == some .cell) tg tg' && ckTo B N (relS scope sc) c ifs && ckE B N (relS scope sc) elt elt' && notSet iter
    | _ => false)
  | .new a, e => ckE B N sc a e
def ckEs (B : Tab) (N : List Str) (sc : Scope) : Cs → List Expr → Bool
  | .nil, ee => (match ee with
    | [] => true
    | _ => false)
  | .cons a r, ee => (match ee with
    | e :: es => ckE B N sc a e && ckEs B N sc r es
    | _ => false)
def ckO (B : Tab) (N : List Str) (sc : Scope) : Co → Option Expr → Bool
  | .non, ee => (match ee with
    | none => true
    | _ => false)
  | .some a, ee => (match ee with
    | some e => ckE B N sc a e
    | _ => false)
def ckT (B : Tab) (N : List Str) (sc : Scope) : T → Expr → Bool
  | .val a, e => plainTest e && ckE B N sc a e
  | .cmp op a b, ee => (match ee with
    | .Compare x [o] [y] _ => decide (o = copOf op) && !behindInMarks o y && ckE B N sc a x && ckE B N sc b y
    | _ => false)
  | .chain op op' a b c, ee => (match ee with
    | .Compare x [o, o'] [y, z] _ => decide (o = copOf op) && decide (o' = copOf op') && !lastMarks [o, o'] [y, z] && ckE B N sc a x && ckE B N sc b y && ckE B N sc c z
    | _ => false)
  | .isN neg a, ee => (match ee with
    | .Compare x [o] [.Constant .none _ _] _ => decide (o = if neg then .IsNot else .Is) && ckE B N sc a x
    | _ => false)
  | .not t, ee => (match ee with
    | .UnaryOp .Not x _ => ckT B N sc t x
    | _ => false)
  | .and ts, ee => (match ee with
    | .BoolOp .And es _ => ckA B N sc ts es
    | _ => false)
  | .or ts, ee => (match ee with
    | .BoolOp .Or es _ => ckA B N sc ts es
    | _ => false)
def ckA (B : Tab) (N : List Str) (sc : Scope) : Ts → List Expr → Bool
  | .one t, ee => (match ee with
    | [e] => ckT B N sc t e
    | _ => false)
  | .cons t r, ee => (match ee with
    | e :: e2 :: es => ckT B N sc t e && ckA B N sc r (e2 :: es)
    | _ => false)
def ckTo (B : Tab) (N : List Str) (sc : Scope) : To → List Expr → Bool
  | .non, ee => (match ee with
    | [] => true
    | _ => false)
  | .some t, ee => (match ee with
    | [e] => ckT B N sc t e
    | _ => false)
def ckI (B : Tab) (N : List Str) (sc : Scope) : It → Expr → Expr → Bool
  | .seq a, _, e => ckE B N sc a e
  | .range1 a, _, ee => (match ee with
    | .Call (.Name x _) [e] [] _ => decide (x = "range") && isGl sc x && noStar e && ckE B N sc a e
    | _ => false)
  | .range2 a b, _, ee => (match ee with
    | .Call (.Name x _) [e, e'] [] _ => decide (x = "range") && isGl sc x && noStar e && noStar e' && ckE B N sc a e && ckE B N sc b e'
    | _ => false)
  | .enum a, tt, ee => (match tt with
    | .Tuple _ _ _ => (match ee with
      | .Call (.Name x _) [e] [] _ => decide (x = "enumerate") && isGl sc x && noStar e && ckE B N sc a e
      | _ => false)
    | _ => false)
end

/-! ### the context -/
/-- as RelR, the value without anything that changes -/
def RelP (K : PySem.W.Frag) : Rl R V := fun B _ F H r v => RelR K B [] F H r v
/-- what a def promises: to give what g tells -/
def spD (K : PySem.W.Frag) (g : List D → O R) : Sp := fun vs H Q _ => ∃ F ds, Ex F H ∧ Reps K [] F ds vs ∧ Res K (RelP K) [] F H (g ds) Q
structure Ctx (B : Tab) (E : Env) (N : List Str) (sc : Scope) (fb : Str → Bool) (X : Cx) : Prop where
  hN : X.N = N
  nd : N.Nodup
  scope : X.env.scope = sc
  calm : X.calm = true
  units : X.A.units + 65 < cLine
  free : ∀ x ∈ Pd.free, X.mg x = none
  fb : ∀ x, fb x = true → X.fn x = true
  glo : ∀ k x d, B.glo[k]? = some x → E.glo k = some d → ∃ u v, X.mg x = some u ∧ RelV v u ∧ ∀ m F, Rep X.K m F d v
  fns : ∀ f x, B.fns[f]? = some x → ∃ a fd ps k, X.mg x = some (.ref a) ∧ PySem.W.keepIn X.K (.ref a) = true ∧ Binds X.K fd ps [] ∧ Room k X.A ∧ FnOk X.prog X.w X.K X.mg X.base CX0 k a fd ps (spD X.K (E.call f))
end Pd
/-! Pd6: what the checker takes is so: expressions. -/
namespace Pd
open PySem PySem.Spec PyProof.Rows L2

section
variable {K : PySem.W.Frag} {α β γ δ : Type} {rel : Rl α β} {rel' : Rl γ δ} {m m1 : List Addr} {F F1 H H1 : Hp} {g : G}
theorem Res.next {o : O α} {f : α → G → O γ} {Q : δ → Hp → Prop} (h : Res K rel' m F H (o.bind f) Q) :
    Res K rel m1 F1 H1 o fun b H2 => ∃ m2 F2 g2 a, o = .ok a g2 ∧ Grow m1 F1 H1 m2 F2 H2 ∧ Sim K m2 F2 g2 H2 ∧ rel H1 m2 F2 H2 a b ∧ Res K rel' m F H (f a g2) Q := by
  cases o with
  | ok a g => exact fun b m' F' H' gr s r => ⟨m', F', g, a, rfl, gr, s, r, h⟩
  | ex c g => exact h
  | no => exact h
/-- the end of a chain: a value that stands -/
theorem Res.fin {a : α} {b : β} {Q : β → Hp → Prop} (h : Res K rel m F H (.ok a g) Q) (gr : Grow m F H m1 F1 H1) (s : Sim K m1 F1 g H1) (r : rel H m1 F1 H1 a b) : Q b H1 := h b m1 F1 H1 gr s r
end

def tE (E : Env) (K : PySem.W.Frag) (c : C) : TE := fun σ H Q => ∃ m F g l, Sim K m F g H ∧ RepS K m F l σ ∧ Res K (RelR K) m F H (ev E c l g) Q
def tEs (E : Env) (K : PySem.W.Frag) (c : Cs) : TA := fun σ H Q => ∃ m F g l, Sim K m F g H ∧ RepS K m F l σ ∧ Res K (RelA K) m F H (evs E c l g) Q
def tO (E : Env) (K : PySem.W.Frag) (c : Co) : TO := fun σ H Q => ∃ m F g l, Sim K m F g H ∧ RepS K m F l σ ∧ Res K RelE m F H (evo E c l g) Q
def tT (E : Env) (K : PySem.W.Frag) (c : T) : TT := fun σ H Q => ∃ m F g l, Sim K m F g H ∧ RepS K m F l σ ∧ Res K RelE m F H (evT E c l g) Q
def tTs (E : Env) (K : PySem.W.Frag) (an : Bool) (c : Ts) : TT := fun σ H Q => ∃ m F g l, Sim K m F g H ∧ RepS K m F l σ ∧ Res K RelE m F H (if an then evA E c l g else evR E c l g) Q
def tTo (E : Env) (K : PySem.W.Frag) (c : To) : TT := fun σ H Q => ∃ m F g l, Sim K m F g H ∧ RepS K m F l σ ∧ Res K RelE m F H (evO E c l g) Q
def tI (E : Env) (K : PySem.W.Frag) (c : It) : TI := fun σ H R => ∃ m F g l, Sim K m F g H ∧ RepS K m F l σ ∧ Res K (RelW K) m F H (evI E c l g) R

/-! ### the context of a comprehension's block -/
theorem Ctx.blk {B : Tab} {E : Env} {N : List Str} {sc : Scope} {fb : Str → Bool} {X : Cx} (c : Ctx B E N sc fb X) (s : Shared) (H : Hp) (scope : Scope) (C : Addr) (cl : List (Str × Addr)) (fp : List Addr) :
    Ctx B E N (relS scope sc) (fun x => scope.names.lookup x == some .cell) (X.blk s H scope (compEnvC scope cl C X.env) fp) where
  hN := c.hN
  nd := c.nd
  scope := by rw [← c.scope]; rfl
  calm := c.calm
  units := c.units
  free := c.free
  fb := fun x h => h
  glo := c.glo
  fns := c.fns

/-! ### targets -/
def gsT : List Nat → TGs
  | [] => gNil
  | i :: is => gCons (gName i) (gsT is)
def gT (K : PySem.W.Frag) : Tg → TG
  | .v i => gName i
  | .t is => gTup K is.length (gsT is)
section
variable {B : Tab} {E : Env} {N : List Str} {sc : Scope} {fb : Str → Bool} {X : Cx}
theorem loc_of (c : Ctx B E N sc fb X) {x : Str} (h : isLoc sc fb x = true) : Loc X.env.scope x ∧ (X.fn x = true ∨ X.env.scope.names.lookup x = some .local) := by
  rw [c.scope]
  unfold isLoc at h
  split at h
  · rename_i e; exact ⟨.inl e, .inr e⟩
  · rename_i e; exact ⟨.inr e, .inl (c.fb x h)⟩
  · cases h
theorem pg_v (c : Ctx B E N sc fb X) {i : Nat} {e : Expr} (h : ckV N sc fb i e = true) : PG X e (gName i) := by
  cases e <;> first
    | (simp [ckV] at h; done)
    | skip
  rename_i x p
  simp only [ckV, Bool.and_eq_true, decide_eq_true_eq] at h
  obtain ⟨h1, h2⟩ := loc_of c h.2
  exact pg_name (by rw [c.hN]; exact c.nd) (by rw [c.hN]; exact h.1) h1 h2
theorem v_name {i : Nat} {e : Expr} (h : ckV N sc fb i e = true) : ∃ x p, e = .Name x p := by
  cases e <;> first
    | (simp [ckV] at h; done)
    | exact ⟨_, _, rfl⟩
theorem pgs_vs (c : Ctx B E N sc fb X) : ∀ {is : List Nat} {es : List Expr}, ckVs N sc fb is es = true → PGs X es (gsT is) ∧ (assignEach es X.env).length = is.length ∧ (assignEach es X.env).findIdx? (·.1) = none
  | [], [], _ => ⟨pgs_nil, rfl, rfl⟩
  | i :: is, e :: es, h => by
    simp only [ckVs, Bool.and_eq_true] at h
    obtain ⟨h1, h2, h3⟩ := pgs_vs c h.2
    obtain ⟨x, p, rfl⟩ := v_name h.1
    refine ⟨pgs_cons (pg_v c h.1) h1 rfl, ?_, ?_⟩
    · show (assignEach es X.env).length + 1 = is.length + 1
      rw [h2]
    · show ((false, _) :: assignEach es X.env).findIdx? (·.1) = none
      rw [List.findIdx?_cons, h3]
      rfl
  | [], _ :: _, h => by simp [ckVs] at h
  | _ :: _, [], h => by simp [ckVs] at h
theorem pg_tg (c : Ctx B E N sc fb X) {tg : Tg} {e : Expr} (h : ckTg N sc fb tg e = true) : PG X e (gT X.K tg) := by
  cases tg with
  | v i => exact pg_v c h
  | t is =>
    cases e <;> first
      | (simp [ckTg] at h; done)
      | skip
    obtain ⟨h1, h2, h3⟩ := pgs_vs c (show ckVs N sc fb is _ = true from h)
    exact pg_tup c.calm h1 h2 h3
end
section
variable {K : PySem.W.Frag} {m : List Addr} {F H : Hp} {g : G}
theorem gs_ok : ∀ {is : List Nat} {ds : List D} {vs : List V} {l l' : Lo} {σ : L2.St} {Q : L2.St → Hp → Prop}, setAll is ds l = some l' → Reps K m F ds vs → RepS K m F l σ →
    (∀ σ', RepS K m F l' σ' → (∀ js : List Nat, (∀ i ∈ is, i ∈ js) → wipe σ' js = wipe σ js) → Q σ' H) → gsT is vs σ H Q
  | [], [], _, l, l', σ, Q, e, .nil, rs, k => by
    cases e
    exact ⟨rfl, k σ rs fun _ _ => rfl⟩
  | i :: is, d :: ds, _, l, l', σ, Q, e, .cons h r, rs, k => by
    have e : (if i < l.length then setAll is ds (l.set i (some d)) else none) = some l' := e
    by_cases hi : i < l.length
    · rw [if_pos hi] at e
      refine ⟨_, _, rfl, ?_⟩
      show gsT is _ (σ.set i (some _)) H Q
      refine gs_ok e r (rs.set h) fun σ' rs' hw => k σ' rs' fun js hj => ?_
      rw [hw js fun x hx => hj x (List.mem_cons_of_mem _ hx)]
      exact wipe_set _ js (hj i List.mem_cons_self)
    · rw [if_neg hi] at e; cases e
  | [], _ :: _, _, _, _, _, _, e, _, _, _ => by cases e
  | _ :: _, [], _, _, _, _, _, e, _, _, _ => by cases e
where
  wipe_set : ∀ {σ : L2.St} {i : Nat} (x : Option V) (js : List Nat), i ∈ js → wipe (σ.set i x) js = wipe σ js
    | σ, i, x, [], h => by simp at h
    | σ, i, x, j :: js, h => by
      show (wipe (σ.set i x) js).set j none = (wipe σ js).set j none
      by_cases hj : i ∈ js
      · rw [wipe_set x js hj]
      · have e : i = j := (List.mem_cons.mp h).elim id fun q => absurd q hj
        subst e
        have z : ∀ ks : List Nat, i ∉ ks → wipe (σ.set i x) ks = (wipe σ ks).set i x := by
          intro ks
          induction ks with
          | nil => intro _; rfl
          | cons k ks ih =>
            intro hk
            simp only [List.mem_cons, not_or] at hk
            show (wipe (σ.set i x) ks).set k none = ((wipe σ ks).set k none).set i x
            rw [ih hk.2, List.set_comm _ _ hk.1]
        rw [z js hj, List.set_set]
theorem setAll_len : ∀ {is : List Nat} {ds : List D} {l l' : Lo}, setAll is ds l = some l' → ds.length = is.length
  | [], [], _, _, _ => rfl
  | i :: is, d :: ds, l, l', e => by
    have e : (if i < l.length then setAll is ds (l.set i (some d)) else none) = some l' := e
    by_cases hi : i < l.length
    · rw [if_pos hi] at e
      rw [List.length_cons, List.length_cons, setAll_len e]
    · rw [if_neg hi] at e; cases e
  | [], _ :: _, _, _, e => by cases e
  | _ :: _, [], _, _, e => by cases e
theorem gT_ok {tg : Tg} {d : D} {v : V} {l l' : Lo} {σ : L2.St} {Q : L2.St → Hp → Prop} (e : assign tg d l = some l') (ex : Ex F H) (h : Rep K m F d v) (rs : RepS K m F l σ)
    (k : ∀ σ', RepS K m F l' σ' → (∀ js : List Nat, tgIn js tg = true → wipe σ' js = wipe σ js) → Q σ' H) : gT K tg v σ H Q := by
  cases tg with
  | v i =>
    have e : (if i < l.length then some (l.set i (some d)) else none) = some l' := e
    by_cases hi : i < l.length
    · rw [if_pos hi] at e
      cases e
      exact k _ (rs.set h) fun js hj => gs_ok.wipe_set _ js (by simpa [tgIn] using hj)
    · rw [if_neg hi] at e; cases e
  | t is =>
    cases d <;> first
      | (cases e; done)
      | skip
    rename_i ds
    cases h with
    | tup h0 h1 =>
      have e : setAll is ds l = some l' := e
      refine ⟨_, _, rfl, ex.t h0, ?_, gs_ok e h1 rs fun σ' r w => k σ' r fun js hj => w js fun i hi => ?_⟩
      · rw [← h1.length]; exact setAll_len e
      · have hj : is.all js.contains = true := hj
        rw [List.all_eq_true] at hj
        simpa using hj i hi
end

/-! ### calls -/
section
variable {K : PySem.W.Frag} {m : List Addr} {F H : Hp} {g : G}
theorem snaps_ok (s : Sim K m F g H) {F2 : Hp} (e1 : Ex F F2) (e2 : ∀ a, a ∈ m → F2 a = H a) : ∀ {ds es : List D} {vs : List V}, Reps K m F ds vs → snaps g ds = some es → Reps K [] F2 es vs
  | [], _, _, .nil, h => by cases h; exact .nil
  | d :: ds, es, _, .cons hd r, h => by
    obtain ⟨y, h1, h2⟩ := Option.bind_eq_some_iff.mp (show (snap g d).bind _ = some es from h)
    obtain ⟨ys, h3, rfl⟩ := Option.map_eq_some_iff.mp h2
    refine .cons ?_ (snaps_ok s e1 e2 r h3)
    cases hd with
    | @obj i a h0 =>
      have h1 : (match g[i]? with | some (.lst xs) => if D.pures xs then some (.lst xs) else none | _ => none) = some y := h1
      cases q : g[i]? with
      | none => rw [q] at h1; cases h1
      | some c =>
        cases c with
        | dead => rw [q] at h1; cases h1
        | lst xs =>
          rw [q] at h1
          have h1 : (if D.pures xs = true then some (D.lst xs) else none) = some y := h1
          by_cases z : D.pures xs = true
          · rw [if_pos z] at h1
            cases h1
            obtain ⟨b, us, q1, q2, q3⟩ := s.lst i xs q
            rw [h0] at q1
            cases q1
            refine .lst (by rw [e2 a (List.mem_of_getElem? h0)]; exact q2) ((q3.pure z).mono e1 (Pre.refl _))
          · rw [if_neg z] at h1; cases h1
    | non => cases (show some D.non = some y from h1); exact .non
    | bl b => cases (show some (D.bl b) = some y from h1); exact .bl b
    | int i => cases (show some (D.int i) = some y from h1); exact .int i
    | str hs => cases (show some (D.str _) = some y from h1); exact .str hs
    | @lst a us xs hs r0 =>
      have h1 : (if D.pure (.lst xs) then some (D.lst xs) else none) = some y := h1
      by_cases z : D.pure (.lst xs) = true
      · rw [if_pos z] at h1
        cases h1
        exact (Rep.pure (K := K) (m := m) (.lst hs r0) z).mono e1 (Pre.refl _)
      · rw [if_neg z] at h1; cases h1
    | @tup a us xs hs r0 =>
      have h1 : (if D.pure (.tup xs) then some (D.tup xs) else none) = some y := h1
      by_cases z : D.pure (.tup xs) = true
      · rw [if_pos z] at h1
        cases h1
        exact (Rep.pure (K := K) (m := m) (.tup hs r0) z).mono e1 (Pre.refl _)
      · rw [if_neg z] at h1; cases h1
    | @scr a us xs hs r0 =>
      have h1 : (if D.pure (.scr xs) then some (D.scr xs) else none) = some y := h1
      by_cases z : D.pure (.scr xs) = true
      · rw [if_pos z] at h1
        cases h1
        exact (Rep.pure (K := K) (m := m) (.scr hs r0) z).mono e1 (Pre.refl _)
      · rw [if_neg z] at h1; cases h1
theorem Reps.scalars {m m' : List Addr} {F F' : Hp} : ∀ {ds : List D} {vs : List V}, Reps K m F ds vs → ds.all D.scalar = true → Reps K m' F' ds vs
  | _, _, .nil, _ => .nil
  | _, _, .cons h r, z => by
    rw [List.all_cons, Bool.and_eq_true] at z
    exact .cons (Rep.scalar h z.1) (Reps.scalars r z.2)
/-- a def's promise is asked of it -/
theorem callW_ok {E : Env} {f : Nat} {ds : List D} {vs : List V} {Q : VK} (s : Sim K m F g H) (r : Reps K m F ds vs) (h : Res K (RelR K) m F H (callW E f ds g) Q) : spD K (E.call f) vs H Q E0 := by
  unfold callW at h
  by_cases z : D.pures ds = true
  · rw [if_pos z] at h
    refine ⟨F, ds, s.ex, r.pure z, ?_⟩
    cases e : E.call f ds with
    | ok x g' =>
      rw [e] at h
      intro v m' F' H' gr sm rl
      have keep : Ex H H' := fun a o q => gr.keep a o q (by simp)
      have gr2 : Grow m F H m F' H' := ⟨gr.ex, Pre.refl m, fun a o q _ => keep a o q, gr.apart, fun a q => .inl q, gr.there⟩
      have sm2 : Sim K m F' g H' := ⟨sm.ex, s.len, s.inj, fun i a q => gr.apart a (s.there i a q) (s.apart i a q), fun i a q => gr.there a (s.there i a q), fun i xs q => by
        obtain ⟨a, us, q1, q2, q3⟩ := s.lst i xs q
        exact ⟨a, us, q1, keep a _ q2, q3.mono gr.ex (Pre.refl m)⟩⟩
      refine h v m F' H' gr2 sm2 ?_
      cases x with
      | d x => exact Rep.mono (Ex.refl _) (Pre.nil m) rl
      | fl xs =>
        obtain ⟨a, us, q1, q2, q3, q4, q5, q6⟩ := rl
        exact ⟨a, us, q1, q2, q3, s.ne q2, q5, q6.mono (Ex.refl _) (Pre.nil m)⟩
    | ex c g' => rw [e] at h; exact h
    | no => rw [e] at h; exact h
  · rw [if_neg z] at h
    cases e : snaps g ds with
    | none => rw [e] at h; exact h.elim
    | some es =>
      rw [e] at h
      have h : Res K (RelR K) m F H (match E.call f es with
        | .ok (.d x) _ => if D.scalar x then O.ok (.d x) g else .no
        | .ok (.fl xs) _ => if xs.all D.scalar then O.ok (.fl xs) g else .no
        | .ex c _ => .ex c g
        | _ => .no) Q := h
      -- the lists of the store are lent
      let F2 : Hp := fun a => if a ∈ m then H a else F a
      have e1 : Ex F F2 := fun a o q => by
        show (if a ∈ m then H a else F a) = some o
        by_cases ha : a ∈ m
        · rw [if_pos ha]; exact s.ex a o q
        · rw [if_neg ha]; exact q
      have e2 : ∀ a, a ∈ m → F2 a = H a := fun a ha => if_pos ha
      have e3 : Ex F2 H := fun a o q => by
        have q : (if a ∈ m then H a else F a) = some o := q
        by_cases ha : a ∈ m
        · rw [if_pos ha] at q; exact q
        · rw [if_neg ha] at q; exact s.ex a o q
      refine ⟨F2, es, e3, snaps_ok s e1 e2 r e, ?_⟩
      cases e4 : E.call f es with
      | ok x g' =>
        rw [e4] at h
        cases x with
        | d x =>
          have h : Res K (RelR K) m F H (if D.scalar x = true then O.ok (.d x) g else .no) Q := h
          by_cases zs : D.scalar x = true
          · rw [if_pos zs] at h
            intro v m' F' H' gr sm rl
            have keep : Ex H H' := fun a o q => gr.keep a o q (by simp)
            refine h v m F H' ⟨Ex.refl F, Pre.refl m, fun a o q _ => keep a o q, fun _ _ q => q, fun a q => .inl q, gr.there⟩ ⟨s.ex.trans keep, s.len, s.inj, s.apart, fun i a q => gr.there a (s.there i a q), fun i xs q => ?_⟩ (Rep.scalar rl zs)
            obtain ⟨a, us, q1, q2, q3⟩ := s.lst i xs q
            exact ⟨a, us, q1, keep a _ q2, q3⟩
          · rw [if_neg zs] at h; exact h.elim
        | fl xs =>
          have h : Res K (RelR K) m F H (if xs.all D.scalar = true then O.ok (.fl xs) g else .no) Q := h
          by_cases zs : xs.all D.scalar = true
          · rw [if_pos zs] at h
            intro v m' F' H' gr sm rl
            have keep : Ex H H' := fun a o q => gr.keep a o q (by simp)
            obtain ⟨a, us, q1, q2, q3, q4, q5, q6⟩ := rl
            refine h v m F H' ⟨Ex.refl F, Pre.refl m, fun a o q _ => keep a o q, fun _ _ q => q, fun a q => .inl q, gr.there⟩ ⟨s.ex.trans keep, s.len, s.inj, s.apart, fun i a q => gr.there a (s.there i a q), fun i xs q => ?_⟩ ⟨a, us, q1, q2, s.ex.none q2, s.ne q2, q5, Reps.scalars q6 zs⟩
            obtain ⟨a, us, q1, q2, q3⟩ := s.lst i xs q
            exact ⟨a, us, q1, keep a _ q2, q3⟩
          · rw [if_neg zs] at h; exact h.elim
      | ex c g' => rw [e4] at h; exact h.elim
      | no => rw [e4] at h; exact h.elim
end
end Pd
/-! Pd7: the expressions of the language, form by form. -/
namespace Pd
open PySem PySem.Spec PyProof.Rows L2

section
variable {E : Env} {X : Cx} {a b c : Expr} {ca cb cc : C} {pos : Pos}
theorem noneD {K : PySem.W.Frag} {B : Hp} {m : List Addr} {F H : Hp} {r : R} {v : V} (h : RelR K B m F H r v) : (decide (v = .non)) = (match r.toD with | .non => true | _ => false) := by
  cases r with
  | fl xs =>
    obtain ⟨p, vs, rfl, _⟩ := h
    rfl
  | d x =>
    have h : Rep K m F x v := h
    cases h <;> rfl
theorem s_var {i : Nat} {x : Str} (hN : X.N[i]? = some x) (hv : Vis X.env.scope x) (ok : okName x = true) : PE X (.Name x pos) (tE E X.K (.var i)) := by
  obtain ⟨o1, o2, o3⟩ := ok_name ok
  refine (pe_var hN hv o1 o2).imp fun σ H Q ⟨m, F, g, l, sm, rs, h⟩ => ?_
  rw [ev] at h
  cases q : l[i]? with
  | none => rw [q] at h; exact h.elim
  | some d =>
    cases d with
    | none => rw [q] at h; exact h.elim
    | some d =>
      rw [q] at h
      obtain ⟨v, h1, h2⟩ := rs.2 i d q
      exact ⟨v, h1, Res.here h sm h2⟩
theorem s_con {d : D} {k : Const} {j} (h : ckCon d k = true) : PE X (.Constant k j pos) (tE E X.K (.con d)) := by
  have key : ∀ v : V, (∀ m F, Rep X.K m F d v) → ∀ σ H Q, tE E X.K (.con d) σ H Q → tC v σ H Q := fun v hv σ H Q ⟨m, F, g, l, sm, rs, h⟩ => by
    rw [ev] at h
    exact Res.here h sm (hv m F)
  unfold ckCon at h
  split at h
  · exact pe_non.imp (key _ fun _ _ => .non)
  · have h := eq_of_beq h; subst h; exact pe_bl.imp (key _ fun _ _ => .bl _)
  · have h := eq_of_beq h; subst h; exact pe_int.imp (key _ fun _ _ => .int _)
  · rename_i s x
    simp only [Bool.and_eq_true, decide_eq_true_eq, List.all_eq_true] at h
    obtain ⟨⟨h1, h2⟩, h3⟩ := h
    subst h1
    refine pe_str.imp (key _ fun m F => ?_)
    have e : V.str x = sV x.cps.toList := by
      show V.str x = V.str ⟨x.cps.toList.toArray⟩
      rw [Array.toArray_toList]
    rw [e]
    exact .str ⟨(isShort_iff _ _).mp h2, h3⟩
  · cases h
theorem s_glo {x : Str} {k : Nat} (hg : Gl X x) (ok : okName x = true) (hk : ∀ d, E.glo k = some d → ∃ u v, X.mg x = some u ∧ RelV v u ∧ ∀ m F, Rep X.K m F d v) : PE X (.Name x pos) (tE E X.K (.glo k)) := by
  obtain ⟨o1, o2, o3⟩ := ok_name ok
  cases q : E.glo k with
  | none =>
    refine ⟨fun pins s σ H Q I ⟨m, F, g, l, sm, rs, h⟩ => ?_⟩
    rw [ev, q] at h
    exact h.elim
  | some d =>
    obtain ⟨u, v, h1, h2, h3⟩ := hk d q
    refine (pe_glob hg h1 h2 o1).imp fun σ H Q ⟨m, F, g, l, sm, rs, h⟩ => ?_
    rw [ev, q] at h
    exact Res.here h sm (h3 m F)
theorem s_neg {n : Nat} {j p} : PE X (.UnaryOp .USub (.Constant (.int (n : Int)) j p) pos) (tE E X.K (.neg n)) := by
  refine (pe_un un_neg pe_int).imp fun σ H Q ⟨m, F, g, l, sm, rs, h⟩ => ?_
  rw [ev] at h
  exact ⟨_, rfl, Res.here h sm (.int _)⟩
theorem s_bin (op : Bop) (ha : PE X a (tE E X.K ca)) (hb : PE X b (tE E X.K cb)) : PE X (.BinOp a (bopOf op) b pos) (tE E X.K (.bin op ca cb)) := by
  refine (pe_op (op_bin op) ha hb).imp fun σ H Q ⟨m, F, g, l, sm, rs, h⟩ => ?_
  rw [ev] at h
  refine ⟨m, F, g, l, sm, rs, (Res.next h).imp fun x H1 ⟨m1, F1, g1, r1, e1, gr1, sm1, rl1, h1⟩ => ?_⟩
  refine ⟨m1, F1, g1, l, sm1, rs.grow gr1, (Res.next h1).imp fun y H2 ⟨m2, F2, g2, r2, e2, gr2, sm2, rl2, h2⟩ => ?_⟩
  obtain ⟨r, er, h3⟩ := Res.of_some h2
  exact ⟨m2, F2, g2, _, _, r, sm2, (rl1.grow gr2).sees sm2, rl2.sees sm2, er, Res.mono elderR (gr1.trans gr2) h3⟩
theorem s_cmp (hu : X.A.units + 65 < cLine) (op : Cop) (ha : PE X a (tE E X.K ca)) (hb : PE X b (tE E X.K cb)) (hm : behindInMarks (copOf op) b = false) : PE X (.Compare a [copOf op] [b] pos) (tE E X.K (.cmp op ca cb)) := by
  refine (pe_cmpR (op_cmp hu op) ha hb hm).imp fun σ H Q ⟨m, F, g, l, sm, rs, h⟩ => ?_
  rw [ev] at h
  refine ⟨m, F, g, l, sm, rs, (Res.next h).imp fun x H1 ⟨m1, F1, g1, r1, e1, gr1, sm1, rl1, h1⟩ => ?_⟩
  refine ⟨m1, F1, g1, l, sm1, rs.grow gr1, (Res.next h1).imp fun y H2 ⟨m2, F2, g2, r2, e2, gr2, sm2, rl2, h2⟩ => ?_⟩
  obtain ⟨r, er, h3⟩ := Res.of_some h2
  obtain ⟨k, ek, rfl⟩ := Option.map_eq_some_iff.mp er
  exact ⟨m2, F2, _, _, k, sm2.ex, (rl1.grow gr2).sees sm2, rl2.sees sm2, ek, Res.fin h3 (gr1.trans gr2) sm2 (Rep.bl k)⟩
theorem s_tcmp (hu : X.A.units + 65 < cLine) (op : Cop) (ha : PE X a (tE E X.K ca)) (hb : PE X b (tE E X.K cb)) (hm : behindInMarks (copOf op) b = false) : PT X (.Compare a [copOf op] [b] pos) (tT E X.K (.cmp op ca cb)) := by
  refine (pt_cmpR (op_cmp hu op) ha hb hm).imp fun σ H Q ⟨m, F, g, l, sm, rs, h⟩ => ?_
  rw [evT] at h
  refine ⟨m, F, g, l, sm, rs, (Res.next h).imp fun x H1 ⟨m1, F1, g1, r1, e1, gr1, sm1, rl1, h1⟩ => ?_⟩
  refine ⟨m1, F1, g1, l, sm1, rs.grow gr1, (Res.next h1).imp fun y H2 ⟨m2, F2, g2, r2, e2, gr2, sm2, rl2, h2⟩ => ?_⟩
  obtain ⟨k, ek, h3⟩ := Res.of_some h2
  exact ⟨m2, F2, _, _, k, sm2.ex, (rl1.grow gr2).sees sm2, rl2.sees sm2, ek, k, rfl, Res.fin h3 (gr1.trans gr2) sm2 rfl⟩
theorem s_chain (hu : X.A.units + 65 < cLine) (op op' : Cop) (ha : PE X a (tE E X.K ca)) (hb : PE X b (tE E X.K cb)) (hc : PE X c (tE E X.K cc)) (hm : lastMarks [copOf op, copOf op'] [b, c] = false) : PE X (.Compare a [copOf op, copOf op'] [b, c] pos) (tE E X.K (.chain op op' ca cb cc)) := by
  refine (pe_chain (op_cmp hu op) (op_cmp hu op') ha hb hc hm).imp fun σ H Q ⟨m, F, g, l, sm, rs, h⟩ => ?_
  rw [ev] at h
  refine ⟨m, F, g, l, sm, rs, (Res.next h).imp fun x H1 ⟨m1, F1, g1, r1, e1, gr1, sm1, rl1, h1⟩ => ?_⟩
  refine ⟨m1, F1, g1, l, sm1, rs.grow gr1, (Res.next h1).imp fun y H2 ⟨m2, F2, g2, r2, e2, gr2, sm2, rl2, h2⟩ => ?_⟩
  cases q : cmpop op (look g2 r1.toD) (look g2 r2.toD) with
  | none => rw [q] at h2; exact h2.elim
  | some k =>
    rw [q] at h2
    refine ⟨m2, F2, _, _, k, sm2.ex, (rl1.grow gr2).sees sm2, rl2.sees sm2, q, k, rfl, ?_⟩
    cases k with
    | false => exact Res.fin h2 (gr1.trans gr2) sm2 (Rep.bl false)
    | true =>
      have h2 : Res X.K (RelR X.K) m F H ((ev E cc l g2).bind fun z g => O.of ((cmpop op' (look g r2.toD) (look g z.toD)).map fun b => .d (.bl b)) g) Q := h2
      refine ⟨m2, F2, g2, l, sm2, (rs.grow gr1).grow gr2, (Res.next h2).imp fun z H3 ⟨m3, F3, g3, r3, e3, gr3, sm3, rl3, h3⟩ => ?_⟩
      obtain ⟨r, er, h4⟩ := Res.of_some h3
      obtain ⟨k, ek, rfl⟩ := Option.map_eq_some_iff.mp er
      exact ⟨m3, F3, _, _, k, sm3.ex, (rl2.grow gr3).sees sm3, rl3.sees sm3, ek, Res.fin h4 ((gr1.trans gr2).trans gr3) sm3 (Rep.bl k)⟩
theorem s_tchain (hu : X.A.units + 65 < cLine) (op op' : Cop) (ha : PE X a (tE E X.K ca)) (hb : PE X b (tE E X.K cb)) (hc : PE X c (tE E X.K cc)) (hm : lastMarks [copOf op, copOf op'] [b, c] = false) : PT X (.Compare a [copOf op, copOf op'] [b, c] pos) (tT E X.K (.chain op op' ca cb cc)) := by
  refine (pt_chain (op_cmp hu op) (op_cmp hu op') ha hb hc hm).imp fun σ H Q ⟨m, F, g, l, sm, rs, h⟩ => ?_
  rw [evT] at h
  refine ⟨m, F, g, l, sm, rs, (Res.next h).imp fun x H1 ⟨m1, F1, g1, r1, e1, gr1, sm1, rl1, h1⟩ => ?_⟩
  refine ⟨m1, F1, g1, l, sm1, rs.grow gr1, (Res.next h1).imp fun y H2 ⟨m2, F2, g2, r2, e2, gr2, sm2, rl2, h2⟩ => ?_⟩
  cases q : cmpop op (look g2 r1.toD) (look g2 r2.toD) with
  | none => rw [q] at h2; exact h2.elim
  | some k =>
    rw [q] at h2
    refine ⟨m2, F2, _, _, k, sm2.ex, (rl1.grow gr2).sees sm2, rl2.sees sm2, q, k, rfl, ?_⟩
    cases k with
    | false => exact ⟨false, rfl, Res.fin h2 (gr1.trans gr2) sm2 rfl⟩
    | true =>
      have h2 : Res X.K RelE m F H ((ev E cc l g2).bind fun z g => O.of (cmpop op' (look g r2.toD) (look g z.toD)) g) Q := h2
      refine ⟨m2, F2, g2, l, sm2, (rs.grow gr1).grow gr2, (Res.next h2).imp fun z H3 ⟨m3, F3, g3, r3, e3, gr3, sm3, rl3, h3⟩ => ?_⟩
      obtain ⟨k, ek, h4⟩ := Res.of_some h3
      exact ⟨m3, F3, _, _, k, sm3.ex, (rl2.grow gr3).sees sm3, rl3.sees sm3, ek, k, rfl, Res.fin h4 ((gr1.trans gr2).trans gr3) sm3 rfl⟩
theorem s_isN {neg : Bool} {j p} (ha : PE X a (tE E X.K ca)) : PE X (.Compare a [if neg then .IsNot else .Is] [.Constant .none j p] pos) (tE E X.K (.isN neg ca)) := by
  have key : ∀ σ H Q, tE E X.K (.isN neg ca) σ H Q → tE E X.K ca σ H fun x H1 => Q (.bl (if neg then !decide (x = .non) else decide (x = .non))) H1 := fun σ H Q ⟨m, F, g, l, sm, rs, h⟩ => by
    rw [ev] at h
    refine ⟨m, F, g, l, sm, rs, (Res.next h).imp fun x H1 ⟨m1, F1, g1, r1, e1, gr1, sm1, rl1, h1⟩ => ?_⟩
    rw [noneD rl1]
    generalize r1.toD = d at h1
    cases d <;> (cases neg <;> exact Res.fin h1 gr1 sm1 (Rep.bl _))
  cases neg with
  | false => exact (pe_cmp (pc_isN ha)).imp key
  | true => exact (pe_cmp (pc_notN ha)).imp key
theorem s_tisN {neg : Bool} {j p} (ha : PE X a (tE E X.K ca)) : PT X (.Compare a [if neg then .IsNot else .Is] [.Constant .none j p] pos) (tT E X.K (.isN neg ca)) := by
  have key : ∀ σ H Q, tT E X.K (.isN neg ca) σ H Q → tE E X.K ca σ H fun x H1 => ∃ c, V.bl (if neg then !decide (x = .non) else decide (x = .non)) = .bl c ∧ Q c H1 := fun σ H Q ⟨m, F, g, l, sm, rs, h⟩ => by
    rw [evT] at h
    refine ⟨m, F, g, l, sm, rs, (Res.next h).imp fun x H1 ⟨m1, F1, g1, r1, e1, gr1, sm1, rl1, h1⟩ => ⟨_, rfl, ?_⟩⟩
    rw [noneD rl1]
    generalize r1.toD = d at h1
    cases d <;> (cases neg <;> exact Res.fin h1 gr1 sm1 rfl)
  cases neg with
  | false => exact (pt_cmp (pc_isN ha)).imp key
  | true => exact (pt_cmp (pc_notN ha)).imp key
theorem s_not (ha : PE X a (tE E X.K ca)) : PE X (.UnaryOp .Not a pos) (tE E X.K (.not ca)) := by
  refine (pe_not ha).imp fun σ H Q ⟨m, F, g, l, sm, rs, h⟩ => ?_
  rw [ev] at h
  refine ⟨m, F, g, l, sm, rs, (Res.next h).imp fun x H1 ⟨m1, F1, g1, r1, e1, gr1, sm1, rl1, h1⟩ => ?_⟩
  cases r1 with
  | fl xs => exact h1.elim
  | d d =>
    cases d with
    | bl b => cases (show Rep X.K m1 F1 (.bl b) x from rl1); exact ⟨b, rfl, Res.fin h1 gr1 sm1 (Rep.bl _)⟩
    | _ => exact h1.elim
theorem s_and {rest : List Expr} (ha : PE X a (tE E X.K ca)) (hb : PE X (.BoolOp .And (b :: rest) pos) (tE E X.K cb)) : PE X (.BoolOp .And (a :: b :: rest) pos) (tE E X.K (.and ca cb)) := by
  refine (pe_and ha hb).imp fun σ H Q ⟨m, F, g, l, sm, rs, h⟩ => ?_
  rw [ev] at h
  refine ⟨m, F, g, l, sm, rs, (Res.next h).imp fun x H1 ⟨m1, F1, g1, r1, e1, gr1, sm1, rl1, h1⟩ => ?_⟩
  cases r1 with
  | fl xs => exact h1.elim
  | d d =>
    cases d with
    | bl b =>
      cases (show Rep X.K m1 F1 (.bl b) x from rl1)
      refine ⟨b, rfl, ?_⟩
      cases b with
      | true => exact ⟨m1, F1, g1, l, sm1, rs.grow gr1, Res.mono elderR gr1 h1⟩
      | false => exact Res.fin h1 gr1 sm1 (Rep.bl _)
    | _ => exact h1.elim
theorem s_or {rest : List Expr} (ha : PE X a (tE E X.K ca)) (hb : PE X (.BoolOp .Or (b :: rest) pos) (tE E X.K cb)) : PE X (.BoolOp .Or (a :: b :: rest) pos) (tE E X.K (.or ca cb)) := by
  refine (pe_or ha hb).imp fun σ H Q ⟨m, F, g, l, sm, rs, h⟩ => ?_
  rw [ev] at h
  refine ⟨m, F, g, l, sm, rs, (Res.next h).imp fun x H1 ⟨m1, F1, g1, r1, e1, gr1, sm1, rl1, h1⟩ => ?_⟩
  cases r1 with
  | fl xs => exact h1.elim
  | d d =>
    cases d with
    | bl b =>
      cases (show Rep X.K m1 F1 (.bl b) x from rl1)
      refine ⟨b, rfl, ?_⟩
      cases b with
      | false => exact ⟨m1, F1, g1, l, sm1, rs.grow gr1, Res.mono elderR gr1 h1⟩
      | true => exact Res.fin h1 gr1 sm1 (Rep.bl _)
    | _ => exact h1.elim
theorem s_ite {ct : T} (hc : PT X c (tT E X.K ct)) (ha : PE X a (tE E X.K ca)) (hb : PE X b (tE E X.K cb)) : PE X (.IfExp c a b pos) (tE E X.K (.ite ct ca cb)) := by
  refine (pe_ifExp hc ha hb).imp fun σ H Q ⟨m, F, g, l, sm, rs, h⟩ => ?_
  rw [ev] at h
  refine ⟨m, F, g, l, sm, rs, (Res.next h).imp fun x H1 ⟨m1, F1, g1, r1, e1, gr1, sm1, rl1, h1⟩ => ?_⟩
  cases (show r1 = x from rl1)
  cases x with
  | true => exact ⟨m1, F1, g1, l, sm1, rs.grow gr1, Res.mono elderR gr1 h1⟩
  | false => exact ⟨m1, F1, g1, l, sm1, rs.grow gr1, Res.mono elderR gr1 h1⟩

/-! ### argument lists -/
theorem s_nil : PA X [] (tEs E X.K .nil) := pa_nil.imp fun σ H Q ⟨m, F, g, l, sm, rs, h⟩ => by
  rw [evs] at h
  exact Res.here h sm .nil
theorem s_cons {cs : Cs} {es : List Expr} (ha : PE X a (tE E X.K ca)) (hr : PA X es (tEs E X.K cs)) (hs : starEach (a :: es) X.env = (false, eval a X.env) :: starEach es X.env) : PA X (a :: es) (tEs E X.K (.cons ca cs)) := by
  refine (pa_cons ha hr hs).imp fun σ H Q ⟨m, F, g, l, sm, rs, h⟩ => ?_
  rw [evs] at h
  refine ⟨m, F, g, l, sm, rs, (Res.next h).imp fun x H1 ⟨m1, F1, g1, r1, e1, gr1, sm1, rl1, h1⟩ => ?_⟩
  obtain ⟨F1', gr1', sm1', rp, ex⟩ := rl1.commit gr1 sm1
  refine ⟨m1, F1', g1, l, sm1', rs.grow gr1', (Res.next h1).imp fun y H2 ⟨m2, F2, g2, r2, e2, gr2, sm2, rl2, h2⟩ => ?_⟩
  exact Res.fin h2 (gr1'.trans gr2) sm2 (Reps.cons (rp.mono gr2.ex gr2.pre) rl2)
end
end Pd
/-! Pd8: the expressions of the language, form by form (2): calls, sequences, tests, walks. -/
namespace Pd
open PySem PySem.Spec PyProof.Rows L2

section
variable {E : Env} {X : Cx} {a b c e : Expr} {es : List Expr} {ca cb cc : C} {cs : Cs} {pos : Pos}
theorem rel_bound {K : PySem.W.Frag} {m : List Addr} {F : Hp} {ds : List D} {vs : List V} (h : Reps K m F ds vs) (z : isShort LIM ds = true) : vs.length ≤ sizeLine := by
  rw [← h.length]
  exact lim_line ((isShort_iff _ _).mp z)
/-! ### calls -/
theorem s_call {f : Nat} {x : Str} {p : Pos} {ad : Addr} {fd : FuncData} {ps : List Str} {k : Nat} (hg : Gl X x) (ok : okName x = true) (hm : X.mg x = some (.ref ad)) (hk : PySem.W.keepIn X.K (.ref ad) = true) (hb : Binds X.K fd ps []) (hr : Room k X.A)
    (F : FnOk X.prog X.w X.K X.mg X.base CX0 k ad fd ps (spD X.K (E.call f))) (ha : PA X es (tEs E X.K cs)) (hs : es.all noStar = true) (hne : es ≠ []) : PE X (.Call (.Name x p) es [] pos) (tE E X.K (.call f cs)) := by
  obtain ⟨o1, o2, o3⟩ := ok_name ok
  have key : ∀ σ H Q, tE E X.K (.call f cs) σ H Q → tCall (spD X.K (E.call f)) [] E0 (tEs E X.K cs) σ H Q := fun σ H Q ⟨m, F, g, l, sm, rs, h⟩ => by
    rw [ev] at h
    refine ⟨m, F, g, l, sm, rs, (Res.next h).imp fun x H1 ⟨m1, F1, g1, r1, e1, gr1, sm1, rl1, h1⟩ => ?_⟩
    show spD X.K (E.call f) (x ++ []) H1 Q E0
    rw [List.append_nil]
    exact callW_ok sm1 rl1 (Res.mono elderR gr1 h1)
  cases es with
  | nil => exact absurd rfl hne
  | cons e es =>
    rw [List.all_cons, Bool.and_eq_true] at hs
    exact (pe_call F hr hg hm hk hb .nil pass0 ha o1 (star_cons hs.1 es _) (star_any hs.2 _ _)).imp key
theorem s_call0 {f : Nat} {x : Str} {p : Pos} {ad : Addr} {fd : FuncData} {ps : List Str} {k : Nat} (hg : Gl X x) (ok : okName x = true) (hm : X.mg x = some (.ref ad)) (hk : PySem.W.keepIn X.K (.ref ad) = true) (hb : Binds X.K fd ps []) (hr : Room k X.A)
    (F : FnOk X.prog X.w X.K X.mg X.base CX0 k ad fd ps (spD X.K (E.call f))) : PE X (.Call (.Name x p) [] [] pos) (tE E X.K (.call f .nil)) := by
  obtain ⟨o1, o2, o3⟩ := ok_name ok
  refine (pe_call0 F hr hg hm hk hb .nil pass0 o1).imp fun σ H Q ⟨m, F, g, l, sm, rs, h⟩ => ?_
  rw [ev, evs] at h
  exact callW_ok sm .nil h
theorem boot_bi (b : BI) : bootBuiltins (biName b) = some (biV b) := by cases b <;> decide +kernel
theorem s_bi (hc : X.calm = true) (b : BI) {p : Pos} (hg : Gl X (biName b)) (hm : X.mg (biName b) = none) (ha : PA X (e :: es) (tEs E X.K cs)) (hs : (e :: es).all noStar = true) : PE X (.Call (.Name (biName b) p) (e :: es) [] pos) (tE E X.K (.bi b cs)) := by
  have key : ∀ σ H Q, tE E X.K (.bi b cs) σ H Q → tCB (rBi X.K b) (tEs E X.K cs) σ H Q := fun σ H Q ⟨m, F, g, l, sm, rs, h⟩ => by
    rw [ev] at h
    refine ⟨m, F, g, l, sm, rs, (Res.next h).imp fun x H1 ⟨m1, F1, g1, r1, e1, gr1, sm1, rl1, h1⟩ => ?_⟩
    obtain ⟨r, er, h2⟩ := Res.of_some h1
    exact ⟨m1, F1, g1, _, r, sm1, Reps.sees sm1 rl1, er, Res.mono elderR gr1 h2⟩
  rw [List.all_cons, Bool.and_eq_true] at hs
  have s1 := star_cons hs.1 es X.env
  have s2 := star_any hs.2 pos X.env
  have hb := boot_bi b
  have ho := op_bi (X := X) hc b
  have n1 : biName b ≠ "__name__" := by cases b <;> decide
  have n2 : ((biName b) == ("__debug__" : Str)) = false := by cases b <;> decide
  cases hv : biV b with
  | builtin id =>
    rw [hv] at hb ho
    exact (pe_callB ho hg hm hb ha n1 n2 s1 s2).imp key
  | type T =>
    rw [hv] at hb ho
    exact (pe_callTy ho hg hm hb ha n1 n2 s1 s2).imp key
  | _ => cases b <;> cases hv
theorem s_isi (t : Ty) {p p2 : Pos} (hg : Gl X "isinstance") (hm : X.mg "isinstance" = none) (hg2 : Gl X (tyN t)) (hm2 : X.mg (tyN t) = none) (ha : PE X e (tE E X.K ca)) (hs : noStar e = true) :
    PE X (.Call (.Name "isinstance" p) [e, .Name (tyN t) p2] [] pos) (tE E X.K (.isi ca t)) := by
  have n1 : tyN t ≠ "__name__" := by cases t <;> decide
  have n2 : ((tyN t) == ("__debug__" : Str)) = false := by cases t <;> decide
  have hb : bootBuiltins (tyN t) = some (.type (tyS t)) := by cases t <;> decide +kernel
  have h2 : PE X (.Name (tyN t) p2) (tC (.ty (tyS t))) := pe_bltn hg2 hm2 hb rfl n1 n2
  refine (pe_callB (op_isi t) hg hm (by decide +kernel) (pa_cons ha (pa_cons h2 pa_nil rfl) (star_cons hs _ _)) (by decide) (by decide) (star_cons hs _ _) rfl).imp fun σ H Q ⟨m, F, g, l, sm, rs, h⟩ => ?_
  rw [ev] at h
  refine ⟨m, F, g, l, sm, rs, (Res.next h).imp fun x H1 ⟨m1, F1, g1, r1, e1, gr1, sm1, rl1, h1⟩ => ?_⟩
  obtain ⟨r, er, h2⟩ := Res.of_some h1
  obtain ⟨k, ek, rfl⟩ := Option.map_eq_some_iff.mp er
  exact ⟨m1, F1, _, x, k, rfl, sm1.ex, rl1.sees sm1, ek, Res.fin h2 gr1 sm1 (Rep.bl k)⟩
theorem s_met (mt : Met) {o : Expr} {co : C} {ap : Pos} (ho : PE X o (tE E X.K co)) (ha : PE X e (tE E X.K ca)) (h1 : attrOk o = true) (h2 : ap.endLine = pos.line) (hs : noStar e = true) :
    PE X (.Call (.Attribute o (metName mt) ap) [e] [] pos) (tE E X.K (.met mt co (.cons ca .nil))) := by
  have key : ∀ σ H Q, tE E X.K (.met mt co (.cons ca .nil)) σ H Q → tM1 (rMet X.K mt) (tE E X.K co) (tE E X.K ca) σ H Q := fun σ H Q ⟨m, F, g, l, sm, rs, h⟩ => by
    rw [ev] at h
    refine ⟨m, F, g, l, sm, rs, (Res.next h).imp fun x H1 ⟨m1, F1, g1, r1, e1, gr1, sm1, rl1, h1⟩ => ?_⟩
    cases r1 with
    | fl xs => exact h1.elim
    | d d =>
      cases d with
      | str s =>
        cases (show Rep X.K m1 F1 (.str s) x from rl1) with
        | str so =>
          refine ⟨⟨_, rfl⟩, m1, F1, g1, l, sm1, rs.grow gr1, ?_⟩
          have h1 : Res X.K (RelR X.K) m F H ((evs E (.cons ca .nil) l g1).bind fun ds g => O.of (met mt s (ds.map (look g))) g) Q := h1
          rw [evs] at h1
          cases q : ev E ca l g1 with
          | no => rw [q] at h1; exact h1.elim
          | ex c g => rw [q] at h1; exact h1.elim
          | ok r2 g2 =>
            rw [q] at h1
            have h1 : Res X.K (RelR X.K) m F H (O.of (met mt s [look g2 r2.toD]) g2) Q := by
              rw [O.bind_ok] at h1
              rw [evs, O.bind_ok, O.bind_ok] at h1
              exact h1
            obtain ⟨r, er, h3⟩ := Res.of_some h1
            exact fun y m2 F2 H2 gr2 sm2 rl2 => ⟨m2, F2, g2, s, [look g2 r2.toD], r, rfl, so, sm2, ⟨rl2.sees sm2, trivial⟩, er, Res.mono elderR (gr1.trans gr2) h3⟩
      | _ => exact h1.elim
  cases mt with
  | join => exact (pe_m1 F.slot_str_join F.type_str_join (op_met .join) ho ha (by rw [star_cons hs]; rfl) (attr_base h1 _ _ _) (by rw [h2]; exact beq_self_eq_true _)).imp key
  | split => exact (pe_m1 F.slot_str_split F.type_str_split (op_met .split) ho ha (by rw [star_cons hs]; rfl) (attr_base h1 _ _ _) (by rw [h2]; exact beq_self_eq_true _)).imp key
  | partition => exact (pe_m1 F.slot_str_partition F.type_str_partition (op_met .partition) ho ha (by rw [star_cons hs]; rfl) (attr_base h1 _ _ _) (by rw [h2]; exact beq_self_eq_true _)).imp key

/-! ### parts of sequences -/
theorem ix_int {x i e : D} (h : ixop x i = some e) : ∃ j, i = .int j := by
  unfold ixop at h
  split at h <;> first
    | exact ⟨_, rfl⟩
    | cases h
theorem toD_int {r : R} {j : Int} (h : r.toD = .int j) : r = .d (.int j) := by
  cases r with
  | d x => cases (show x = .int j from h); rfl
  | fl xs => cases h
theorem rel_int {K : PySem.W.Frag} {B : Hp} {m : List Addr} {F H : Hp} {r : R} {v : V} {j : Int} (h : RelR K B m F H r v) (e : r.toD = .int j) : v = .int j := by
  have e := toD_int e
  subst e
  cases (show Rep K m F (.int j) v from h)
  rfl
theorem s_ix (ha : PE X a (tE E X.K ca)) (hb : PE X b (tE E X.K cb)) (hp : plainIx b = true) : PE X (.Subscript a b pos) (tE E X.K (.ix ca cb)) := by
  refine (pe_ix op_ix ha hb (plain_ix hp)).imp fun σ H Q ⟨m, F, g, l, sm, rs, h⟩ => ?_
  rw [ev] at h
  refine ⟨m, F, g, l, sm, rs, (Res.next h).imp fun x H1 ⟨m1, F1, g1, r1, e1, gr1, sm1, rl1, h1⟩ => ?_⟩
  refine ⟨m1, F1, g1, l, sm1, rs.grow gr1, (Res.next h1).imp fun y H2 ⟨m2, F2, g2, r2, e2, gr2, sm2, rl2, h2⟩ => ?_⟩
  obtain ⟨r, er, h3⟩ := Res.of_some h2
  obtain ⟨d, ed, rfl⟩ := Option.map_eq_some_iff.mp er
  obtain ⟨j, ej⟩ := ix_int ed
  rw [ej] at ed
  exact ⟨m2, F2, g2, _, j, d, sm2, (rl1.grow gr2).sees sm2, rel_int rl2 ej, ed, Res.mono elderR (gr1.trans gr2) h3⟩
theorem s_po0 : PO X none (tO E X.K .non) := po_none.imp fun σ H Q ⟨m, F, g, l, sm, rs, h⟩ => by
  rw [evo] at h
  exact Res.here h sm rfl
theorem s_po1 (ha : PE X a (tE E X.K ca)) : PO X (some a) (tO E X.K (.some ca)) := (po_some ha).imp fun σ H Q ⟨m, F, g, l, sm, rs, h⟩ => by
  rw [evo] at h
  refine ⟨m, F, g, l, sm, rs, (Res.next h).imp fun x H1 ⟨m1, F1, g1, r1, e1, gr1, sm1, rl1, h1⟩ => ?_⟩
  cases r1 with
  | fl xs => exact h1.elim
  | d d =>
    cases d with
    | int i => cases (show Rep X.K m1 F1 (.int i) x from rl1); exact ⟨i, rfl, Res.fin h1 gr1 sm1 rfl⟩
    | _ => exact h1.elim
theorem s_sl {lo hi : Option Expr} {cl ch : Co} {p : Pos} (ha : PE X a (tE E X.K ca)) (hl : PO X lo (tO E X.K cl)) (hh : PO X hi (tO E X.K ch)) : PE X (.Subscript a (.Slice lo hi none p) pos) (tE E X.K (.sl ca cl ch)) := by
  refine (pe_slice op_sl ha hl hh).imp fun σ H Q ⟨m, F, g, l, sm, rs, h⟩ => ?_
  rw [ev] at h
  refine ⟨m, F, g, l, sm, rs, (Res.next h).imp fun x H1 ⟨m1, F1, g1, r1, e1, gr1, sm1, rl1, h1⟩ => ?_⟩
  refine ⟨m1, F1, g1, l, sm1, rs.grow gr1, (Res.next h1).imp fun y H2 ⟨m2, F2, g2, r2, e2, gr2, sm2, rl2, h2⟩ => ?_⟩
  refine ⟨m2, F2, g2, l, sm2, (rs.grow gr1).grow gr2, (Res.next h2).imp fun z H3 ⟨m3, F3, g3, r3, e3, gr3, sm3, rl3, h3⟩ => ?_⟩
  cases (show r2 = y from rl2)
  cases (show r3 = z from rl3)
  obtain ⟨r, er, h4⟩ := Res.of_some h3
  exact ⟨m3, F3, g3, _, r, sm3, ((rl1.grow gr2).grow gr3).sees sm3, er, Res.mono elderR ((gr1.trans gr2).trans gr3) h4⟩
theorem s_rev {k : Nat} {p1 p2 p3 : Pos} (ha : PE X a (tE E X.K ca)) : PE X (.Subscript a (.Slice none none (some (.UnaryOp .USub (.Constant (.int 1) k p1) p2)) p3) pos) (tE E X.K (.rev ca)) := by
  refine (pe_revL ha).imp fun σ H Q ⟨m, F, g, l, sm, rs, h⟩ => ?_
  rw [ev] at h
  refine ⟨m, F, g, l, sm, rs, (Res.next h).imp fun x H1 ⟨m1, F1, g1, r1, e1, gr1, sm1, rl1, h1⟩ => ?_⟩
  have se := rl1.sees sm1
  generalize look g1 r1.toD = d at h1 se
  cases d with
  | lst xs =>
    obtain ⟨p, vs, rfl, q1, q2⟩ := se.lst
    exact ⟨p, vs, rfl, .inl (.inl q1), done_fl (Res.mono elderR gr1 h1) sm1 q2.reverse⟩
  | _ => exact h1.elim
theorem s_lst (ha : PA X es (tEs E X.K cs)) : PE X (.List es pos) (tE E X.K (.lst cs)) := by
  refine (pe_lst ha).imp fun σ H Q ⟨m, F, g, l, sm, rs, h⟩ => ?_
  rw [ev] at h
  refine ⟨m, F, g, l, sm, rs, (Res.next h).imp fun x H1 ⟨m1, F1, g1, r1, e1, gr1, sm1, rl1, h1⟩ => ?_⟩
  by_cases z : isShort LIM r1 = true
  · rw [if_pos z] at h1
    exact ⟨rel_bound rl1 z, done_fl (Res.mono elderR gr1 h1) sm1 rl1⟩
  · rw [if_neg z] at h1; exact h1.elim
theorem s_tup {k : Nat} (ha : PA X es (tEs E X.K cs)) : PE X (.Tuple es k pos) (tE E X.K (.tup cs)) := by
  refine (pe_tup ha).imp fun σ H Q ⟨m, F, g, l, sm, rs, h⟩ => ?_
  rw [ev] at h
  refine ⟨m, F, g, l, sm, rs, (Res.next h).imp fun x H1 ⟨m1, F1, g1, r1, e1, gr1, sm1, rl1, h1⟩ => ?_⟩
  by_cases z : isShort LIM r1 = true
  · rw [if_pos z] at h1
    exact ⟨rel_bound rl1 z, done_tup (Res.mono elderR gr1 h1) sm1 rl1⟩
  · rw [if_neg z] at h1; exact h1.elim
theorem s_fmt (ha : PE X a (tE E X.K ca)) : PE X (.FormattedValue a (-1) none pos) (tE E X.K (.fmt ca)) := by
  refine (pe_fmt ha).imp fun σ H Q ⟨m, F, g, l, sm, rs, h⟩ => ?_
  rw [ev] at h
  refine ⟨m, F, g, l, sm, rs, (Res.next h).imp fun x H1 ⟨m1, F1, g1, r1, e1, gr1, sm1, rl1, h1⟩ => ?_⟩
  obtain ⟨r, er, h2⟩ := Res.of_some h1
  obtain ⟨s, es, rfl⟩ := Option.map_eq_some_iff.mp er
  cases r1 with
  | fl xs => cases es
  | d d =>
    cases d with
    | str t =>
      cases es
      cases (show Rep X.K m1 F1 (.str s) x from rl1) with
      | str so => exact .inl ⟨_, rfl, by rw [str_len]; exact lim_line so.1, Res.fin h2 gr1 sm1 (Rep.str so)⟩
    | int i =>
      have es : (if i.natAbs < 1000000000000000000000 then some (intL i) else none) = some s := es
      by_cases z : i.natAbs < 1000000000000000000000
      · rw [if_pos z] at es
        cases es
        cases (show Rep X.K m1 F1 (.int i) x from rl1)
        refine .inr ⟨i, rfl, log_int z, ?_⟩
        have e : (V.str (toString i)) = sV (intL i) := congrArg V.str (str_int i)
        rw [e]
        exact Res.fin h2 gr1 sm1 (Rep.str (sok_int z))
      · rw [if_neg z] at es; cases es
    | _ => cases es
end
end Pd
/-! Pd9: the expressions of the language, form by form (3): f-strings, new things, tests, walks, comprehensions. -/
namespace Pd
open PySem PySem.Spec PyProof.Rows L2

section
variable {E : Env} {X : Cx} {a b c e : Expr} {es : List Expr} {ca cb cc : C} {cs : Cs} {pos : Pos}
def csT (E : Env) (K : PySem.W.Frag) : Cs → List TE
  | .nil => []
  | .cons c r => tE E K c :: csT E K r
theorem flat_lt {l : List (List Nat)} {c : Nat} : c ∈ l.flatten → ∃ s ∈ l, c ∈ s := fun h => by
  obtain ⟨s, h1, h2⟩ := List.mem_flatten.mp h
  exact ⟨s, h1, h2⟩
theorem js_ok {K : PySem.W.Frag} {Q : VK} {l : Lo} : ∀ (cs : Cs) (acc : List Nat) (σ : L2.St) (H : Hp) (m : List Addr) (F : Hp) (g : G), (∀ c ∈ acc, c < 128) → Sim K m F g H → RepS K m F l σ →
    Res K (RelR K) m F H ((evs E cs l g).bind fun ds g => O.of ((dStrs ds).bind fun ss => if isShort LIM (acc ++ ss.flatten) then some (.d (.str (acc ++ ss.flatten))) else none) g) Q →
    tJs (csT E K cs) ⟨acc.toArray⟩ σ H (fun out H1 => Q (.str out) H1)
  | .nil, acc, σ, H, m, F, g, ha, sm, rs, h => by
    rw [evs] at h
    have h : Res K (RelR K) m F H (O.of (if isShort LIM (acc ++ []) = true then some (.d (.str (acc ++ []))) else none) g) Q := h
    rw [List.append_nil] at h
    by_cases z : isShort LIM acc = true
    · rw [if_pos z] at h
      exact Res.here h sm (.str ⟨(isShort_iff _ _).mp z, ha⟩)
    · rw [if_neg z] at h; exact h.elim
  | .cons c cs, acc, σ, H, m, F, g, ha, sm, rs, h => by
    rw [evs] at h
    cases q : ev E c l g with
    | no => rw [q] at h; exact h.elim
    | ex k g => rw [q] at h; exact h.elim
    | ok r1 g1 =>
      rw [q, O.bind_ok] at h
      refine ⟨m, F, g, l, sm, rs, ?_⟩
      rw [q]
      intro x m1 F1 H1 gr1 sm1 rl1
      cases q2 : evs E cs l g1 with
      | no => rw [q2] at h; exact h.elim
      | ex k g => rw [q2] at h; exact h.elim
      | ok ds g2 =>
        rw [q2, O.bind_ok, O.bind_ok] at h
        obtain ⟨r, er, h2⟩ := Res.of_some h
        obtain ⟨ss, es, er⟩ := Option.bind_eq_some_iff.mp er
        cases r1 with
        | fl xs => cases es
        | d d =>
          cases d with
          | str s =>
            obtain ⟨ss, e3, rfl⟩ := Option.map_eq_some_iff.mp (show (dStrs ds).map (s :: ·) = some _ from es)
            cases (show Rep K m1 F1 (.str s) x from rl1) with
            | str so =>
              have ea : acc ++ (s :: ss).flatten = (acc ++ s) ++ ss.flatten := by rw [List.flatten_cons, List.append_assoc]
              rw [ea] at er
              by_cases z : isShort LIM ((acc ++ s) ++ ss.flatten) = true
              · have zl := (isShort_iff _ _).mp z
                refine ⟨_, rfl, ?_, ?_⟩
                · rw [str_app, str_len]
                  rw [List.length_append] at zl
                  exact lim_line (by omega)
                · rw [str_app]
                  refine js_ok cs (acc ++ s) σ H1 m1 F1 g1 (fun k hk => (List.mem_append.mp hk).elim (ha k) (so.2 k)) sm1 (rs.grow gr1) ?_
                  rw [q2, O.bind_ok, e3]
                  show Res K (RelR K) m1 F1 H1 (O.of (if isShort LIM ((acc ++ s) ++ ss.flatten) = true then some (.d (.str ((acc ++ s) ++ ss.flatten))) else none) g2) Q
                  rw [er]
                  exact Res.mono elderR gr1 h2
              · rw [if_neg z] at er; cases er
          | _ => cases es
theorem s_fstr (h : PJ X (a :: b :: es) (csT E X.K cs)) : PE X (.JoinedStr (a :: b :: es) pos) (tE E X.K (.fstr cs)) := by
  refine (pe_joined h).imp fun σ H Q ⟨m, F, g, l, sm, rs, h⟩ => ?_
  rw [ev] at h
  exact js_ok (l := l) cs [] σ H m F g (by simp) sm rs h

/-! ### a new thing -/
theorem Sim.newObj {K : PySem.W.Frag} {m : List Addr} {F H H0 : Hp} {g : G} {p : Addr} {vs : List V} {xs : List D} (s : Sim K m F g H) (hF : F p = none) (hm : p ∉ m) (h : H p = some (.lst vs)) (r : Reps K m F xs vs) : Sim K (m ++ [p]) F (g ++ [.lst xs]) H := by
  have pr : Pre m (m ++ [p]) := fun i a e => by
    have hi : i < m.length := (List.getElem?_eq_some_iff.mp e).1
    rw [List.getElem?_append_left hi]; exact e
  have at_ : ∀ i a, (m ++ [p])[i]? = some a → (m[i]? = some a) ∨ (i = m.length ∧ a = p) := fun i a e => by
    by_cases hi : i < m.length
    · rw [List.getElem?_append_left hi] at e; exact .inl e
    · rw [List.getElem?_append_right (Nat.le_of_not_lt hi)] at e
      have hz : i - m.length = 0 := by
        by_cases z : i - m.length = 0
        · exact z
        · rw [List.getElem?_eq_none (by simp; omega)] at e; cases e
      rw [hz] at e
      exact .inr ⟨by omega, by simpa using e.symm⟩
  refine ⟨s.ex, by rw [List.length_append, List.length_append, s.len]; rfl, fun i j a e1 e2 => ?_, fun i a e => ?_, fun i a e => ?_, fun i ys e => ?_⟩
  · rcases at_ i a e1 with q1 | ⟨q1, z1⟩ <;> rcases at_ j a e2 with q2 | ⟨q2, z2⟩
    · exact s.inj i j a q1 q2
    · subst z2; exact absurd (List.mem_of_getElem? q1) hm
    · subst z1; exact absurd (List.mem_of_getElem? q2) hm
    · omega
  · rcases at_ i a e with q | ⟨_, q⟩
    · exact s.apart i a q
    · rw [q]; exact hF
  · rcases at_ i a e with q | ⟨_, q⟩
    · exact s.there i a q
    · rw [q, h]; simp
  · by_cases hi : i < g.length
    · rw [List.getElem?_append_left hi] at e
      obtain ⟨a, us, q1, q2, q3⟩ := s.lst i ys e
      exact ⟨a, us, pr i a q1, q2, q3.mono (Ex.refl F) pr⟩
    · rw [List.getElem?_append_right (Nat.le_of_not_lt hi)] at e
      have hz : i - g.length = 0 := by
        by_cases z : i - g.length = 0
        · exact z
        · rw [List.getElem?_eq_none (by simp; omega)] at e; cases e
      rw [hz] at e
      have e : xs = ys := by simpa using e
      subst e
      have hi2 : i = m.length := by rw [s.len]; omega
      subst hi2
      exact ⟨p, vs, by simp, h, r.mono (Ex.refl F) pr⟩
theorem s_new (ha : PE X a (tE E X.K ca)) : PE X a (tE E X.K (.new ca)) := by
  refine ha.imp fun σ H Q ⟨m, F, g, l, sm, rs, h⟩ => ?_
  rw [ev] at h
  refine ⟨m, F, g, l, sm, rs, (Res.next h).imp fun x H1 ⟨m1, F1, g1, r1, e1, gr1, sm1, rl1, h1⟩ => ?_⟩
  cases r1 with
  | d d => exact h1.elim
  | fl xs =>
    obtain ⟨p, vs, rfl, q1, q2, q3, q4, q5⟩ := rl1
    have h1 : Res X.K (RelR X.K) m F H (.ok (.d (.obj g1.length)) (g1 ++ [.lst xs])) Q := h1
    refine Res.fin h1 ⟨gr1.ex, gr1.pre.trans fun i a e => ?_, gr1.keep, gr1.apart, fun a ha => ?_, gr1.there⟩ (sm1.newObj (H0 := H) q2 q3 q4 q5) (Rep.obj ?_)
    · have hi : i < m1.length := (List.getElem?_eq_some_iff.mp e).1
      rw [List.getElem?_append_left hi]; exact e
    · rcases List.mem_append.mp ha with ha | ha
      · exact gr1.fresh a ha
      · rw [List.mem_singleton.mp ha]; exact .inr q1
    · rw [← sm1.len]; simp

/-! ### tests -/
theorem s_tval (ha : PE X a (tE E X.K ca)) (hp : plainTest a = true) : PT X a (tT E X.K (.val ca)) := by
  refine (pt_truth ha (plain_test hp _)).imp fun σ H Q ⟨m, F, g, l, sm, rs, h⟩ => ?_
  rw [evT] at h
  refine ⟨m, F, g, l, sm, rs, (Res.next h).imp fun x H1 ⟨m1, F1, g1, r1, e1, gr1, sm1, rl1, h1⟩ => ?_⟩
  obtain ⟨k, ek, h2⟩ := Res.of_some h1
  exact ⟨k, sees_truth (rl1.sees sm1) ek, Res.fin h2 gr1 sm1 rfl⟩
theorem s_tnot {t : T} (ha : PT X a (tT E X.K t)) : PT X (.UnaryOp .Not a pos) (tT E X.K (.not t)) := by
  refine (pt_not ha).imp fun σ H Q ⟨m, F, g, l, sm, rs, h⟩ => ?_
  rw [evT] at h
  refine ⟨m, F, g, l, sm, rs, (Res.next h).imp fun x H1 ⟨m1, F1, g1, r1, e1, gr1, sm1, rl1, h1⟩ => ?_⟩
  cases (show r1 = x from rl1)
  exact Res.fin h1 gr1 sm1 rfl
theorem _root_.L2.PW.imp {X : Cx} {e : Expr} {t u : TT} (h : PW X e t) (k : ∀ σ H Q, u σ H Q → t σ H Q) : PW X e u := ⟨fun wh pins s σ H Q I q => h.run wh pins s σ H Q I (k σ H Q q)⟩
theorem s_one {t : T} (ha : PT X a (tT E X.K t)) : PW X (.BoolOp .And [a] pos) (tTs E X.K true (.one t)) ∧ PW X (.BoolOp .Or [a] pos) (tTs E X.K false (.one t)) := by
  refine ⟨(pw_and1 ha).imp fun σ H Q ⟨m, F, g, l, sm, rs, h⟩ => ⟨m, F, g, l, sm, rs, ?_⟩, (pw_or1 ha).imp fun σ H Q ⟨m, F, g, l, sm, rs, h⟩ => ⟨m, F, g, l, sm, rs, ?_⟩⟩
  · have h : Res X.K RelE m F H (evA E (.one t) l g) Q := h
    rw [evA] at h; exact h
  · have h : Res X.K RelE m F H (evR E (.one t) l g) Q := h
    rw [evR] at h; exact h
theorem s_more {t : T} {ts : Ts} (ha : PT X a (tT E X.K t)) (hb : PW X (.BoolOp .And (b :: es) pos) (tTs E X.K true ts) ∧ PW X (.BoolOp .Or (b :: es) pos) (tTs E X.K false ts)) :
    PW X (.BoolOp .And (a :: b :: es) pos) (tTs E X.K true (.cons t ts)) ∧ PW X (.BoolOp .Or (a :: b :: es) pos) (tTs E X.K false (.cons t ts)) := by
  refine ⟨(pw_and ha hb.1).imp fun σ H Q ⟨m, F, g, l, sm, rs, h⟩ => ?_, (pw_or ha hb.2).imp fun σ H Q ⟨m, F, g, l, sm, rs, h⟩ => ?_⟩
  · have h : Res X.K RelE m F H (evA E (.cons t ts) l g) Q := h
    rw [evA] at h
    refine ⟨m, F, g, l, sm, rs, (Res.next h).imp fun x H1 ⟨m1, F1, g1, r1, e1, gr1, sm1, rl1, h1⟩ => ?_⟩
    cases (show r1 = x from rl1)
    cases x with
    | true => exact ⟨m1, F1, g1, l, sm1, rs.grow gr1, Res.mono elderE gr1 h1⟩
    | false => exact Res.fin h1 gr1 sm1 rfl
  · have h : Res X.K RelE m F H (evR E (.cons t ts) l g) Q := h
    rw [evR] at h
    refine ⟨m, F, g, l, sm, rs, (Res.next h).imp fun x H1 ⟨m1, F1, g1, r1, e1, gr1, sm1, rl1, h1⟩ => ?_⟩
    cases (show r1 = x from rl1)
    cases x with
    | false => exact ⟨m1, F1, g1, l, sm1, rs.grow gr1, Res.mono elderE gr1 h1⟩
    | true => exact Res.fin h1 gr1 sm1 rfl
theorem s_tand {ts : Ts} (h : PW X (.BoolOp .And es pos) (tTs E X.K true ts)) : PT X (.BoolOp .And es pos) (tT E X.K (.and ts)) := h.pt.imp fun σ H Q ⟨m, F, g, l, sm, rs, h⟩ => ⟨m, F, g, l, sm, rs, by rw [evT] at h; exact h⟩
theorem s_tor {ts : Ts} (h : PW X (.BoolOp .Or es pos) (tTs E X.K false ts)) : PT X (.BoolOp .Or es pos) (tT E X.K (.or ts)) := h.pt.imp fun σ H Q ⟨m, F, g, l, sm, rs, h⟩ => ⟨m, F, g, l, sm, rs, by rw [evT] at h; exact h⟩
theorem s_to0 : PTs X [] (tTo E X.K .non) := pts_nil.imp fun σ H Q ⟨m, F, g, l, sm, rs, h⟩ => by
  rw [evO] at h
  exact Res.here h sm rfl
theorem s_to1 {t : T} (ha : PT X a (tT E X.K t)) : PTs X [a] (tTo E X.K (.some t)) := (pts_one ha).imp fun σ H Q ⟨m, F, g, l, sm, rs, h⟩ => ⟨m, F, g, l, sm, rs, by rw [evO] at h; exact h⟩

/-! ### walks -/
theorem s_seq {tg : Expr} (ha : PE X a (tE E X.K ca)) : PI X tg a (tI E X.K (.seq ca)) := by
  refine ((pi_list ha).or ((pi_tup ha).or (pi_str ha))).imp fun σ H R ⟨m, F, g, l, sm, rs, h⟩ => ?_
  rw [evI] at h
  cases q : ev E ca l g with
  | no => rw [q] at h; exact h.elim
  | ex k g => rw [q] at h; exact h.elim
  | ok r1 g1 =>
    rw [q, O.bind_ok] at h
    obtain ⟨w, ew, h2⟩ := Res.of_some h
    obtain ⟨xs, ex, rfl⟩ := Option.map_eq_some_iff.mp ew
    cases q2 : look g1 r1.toD with
    | lst ys =>
      rw [q2] at ex
      cases ex
      refine .inl ⟨m, F, g, l, sm, rs, ?_⟩
      rw [q]
      intro x m1 F1 H1 gr1 sm1 rl1
      obtain ⟨F2, gr2, sm2, rp, ex⟩ := rl1.commit gr1 sm1
      obtain ⟨p, rfl, ⟨vs, hv⟩, st⟩ := list_stands rp sm2 q2
      exact ⟨p, rfl, ⟨vs, .inl (.inl hv)⟩, Res.fin h2 gr2 sm2 (walk_of_list (vs := vs) st)⟩
    | tup ys =>
      rw [q2] at ex
      cases ex
      refine .inr (.inl ⟨m, F, g, l, sm, rs, ?_⟩)
      rw [q]
      intro x m1 F1 H1 gr1 sm1 rl1
      have se := rl1.sees sm1
      rw [q2] at se
      obtain ⟨p, vs, rfl, h3, h4⟩ := se
      exact ⟨p, rfl, ⟨vs, sm1.ex.t h3⟩, Res.fin h2 gr1 sm1 (walk_of_tup h3 h4)⟩
    | str s =>
      rw [q2] at ex
      cases ex
      refine .inr (.inr ⟨m, F, g, l, sm, rs, ?_⟩)
      rw [q]
      intro x m1 F1 H1 gr1 sm1 rl1
      have se := rl1.sees sm1
      rw [q2] at se
      obtain ⟨rfl, so⟩ := se.str
      exact ⟨_, rfl, Res.fin h2 gr1 sm1 (walk_of_str so)⟩
    | _ => rw [q2] at ex; cases ex
theorem small_of {i : Int} (h : small i = true) : -1000000 ≤ i ∧ i ≤ 1000000 := by simpa [small] using h
theorem s_range1 {tg : Expr} {p : Pos} (hg : Gl X "range") (hm : X.mg "range" = none) (ha : PE X a (tE E X.K ca)) (hs : noStar a = true) : PI X tg (.Call (.Name "range" p) [a] [] pos) (tI E X.K (.range1 ca)) := by
  refine (pi_range1 hg hm (pa_cons ha pa_nil (star_cons hs _ _)) (by rw [star_cons hs]; rfl)).imp fun σ H R ⟨m, F, g, l, sm, rs, h⟩ => ?_
  rw [evI] at h
  refine ⟨m, F, g, l, sm, rs, (Res.next h).imp fun x H1 ⟨m1, F1, g1, r1, e1, gr1, sm1, rl1, h1⟩ => ?_⟩
  cases r1 with
  | fl xs => exact h1.elim
  | d d =>
    cases d with
    | int i =>
      cases (show Rep X.K m1 F1 (.int i) x from rl1)
      have h1 : Res X.K (RelW X.K) m F H (if small i = true then .ok ⟨.non, [], rangeD 0 i.toNat⟩ g1 else .no) R := h1
      by_cases z : small i = true
      · rw [if_pos z] at h1
        have := small_of z
        exact ⟨i, rfl, by omega, by omega, Res.fin h1 gr1 sm1 walk_of_range⟩
      · rw [if_neg z] at h1; exact h1.elim
    | _ => exact h1.elim
theorem s_range2 {tg : Expr} {p : Pos} (hg : Gl X "range") (hm : X.mg "range" = none) (ha : PE X a (tE E X.K ca)) (hb : PE X b (tE E X.K cb)) (hs : noStar a = true) (hs2 : noStar b = true) : PI X tg (.Call (.Name "range" p) [a, b] [] pos) (tI E X.K (.range2 ca cb)) := by
  have e2 : starEach [b] X.env = [(false, eval b X.env)] := by rw [star_cons hs2]; rfl
  refine (pi_range2 hg hm (pa_cons ha (pa_cons hb pa_nil (star_cons hs2 _ _)) (star_cons hs _ _)) (by rw [star_cons hs, e2]) e2).imp fun σ H R ⟨m, F, g, l, sm, rs, h⟩ => ?_
  rw [evI] at h
  refine ⟨m, F, g, l, sm, rs, (Res.next h).imp fun x H1 ⟨m1, F1, g1, r1, e1, gr1, sm1, rl1, h1⟩ => ?_⟩
  refine ⟨m1, F1, g1, l, sm1, rs.grow gr1, (Res.next h1).imp fun y H2 ⟨m2, F2, g2, r2, e2, gr2, sm2, rl2, h2⟩ => ?_⟩
  cases r1 with
  | fl xs => exact h2.elim
  | d d =>
    cases d with
    | int i =>
      cases r2 with
      | fl xs => exact h2.elim
      | d d =>
        cases d with
        | int j =>
          cases (show Rep X.K m1 F1 (.int i) x from rl1)
          cases (show Rep X.K m2 F2 (.int j) y from rl2)
          have h2 : Res X.K (RelW X.K) m F H (if (small i && small j) = true then .ok ⟨.non, [], rangeD i (j - i).toNat⟩ g2 else .no) R := h2
          by_cases z : (small i && small j) = true
          · rw [if_pos z] at h2
            rw [Bool.and_eq_true] at z
            have := small_of z.1
            have := small_of z.2
            exact ⟨i, j, rfl, ⟨by omega, by omega, by omega, by omega⟩, Res.fin h2 (gr1.trans gr2) sm2 walk_of_range⟩
          · rw [if_neg z] at h2; exact h2.elim
        | _ => exact h2.elim
    | _ => exact h2.elim
theorem s_enum {elts : List Expr} {kk : Nat} {p tpos : Pos} (hg : Gl X "enumerate") (hm : X.mg "enumerate" = none) (ha : PE X a (tE E X.K ca)) (hs : noStar a = true) : PI X (.Tuple elts kk tpos) (.Call (.Name "enumerate" p) [a] [] pos) (tI E X.K (.enum ca)) := by
  have e1 : starEach [a] X.env = [(false, eval a X.env)] := by rw [star_cons hs]; rfl
  have pa : PA X [a] _ := pa_cons ha pa_nil (star_cons hs _ _)
  refine ((pi_enum hg hm pa e1).or (pi_enumS hg hm pa e1)).imp fun σ H R ⟨m, F, g, l, sm, rs, h⟩ => ?_
  rw [evI] at h
  cases q : ev E ca l g with
  | no => rw [q] at h; exact h.elim
  | ex k g => rw [q] at h; exact h.elim
  | ok r1 g1 =>
    rw [q, O.bind_ok] at h
    obtain ⟨w, ew, h2⟩ := Res.of_some h
    obtain ⟨xs, ex, rfl⟩ := Option.map_eq_some_iff.mp ew
    cases q2 : look g1 r1.toD with
    | lst ys =>
      rw [q2] at ex
      cases ex
      refine .inl ⟨m, F, g, l, sm, rs, ?_⟩
      rw [q]
      intro x m1 F1 H1 gr1 sm1 rl1
      obtain ⟨F2, gr2, sm2, rp, ex⟩ := rl1.commit gr1 sm1
      obtain ⟨p, rfl, ⟨vs, hv⟩, st⟩ := list_stands rp sm2 q2
      exact ⟨p, vs, rfl, .inl (.inl hv), Res.fin h2 gr2 sm2 (walk_of_enum st)⟩
    | str s =>
      rw [q2] at ex
      cases ex
      refine .inr ⟨m, F, g, l, sm, rs, ?_⟩
      rw [q]
      intro x m1 F1 H1 gr1 sm1 rl1
      have se := rl1.sees sm1
      rw [q2] at se
      obtain ⟨rfl, so⟩ := se.str
      refine ⟨_, rfl, ?_, Res.fin h2 gr1 sm1 (walk_of_enumS so)⟩
      show s.toArray.all (fun c => decide (c < 128)) = true
      rw [List.all_toArray, List.all_eq_true]
      exact fun k hk => decide_eq_true (so.2 k hk)
    | _ => rw [q2] at ex; cases ex
end
end Pd
/-! Pd10: list comprehensions; what the checker takes is so: expressions. -/
namespace Pd
open PySem PySem.Spec PyProof.Rows L2

theorem O.bind_assoc {α β γ : Type} (o : O α) (f : α → G → O β) (k : β → G → O γ) : (o.bind f).bind k = o.bind fun a g => (f a g).bind k := by cases o <;> rfl
section
variable {K : PySem.W.Frag} {m m1 : List Addr} {F F1 H H1 : Hp} {g : G}
theorem Sim.mut {p : Addr} {o : HO} (s : Sim K m F g H) (hF : F p = none) (hm : p ∉ m) : Sim K m F g (upd H p o) where
  ex := fun a u e => by
    rw [upd_ne (show a ≠ p from fun z => by rw [z, hF] at e; cases e)]
    exact s.ex a u e
  len := s.len
  inj := s.inj
  apart := s.apart
  there := fun i a e => by
    rw [upd_ne (show a ≠ p from fun z => hm (z ▸ List.mem_of_getElem? e))]
    exact s.there i a e
  lst := fun i xs e => by
    obtain ⟨a, vs, h1, h2, h3⟩ := s.lst i xs e
    exact ⟨a, vs, h1, by rw [upd_ne (show a ≠ p from fun z => hm (z ▸ List.mem_of_getElem? h1))]; exact h2, h3⟩
theorem Grow.mut {p : Addr} {o : HO} (gr : Grow m F H m1 F1 H1) (hH : H p = none ∨ p ∈ m) : Grow m F H m1 F1 (upd H1 p o) where
  ex := gr.ex
  pre := gr.pre
  keep := fun a u e n => by
    rw [upd_ne (show a ≠ p from fun z => by
      subst z
      rcases hH with q | q
      · rw [q] at e; cases e
      · exact n q)]
    exact gr.keep a u e n
  apart := gr.apart
  fresh := gr.fresh
  there := fun a e => by
    by_cases z : a = p
    · subst z; rw [upd_same]; simp
    · rw [upd_ne z]; exact gr.there a e
theorem wipe_wipe (σ : L2.St) (vs : List Nat) : wipe (wipe σ vs) vs = wipe σ vs := by
  apply List.ext_getElem?
  intro i
  by_cases h : i ∈ vs
  · by_cases hi : i < σ.length
    · have q : ∀ τ : L2.St, τ.length = σ.length → (wipe τ vs)[i]? = some none := fun τ hτ => by
        have hl : (wipe τ vs).length = σ.length := by rw [wipe_length, hτ]
        cases z : (wipe τ vs)[i]? with
        | none => rw [List.getElem?_eq_none_iff] at z; omega
        | some o =>
          cases o with
          | none => rfl
          | some x => exact absurd h (wipe_some z).2
      rw [q _ (wipe_length _ _), q _ rfl]
    · rw [List.getElem?_eq_none (by rw [wipe_length, wipe_length]; omega), List.getElem?_eq_none (by rw [wipe_length]; omega)]
  · rw [wipe_out h]
end
section
variable {E : Env} {X : Cx}
def lcF (E : Env) (tg : Tg) (c : To) (elt : C) (l : Lo) : D → G → O (Option D) := fun x g => (O.of (assign tg x l) g).bind fun l' g => (evO E c l' g).bind fun b g => if b then (ev E elt l' g).bind fun y g => .ok (some y.toD) g else .ok none g
theorem s_lc {elt tg iter : Expr} {ifs : List Expr} {scope : Scope} {own : List (Str × Nat)} {pos : Pos} {ci : It} {ct : Tg} {co : To} {ce : C} {vs : List Nat}
    (ho : own.map (·.2) = vs) (ht : tgIn vs ct = true) : ∀ σ H Q, tE E X.K (.lc ci ct co ce vs) σ H Q → tLc (tI E X.K ci) (gT X.K ct) (tTo E X.K co) (tE E X.K ce) (own.map (·.2)) σ H Q := by
  subst ho
  intro σ H Q ⟨m, F, g, l, sm, rs, h⟩
  rw [ev] at h
  refine ⟨m, F, g, l, sm, rs, (Res.next h).imp fun J H1 ⟨m1, F1, g1, w, e1, gr1, sm1, rl1, h1⟩ => ?_⟩
  intro D hD
  have hz : isShort LIM w.its = true := by
    cases hz : isShort LIM w.its with
    | true => rfl
    | false => rw [hz] at h1; exact h1.elim
  rw [if_pos hz] at h1
  have hlen := (isShort_iff _ _).mp hz
  have h1 : Res X.K (RelR X.K) m F H (lcLoop (lcF E ct co ce (wipeL l (own.map (·.2)))) (stands w.it w.raw) [] w.its g1) Q := h1
  have hHD : H D = none := by
    cases z : H D with
    | none => rfl
    | some o => exact absurd hD (gr1.there D (by rw [z]; simp))
  have rl1 : JOk X.K m1 F1 w J := rl1
  refine ⟨fun i n H' => n = w.its.length - i ∧ i ≤ w.its.length ∧ ∃ mm FF gg acc us, Sim X.K mm FF gg H' ∧ Grow m F H mm FF H' ∧ Ex F1 FF ∧ Pre m1 mm ∧ H' D = some (.lst us) ∧ FF D = none ∧ D ∉ mm ∧ Reps X.K mm FF acc us ∧ acc.length ≤ i ∧
    Res X.K (RelR X.K) m F H (lcLoop (lcF E ct co ce (wipeL l (own.map (·.2)))) (stands w.it w.raw) acc (w.its.drop i) gg) Q,
    ⟨w.its.length, by simp, Nat.zero_le _, m1, F1, g1, [], [], sm1.new hD, gr1.trans (Grow.new hD), Ex.refl _, Pre.refl _, upd_same, sm1.ex.none hD, sm1.ne hD, .nil, Nat.le_refl _, by rw [List.drop_zero]; exact h1⟩, ?_⟩
  rintro i n H2 ⟨rfl, hi, mm, FF, gg, acc, us, s2, gr2, ex2, pr2, hD2, hF2, hm2, ra, hacc, h2⟩
  cases hdr : w.its.drop i with
  | nil =>
    rw [hdr] at h2
    have hi2 : w.its.length ≤ i := by
      have := congrArg List.length hdr
      rw [List.length_drop, List.length_nil] at this
      omega
    rw [lcLoop] at h2
    by_cases st : stands w.it w.raw gg = true
    · rw [if_pos st] at h2
      exact .inl ⟨(rl1 mm FF H2 gg i ex2 pr2 s2 st).1 hi2, Res.fin h2 gr2 s2 ⟨D, us, rfl, hHD, hF2, hm2, hD2, ra⟩⟩
    · rw [if_neg st] at h2; exact h2.elim
  | cons d rest =>
    rw [hdr] at h2
    have hi2 : i < w.its.length := by
      have := congrArg List.length hdr
      rw [List.length_drop, List.length_cons] at this
      omega
    have hd : w.its[i]? = some d := by
      have := congrArg (fun l => l[0]?) hdr
      simpa using this
    have hrest : w.its.drop (i + 1) = rest := by
      have := congrArg List.tail hdr
      simpa using this
    rw [lcLoop] at h2
    have st : stands w.it w.raw gg = true := by
      cases st : stands w.it w.raw gg with
      | true => rfl
      | false => rw [st] at h2; exact h2.elim
    rw [if_pos st] at h2
    obtain ⟨go, yl⟩ := (rl1 mm FF H2 gg i ex2 pr2 s2 st).2 d hd
    refine .inr ⟨go, fun H' => ∃ mm FF gg acc us, Sim X.K mm FF gg H' ∧ Grow m F H mm FF H' ∧ Ex F1 FF ∧ Pre m1 mm ∧ H' D = some (.lst us) ∧ FF D = none ∧ D ∉ mm ∧ Reps X.K mm FF acc us ∧ acc.length ≤ i + 1 ∧
      Res X.K (RelR X.K) m F H (lcLoop (lcF E ct co ce (wipeL l (own.map (·.2)))) (stands w.it w.raw) acc rest gg) Q, fun H' ⟨mm, FF, gg, acc, us, q⟩ => ⟨w.its.length - (i + 1), by omega, rfl, hi2, mm, FF, gg, acc, us, by rw [hrest]; exact q⟩, ?_⟩
    intro x H3 hy
    obtain ⟨F3, gr3, s3, rx⟩ := yl x H3 hy
    have hD3 : H3 D = some (.lst us) := gr3.keep D _ hD2 hm2
    have hF3 : F3 D = none := gr3.apart D (by rw [hD2]; simp) hF2
    cases q : assign ct d (wipeL l (own.map (·.2))) with
    | none => 
      have z : lcF E ct co ce (wipeL l (own.map (·.2))) d gg = .no := by
        unfold lcF
        rw [q]
        rfl
      rw [z] at h2
      exact h2.elim
    | some l' =>
      have z : lcF E ct co ce (wipeL l (own.map (·.2))) d gg = (evO E co l' gg).bind fun b g => if b then (ev E ce l' g).bind fun y g => .ok (some y.toD) g else .ok none g := by
        unfold lcF
        rw [q]
        rfl
      rw [z, O.bind_assoc] at h2
      refine gT_ok q s3.ex rx ((rs.mono (gr2.ex.trans gr3.ex) gr2.pre).wipe _) fun σ2 rs2 hw => ⟨by rw [hw _ ht, wipe_wipe], mm, F3, gg, l', s3, rs2, (Res.next h2).imp fun b H4 ⟨m4, F4, g4, b', e4, gr4, s4, rl4, h4⟩ => ?_⟩
      cases (show b' = b from rl4)
      have hD4 : H4 D = some (.lst us) := gr4.keep D _ hD3 hm2
      have hF4 : F4 D = none := gr4.apart D (by rw [hD3]; simp) hF3
      have hm4 : D ∉ m4 := fun z => by
        rcases gr4.fresh D z with q | q
        · exact hm2 q
        · rw [hD3] at q; cases q
      cases b with
      | false => exact ⟨m4, F4, g4, acc, us, s4, (gr2.trans gr3).trans gr4, ex2.trans (gr3.ex.trans gr4.ex), pr2.trans gr4.pre, hD4, hF4, hm4, (ra.mono gr3.ex (Pre.refl _)).mono gr4.ex gr4.pre, by omega, h4⟩
      | true =>
        have h4 : Res X.K (RelR X.K) m F H (((ev E ce l' g4).bind fun y g => .ok (some y.toD) g).bind fun y g => lcLoop (lcF E ct co ce (wipeL l (own.map (·.2)))) (stands w.it w.raw) (match y with
          | some y => acc ++ [y]
          | none => acc) rest g) Q := h4
        rw [O.bind_assoc] at h4
        refine ⟨m4, F4, g4, l', s4, rs2.grow gr4, (Res.next h4).imp fun y H5 ⟨m5, F5, g5, r5, e5, gr5, s5, rl5, h5⟩ => ?_⟩
        obtain ⟨F6, gr6, s6, rp, ex6⟩ := rl5.commit gr5 s5
        have hD5 : H5 D = some (.lst us) := gr6.keep D _ hD4 hm4
        have hF6 : F6 D = none := gr6.apart D (by rw [hD4]; simp) hF4
        have hm5 : D ∉ m5 := fun z => by
          rcases gr6.fresh D z with q | q
          · exact hm4 q
          · rw [hD4] at q; cases q
        have hal := ra.length
        refine ⟨us, hD5, ?_, m5, F6, g5, acc ++ [r5.toD], us ++ [y], s6.mut hF6 hm5, (((gr2.trans gr3).trans gr4).trans gr6).mut (.inl hHD), ex2.trans (gr3.ex.trans (gr4.ex.trans gr6.ex)), (pr2.trans gr4.pre).trans gr6.pre, upd_same, hF6, hm5,
          (((ra.mono gr3.ex (Pre.refl _)).mono gr4.ex gr4.pre).mono gr6.ex gr6.pre).append (.cons rp .nil), by rw [List.length_append]; simp; omega, h5⟩
        have : LIM = 1000000 := rfl
        rw [sizeLine_eq]
        omega
end
end Pd
/-! Pd11: what the checker takes is so: expressions. -/
namespace Pd
open PySem PySem.Spec PyProof.Rows L2

section
variable {B : Tab} {E : Env} {N : List Str}
theorem mem_free {x : Str} (h : Pd.free.contains x = true) : x ∈ Pd.free := by simpa using h
mutual
theorem soundE : ∀ (c : C) {sc : Scope} {fb : Str → Bool} {X : Cx} {e : Expr}, Ctx B E N sc fb X → ckE B N sc c e = true → PE X e (tE E X.K c)
  | .var i, sc, fb, X, e, cx, h => by
    unfold ckE at h
    split at h
    · simp only [Bool.and_eq_true, decide_eq_true_eq] at h
      exact s_var (by rw [cx.hN]; exact h.1.1) (by rw [cx.scope]; exact vis_of h.1.2) h.2
    · cases h
  | .con d, sc, fb, X, e, cx, h => by
    unfold ckE at h
    split at h
    · exact s_con h
    · cases h
  | .glo k, sc, fb, X, e, cx, h => by
    unfold ckE at h
    split at h
    · simp only [Bool.and_eq_true, decide_eq_true_eq] at h
      exact s_glo (gl_of (by rw [cx.scope]; exact h.1.2)) h.2 fun d hd => cx.glo _ _ d h.1.1 hd
    · cases h
  | .neg n, sc, fb, X, e, cx, h => by
    unfold ckE at h
    split at h
    · simp only [decide_eq_true_eq] at h
      subst h
      exact s_neg
    · cases h
  | .bin op a b, sc, fb, X, e, cx, h => by
    unfold ckE at h
    split at h
    · simp only [Bool.and_eq_true, decide_eq_true_eq] at h
      obtain ⟨⟨rfl, h1⟩, h2⟩ := h
      exact s_bin op (soundE a cx h1) (soundE b cx h2)
    · cases h
  | .cmp op a b, sc, fb, X, e, cx, h => by
    unfold ckE at h
    split at h
    · simp only [Bool.and_eq_true, decide_eq_true_eq, Bool.not_eq_true'] at h
      obtain ⟨⟨⟨rfl, h0⟩, h1⟩, h2⟩ := h
      exact s_cmp cx.units op (soundE a cx h1) (soundE b cx h2) h0
    · cases h
  | .chain op op' a b c, sc, fb, X, e, cx, h => by
    unfold ckE at h
    split at h
    · simp only [Bool.and_eq_true, decide_eq_true_eq, Bool.not_eq_true'] at h
      obtain ⟨⟨⟨⟨⟨rfl, rfl⟩, h0⟩, h1⟩, h2⟩, h3⟩ := h
      exact s_chain cx.units op op' (soundE a cx h1) (soundE b cx h2) (soundE c cx h3) h0
    · cases h
  | .isN neg a, sc, fb, X, e, cx, h => by
    unfold ckE at h
    split at h
    · simp only [Bool.and_eq_true, decide_eq_true_eq] at h
      obtain ⟨rfl, h1⟩ := h
      exact s_isN (soundE a cx h1)
    · cases h
  | .not a, sc, fb, X, e, cx, h => by
    unfold ckE at h
    split at h
    · exact s_not (soundE a cx h)
    · cases h
  | .and a b, sc, fb, X, e, cx, h => by
    unfold ckE at h
    split at h
    · rw [Bool.and_eq_true] at h
      have h2 := h.2
      split at h2
      · exact s_and (soundE a cx h.1) (pe_one (soundE b cx h2))
      · exact s_and (soundE a cx h.1) (soundE b cx h2)
    · cases h
  | .or a b, sc, fb, X, e, cx, h => by
    unfold ckE at h
    split at h
    · rw [Bool.and_eq_true] at h
      have h2 := h.2
      split at h2
      · exact s_or (soundE a cx h.1) (pe_one (soundE b cx h2))
      · exact s_or (soundE a cx h.1) (soundE b cx h2)
    · cases h
  | .ite t a b, sc, fb, X, e, cx, h => by
    unfold ckE at h
    split at h
    · simp only [Bool.and_eq_true] at h
      exact s_ite (soundT t cx h.1.1) (soundE a cx h.1.2) (soundE b cx h.2)
    · cases h
  | .call f args, sc, fb, X, e, cx, h => by
    unfold ckE at h
    split at h
    · rename_i x p es pos
      simp only [Bool.and_eq_true, decide_eq_true_eq] at h
      obtain ⟨⟨⟨⟨h1, h2⟩, h3⟩, h4⟩, h5⟩ := h
      obtain ⟨ad, fd, ps, k, q1, q2, q3, q4, q5⟩ := cx.fns _ _ h1
      have pa := soundEs args cx h5 h4
      cases es with
      | nil =>
        cases args with
        | nil => exact s_call0 (gl_of (by rw [cx.scope]; exact h2)) h3 q1 q2 q3 q4 q5
        | cons a r => unfold ckEs at h5; cases h5
      | cons e es => exact s_call (gl_of (by rw [cx.scope]; exact h2)) h3 q1 q2 q3 q4 q5 pa h4 (by simp)
    · cases h
  | .bi b args, sc, fb, X, e, cx, h => by
    unfold ckE at h
    split at h
    · simp only [Bool.and_eq_true, decide_eq_true_eq] at h
      obtain ⟨⟨⟨rfl, h2⟩, h3⟩, h4⟩ := h
      exact s_bi cx.calm b (gl_of (by rw [cx.scope]; exact h2)) (cx.free _ (by cases b <;> decide)) (soundEs args cx h4 h3) h3
    · cases h
  | .isi a t, sc, fb, X, e, cx, h => by
    unfold ckE at h
    split at h
    · simp only [Bool.and_eq_true, decide_eq_true_eq] at h
      obtain ⟨⟨⟨⟨⟨rfl, rfl⟩, h1⟩, h2⟩, h3⟩, h4⟩ := h
      exact s_isi t (gl_of (by rw [cx.scope]; exact h1)) (cx.free _ (by decide)) (gl_of (by rw [cx.scope]; exact h2)) (cx.free _ (by cases t <;> decide)) (soundE a cx h4) h3
    · cases h
  | .met m o args, sc, fb, X, e, cx, h => by
    unfold ckE at h
    split at h
    · simp only [Bool.and_eq_true, decide_eq_true_eq] at h
      obtain ⟨⟨⟨⟨⟨rfl, h1⟩, h2⟩, h3⟩, h4⟩, h5⟩ := h
      cases args with
      | nil => unfold ckEs at h5; cases h5
      | cons a r =>
        unfold ckEs at h5
        dsimp only at h5
        rw [Bool.and_eq_true] at h5
        cases r with
        | nil => exact s_met m (soundE o cx h4) (soundE a cx h5.1) h1 h2 h3
        | cons b r => have h6 := h5.2; unfold ckEs at h6; cases h6
    · cases h
  | .ix a i, sc, fb, X, e, cx, h => by
    unfold ckE at h
    split at h
    · simp only [Bool.and_eq_true] at h
      exact s_ix (soundE a cx h.1.2) (soundE i cx h.2) h.1.1
    · cases h
  | .sl a lo hi, sc, fb, X, e, cx, h => by
    unfold ckE at h
    split at h
    · simp only [Bool.and_eq_true] at h
      exact s_sl (soundE a cx h.1.1) (soundO lo cx h.1.2) (soundO hi cx h.2)
    · cases h
  | .rev a, sc, fb, X, e, cx, h => by
    unfold ckE at h
    split at h
    · exact s_rev (soundE a cx h)
    · cases h
  | .lst es, sc, fb, X, e, cx, h => by
    unfold ckE at h
    split at h
    · rw [Bool.and_eq_true] at h
      exact s_lst (soundEs es cx h.2 h.1)
    · cases h
  | .tup es, sc, fb, X, e, cx, h => by
    unfold ckE at h
    split at h
    · rw [Bool.and_eq_true] at h
      exact s_tup (soundEs es cx h.2 h.1)
    · cases h
  | .fmt a, sc, fb, X, e, cx, h => by
    unfold ckE at h
    split at h
    · simp only [Bool.and_eq_true, decide_eq_true_eq] at h
      obtain ⟨rfl, h⟩ := h
      exact s_fmt (soundE a cx h)
    · cases h
  | .fstr es, sc, fb, X, e, cx, h => by
    unfold ckE at h
    split at h
    · exact s_fstr (soundJ es cx h)
    · cases h
  | .lc it tg c elt own, sc, fb, X, e, cx, h => by
    unfold ckE at h
    split at h
    · rename_i elt' tg' iter ifs scope pos
      simp only [Bool.and_eq_true, decide_eq_true_eq] at h
      obtain ⟨⟨⟨⟨⟨⟨⟨h1, h2⟩, h3⟩, h4⟩, h5⟩, h6⟩, h7⟩, h8⟩ := h
      have q := s_lc (E := E) (X := X) (elt := elt') (tg := tg') (iter := iter) (ifs := ifs) (scope := scope) (pos := pos) (ci := it) (co := c) (ce := elt) h3 h4
      exact (pe_lc cx.calm (by rw [cx.hN]; exact cx.nd) (soundI it cx h1) (blkOk_by (by rw [cx.hN, cx.scope]; exact h2))
        (fun s H C cl fp => pg_tg (cx.blk s H scope C cl fp) h5) (fun s H C cl fp => soundTo c (cx.blk s H scope C cl fp) h6) (fun s H C cl fp => soundE elt (cx.blk s H scope C cl fp) h7) (fun x => not_set h8 _ x)).imp q
    · cases h
  | .new a, sc, fb, X, e, cx, h => by
    unfold ckE at h
    exact s_new (soundE a cx h)
theorem soundEs : ∀ (c : Cs) {sc : Scope} {fb : Str → Bool} {X : Cx} {es : List Expr}, Ctx B E N sc fb X → ckEs B N sc c es = true → es.all noStar = true → PA X es (tEs E X.K c)
  | .nil, sc, fb, X, es, cx, h, hs => by
    unfold ckEs at h
    split at h
    · exact s_nil
    · cases h
  | .cons a r, sc, fb, X, es, cx, h, hs => by
    unfold ckEs at h
    split at h
    · rw [Bool.and_eq_true] at h
      rw [List.all_cons, Bool.and_eq_true] at hs
      exact s_cons (soundE a cx h.1) (soundEs r cx h.2 hs.2) (star_cons hs.1 _ _)
    · cases h
theorem soundJ : ∀ (c : Cs) {sc : Scope} {fb : Str → Bool} {X : Cx} {es : List Expr}, Ctx B E N sc fb X → ckEs B N sc c es = true → PJ X es (csT E X.K c)
  | .nil, sc, fb, X, es, cx, h => by
    unfold ckEs at h
    split at h
    · exact .nil
    · cases h
  | .cons a r, sc, fb, X, es, cx, h => by
    unfold ckEs at h
    split at h
    · rw [Bool.and_eq_true] at h
      exact .cons (soundE a cx h.1) (soundJ r cx h.2)
    · cases h
theorem soundO : ∀ (c : Co) {sc : Scope} {fb : Str → Bool} {X : Cx} {e : Option Expr}, Ctx B E N sc fb X → ckO B N sc c e = true → PO X e (tO E X.K c)
  | .non, sc, fb, X, e, cx, h => by
    unfold ckO at h
    split at h
    · exact s_po0
    · cases h
  | .some a, sc, fb, X, e, cx, h => by
    unfold ckO at h
    split at h
    · exact s_po1 (soundE a cx h)
    · cases h
theorem soundT : ∀ (c : T) {sc : Scope} {fb : Str → Bool} {X : Cx} {e : Expr}, Ctx B E N sc fb X → ckT B N sc c e = true → PT X e (tT E X.K c)
  | .val a, sc, fb, X, e, cx, h => by
    unfold ckT at h
    rw [Bool.and_eq_true] at h
    exact s_tval (soundE a cx h.2) h.1
  | .cmp op a b, sc, fb, X, e, cx, h => by
    unfold ckT at h
    split at h
    · simp only [Bool.and_eq_true, decide_eq_true_eq, Bool.not_eq_true'] at h
      obtain ⟨⟨⟨rfl, h0⟩, h1⟩, h2⟩ := h
      exact s_tcmp cx.units op (soundE a cx h1) (soundE b cx h2) h0
    · cases h
  | .chain op op' a b c, sc, fb, X, e, cx, h => by
    unfold ckT at h
    split at h
    · simp only [Bool.and_eq_true, decide_eq_true_eq, Bool.not_eq_true'] at h
      obtain ⟨⟨⟨⟨⟨rfl, rfl⟩, h0⟩, h1⟩, h2⟩, h3⟩ := h
      exact s_tchain cx.units op op' (soundE a cx h1) (soundE b cx h2) (soundE c cx h3) h0
    · cases h
  | .isN neg a, sc, fb, X, e, cx, h => by
    unfold ckT at h
    split at h
    · simp only [Bool.and_eq_true, decide_eq_true_eq] at h
      obtain ⟨rfl, h1⟩ := h
      exact s_tisN (soundE a cx h1)
    · cases h
  | .not t, sc, fb, X, e, cx, h => by
    unfold ckT at h
    split at h
    · exact s_tnot (soundT t cx h)
    · cases h
  | .and ts, sc, fb, X, e, cx, h => by
    unfold ckT at h
    split at h
    · exact s_tand (soundA ts cx h).1
    · cases h
  | .or ts, sc, fb, X, e, cx, h => by
    unfold ckT at h
    split at h
    · exact s_tor (soundA ts cx h).2
    · cases h
theorem soundA : ∀ (c : Ts) {sc : Scope} {fb : Str → Bool} {X : Cx} {es : List Expr} {pos : Pos}, Ctx B E N sc fb X → ckA B N sc c es = true → PW X (.BoolOp .And es pos) (tTs E X.K true c) ∧ PW X (.BoolOp .Or es pos) (tTs E X.K false c)
  | .one t, sc, fb, X, es, pos, cx, h => by
    unfold ckA at h
    split at h
    · exact s_one (soundT t cx h)
    · cases h
  | .cons t r, sc, fb, X, es, pos, cx, h => by
    unfold ckA at h
    split at h
    · rw [Bool.and_eq_true] at h
      exact s_more (soundT t cx h.1) (soundA r cx h.2)
    · cases h
theorem soundTo : ∀ (c : To) {sc : Scope} {fb : Str → Bool} {X : Cx} {es : List Expr}, Ctx B E N sc fb X → ckTo B N sc c es = true → PTs X es (tTo E X.K c)
  | .non, sc, fb, X, es, cx, h => by
    unfold ckTo at h
    split at h
    · exact s_to0
    · cases h
  | .some t, sc, fb, X, es, cx, h => by
    unfold ckTo at h
    split at h
    · exact s_to1 (soundT t cx h)
    · cases h
theorem soundI : ∀ (c : It) {sc : Scope} {fb : Str → Bool} {X : Cx} {tg e : Expr}, Ctx B E N sc fb X → ckI B N sc c tg e = true → PI X tg e (tI E X.K c)
  | .seq a, sc, fb, X, tg, e, cx, h => by
    unfold ckI at h
    exact s_seq (soundE a cx h)
  | .range1 a, sc, fb, X, tg, e, cx, h => by
    unfold ckI at h
    split at h
    · simp only [Bool.and_eq_true, decide_eq_true_eq] at h
      obtain ⟨⟨⟨rfl, h1⟩, h2⟩, h3⟩ := h
      exact s_range1 (gl_of (by rw [cx.scope]; exact h1)) (cx.free _ (by decide)) (soundE a cx h3) h2
    · cases h
  | .range2 a b, sc, fb, X, tg, e, cx, h => by
    unfold ckI at h
    split at h
    · simp only [Bool.and_eq_true, decide_eq_true_eq] at h
      obtain ⟨⟨⟨⟨⟨rfl, h1⟩, h2⟩, h3⟩, h4⟩, h5⟩ := h
      exact s_range2 (gl_of (by rw [cx.scope]; exact h1)) (cx.free _ (by decide)) (soundE a cx h4) (soundE b cx h5) h2 h3
    · cases h
  | .enum a, sc, fb, X, tg, e, cx, h => by
    unfold ckI at h
    split at h
    · split at h
      · simp only [Bool.and_eq_true, decide_eq_true_eq] at h
        obtain ⟨⟨⟨rfl, h1⟩, h2⟩, h3⟩ := h
        exact s_enum (gl_of (by rw [cx.scope]; exact h1)) (cx.free _ (by decide)) (soundE a cx h3) h2
      · cases h
    · cases h
end
end
end Pd
/-! Pd12: statements. -/
namespace Pd
open PySem PySem.Spec PyProof.Rows L2

/-! ### outcomes of statements -/
def ResS (K : PySem.W.Frag) (m : List Addr) (F H : Hp) (o : O (Fl × Lo)) (D : Ends) : Prop := match o with
  | .ok (.nx, l) g => ∀ σ' m' F' H', Grow m F H m' F' H' → Sim K m' F' g H' → RepS K m' F' l σ' → D.nx σ' H'
  | .ok (.rt r, _) g => ∀ v m' F' H', Grow m F H m' F' H' → Sim K m' F' g H' → RelR K H m' F' H' r v → D.rt v H'
  | .ex _ _ => False
  | .no => False
section
variable {K : PySem.W.Frag} {α β : Type} {rel : Rl α β} {m m1 : List Addr} {F F1 H H1 : Hp} {g : G} {D : Ends}
theorem ResS.mono {o : O (Fl × Lo)} (gr : Grow m F H m1 F1 H1) (h : ResS K m F H o D) : ResS K m1 F1 H1 o D := by
  cases o with
  | ok a g =>
    obtain ⟨f, l⟩ := a
    cases f with
    | nx => exact fun σ' m' F' H' gr' s rs => h σ' m' F' H' (gr.trans gr') s rs
    | rt r => exact fun v m' F' H' gr' s rl => h v m' F' H' (gr.trans gr') s (elderR _ _ _ _ _ _ _ gr.there rl)
  | ex c g => exact h
  | no => exact h
theorem ResS.next {o : O α} {f : α → G → O (Fl × Lo)} (h : ResS K m F H (o.bind f) D) :
    Res K rel m1 F1 H1 o fun b H2 => ∃ m2 F2 g2 a, o = .ok a g2 ∧ Grow m1 F1 H1 m2 F2 H2 ∧ Sim K m2 F2 g2 H2 ∧ rel H1 m2 F2 H2 a b ∧ ResS K m F H (f a g2) D := by
  cases o with
  | ok a g => exact fun b m' F' H' gr s r => ⟨m', F', g, a, rfl, gr, s, r, h⟩
  | ex c g => exact h
  | no => exact h
/-- on to the next statement -/
theorem ResS.nx {l : Lo} {σ : L2.St} (h : ResS K m F H (.ok (.nx, l) g) D) (gr : Grow m F H m1 F1 H1) (s : Sim K m1 F1 g H1) (rs : RepS K m1 F1 l σ) : D.nx σ H1 := h σ m1 F1 H1 gr s rs
theorem ResS.rt {l : Lo} {r : R} {v : V} (h : ResS K m F H (.ok (.rt r, l) g) D) (gr : Grow m F H m1 F1 H1) (s : Sim K m1 F1 g H1) (rl : RelR K H m1 F1 H1 r v) : D.rt v H1 := h v m1 F1 H1 gr s rl
theorem ResS.of_some {o : Option α} {f : α → G → O (Fl × Lo)} (h : ResS K m F H ((O.of o g).bind f) D) : ∃ a, o = some a ∧ ResS K m F H (f a g) D := by
  cases o with
  | some a => exact ⟨a, rfl, h⟩
  | none => exact h.elim
end
def tS (E : Env) (K : PySem.W.Frag) (c : S) : TS := fun D σ H => ∃ m F g l, Sim K m F g H ∧ RepS K m F l σ ∧ ResS K m F H (exec E c l g) D
def tSs (E : Env) (K : PySem.W.Frag) (c : Ss) : TS := fun D σ H => ∃ m F g l, Sim K m F g H ∧ RepS K m F l σ ∧ ResS K m F H (execs E c l g) D

section
variable {B : Tab} {E : Env} {N : List Str} {sc : Scope} {fb : Str → Bool} {X : Cx} {pos : Pos}
theorem q_nil : PSs X [] (tSs E X.K .nil) := pss_nil.imp fun D σ H ⟨m, F, g, l, sm, rs, h⟩ => by
  rw [execs] at h
  exact ResS.nx h (Grow.refl _ _ _) sm rs
theorem q_cons {s : S} {r : Ss} {st : Stmt} {rest : List Stmt} (h1 : PS X st (tS E X.K s)) (h2 : PSs X rest (tSs E X.K r)) : PSs X (st :: rest) (tSs E X.K (.cons s r)) := by
  refine (pss_cons h1 h2).imp fun D σ H ⟨m, F, g, l, sm, rs, h⟩ => ⟨m, F, g, l, sm, rs, ?_⟩
  rw [execs] at h
  cases q : exec E s l g with
  | no => rw [q] at h; exact h.elim
  | ex c g => rw [q] at h; exact h.elim
  | ok a g1 =>
    obtain ⟨f, l1⟩ := a
    rw [q] at h
    cases f with
    | nx => exact fun σ' m' F' H' gr s rs => ⟨m', F', g1, l1, s, rs, ResS.mono gr h⟩
    | rt x => exact h
theorem q_pass : PS X (.Pass pos) (tS E X.K .pass) := ps_pass.imp fun D σ H ⟨m, F, g, l, sm, rs, h⟩ => by
  rw [exec] at h
  exact ResS.nx h (Grow.refl _ _ _) sm rs
theorem q_retN : PS X (.Return none pos) (tS E X.K .retN) := ps_retN.imp fun D σ H ⟨m, F, g, l, sm, rs, h⟩ => by
  rw [exec] at h
  exact ResS.rt h (Grow.refl _ _ _) sm (r := .d .non) Rep.non
theorem q_ret {e : Expr} {c : C} (he : PE X e (tE E X.K c)) : PS X (.Return (some e) pos) (tS E X.K (.ret c)) := (ps_ret he).imp fun D σ H ⟨m, F, g, l, sm, rs, h⟩ => by
  rw [exec] at h
  exact ⟨m, F, g, l, sm, rs, (ResS.next h).imp fun x H1 ⟨m1, F1, g1, r1, e1, gr1, sm1, rl1, h1⟩ => ResS.rt h1 gr1 sm1 rl1⟩
theorem q_drop {e : Expr} {c : C} (he : PE X e (tE E X.K c)) (hn : notComp e = true) : PS X (.Expr e pos) (tS E X.K (.drop c)) := (ps_expr he (not_comp hn _ _ _)).imp fun D σ H ⟨m, F, g, l, sm, rs, h⟩ => by
  rw [exec] at h
  exact ⟨m, F, g, l, sm, rs, (ResS.next h).imp fun x H1 ⟨m1, F1, g1, r1, e1, gr1, sm1, rl1, h1⟩ => ResS.nx h1 gr1 sm1 (rs.grow gr1)⟩
theorem q_if {e : Expr} {a b : List Stmt} {t : T} {ca cb : Ss} (hc : PT X e (tT E X.K t)) (ha : PSs X a (tSs E X.K ca)) (hb : PSs X b (tSs E X.K cb)) : PS X (.If e a b pos) (tS E X.K (.ifS t ca cb)) := (ps_if hc ha hb).imp fun D σ H ⟨m, F, g, l, sm, rs, h⟩ => by
  rw [exec] at h
  refine ⟨m, F, g, l, sm, rs, (ResS.next h).imp fun x H1 ⟨m1, F1, g1, r1, e1, gr1, sm1, rl1, h1⟩ => ?_⟩
  cases (show r1 = x from rl1)
  cases x with
  | true => exact ⟨m1, F1, g1, l, sm1, rs.grow gr1, ResS.mono gr1 h1⟩
  | false => exact ⟨m1, F1, g1, l, sm1, rs.grow gr1, ResS.mono gr1 h1⟩
theorem asg_key {tg : Tg} {c : C} : ∀ D σ H, tS E X.K (.asg tg c) D σ H → tAsg (tE E X.K c) (gT X.K tg) D σ H := fun D σ H ⟨m, F, g, l, sm, rs, h⟩ => by
  rw [exec] at h
  refine ⟨m, F, g, l, sm, rs, (ResS.next h).imp fun x H1 ⟨m1, F1, g1, r1, e1, gr1, sm1, rl1, h1⟩ => ?_⟩
  obtain ⟨F2, gr2, sm2, rp, _⟩ := rl1.commit gr1 sm1
  obtain ⟨l', el, h2⟩ := ResS.of_some h1
  exact gT_ok el sm2.ex rp (rs.grow gr2) fun σ' rs' _ => ResS.nx h2 gr2 sm2 rs'
/-- name = e -/
theorem q_set (cx : Ctx B E N sc fb X) {i : Nat} {x : Str} {p : Pos} {e : Expr} {c : C} (hi : ckV N sc fb i (.Name x p) = true) (he : PE X e (tE E X.K c)) (hn : notComp e = true) : PS X (.Assign [.Name x p] e pos) (tS E X.K (.asg (.v i) c)) := by
  simp only [ckV, Bool.and_eq_true, decide_eq_true_eq] at hi
  obtain ⟨h1, h2⟩ := loc_of cx hi.2
  exact (ps_set (by rw [cx.hN]; exact cx.nd) (by rw [cx.hN]; exact hi.1) h1 he (not_comp hn _ _ _) h2).imp asg_key
/-- name = [..for..] -/
theorem q_setLc (cx : Ctx B E N sc fb X) {i : Nat} {x : Str} {p : Pos} {elt tg' iter : Expr} {ifs : List Expr} {scope : Scope} {pos' : Pos} {it : It} {tg : Tg} {co : To} {ce : C} {own : List Nat} (hk : X.env.scope.kind = .function)
    (hN : N[i]? = some x) (hl : sc.names.lookup x = some .local) (hp : p.line = pos'.line) (ha : (scope.names.any fun (n, k) => n == x && (k == .local || k == .cell)) = false)
    (h : ckE B N sc (.lc it tg co ce own) (.ListComp elt [⟨tg', iter, ifs, 0⟩] scope pos') = true) : PS X (.Assign [.Name x p] (.ListComp elt [⟨tg', iter, ifs, 0⟩] scope pos') pos) (tS E X.K (.asg (.v i) (.lc it tg co ce own))) := by
  unfold ckE at h
  simp only [Bool.and_eq_true, decide_eq_true_eq] at h
  obtain ⟨⟨⟨⟨⟨⟨⟨h1, h2⟩, h3⟩, h4⟩, h5⟩, h6⟩, h7⟩, h8⟩ := h
  have q := s_lc (E := E) (X := X) (elt := elt) (tg := tg') (iter := iter) (ifs := ifs) (scope := scope) (pos := pos') (ci := it) (co := co) (ce := ce) h3 h4
  refine (ps_setLc (te := tE E X.K ce) (tt := tTo E X.K co) (g := gT X.K tg) cx.calm (by rw [cx.hN]; exact cx.nd) (by rw [cx.hN]; exact hN) (by rw [cx.scope]; exact hl) (sw_true hk (by rw [cx.scope]; exact hl) (by rw [hp]; exact beq_self_eq_true _) ha) (soundI it cx h1) (blkOk_by (by rw [cx.hN, cx.scope]; exact h2))
    (fun s H C cl fp => pg_tg (cx.blk s H scope C cl fp) h5) (fun s H C cl fp => soundTo co (cx.blk s H scope C cl fp) h6) (fun s H C cl fp => soundE ce (cx.blk s H scope C cl fp) h7) (fun x => not_set h8 _ x)).imp fun D σ H k => ?_
  have k := asg_key D σ H k
  exact q σ H _ k
/-- a, b = e -/
theorem q_asg (cx : Ctx B E N sc fb X) {is : List Nat} {es : List Expr} {k : Nat} {p : Pos} {e : Expr} {c : C} (hi : ckVs N sc fb is es = true) (he : PE X e (tE E X.K c)) (hn : notComp e = true) (hp : noPair (.Tuple es k p) e = true) :
    PS X (.Assign [.Tuple es k p] e pos) (tS E X.K (.asg (.t is) c)) := by
  refine (ps_asg he (pg_tg cx (tg := .t is) (e := .Tuple es k p) hi) ?_ (no_pair hp _) rfl).imp asg_key
  show swapsWith e (some (.Tuple es k p)) pos.line X.env = pure false
  exact not_comp hn _ _ _
theorem augop_some {op : Bop} {d z : Pd.D} {x : R} (h : augop op d x = some z) : ∃ a b, d = .int a ∧ x = .d (.int b) ∧ ((op = .add ∧ z = .int (a + b)) ∨ (op = .sub ∧ z = .int (a - b))) := by
  unfold augop at h
  split at h
  · cases h; exact ⟨_, _, rfl, rfl, .inl ⟨rfl, rfl⟩⟩
  · cases h; exact ⟨_, _, rfl, rfl, .inr ⟨rfl, rfl⟩⟩
  · cases h
theorem q_aug (cx : Ctx B E N sc fb X) {i : Nat} {op : Bop} {x : Str} {p : Pos} {e : Expr} {c : C} (hop : op = .add ∨ op = .sub) (hi : ckV N sc fb i (.Name x p) = true) (he : PE X e (tE E X.K c)) : PS X (.AugAssign (.Name x p) (bopOf op) e pos) (tS E X.K (.aug i op c)) := by
  simp only [ckV, Bool.and_eq_true, decide_eq_true_eq] at hi
  obtain ⟨h1, h2⟩ := loc_of cx hi.2
  have key : ∀ f : Int → Int → Int, (∀ (d z : Pd.D) (x : R), augop op d x = some z → ∃ a b, d = .int a ∧ x = .d (.int b) ∧ z = .int (f a b)) → ∀ D σ H, tS E X.K (.aug i op c) D σ H → tAug i (tE E X.K c) (ipI f) D σ H := fun f hf D σ H ⟨m, F, g, l, sm, rs, h⟩ => by
    rw [exec] at h
    cases q : l[i]? with
    | none => rw [q] at h; exact h.elim
    | some o =>
      cases o with
      | none => rw [q] at h; exact h.elim
      | some d =>
        rw [q] at h
        obtain ⟨v, v1, v2⟩ := rs.2 i d q
        refine ⟨v, v1, m, F, g, l, sm, rs, (ResS.next h).imp fun y H1 ⟨m1, F1, g1, r1, e1, gr1, sm1, rl1, h1⟩ => ?_⟩
        obtain ⟨z, ez, h2⟩ := ResS.of_some h1
        obtain ⟨a, b, rfl, rfl, rfl⟩ := hf d z r1 ez
        cases v2
        cases (show Rep X.K m1 F1 (.int b) y from rl1)
        exact ⟨a, b, rfl, rfl, ResS.nx h2 gr1 sm1 ((rs.grow gr1).set (Rep.int _))⟩
  rcases hop with rfl | rfl
  · refine (ps_aug (by rw [cx.hN]; exact cx.nd) (by rw [cx.hN]; exact hi.1) h1 he ip_add h2).imp (key _ fun d z x e => ?_)
    obtain ⟨a, b, h1, h2, ⟨_, h3⟩ | ⟨h3, _⟩⟩ := augop_some e
    · exact ⟨a, b, h1, h2, h3⟩
    · cases h3
  · refine (ps_aug (by rw [cx.hN]; exact cx.nd) (by rw [cx.hN]; exact hi.1) h1 he ip_sub h2).imp (key _ fun d z x e => ?_)
    obtain ⟨a, b, h1, h2, ⟨h3, _⟩ | ⟨_, h3⟩⟩ := augop_some e
    · cases h3
    · exact ⟨a, b, h1, h2, h3⟩
/-! ### changes of the store -/
theorem Sim.store {K : PySem.W.Frag} {m : List Addr} {F H : Hp} {g : G} {n : Nat} {p : Addr} {xs : List D} {vs : List V} (s : Sim K m F g H) (hp : m[n]? = some p) (r : Reps K m F xs vs) : Sim K m F (g.set n (.lst xs)) (upd H p (.lst vs)) := by
  have s1 := s
  refine ⟨fun a u e => ?_, by rw [List.length_set]; exact s.len, s.inj, s.apart, fun i a e => ?_, fun i ys e => ?_⟩
  · rw [upd_ne (show a ≠ p from fun z => by rw [z, s.apart n p hp] at e; cases e)]
    exact s.ex a u e
  · by_cases z : a = p
    · subst z; rw [upd_same]; simp
    · rw [upd_ne z]; exact s.there i a e
  · by_cases z : n = i
    · subst z
      have hl : n < g.length := by rw [← s.len]; exact (List.getElem?_eq_some_iff.mp hp).1
      rw [List.getElem?_set_self hl] at e
      cases e
      exact ⟨p, vs, hp, upd_same, r⟩
    · rw [List.getElem?_set_ne z] at e
      obtain ⟨a, us, h1, h2, h3⟩ := s.lst i ys e
      exact ⟨a, us, h1, by rw [upd_ne (show a ≠ p from fun q => z (s.inj n i p hp (q ▸ h1)))]; exact h2, h3⟩
theorem Grow.store {K : PySem.W.Frag} {m m1 : List Addr} {F H F1 H1 : Hp} {g : G} {n : Nat} {p : Addr} {o : HO} (gr : Grow m F H m1 F1 H1) (hp : m1[n]? = some p) : Grow m F H m1 F1 (upd H1 p o) := by
  apply gr.mut
  rcases gr.fresh p (List.mem_of_getElem? hp) with q | q
  · exact .inr q
  · exact .inl q
theorem q_setIx {o i e : Expr} {co ci c : C} {p : Pos} (ho : PE X o (tE E X.K co)) (hi : PE X i (tE E X.K ci)) (he : PE X e (tE E X.K c)) (hn : notComp e = true) (hp : plainIx i = true)
    (ha : ∀ v, PySem.assign (.Subscript o i p) X.env v = (do
      let ov ← holding [v] (eval o X.env)
      let iv ← holding [v, ov] (eval i X.env)
      standAt p
      holding [v, ov, iv] (setItem ov iv v)
      release [v, ov, iv] [])) (h1 : (assignEach [.Subscript o i p] X.env).map (·.2) = [PySem.assign (.Subscript o i p) X.env]) (hw : swappedStores [.Subscript o i p] e X.env = pure none) (hs : swapsWithSole [.Subscript o i p] e pos.line X.env = pure false) :
    PS X (.Assign [.Subscript o i p] e pos) (tS E X.K (.setIx co ci c)) := by
  refine (ps_asg he (pg_sub ho hi set_list ha) hs hw h1).imp fun D σ H ⟨m, F, g, l, sm, rs, h⟩ => ?_
  rw [exec] at h
  refine ⟨m, F, g, l, sm, rs, (ResS.next h).imp fun x H1 ⟨m1, F1, g1, r1, e1, gr1, sm1, rl1, h1⟩ => ?_⟩
  obtain ⟨F1', gr1', sm1', rp, _⟩ := rl1.commit gr1 sm1
  refine ⟨m1, F1', g1, l, sm1', rs.grow gr1', (ResS.next h1).imp fun y H2 ⟨m2, F2, g2, r2, e2, gr2, sm2, rl2, h2⟩ => ?_⟩
  refine ⟨m2, F2, g2, l, sm2, (rs.grow gr1').grow gr2, (ResS.next h2).imp fun z H3 ⟨m3, F3, g3, r3, e3, gr3, sm3, rl3, h3⟩ => ?_⟩
  cases r2 with
  | fl xs => exact h3.elim
  | d d2 =>
    cases d2 with
    | obj n =>
      cases r3 with
      | fl xs => exact h3.elim
      | d d3 =>
        cases d3 with
        | int k =>
          have h3 : ResS X.K m F H (match g3[n]? with
            | some (.lst xs) => (match ixOf xs.length k with
              | some j => .ok (.nx, l) (g3.set n (.lst (xs.set j r1.toD)))
              | none => .no)
            | _ => .no) D := h3
          cases q : g3[n]? with
          | none => rw [q] at h3; exact h3.elim
          | some cell =>
            cases cell with
            | dead => rw [q] at h3; exact h3.elim
            | lst xs =>
              rw [q] at h3
              have h3 : ResS X.K m F H (match ixOf xs.length k with
                | some j => .ok (.nx, l) (g3.set n (.lst (xs.set j r1.toD)))
                | none => .no) D := h3
              cases q2 : ixOf xs.length k with
              | none => rw [q2] at h3; exact h3.elim
              | some j =>
                rw [q2] at h3
                obtain ⟨a, vs, v1, v2, v3⟩ := sm3.lst n xs q
                have rl2' := rl2.grow gr3
                cases (show Rep X.K m3 F3 (.obj n) y from rl2') with
                | obj hm =>
                  rw [hm] at v1
                  cases v1
                  cases (show Rep X.K m3 F3 (.int k) z from rl3)
                  refine ⟨a, vs, k, j, rfl, rfl, v2, by rw [← v3.length]; exact q2, ?_⟩
                  have rx : Rep X.K m3 F3 r1.toD x := (rp.mono gr2.ex gr2.pre).mono gr3.ex gr3.pre
                  exact ResS.nx h3 (((gr1'.trans gr2).trans gr3).store (K := X.K) (g := g3) hm) (sm3.store hm (v3.set rx j)) (((rs.grow gr1').grow gr2).grow gr3)
        | _ => exact h3.elim
    | _ => exact h3.elim
theorem q_app {o e : Expr} {co c : C} {ap cp : Pos} (ho : PE X o (tE E X.K co)) (he : PE X e (tE E X.K c)) (h1 : attrOk o = true) (h2 : ap.endLine = cp.line) (hs : noStar e = true) :
    PS X (.Expr (.Call (.Attribute o "append" ap) [e] [] cp) pos) (tS E X.K (.app co c)) := by
  refine (ps_expr (pe_bm PySem.F.plainAttrs_list PySem.F.slot_list_append PySem.F.type_list_append mt_append ho (pa_cons he pa_nil (star_cons hs _ _)) (attr_base h1 _ _ _) (by rw [star_cons hs]; rfl) (by rw [h2]; exact beq_self_eq_true _) (star_cons hs _ _) rfl) (not_comp rfl _ _ _)).imp fun D σ H ⟨m, F, g, l, sm, rs, h⟩ => ?_
  rw [exec] at h
  refine ⟨m, F, g, l, sm, rs, (ResS.next h).imp fun y H1 ⟨m1, F1, g1, r1, e1, gr1, sm1, rl1, h1⟩ => ?_⟩
  cases r1 with
  | fl xs => exact h1.elim
  | d d1 =>
    cases d1 with
    | obj n =>
      have rl1' := rl1
      cases (show Rep X.K m1 F1 (.obj n) y from rl1') with
      | @obj _ a hm =>
        have h1 : ResS X.K m F H (match g1[n]? with
          | some (.lst _) => (ev E c l g1).bind fun x g => (match g[n]? with
            | some (.lst xs) => if isShort LIM xs then .ok (.nx, l) (g.set n (.lst (xs ++ [x.toD]))) else .no
            | _ => .no)
          | _ => .no) D := h1
        cases q0 : g1[n]? with
        | none => rw [q0] at h1; exact h1.elim
        | some cell =>
          cases cell with
          | dead => rw [q0] at h1; exact h1.elim
          | lst xs0 =>
            rw [q0] at h1
            obtain ⟨a0, vs0, u1, u2, u3⟩ := sm1.lst n xs0 q0
            rw [hm] at u1
            cases u1
            refine ⟨.inl ⟨rfl, vs0, .inl (.inl u2)⟩, m1, F1, g1, l, sm1, rs.grow gr1, (ResS.next h1).imp fun x H2 ⟨m2, F2, g2, r2, e2, gr2, sm2, rl2, h2⟩ => ?_⟩
            obtain ⟨F2', gr2', sm2', rp, _⟩ := rl2.commit gr2 sm2
            have hm2 := gr2'.pre n a hm
            cases q : g2[n]? with
            | none => rw [q] at h2; exact h2.elim
            | some cell =>
              cases cell with
              | dead => rw [q] at h2; exact h2.elim
              | lst xs =>
                rw [q] at h2
                have h2 : ResS X.K m F H (if isShort LIM xs = true then .ok (.nx, l) (g2.set n (.lst (xs ++ [r2.toD]))) else .no) D := h2
                by_cases z : isShort LIM xs = true
                · rw [if_pos z] at h2
                  obtain ⟨a1, vs, v1, v2, v3⟩ := sm2'.lst n xs q
                  rw [hm2] at v1
                  cases v1
                  refine ⟨a, vs, x, rfl, rfl, v2, ?_, ?_⟩
                  · have := (isShort_iff _ _).mp z
                    have : LIM = 1000000 := rfl
                    rw [sizeLine_eq, ← v3.length]
                    omega
                  · exact ResS.nx h2 ((gr1.trans gr2').store (K := X.K) (g := g2) hm2) (sm2'.store hm2 (v3.append (.cons rp .nil))) ((rs.grow gr1).grow gr2')
                · rw [if_neg z] at h2; exact h2.elim
    | _ => exact h1.elim
end
end Pd
/-! Pd13: for loops; what the checker takes is so: statements, defs. -/
namespace Pd
open PySem PySem.Spec PyProof.Rows L2

section
variable {B : Tab} {E : Env} {N : List Str} {sc : Scope} {fb : Str → Bool} {X : Cx} {pos : Pos}
theorem q_for (hp : PassesOwn (model X.prog X.w) X.A X.env X.xe) (hc : X.calm = true) {tge iter : Expr} {body : List Stmt} {it : It} {tg : Tg} {b : Ss} (hi : PI X tge iter (tI E X.K it)) (hg : PG X tge (gT X.K tg)) (hb : PSs X body (tSs E X.K b)) (hs : notSet iter = true) :
    PS X (.For tge iter body [] pos) (tS E X.K (.forS it tg b)) := by
  refine (ps_for hp hc hi hg hb fun x => not_set hs _ x).imp fun D σ H ⟨m, F, g, l, sm, rs, h⟩ => ?_
  rw [exec] at h
  refine ⟨m, F, g, l, sm, rs, (ResS.next h).imp fun J H1 ⟨m1, F1, g1, w, e1, gr1, sm1, rl1, h1⟩ => ?_⟩
  have hz : isShort LIM w.its = true := by
    cases hz : isShort LIM w.its with
    | true => rfl
    | false => rw [hz] at h1; exact h1.elim
  rw [if_pos hz] at h1
  have rl1 : JOk X.K m1 F1 w J := rl1
  refine ⟨fun i n σ' H' => n = w.its.length - i ∧ i ≤ w.its.length ∧ ∃ mm FF gg ll, Sim X.K mm FF gg H' ∧ Grow m F H mm FF H' ∧ Ex F1 FF ∧ Pre m1 mm ∧ RepS X.K mm FF ll σ' ∧
    ResS X.K m F H (forLoop (fun x l g => (O.of (assign tg x l) g).bind fun l g => execs E b l g) (stands w.it w.raw) (w.its.drop i) ll gg) D,
    ⟨w.its.length, by simp, Nat.zero_le _, m1, F1, g1, l, sm1, gr1, Ex.refl _, Pre.refl _, rs.grow gr1, by rw [List.drop_zero]; exact h1⟩, ?_⟩
  rintro i n σ2 H2 ⟨rfl, hi, mm, FF, gg, ll, s2, gr2, ex2, pr2, rs2, h2⟩
  cases hdr : w.its.drop i with
  | nil =>
    rw [hdr] at h2
    have hi2 : w.its.length ≤ i := by
      have := congrArg List.length hdr
      rw [List.length_drop, List.length_nil] at this
      omega
    rw [forLoop] at h2
    by_cases st : stands w.it w.raw gg = true
    · rw [if_pos st] at h2
      exact .inl ⟨(rl1 mm FF H2 gg i ex2 pr2 s2 st).1 hi2, ResS.nx h2 gr2 s2 rs2⟩
    · rw [if_neg st] at h2; exact h2.elim
  | cons d rest =>
    rw [hdr] at h2
    have hi2 : i < w.its.length := by
      have := congrArg List.length hdr
      rw [List.length_drop, List.length_cons] at this
      omega
    have hd : w.its[i]? = some d := by
      have := congrArg (fun l => l[0]?) hdr
      simpa using this
    have hrest : w.its.drop (i + 1) = rest := by
      have := congrArg List.tail hdr
      simpa using this
    rw [forLoop] at h2
    have st : stands w.it w.raw gg = true := by
      cases st : stands w.it w.raw gg with
      | true => rfl
      | false => rw [st] at h2; exact h2.elim
    rw [if_pos st] at h2
    obtain ⟨go, yl⟩ := (rl1 mm FF H2 gg i ex2 pr2 s2 st).2 d hd
    refine .inr ⟨go, fun σ' H' => ∃ mm FF gg ll, Sim X.K mm FF gg H' ∧ Grow m F H mm FF H' ∧ Ex F1 FF ∧ Pre m1 mm ∧ RepS X.K mm FF ll σ' ∧
      ResS X.K m F H (forLoop (fun x l g => (O.of (assign tg x l) g).bind fun l g => execs E b l g) (stands w.it w.raw) rest ll gg) D, fun σ' H' ⟨mm, FF, gg, ll, q⟩ => ⟨w.its.length - (i + 1), by omega, rfl, hi2, mm, FF, gg, ll, by rw [hrest]; exact q⟩, ?_⟩
    intro x H3 hy
    obtain ⟨F3, gr3, s3, rx⟩ := yl x H3 hy
    rw [O.bind_assoc] at h2
    obtain ⟨l', el, h3⟩ := ResS.of_some h2
    refine gT_ok el s3.ex rx (rs2.mono gr3.ex (Pre.refl _)) fun σ3 rs3 _ => ⟨mm, F3, gg, l', s3, rs3, ?_⟩
    cases q : execs E b l' gg with
    | no => rw [q] at h3; exact h3.elim
    | ex c g => rw [q] at h3; exact h3.elim
    | ok a g4 =>
      obtain ⟨f, l4⟩ := a
      rw [q] at h3
      cases f with
      | nx => exact fun σ' m' F' H' gr4 s4 rs4 => ⟨m', F', g4, l4, s4, (gr2.trans gr3).trans gr4, ex2.trans (gr3.ex.trans gr4.ex), pr2.trans gr4.pre, rs4, h3⟩
      | rt r => exact ResS.mono (gr2.trans gr3) h3
end

/-! ### the checker of statements -/
def ckAsg (B : Tab) (N : List Str) (sc : Scope) (fb : Str → Bool) (tg : Tg) (e : C) (t ex : Expr) : Bool := match tg with
  | .v i => (match t with
    | .Name x p => ckV N sc fb i (.Name x p) && ckE B N sc e ex && (notComp ex || (match ex with
      | .ListComp elt [⟨tg', iter, ifs, 0⟩] scope pos' => decide (N[i]? = some x) && decide (sc.names.lookup x = some .local) && decide (p.line = pos'.line) && !(scope.names.any fun (n, k) => n == x && (k == .local || k == .cell)) && (match e with
        | .lc _ _ _ _ _ => true
        | .new (.lc _ _ _ _ _) => true
        | _ => false)
      | _ => false))
    | _ => false)
  | .t is => (match t with
    | .Tuple es k p => ckVs N sc fb is es && ckE B N sc e ex && notComp ex && noPair (.Tuple es k p) ex
    | _ => false)
mutual
def ckS (B : Tab) (N : List Str) (sc : Scope) (fb : Str → Bool) : S → Stmt → Bool
  | .asg tg e, ss => (match ss with
    | .Assign [t] ex _ => ckAsg B N sc fb tg e t ex
    | _ => false)
  | .aug i op e, ss => (match ss with
    | .AugAssign (.Name x p) o ex _ => decide (o = bopOf op) && (decide (op = .add) || decide (op = .sub)) && ckV N sc fb i (.Name x p) && ckE B N sc e ex
    | _ => false)
  | .setIx o i e, ss => (match ss with
    | .Assign [.Subscript ox ix _] ex _ => ckE B N sc o ox && ckE B N sc i ix && ckE B N sc e ex && notComp ex && plainIx ix
    | _ => false)
  | .app o e, ss => (match ss with
    | .Expr (.Call (.Attribute ox name ap) [ex] [] cp) _ => decide (name = "append") && attrOk ox && decide (ap.endLine = cp.line) && noStar ex && ckE B N sc o ox && ckE B N sc e ex
    | _ => false)
  | .drop e, ss => (match ss with
    | .Expr ex _ => notComp ex && ckE B N sc e ex
    | _ => false)
  | .ret e, ss => (match ss with
    | .Return (some ex) _ => ckE B N sc e ex
    | _ => false)
  | .retN, ss => (match ss with
    | .Return none _ => true
    | _ => false)
  | .ifS t a b, ss => (match ss with
    | .If c x y _ => ckT B N sc t c && ckSs B N sc fb a x && ckSs B N sc fb b y
    | _ => false)
  | .forS it tg b, ss => (match ss with
    | .For tge iter body [] _ => ckI B N sc it tge iter && ckTg N sc fb tg tge && ckSs B N sc fb b body && notSet iter
    | _ => false)
  | .pass, ss => (match ss with
    | .Pass _ => true
    | _ => false)
def ckSs (B : Tab) (N : List Str) (sc : Scope) (fb : Str → Bool) : Ss → List Stmt → Bool
  | .nil, ss => (match ss with
    | [] => true
    | _ => false)
  | .cons s r, ss => (match ss with
    | x :: xs => ckS B N sc fb s x && ckSs B N sc fb r xs
    | _ => false)
end
section
variable {B : Tab} {E : Env} {N : List Str} {sc : Scope} {fb : Str → Bool} {X : Cx}
theorem new_key {K : PySem.W.Frag} {ca : C} : ∀ σ H Q, tE E K (.new ca) σ H Q → tE E K ca σ H Q := fun σ H Q ⟨m, F, g, l, sm, rs, h⟩ => by
  rw [ev] at h
  refine ⟨m, F, g, l, sm, rs, (Res.next h).imp fun x H1 ⟨m1, F1, g1, r1, e1, gr1, sm1, rl1, h1⟩ => ?_⟩
  cases r1 with
  | d d => exact h1.elim
  | fl xs =>
    obtain ⟨p, vs, rfl, q1, q2, q3, q4, q5⟩ := rl1
    have h1 : Res K (RelR K) m F H (.ok (.d (.obj g1.length)) (g1 ++ [.lst xs])) Q := h1
    refine Res.fin h1 ⟨gr1.ex, gr1.pre.trans fun i a e => ?_, gr1.keep, gr1.apart, fun a ha => ?_, gr1.there⟩ (sm1.newObj (H0 := H) q2 q3 q4 q5) (Rep.obj ?_)
    · have hi : i < m1.length := (List.getElem?_eq_some_iff.mp e).1
      rw [List.getElem?_append_left hi]; exact e
    · rcases List.mem_append.mp ha with ha | ha
      · exact gr1.fresh a ha
      · rw [List.mem_singleton.mp ha]; exact .inr q1
    · rw [← sm1.len]; simp
theorem q_setLc0 (cx : Ctx B E N sc fb X) {i : Nat} {x : Str} {p pos : Pos} {elt tg' iter : Expr} {ifs : List Expr} {scope : Scope} {pos' : Pos} {it : It} {tg : Tg} {co : To} {ce : C} {own : List Nat} (hk : X.env.scope.kind = .function)
    (hN : N[i]? = some x) (hl : sc.names.lookup x = some .local) (hp : p.line = pos'.line) (ha : (scope.names.any fun (n, k) => n == x && (k == .local || k == .cell)) = false)
    (h : ckE B N sc (.lc it tg co ce own) (.ListComp elt [⟨tg', iter, ifs, 0⟩] scope pos') = true) : PS X (.Assign [.Name x p] (.ListComp elt [⟨tg', iter, ifs, 0⟩] scope pos') pos) (tAsg (tE E X.K (.lc it tg co ce own)) (gName i)) := by
  unfold ckE at h
  simp only [Bool.and_eq_true, decide_eq_true_eq] at h
  obtain ⟨⟨⟨⟨⟨⟨⟨h1, h2⟩, h3⟩, h4⟩, h5⟩, h6⟩, h7⟩, h8⟩ := h
  have q := s_lc (E := E) (X := X) (elt := elt) (tg := tg') (iter := iter) (ifs := ifs) (scope := scope) (pos := pos') (ci := it) (co := co) (ce := ce) h3 h4
  refine (ps_setLc (te := tE E X.K ce) (tt := tTo E X.K co) (g := gT X.K tg) cx.calm (by rw [cx.hN]; exact cx.nd) (by rw [cx.hN]; exact hN) (by rw [cx.scope]; exact hl) (sw_true hk (by rw [cx.scope]; exact hl) (by rw [hp]; exact beq_self_eq_true _) ha) (soundI it cx h1) (blkOk_by (by rw [cx.hN, cx.scope]; exact h2))
    (fun s H C cl fp => pg_tg (cx.blk s H scope C cl fp) h5) (fun s H C cl fp => soundTo co (cx.blk s H scope C cl fp) h6) (fun s H C cl fp => soundE ce (cx.blk s H scope C cl fp) h7) (fun x => not_set h8 _ x)).imp fun D σ H k => ?_
  exact q σ H _ k
theorem sound_asg (cx : Ctx B E N sc fb X) (hk : X.env.scope.kind = .function) {tg : Tg} {e : C} {t ex : Expr} {pos : Pos} (h : ckAsg B N sc fb tg e t ex = true) : PS X (.Assign [t] ex pos) (tS E X.K (.asg tg e)) := by
  unfold ckAsg at h
  split at h
  · split at h
    · simp only [Bool.and_eq_true] at h
      obtain ⟨⟨h1, h2⟩, h3⟩ := h
      rw [Bool.or_eq_true] at h3
      rcases h3 with h3 | h3
      · exact q_set cx h1 (soundE e cx h2) h3
      · split at h3
        · simp only [Bool.and_eq_true, decide_eq_true_eq, Bool.not_eq_true'] at h3
          obtain ⟨⟨⟨⟨a1, a2⟩, a3⟩, a4⟩, a5⟩ := h3
          split at a5
          · exact (q_setLc0 cx hk a1 a2 a3 a4 h2).imp asg_key
          · have h2' := h2
            unfold ckE at h2'
            exact (q_setLc0 cx hk a1 a2 a3 a4 h2').imp fun D σ H k => new_key σ H _ (asg_key D σ H k)
          · cases a5
        · cases h3
    · cases h
  · split at h
    · simp only [Bool.and_eq_true] at h
      obtain ⟨⟨⟨h1, h2⟩, h3⟩, h4⟩ := h
      exact q_asg cx h1 (soundE e cx h2) h3 h4
    · cases h
theorem set_eq {o i : Expr} (h : plainIx i = true) (p : Pos) (env : PySem.Env) : ∀ v, PySem.assign (.Subscript o i p) env v = (do
      let ov ← holding [v] (eval o env)
      let iv ← holding [v, ov] (eval i env)
      standAt p
      holding [v, ov, iv] (setItem ov iv v)
      release [v, ov, iv] []) := by
  intro v
  cases i <;> first
    | rfl
    | (rename_i a b c d; cases c <;> first | rfl | exact absurd h (by simp [plainIx]))
theorem sole_no {t e : Expr} (h : notComp e = true) {l : Nat} {env : PySem.Env} : swapsWithSole [t] e l env = pure false := by
  show swapsWith e (some t) l env = pure false
  exact not_comp h _ _ _
theorem set_no {o i e : Expr} (p : Pos) (env : PySem.Env) : swappedStores [.Subscript o i p] e env = pure none := by
  unfold swappedStores
  rfl
mutual
theorem soundS (cx : Ctx B E N sc fb X) (hk : X.env.scope.kind = .function) (hp : PassesOwn (model X.prog X.w) X.A X.env X.xe) : ∀ (c : S) {st : Stmt}, ckS B N sc fb c st = true → PS X st (tS E X.K c)
  | .asg tg e, st, h => by
    unfold ckS at h
    split at h
    · exact sound_asg cx hk h
    · cases h
  | .aug i op e, st, h => by
    unfold ckS at h
    split at h
    · simp only [Bool.and_eq_true, decide_eq_true_eq, Bool.or_eq_true] at h
      obtain ⟨⟨⟨rfl, h1⟩, h2⟩, h3⟩ := h
      exact q_aug cx h1 h2 (soundE e cx h3)
    · cases h
  | .setIx o i e, st, h => by
    unfold ckS at h
    split at h
    · simp only [Bool.and_eq_true] at h
      obtain ⟨⟨⟨⟨h1, h2⟩, h3⟩, h4⟩, h5⟩ := h
      exact q_setIx (soundE o cx h1) (soundE i cx h2) (soundE e cx h3) h4 h5 (set_eq h5 _ _) rfl (set_no _ _) (sole_no h4)
    · cases h
  | .app o e, st, h => by
    unfold ckS at h
    split at h
    · simp only [Bool.and_eq_true, decide_eq_true_eq] at h
      obtain ⟨⟨⟨⟨⟨rfl, h1⟩, h2⟩, h3⟩, h4⟩, h5⟩ := h
      exact q_app (soundE o cx h4) (soundE e cx h5) h1 h2 h3
    · cases h
  | .drop e, st, h => by
    unfold ckS at h
    split at h
    · rw [Bool.and_eq_true] at h
      exact q_drop (soundE e cx h.2) h.1
    · cases h
  | .ret e, st, h => by
    unfold ckS at h
    split at h
    · exact q_ret (soundE e cx h)
    · cases h
  | .retN, st, h => by
    unfold ckS at h
    split at h
    · exact q_retN
    · cases h
  | .ifS t a b, st, h => by
    unfold ckS at h
    split at h
    · simp only [Bool.and_eq_true] at h
      exact q_if (soundT t cx h.1.1) (soundSs cx hk hp a h.1.2) (soundSs cx hk hp b h.2)
    · cases h
  | .forS it tg b, st, h => by
    unfold ckS at h
    split at h
    · simp only [Bool.and_eq_true] at h
      exact q_for hp cx.calm (soundI it cx h.1.1.1) (pg_tg cx h.1.1.2) (soundSs cx hk hp b h.1.2) h.2
    · cases h
  | .pass, st, h => by
    unfold ckS at h
    split at h
    · exact q_pass
    · cases h
theorem soundSs (cx : Ctx B E N sc fb X) (hk : X.env.scope.kind = .function) (hp : PassesOwn (model X.prog X.w) X.A X.env X.xe) : ∀ (c : Ss) {ss : List Stmt}, ckSs B N sc fb c ss = true → PSs X ss (tSs E X.K c)
  | .nil, ss, h => by
    unfold ckSs at h
    split at h
    · exact q_nil
    · cases h
  | .cons s r, ss, h => by
    unfold ckSs at h
    split at h
    · rw [Bool.and_eq_true] at h
      exact q_cons (soundS cx hk hp s h.1) (soundSs cx hk hp r h.2)
    · cases h
end
end
end Pd
/-! Pd14: defs, level by level. -/
namespace Pd
open PySem PySem.Spec PyProof.Rows L2

/-- a def of the text and its code -/
structure FnC where
  name : Str
  st : Stmt
  N : List Str
  fn : Fn
def FnC.ps (f : FnC) : List Str := f.N.take f.fn.ar
def scK (N P : List Str) (sc : Scope) : Bool :=
  decide (sc.kind = .function) && !sc.isCoroutine && !sc.isGenerator && decide N.Nodup && decide (N.take P.length = P) && P.all (fun x => decide (sc.names.lookup x = some .local) || decide (sc.names.lookup x = some .cell)) && sc.names.all (fun y => !decide (y.2 = .free))
theorem fnScope_ck {N P : List Str} {sc : Scope} (h : scK N P sc = true) : FnScope N P sc := by
  unfold scK at h
  simp only [Bool.and_eq_true, Bool.not_eq_true', decide_eq_true_eq, List.all_eq_true, Bool.or_eq_true, decide_eq_false_iff_not] at h
  obtain ⟨⟨⟨⟨⟨⟨h1, h2⟩, h3⟩, h4⟩, h5⟩, h6⟩, h7⟩ := h
  exact ⟨h1, h2, h3, h4, h5, h6, h7⟩
def ckFn (B : Tab) (f : FnC) : Bool := scK f.N f.ps (defScope f.st) && decide (f.fn.sz = f.N.length) && decide (f.fn.ar ≤ f.fn.sz) && ckSs B f.N (defScope f.st) (fun _ => true) f.fn.body (defBody f.st)
/-- what is known of the module -/
structure Facts (K : PySem.W.Frag) (mg : Str → Option Value) (B : Tab) (P : Prog) (fs : List FnC) : Prop where
  names : B.fns = fs.map (·.name)
  code : ∀ k, P.fn k = fs[k]?.map (·.fn)
  fn : ∀ f ∈ fs, ∃ a fd, mg f.name = some (.ref a) ∧ Fun K f.name f.name f.st a fd ∧ Binds K fd f.ps []
  free : ∀ x ∈ Pd.free, mg x = none
  glo : ∀ k x d, B.glo[k]? = some x → P.glo k = some d → ∃ u v, mg x = some u ∧ RelV v u ∧ ∀ m F, Rep K m F d v
section
variable {K : PySem.W.Frag} {m : List Addr} {F H : Hp} {g : G}
theorem Grow.nil {F' H' : Hp} {m' : List Addr} (gr : Grow [] F H m' F' H') : Grow [] F H [] F' H' := ⟨gr.ex, Pre.refl _, gr.keep, gr.apart, fun a h => by simp at h, gr.there⟩
theorem Sim.nil (e : Ex F H) : Sim K [] F [] H := ⟨e, rfl, fun i j a h => by simp at h, fun i a h => by simp at h, fun i a h => by simp at h, fun i xs h => by simp at h⟩
theorem back_ok {r : R} {v : V} {m' : List Addr} {F' H' : Hp} {Q : VK} (gr : Grow [] F H m' F' H') (s : Sim K m' F' g H') (rl : RelR K H m' F' H' r v) (h : Res K (RelP K) [] F H (back r g) Q) : Q v H' := by
  cases r with
  | fl xs =>
    have h : Res K (RelP K) [] F H (if D.pures xs = true then .ok (.fl xs) [] else .no) Q := h
    by_cases z : D.pures xs = true
    · rw [if_pos z] at h
      obtain ⟨a, vs, rfl, q1, q2, q3, q4, q5⟩ := rl
      exact Res.fin h gr.nil (Sim.nil s.ex) (show RelR K H [] F' H' (.fl xs) _ from ⟨a, vs, rfl, q1, q2, by simp, q4, q5.pure z⟩)
    · rw [if_neg z] at h; exact h.elim
  | d x =>
    have rl : Rep K m' F' x v := rl
    cases x with
    | obj i =>
      cases rl with
      | @obj _ a hm =>
        have h : Res K (RelP K) [] F H (match g[i]? with
          | some (.lst xs) => if D.pures xs then .ok (.fl xs) [] else .no
          | _ => .no) Q := h
        cases q : g[i]? with
        | none => rw [q] at h; exact h.elim
        | some c =>
          cases c with
          | dead => rw [q] at h; exact h.elim
          | lst xs =>
            rw [q] at h
            have h : Res K (RelP K) [] F H (if D.pures xs = true then .ok (.fl xs) [] else .no) Q := h
            by_cases z : D.pures xs = true
            · rw [if_pos z] at h
              obtain ⟨b, vs, u1, u2, u3⟩ := s.lst i xs q
              rw [hm] at u1
              cases u1
              have fr : H a = none := (gr.fresh a (List.mem_of_getElem? hm)).elim (fun q => by simp at q) id
              exact Res.fin h gr.nil (Sim.nil s.ex) (show RelR K H [] F' H' (.fl xs) _ from ⟨a, vs, rfl, fr, s.apart i a hm, by simp, u2, u3.pure z⟩)
            · rw [if_neg z] at h; exact h.elim
    | non => exact Res.fin h gr.nil (Sim.nil s.ex) (show RelR K H [] F' H' (.d .non) _ from rl.pure rfl)
    | bl b => exact Res.fin h gr.nil (Sim.nil s.ex) (show RelR K H [] F' H' (.d (.bl b)) _ from rl.pure rfl)
    | int b => exact Res.fin h gr.nil (Sim.nil s.ex) (show RelR K H [] F' H' (.d (.int b)) _ from rl.pure rfl)
    | str b => exact Res.fin h gr.nil (Sim.nil s.ex) (show RelR K H [] F' H' (.d (.str b)) _ from rl.pure rfl)
    | lst xs =>
      have h : Res K (RelP K) [] F H (if D.pure (.lst xs) = true then .ok (.d (.lst xs)) [] else .no) Q := h
      by_cases z : D.pure (.lst xs) = true
      · rw [if_pos z] at h
        exact Res.fin h gr.nil (Sim.nil s.ex) (show RelR K H [] F' H' (.d (.lst xs)) _ from rl.pure z)
      · rw [if_neg z] at h; exact h.elim
    | tup xs =>
      have h : Res K (RelP K) [] F H (if D.pure (.tup xs) = true then .ok (.d (.tup xs)) [] else .no) Q := h
      by_cases z : D.pure (.tup xs) = true
      · rw [if_pos z] at h
        exact Res.fin h gr.nil (Sim.nil s.ex) (show RelR K H [] F' H' (.d (.tup xs)) _ from rl.pure z)
      · rw [if_neg z] at h; exact h.elim
    | scr xs =>
      have h : Res K (RelP K) [] F H (if D.pure (.scr xs) = true then .ok (.d (.scr xs)) [] else .no) Q := h
      by_cases z : D.pure (.scr xs) = true
      · rw [if_pos z] at h
        exact Res.fin h gr.nil (Sim.nil s.ex) (show RelR K H [] F' H' (.d (.scr xs)) _ from rl.pure z)
      · rw [if_neg z] at h; exact h.elim
theorem start_ok {N : List Str} {ds : List D} {vs : List V} {n : Nat} (r : Reps K [] F ds vs) (hn : n = N.length - vs.length) : RepS K [] F (ds.map some ++ List.replicate n none) (L2.start N vs) := by
  subst hn
  have hl := r.length
  refine ⟨by simp [L2.start, hl], fun i d q => ?_⟩
  unfold L2.start
  by_cases hi : i < ds.length
  · rw [List.getElem?_append_left (by simpa using hi), List.getElem?_map] at q
    obtain ⟨e, h1, h2⟩ := Option.map_eq_some_iff.mp q
    cases h2
    obtain ⟨v, h3, h4⟩ := r.get h1
    exact ⟨v, by rw [List.getElem?_append_left (by simp; omega), List.getElem?_map, h3]; rfl, h4⟩
  · rw [List.getElem?_append_right (by simpa using Nat.le_of_not_lt hi), List.getElem?_replicate] at q
    split at q <;> cases q
end
section
variable {P : Program} {w : World} {K : PySem.W.Frag} {mg : Str → Option Value} {base : Heap} {B : Tab} {Pr : Prog} {fs : List FnC}
theorem room_units {k : Nat} {A : Around} (r : Room k A) : A.units + 65 < cLine := by
  have := r.un
  have e : cLine = 9900 := rfl
  omega
abbrev Calls (P : Program) (w : World) (K : PySem.W.Frag) (mg : Str → Option Value) (B : Tab) (Pr : Prog) (k : Nat) : Prop := ∀ (f : Nat) (x : Str), B.fns[f]? = some x →
    ∃ a fd ps, mg x = some (.ref a) ∧ PySem.W.keepIn K (.ref a) = true ∧ Binds K fd ps [] ∧ ∀ base, FnOk P w K mg base CX0 k a fd ps (spD K (run Pr k f))
/-- a def at its own record, the ones that it calls being known -/
theorem step_of (fa : Facts K mg B Pr fs) (ck : ∀ f ∈ fs, ckFn B f = true) (k f : Nat) (ih : Calls P w K mg B Pr k) (c : FnC) (h1 : fs[f]? = some c) {a : Addr} {fd : FuncData} (F1 : Fun K c.name c.name c.st a fd) (base : Heap) :
    FnOk P w K mg base CX0 (k + 1) a fd c.ps (spD K (run Pr (k + 1) f)) := by
  have hc := ck c (List.mem_of_getElem? h1)
  unfold ckFn at hc
  simp only [Bool.and_eq_true, decide_eq_true_eq] at hc
  obtain ⟨⟨⟨h2, h3⟩, h4⟩, h5⟩ := hc
  have S := fnScope_ck h2
  have hps : c.ps.length = c.fn.ar := by
    unfold FnC.ps
    rw [List.length_take]
    omega
  have hrun : ∀ ds, run Pr (k + 1) f ds = runFn ⟨Pr.glo, run Pr k⟩ c.fn ds := fun ds => by
    show (match Pr.fn f with | some fn => runFn ⟨Pr.glo, run Pr k⟩ fn ds | none => .no) = _
    rw [fa.code, h1]
    rfl
  refine F1.ok S (fun vs H Q E ⟨F, ds, ex, r, h⟩ => ?_) fun cdv A outer s H vs Q E hr ⟨F, ds, ex, r, h⟩ => ?_
  · rw [hrun] at h
    unfold runFn at h
    split at h
    · rename_i z; rw [← r.length, z.1, hps]
    · exact h.elim
  · have cx : Ctx B ⟨Pr.glo, run Pr k⟩ c.N (defScope c.st) (fun _ => true) (cxOf CX0 P w K mg base c.N c.name (defScope c.st) a cdv A outer s H E).nox :=
      ⟨rfl, S.nd, rfl, rfl, room_units hr, fa.free, fun _ _ => rfl, fa.glo, fun f' x' hf' => by
        obtain ⟨a', fd', ps', q1, q2, q3, q4⟩ := ih f' x' hf'
        exact ⟨a', fd', ps', k, q1, q2, q3, hr, q4 _⟩⟩
    refine ⟨_, soundSs cx S.kind PassesOwn.never c.fn.body h5, ?_⟩
    rw [hrun] at h
    unfold runFn at h
    split at h
    · rename_i z
      refine ⟨[], F, [], ds.map some ++ List.replicate (c.fn.sz - c.fn.ar) none, Sim.nil ex, start_ok r (by rw [h3, ← z.1, r.length]), ?_⟩
      cases q : execs ⟨Pr.glo, run Pr k⟩ c.fn.body (ds.map some ++ List.replicate (c.fn.sz - c.fn.ar) none) [] with
      | no => rw [q] at h; exact h.elim
      | ex e g => rw [q] at h; exact h.elim
      | ok p g =>
        obtain ⟨fl, l⟩ := p
        rw [q] at h
        cases fl with
        | nx =>
          have h : Res K (RelP K) [] F H (.ok (.d .non) []) Q := h
          exact fun σ' m' F' H' gr s rs => Res.fin (b := V.non) h gr.nil (Sim.nil s.ex) (show RelR K H [] F' H' (.d .non) .non from Rep.non)
        | rt r => exact fun v m' F' H' gr s rl => back_ok gr s rl h
    · exact h.elim
theorem level (fa : Facts K mg B Pr fs) (ck : ∀ f ∈ fs, ckFn B f = true) : ∀ k : Nat, Calls P w K mg B Pr k
  | 0, f, x, hx => by
    rw [fa.names, List.getElem?_map] at hx
    obtain ⟨c, h1, rfl⟩ := Option.map_eq_some_iff.mp hx
    obtain ⟨a, fd, m1, F1, b1⟩ := fa.fn c (List.mem_of_getElem? h1)
    exact ⟨a, fd, c.ps, m1, F1.kp, b1, fun base => ⟨fun vs H Q E ⟨F, ds, _, _, h⟩ => h.elim, fun A outer s H args us vs Q E _ _ _ _ ⟨F, ds, _, _, h⟩ => h.elim⟩⟩
  | k + 1, f, x, hx => by
    rw [fa.names, List.getElem?_map] at hx
    obtain ⟨c, h1, rfl⟩ := Option.map_eq_some_iff.mp hx
    obtain ⟨a, fd, m1, F1, b1⟩ := fa.fn c (List.mem_of_getElem? h1)
    exact ⟨a, fd, c.ps, m1, F1.kp, b1, step_of fa ck k f (level fa ck k) c h1 F1⟩
theorem level_of (fa : Facts K mg B Pr fs) (ck : ∀ f ∈ fs, ckFn B f = true) (k f : Nat) (c : FnC) (h1 : fs[f]? = some c) {a : Addr} {fd : FuncData} (F1 : Fun K c.name c.name c.st a fd) (base : Heap) :
    FnOk P w K mg base CX0 (k + 1) a fd c.ps (spD K (run Pr (k + 1) f)) := step_of fa ck k f (level fa ck k) c h1 F1 base
end
/-- a law's promise -/
def spLaw (K : PySem.W.Frag) : Sp := fun vs H Q _ => ∃ (a : Addr) (ns : List Int), vs = [.ref a] ∧ SqL K H a (ns.map V.int) ∧ ns.length ≤ 63 ∧ ∀ H', Q (.bl true) H'
theorem reps_ints {K : PySem.W.Frag} {F : Hp} : ∀ ns : List Int, Reps K [] F (ns.map .int) (ns.map V.int)
  | [] => .nil
  | n :: ns => .cons (.int n) (reps_ints ns)
section
variable {P : Program} {w : World} {K : PySem.W.Frag} {mg : Str → Option Value} {base : Heap} {B : Tab} {Pr : Prog} {fs : List FnC}
theorem law_ok (fa : Facts K mg B Pr fs) (ck : ∀ f ∈ fs, ckFn B f = true) {k f : Nat} {st : Stmt} {N : List Str} {fn : Fn} (hf : fs[f]? = some ⟨"law", st, "script" :: N, fn⟩) (h1 : fn.ar = 1)
    (law : ∀ ns : List Int, ns.length ≤ 63 → ∃ g, run Pr (k + 1) f [.scr (ns.map .int)] = .ok (.d (.bl true)) g) {a : Addr} {fd : FuncData} (F1 : Fun K "law" "law" st a fd) :
    ∀ base, FnOk P w K mg base CX0 (k + 1) a fd ["script"] (spLaw K) := by
  intro base
  have hl := level_of (P := P) (w := w) fa ck k f _ hf F1 base
  have hps : FnC.ps ⟨"law", st, "script" :: N, fn⟩ = [("script" : Str)] := by
    unfold FnC.ps
    show List.take fn.ar (("script" : Str) :: N) = [("script" : Str)]
    rw [h1]
    rfl
  rw [hps] at hl
  have key : ∀ vs H Q E, spLaw K vs H Q E → spD K (run Pr (k + 1) f) vs H Q E := fun vs H Q E ⟨l, ns, e, hS, hl, q⟩ => by
    subst e
    obtain ⟨g, e⟩ := law ns hl
    refine ⟨H, [.scr (ns.map .int)], Ex.refl _, .cons (.scr hS (reps_ints ns)) .nil, ?_⟩
    rw [e]
    intro v m' F' H' gr s rl
    cases (show Rep K [] F' (.bl true) v from rl)
    exact q H'
  exact ⟨fun vs H Q E h => hl.len vs H Q E (key _ _ _ _ h), fun A outer s H args us vs Q E hr e0 hb r h => hl.run A outer s H args us vs Q E hr e0 hb r (key _ _ _ _ h)⟩
/-! ### the facts of a module -/
theorem fn_mk {h : Heap} {c : FnC} (X : K.In h) (G : h.Ns mainGlobals mg) {f : Addr} {oc : Value} {od an : Option Addr} {osl : Array (Option Value)} {kV doc pm cdv ct : Value} (a : PySem.W.nsIn K mainGlobals c.name = some (some (.ref f)))
    (l : K.lookup f = some ⟨oc, od, .func (PySem.W.fnOf c.name c.name (defArgs c.st) (defBody c.st) (defScope c.st) .none kV doc pm an cdv ct), osl⟩) (cd : PySem.W.codeIn K cdv c.name = true) (k : PySem.W.keepIn K (.ref f) = true)
    (b : ∀ (kV doc pm : Value) (an : Option Addr) (cdv ct : Value) (us : List Value), us.length = c.ps.length → bindArgs (PySem.W.fnOf c.name c.name (defArgs c.st) (defBody c.st) (defScope c.st) .none kV doc pm an cdv ct) ⟨us, []⟩ = pure (c.ps.zip us)) :
    ∃ a fd, mg c.name = some (.ref a) ∧ Fun K c.name c.name c.st a fd ∧ Binds K fd c.ps [] :=
  have F := fun_mk (st := c.st) l cd k
  ⟨f, _, PySem.W.mg_of X G a, F, F.binds b⟩
/-- all of a list, as a chain -/
def AllFn (K : PySem.W.Frag) (mg : Str → Option Value) : List FnC → Prop
  | [] => True
  | c :: r => (∃ a fd, mg c.name = some (.ref a) ∧ Fun K c.name c.name c.st a fd ∧ Binds K fd c.ps []) ∧ AllFn K mg r
theorem AllFn.mem : ∀ {fs : List FnC}, AllFn K mg fs → ∀ f ∈ fs, ∃ a fd, mg f.name = some (.ref a) ∧ Fun K f.name f.name f.st a fd ∧ Binds K fd f.ps []
  | [], _, f, h => by simp at h
  | c :: r, h, f, hf => by
    rcases List.mem_cons.mp hf with e | hf
    · rw [e]; exact h.1
    · exact AllFn.mem h.2 f hf
theorem free_mk {h : Heap} (X : K.In h) (G : h.Ns mainGlobals mg) (z : Pd.free.all (fun x => PySem.W.nsIn K mainGlobals x == some none) = true) : ∀ x ∈ Pd.free, mg x = none := fun x hx => by
  rw [List.all_eq_true] at z
  have e := z x hx
  exact PySem.W.mg_none_of X G (by simpa using e)
end
end Pd
namespace K67
open Pd
def ss : List S → Ss
  | [] => .nil
  | s :: r => .cons s (ss r)
def c_check_of : Fn := ⟨1, 3,
  (ss [(.ret (.bin .mod (.bi .sum (.cons (.lc (.enum (.var 0)) (.t [1, 2]) .non (.bin .mul (.bin .add (.var 1) (.con (.int 1))) (.bi .ord (.cons (.var 2) .nil))) [1, 2]) .nil)) (.glo 0)))])⟩
def c_record : Fn := ⟨2, 2,
  (ss [(.ret (.fstr (.cons (.fmt (.var 0)) (.cons (.con (.str [44])) (.cons (.fmt (.call 0 (.cons (.var 1) .nil))) (.cons (.con (.str [44])) (.cons (.fmt (.var 1)) (.cons (.con (.str [10])) .nil))))))))])⟩
def c_journal_of : Fn := ⟨1, 3,
  (ss [(.ret (.met .join (.con (.str [])) (.cons (.lc (.enum (.var 0)) (.t [1, 2]) .non (.call 1 (.cons (.bin .add (.var 1) (.con (.int 1))) (.cons (.var 2) .nil))) [1, 2]) .nil)))])⟩
def c_line_in : Fn := ⟨2, 4,
  (ss [(.asg (.v 2) (.ix (.met .partition (.ix (.met .partition (.var 1) (.cons (.con (.str [44])) .nil)) (.con (.int 2))) (.cons (.con (.str [44])) .nil)) (.con (.int 2)))),
    (.ifS (.or (.cons (.cmp .gt (.bi .len (.cons (.var 2) .nil)) (.glo 1)) (.one (.not (.val (.bi .all (.cons (.lc (.seq (.var 2)) (.v 3) .non (.chain .le .le (.con (.str [32])) (.var 3) (.con (.str [126]))) [3]) .nil)))))))
      (ss [(.ret (.con .non))])
      (ss [])),
    (.ret (.ite (.cmp .eq (.call 1 (.cons (.var 0) (.cons (.var 2) .nil))) (.bin .add (.var 1) (.con (.str [10])))) (.var 2) (.con .non)))])⟩
def c_lines_in : Fn := ⟨1, 4,
  (ss [(.asg (.v 1) (.new (.lst .nil))),
    (.forS (.seq (.sl (.met .split (.var 0) (.cons (.con (.str [10])) .nil)) .non (.some (.neg 1)))) (.v 2)
      (ss [(.asg (.v 3) (.call 3 (.cons (.bin .add (.bi .len (.cons (.var 1) .nil)) (.con (.int 1))) (.cons (.var 2) .nil)))),
        (.ifS (.isN false (.var 3))
          (ss [(.ret (.var 1))])
          (ss [])),
        (.app (.var 1) (.var 3))])),
    (.ret (.var 1))])⟩
def c__law_cell : Fn := ⟨2, 2,
  (ss [(.ifS (.cmp .lt (.var 1) (.bi .len (.cons (.var 0) .nil)))
      (ss [(.ret (.bi .int (.cons (.ix (.var 0) (.var 1)) .nil)))])
      (ss [])),
    (.ret (.con (.int 0)))])⟩
def c__law_numbers : Fn := ⟨3, 6,
  (ss [(.asg (.v 3) (.new (.lst .nil))),
    (.ifS (.cmp .ge (.var 0) (.bin .pow (.con (.int 10)) (.con (.int 18))))
      (ss [(.forS (.range1 (.var 1)) (.v 4)
          (ss [(.app (.var 3) (.bin .mod (.bi .int (.cons (.var 0) .nil)) (.var 2))),
            (.asg (.v 0) (.bin .fdiv (.bi .int (.cons (.var 0) .nil)) (.var 2)))])),
        (.ret (.var 3))])
      (ss [])),
    (.forS (.range1 (.var 1)) (.v 4)
      (ss [(.asg (.v 5) (.bin .mod (.bi .int (.cons (.bin .add (.bin .add (.bin .mul (.var 0) (.con (.int 48271))) (.bin .mul (.var 4) (.con (.int 69621)))) (.con (.int 7))) .nil)) (.con (.int 2147483647)))),
        (.asg (.v 5) (.bin .mod (.bi .int (.cons (.bin .add (.bin .add (.bin .add (.bin .mul (.var 5) (.var 5)) (.bin .mul (.var 5) (.con (.int 40692)))) (.bin .mul (.var 4) (.con (.int 16807)))) (.con (.int 11))) .nil)) (.con (.int 2147483399)))),
        (.app (.var 3) (.bin .mod (.bi .int (.cons (.bin .fdiv (.var 5) (.con (.int 32))) .nil)) (.var 2)))])),
    (.ret (.var 3))])⟩
def c__law_same : Fn := ⟨2, 3,
  (ss [(.ifS (.val (.isi (.var 1) .list))
      (ss [(.ifS (.or (.cons (.not (.val (.isi (.var 0) .list))) (.one (.cmp .ne (.bi .len (.cons (.var 0) .nil)) (.bi .len (.cons (.var 1) .nil))))))
          (ss [(.ret (.con (.bl false)))])
          (ss []))])
      (ss [(.ifS (.val (.isi (.var 1) .tuple))
          (ss [(.ifS (.or (.cons (.not (.val (.isi (.var 0) .tuple))) (.one (.cmp .ne (.bi .len (.cons (.var 0) .nil)) (.bi .len (.cons (.var 1) .nil))))))
              (ss [(.ret (.con (.bl false)))])
              (ss []))])
          (ss [(.ifS (.isN false (.var 1))
              (ss [(.ret (.isN false (.var 0)))])
              (ss [(.ifS (.val (.isi (.var 1) .bool))
                  (ss [(.ret (.and (.isi (.var 0) .bool) (.cmp .eq (.var 0) (.var 1))))])
                  (ss [(.ifS (.val (.isi (.var 1) .int))
                      (ss [(.ret (.and (.isi (.var 0) .int) (.and (.not (.isi (.var 0) .bool)) (.cmp .eq (.var 0) (.var 1)))))])
                      (ss [(.ret (.and (.isi (.var 0) .str) (.cmp .eq (.var 0) (.var 1))))]))]))]))]))])),
    (.forS (.range1 (.bi .len (.cons (.var 1) .nil))) (.v 2)
      (ss [(.ifS (.not (.val (.call 7 (.cons (.ix (.var 0) (.var 2)) (.cons (.ix (.var 1) (.var 2)) .nil)))))
          (ss [(.ret (.con (.bl false)))])
          (ss []))])),
    (.ret (.con (.bl true)))])⟩
def c__law_check_of : Fn := ⟨1, 3,
  (ss [(.asg (.v 1) (.con (.int 0))),
    (.forS (.range1 (.bi .len (.cons (.var 0) .nil))) (.v 2)
      (ss [(.asg (.v 1) (.bin .add (.var 1) (.bin .mul (.bin .add (.var 2) (.con (.int 1))) (.bi .ord (.cons (.ix (.var 0) (.var 2)) .nil)))))])),
    (.ret (.bin .mod (.var 1) (.con (.int 971))))])⟩
def c__law_record : Fn := ⟨2, 2,
  (ss [(.ret (.bin .add (.bin .add (.bin .add (.bin .add (.bin .add (.bi .str (.cons (.var 0) .nil)) (.con (.str [44]))) (.bi .str (.cons (.call 8 (.cons (.var 1) .nil)) .nil))) (.con (.str [44]))) (.var 1)) (.con (.str [10]))))])⟩
def c__law_journal : Fn := ⟨1, 2,
  (ss [(.ret (.met .join (.con (.str [])) (.cons (.lc (.range1 (.bi .len (.cons (.var 0) .nil))) (.v 1) .non (.call 9 (.cons (.bin .add (.var 1) (.con (.int 1))) (.cons (.ix (.var 0) (.var 1)) .nil))) [1]) .nil)))])⟩
def c__law_records : Fn := ⟨1, 7,
  (ss [(.asg (.v 1) (.new (.lst .nil))),
    (.forS (.seq (.sl (.met .split (.var 0) (.cons (.con (.str [10])) .nil)) .non (.some (.neg 1)))) (.v 2)
      (ss [(.asg (.v 3) (.met .split (.var 2) (.cons (.con (.str [44])) .nil))),
        (.asg (.v 4) (.met .join (.con (.str [44])) (.cons (.sl (.var 3) (.some (.con (.int 2))) .non) .nil))),
        (.asg (.v 5) (.bi .len (.cons (.lc (.seq (.var 4)) (.v 6) (.some (.or (.cons (.cmp .lt (.var 6) (.con (.str [32]))) (.one (.cmp .gt (.var 6) (.con (.str [126]))))))) (.var 6) [6]) .nil))),
        (.ifS (.or (.cons (.cmp .lt (.bi .len (.cons (.var 3) .nil)) (.con (.int 3))) (.cons (.cmp .gt (.var 5) (.con (.int 0))) (.cons (.cmp .gt (.bi .len (.cons (.var 4) .nil)) (.con (.int 4100))) (.one (.cmp .ne (.call 9 (.cons (.bin .add (.bi .len (.cons (.var 1) .nil)) (.con (.int 1))) (.cons (.var 4) .nil))) (.bin .add (.var 2) (.con (.str [10])))))))))
          (ss [(.ret (.var 1))])
          (ss [])),
        (.app (.var 1) (.var 4))])),
    (.ret (.var 1))])⟩
def c__law_signs_drawn : Fn := ⟨2, 4,
  (ss [(.asg (.v 2) (.con (.str [32, 33, 34, 35, 36, 38, 39, 40, 41, 42, 43, 44, 45, 46, 47, 48, 49, 50, 51, 52, 53, 54, 55, 56, 57, 58, 59, 60, 61, 62, 63, 64, 65, 66, 67, 68, 69, 70, 71, 72, 73, 74, 75, 76, 77, 78, 79, 80, 81, 82, 83, 84, 85, 86, 87, 88, 89, 90, 91, 92, 93, 94, 95, 96, 97, 98, 99, 100, 101, 102, 103, 104, 105, 106, 107, 108, 109, 110, 111, 112, 113, 114, 115, 116, 117, 118, 119, 120, 121, 122, 123, 124, 125, 126]))),
    (.ret (.met .join (.con (.str [])) (.cons (.lc (.seq (.call 6 (.cons (.var 0) (.cons (.var 1) (.cons (.con (.int 94)) .nil))))) (.v 3) .non (.ix (.var 2) (.var 3)) [3]) .nil)))])⟩
def c__law_bent_string : Fn := ⟨3, 7,
  (ss [(.asg (.v 3) (.con (.str [48, 49, 50, 51, 52, 53, 54, 55, 56, 57, 32, 10, 44, 47, 97, 98, 99, 100, 111, 112, 114, 116, 117, 40, 41, 61, 124, 58]))),
    (.asg (.v 4) (.bin .mod (.ix (.var 1) (.var 2)) (.bin .add (.bi .len (.cons (.var 0) .nil)) (.con (.int 1))))),
    (.asg (.v 5) (.ix (.var 3) (.bin .mod (.ix (.var 1) (.bin .add (.var 2) (.con (.int 1)))) (.bi .len (.cons (.var 3) .nil))))),
    (.asg (.v 6) (.bin .mod (.ix (.var 1) (.bin .add (.var 2) (.con (.int 2)))) (.con (.int 7)))),
    (.ifS (.cmp .eq (.var 6) (.con (.int 0)))
      (ss [(.ret (.bin .add (.sl (.var 0) (.some (.con (.int 0))) (.some (.var 4))) (.sl (.var 0) (.some (.bin .add (.var 4) (.con (.int 1)))) .non)))])
      (ss [])),
    (.ifS (.cmp .eq (.var 6) (.con (.int 1)))
      (ss [(.ret (.bin .add (.bin .add (.sl (.var 0) (.some (.con (.int 0))) (.some (.var 4))) (.var 5)) (.sl (.var 0) (.some (.bin .add (.var 4) (.con (.int 1)))) .non)))])
      (ss [])),
    (.ifS (.cmp .eq (.var 6) (.con (.int 2)))
      (ss [(.ret (.sl (.var 0) (.some (.con (.int 0))) (.some (.var 4))))])
      (ss [])),
    (.ifS (.cmp .eq (.var 6) (.con (.int 3)))
      (ss [(.ret (.bin .add (.var 0) (.var 5)))])
      (ss [])),
    (.ifS (.cmp .eq (.var 6) (.con (.int 4)))
      (ss [(.ret (.bin .add (.var 5) (.var 0)))])
      (ss [])),
    (.ifS (.cmp .eq (.var 6) (.con (.int 5)))
      (ss [(.ret (.bin .add (.sl (.var 0) (.some (.con (.int 0))) (.some (.var 4))) (.sl (.var 0) (.some (.bin .mod (.ix (.var 1) (.bin .add (.var 2) (.con (.int 1)))) (.bin .add (.bi .len (.cons (.var 0) .nil)) (.con (.int 1))))) .non)))])
      (ss [])),
    (.ret (.bin .add (.bin .add (.sl (.var 0) (.some (.con (.int 0))) (.some (.var 4))) (.var 5)) (.sl (.var 0) (.some (.var 4)) .non)))])⟩
def c__law_spoilt : Fn := ⟨2, 11,
  (ss [(.asg (.v 2) (.call 10 (.cons (.var 0) .nil))),
    (.forS (.range1 (.bi .len (.cons (.var 0) .nil))) (.v 3)
      (ss [(.asg (.v 4) (.ix (.var 0) (.var 3))),
        (.ifS (.cmp .gt (.bi .len (.cons (.var 4) .nil)) (.con (.int 0)))
          (ss [(.asg (.v 5) (.bin .mod (.ix (.var 1) (.var 3)) (.bi .len (.cons (.var 4) .nil)))),
            (.asg (.v 6) (.call 10 (.cons (.sl (.var 0) (.some (.con (.int 0))) (.some (.var 3))) .nil))),
            (.asg (.v 7) (.call 9 (.cons (.bin .add (.var 3) (.con (.int 1))) (.cons (.var 4) .nil)))),
            (.asg (.v 8) (.sl (.var 2) (.some (.bin .add (.bi .len (.cons (.var 6) .nil)) (.bi .len (.cons (.var 7) .nil)))) .non)),
            (.asg (.v 9) (.sl (.var 7) (.some (.con (.int 0))) (.some (.bin .sub (.bin .sub (.bi .len (.cons (.var 7) .nil)) (.con (.int 1))) (.bi .len (.cons (.var 4) .nil)))))),
            (.forS (.seq (.bin .add (.call 12 (.cons (.ix (.var 1) (.bin .add (.var 3) (.con (.int 8)))) (.cons (.con (.int 3)) .nil))) (.con (.str [32, 126, 44])))) (.v 10)
              (ss [(.ifS (.and (.cons (.cmp .ne (.var 10) (.ix (.var 4) (.var 5))) (.one (.not (.val (.call 7 (.cons (.call 4 (.cons (.bin .add (.bin .add (.bin .add (.bin .add (.bin .add (.bin .add (.var 6) (.var 9)) (.sl (.var 4) (.some (.con (.int 0))) (.some (.var 5)))) (.var 10)) (.sl (.var 4) (.some (.bin .add (.var 5) (.con (.int 1)))) .non)) (.con (.str [10]))) (.var 8)) .nil)) (.cons (.sl (.var 0) (.some (.con (.int 0))) (.some (.var 3))) .nil))))))))
                  (ss [(.ret (.con (.bl false)))])
                  (ss []))])),
            (.ifS (.and (.cons (.cmp .lt (.bin .add (.var 5) (.con (.int 1))) (.bi .len (.cons (.var 4) .nil))) (.one (.cmp .ne (.ix (.var 4) (.var 5)) (.ix (.var 4) (.bin .add (.var 5) (.con (.int 1))))))))
              (ss [(.ifS (.not (.val (.call 7 (.cons (.call 4 (.cons (.bin .add (.bin .add (.bin .add (.bin .add (.bin .add (.bin .add (.bin .add (.var 6) (.var 9)) (.sl (.var 4) (.some (.con (.int 0))) (.some (.var 5)))) (.ix (.var 4) (.bin .add (.var 5) (.con (.int 1))))) (.ix (.var 4) (.var 5))) (.sl (.var 4) (.some (.bin .add (.var 5) (.con (.int 2)))) .non)) (.con (.str [10]))) (.var 8)) .nil)) (.cons (.sl (.var 0) (.some (.con (.int 0))) (.some (.var 3))) .nil)))))
                  (ss [(.ret (.con (.bl false)))])
                  (ss []))])
              (ss []))])
          (ss []))])),
    (.ret (.con (.bl true)))])⟩
def c__law_texts : Fn := ⟨2, 8,
  (ss [(.asg (.v 2) (.call 10 (.cons (.var 0) .nil))),
    (.asg (.v 3) (.bin .mod (.ix (.var 1) (.con (.int 0))) (.bin .add (.bi .len (.cons (.var 0) .nil)) (.con (.int 1))))),
    (.asg (.v 4) (.call 10 (.cons (.sl (.var 0) (.some (.con (.int 0))) (.some (.var 3))) .nil))),
    (.asg (.v 5) (.lc (.seq (.sl (.met .split (.var 2) (.cons (.con (.str [10])) .nil)) .non (.some (.neg 1)))) (.v 7) .non (.bin .add (.var 7) (.con (.str [10]))) [7])),
    (.asg (.v 6) (.new (.lst (.cons (.var 2) (.cons (.sl (.var 2) (.some (.con (.int 0))) (.some (.bin .mod (.ix (.var 1) (.con (.int 1))) (.bin .add (.bi .len (.cons (.var 2) .nil)) (.con (.int 1)))))) (.cons (.bin .add (.var 4) (.var 2)) (.cons (.bin .add (.var 2) (.con (.str [10]))) (.cons (.con (.str [])) (.cons (.sl (.var 4) (.some (.con (.int 0))) (.some (.bi .max (.cons (.con (.int 0)) (.cons (.bin .sub (.bi .len (.cons (.var 4) .nil)) (.con (.int 1))) .nil))))) (.cons (.met .join (.con (.str [])) (.cons (.rev (.var 5)) .nil)) (.cons (.met .join (.con (.str [])) (.cons (.bin .add (.sl (.var 5) (.some (.con (.int 0))) (.some (.var 3))) (.sl (.var 5) (.some (.bin .add (.var 3) (.con (.int 1)))) .non)) .nil)) .nil))))))))))),
    (.asg (.v 6) (.new (.bin .add (.var 6) (.lst (.cons (.bin .add (.bin .add (.var 4) (.con (.str [48]))) (.sl (.var 2) (.some (.bi .len (.cons (.var 4) .nil))) .non)) (.cons (.bin .add (.bin .add (.var 4) (.con (.str [32]))) (.sl (.var 2) (.some (.bi .len (.cons (.var 4) .nil))) .non)) (.cons (.bin .add (.bin .add (.var 4) (.bi .str (.cons (.bin .add (.var 3) (.con (.int 1))) .nil))) (.con (.str [44, 48, 44, 10]))) (.cons (.con (.str [49, 44, 48, 44, 10])) (.cons (.con (.str [49, 44, 48, 10])) (.cons (.con (.str [49, 44, 57, 55, 44, 97, 10])) (.cons (.con (.str [49, 44, 48, 57, 55, 44, 97, 10])) (.cons (.con (.str [49, 44, 57, 56, 44, 97, 10])) (.cons (.con (.str [48, 49, 44, 57, 55, 44, 97, 10])) .nil))))))))))))),
    (.asg (.v 6) (.new (.bin .add (.var 6) (.lst (.cons (.con (.str [50, 44, 57, 55, 44, 97, 10])) (.cons (.con (.str [49, 44, 50, 57, 51, 44, 97, 98, 10])) (.cons (.con (.str [49, 44, 57, 55, 44, 97])) (.cons (.con (.str [49, 44, 57, 55, 44, 44, 97, 10])) (.cons (.con (.str [44, 44, 10])) .nil))))))))),
    (.asg (.v 6) (.new (.bin .add (.var 6) (.lst (.cons (.met .join (.con (.str [])) (.cons (.bin .add (.bin .add (.sl (.var 5) (.some (.con (.int 0))) (.some (.var 3))) (.sl (.var 5) (.some (.var 3)) (.some (.bin .add (.var 3) (.con (.int 1)))))) (.sl (.var 5) (.some (.var 3)) .non)) .nil)) (.cons (.met .join (.con (.str [])) (.cons (.bin .add (.bin .add (.bin .add (.sl (.var 5) (.some (.con (.int 0))) (.some (.var 3))) (.sl (.var 5) (.some (.bin .add (.var 3) (.con (.int 1)))) (.some (.bin .add (.var 3) (.con (.int 2)))))) (.sl (.var 5) (.some (.var 3)) (.some (.bin .add (.var 3) (.con (.int 1)))))) (.sl (.var 5) (.some (.bin .add (.var 3) (.con (.int 2)))) .non)) .nil)) .nil)))))),
    (.app (.var 6) (.bin .add (.bin .add (.var 4) (.call 9 (.cons (.bin .add (.var 3) (.con (.int 1))) (.cons (.bin .mul (.con (.str [97])) (.bin .add (.con (.int 4099)) (.bin .mod (.ix (.var 1) (.con (.int 3))) (.con (.int 3))))) .nil)))) (.call 9 (.cons (.bin .add (.var 3) (.con (.int 2))) (.cons (.con (.str [98])) .nil))))),
    (.ret (.bin .add (.var 6) (.lst (.cons (.call 13 (.cons (.var 2) (.cons (.var 1) (.cons (.con (.int 2)) .nil)))) (.cons (.call 13 (.cons (.var 2) (.cons (.var 1) (.cons (.con (.int 5)) .nil)))) (.cons (.call 13 (.cons (.var 2) (.cons (.var 1) (.cons (.con (.int 8)) .nil)))) .nil))))))])⟩
def c_law : Fn := ⟨1, 9,
  (ss [(.asg (.v 1) (.call 6 (.cons (.call 5 (.cons (.var 0) (.cons (.con (.int 0)) .nil))) (.cons (.con (.int 40)) (.cons (.con (.int 5040)) .nil))))),
    (.asg (.v 2) (.new (.lc (.range1 (.bin .add (.con (.int 1)) (.bin .mod (.ix (.var 1) (.con (.int 0))) (.con (.int 8))))) (.v 8) .non (.call 12 (.cons (.bin .add (.bin .mul (.ix (.var 1) (.var 8)) (.con (.int 7919))) (.var 8)) (.cons (.ix (.lst (.cons (.bin .mod (.ix (.var 1) (.bin .add (.con (.int 8)) (.var 8))) (.con (.int 12))) (.cons (.bin .mod (.ix (.var 1) (.bin .add (.con (.int 8)) (.var 8))) (.con (.int 90))) (.cons (.con (.int 0)) .nil)))) (.bin .mod (.ix (.var 1) (.var 8)) (.con (.int 3)))) .nil))) [8]))),
    (.ifS (.cmp .eq (.bin .mod (.ix (.var 1) (.con (.int 20))) (.con (.int 2))) (.con (.int 0)))
      (ss [(.setIx (.var 2) (.con (.int 0)) (.bin .add (.bin .add (.con (.str [44, 32, 97, 44, 98])) (.ix (.var 2) (.con (.int 0)))) (.con (.str [32, 44]))))])
      (ss [])),
    (.asg (.v 3) (.bi .list (.cons (.var 2) .nil))),
    (.forS (.seq (.bin .add (.var 2) (.lst (.cons (.con (.str [97, 98])) (.cons (.con (.str [97])) (.cons (.con (.str [])) .nil)))))) (.v 4)
      (ss [(.ifS (.not (.val (.call 7 (.cons (.call 0 (.cons (.var 4) .nil)) (.cons (.call 8 (.cons (.var 4) .nil)) .nil)))))
          (ss [(.ret (.con (.bl false)))])
          (ss []))])),
    (.ifS (.or (.cons (.not (.val (.call 7 (.cons (.lst (.cons (.call 2 (.cons (.bi .list (.cons (.var 2) .nil)) .nil)) (.cons (.call 2 (.cons (.lst .nil) .nil)) .nil))) (.cons (.lst (.cons (.call 10 (.cons (.var 2) .nil)) (.cons (.con (.str [])) .nil))) .nil))))) (.cons (.cmp .ne (.var 2) (.var 3)) (.one (.not (.val (.call 14 (.cons (.var 2) (.cons (.var 1) .nil)))))))))
      (ss [(.ret (.con (.bl false)))])
      (ss [])),
    (.forS (.seq (.call 15 (.cons (.var 2) (.cons (.sl (.var 1) (.some (.con (.int 21))) .non) .nil)))) (.v 5)
      (ss [(.forS (.range1 (.con (.int 2))) (.v 6)
          (ss [(.asg (.v 7) (.new (.call 4 (.cons (.var 5) .nil)))),
            (.ifS (.not (.val (.call 7 (.cons (.var 7) (.cons (.call 11 (.cons (.var 5) .nil)) .nil)))))
              (ss [(.ret (.con (.bl false)))])
              (ss [])),
            (.app (.var 7) (.con (.str [99, 104, 97, 110, 103, 101, 100])))]))])),
    (.ret (.cmp .eq (.call 0 (.cons (.con (.str [97, 98])) .nil)) (.con (.int 293))))])⟩
def glos : List D := [.int 971, .int 4100]
def codes : List Fn := [c_check_of, c_record, c_journal_of, c_line_in, c_lines_in, c__law_cell, c__law_numbers, c__law_same, c__law_check_of, c__law_record, c__law_journal, c__law_records, c__law_signs_drawn, c__law_bent_string, c__law_spoilt, c__law_texts, c_law]
def Pr : Prog := ⟨fun k => glos[k]?, fun k => codes[k]?⟩
end K67
namespace K67
open Pd
def top (i : Nat) : PySem.Stmt := PySem.Challenge.pw_plainproofs_k67_whole_journals_and_their.main.body.getD i (.Pass ⟨0, 0, 0, 0⟩)
def fs : List FnC := [
  ⟨"check_of", top 3, ["line", "k", "sign"], c_check_of⟩,
  ⟨"record", top 4, ["number", "line"], c_record⟩,
  ⟨"journal_of", top 5, ["lines", "k", "line"], c_journal_of⟩,
  ⟨"line_in", top 6, ["number", "row", "line", "sign"], c_line_in⟩,
  ⟨"lines_in", top 7, ["string", "found", "row", "line"], c_lines_in⟩,
  ⟨"_law_cell", top 9, ["script", "k"], c__law_cell⟩,
  ⟨"_law_numbers", top 10, ["cell", "count", "limit", "found", "k", "mixed"], c__law_numbers⟩,
  ⟨"_law_same", top 11, ["told", "due", "k"], c__law_same⟩,
  ⟨"_law_check_of", top 12, ["line", "total", "k"], c__law_check_of⟩,
  ⟨"_law_record", top 13, ["number", "line"], c__law_record⟩,
  ⟨"_law_journal", top 14, ["lines", "k"], c__law_journal⟩,
  ⟨"_law_records", top 15, ["text", "found", "row", "words", "line", "bad", "sign"], c__law_records⟩,
  ⟨"_law_signs_drawn", top 16, ["draw", "count", "known", "number"], c__law_signs_drawn⟩,
  ⟨"_law_bent_string", top 17, ["text", "draws", "at", "signs", "spot", "sign", "kind"], c__law_bent_string⟩,
  ⟨"_law_spoilt", top 18, ["lines", "draws", "text", "k", "line", "spot", "before", "row", "rest", "head", "sign"], c__law_spoilt⟩,
  ⟨"_law_texts", top 19, ["lines", "draws", "text", "at", "rest", "rows", "found", "row"], c__law_texts⟩,
  ⟨"law", top 20, ["script", "more", "lines", "kept", "line", "text", "turn", "told", "k"], c_law⟩]
def B : Tab := ⟨["check_of", "record", "journal_of", "line_in", "lines_in", "_law_cell", "_law_numbers", "_law_same", "_law_check_of", "_law_record", "_law_journal", "_law_records", "_law_signs_drawn", "_law_bent_string", "_law_spoilt", "_law_texts", "law"], ["MODULUS", "MOST_SIGNS"]⟩
end K67
namespace K67
open Pd
theorem ck : fs.all (ckFn B) = true := by decide +kernel
theorem ckAll : ∀ f ∈ fs, ckFn B f = true := by
  have h := ck
  rw [List.all_eq_true] at h
  exact h
end K67
/-! Pd15: reckoning with the interpreter. -/
namespace Pd
theorem lc_gen {α : Type} {f : D → G → O (Option D)} {same : G → Bool} {g : G} (hs : same g = true) (mk out : α → D) : ∀ (xs : List α) (acc : List D), (∀ a ∈ xs, f (mk a) g = .ok (some (out a)) g) →
    lcLoop f same acc (xs.map mk) g = .ok (.fl (acc ++ xs.map out)) g
  | [], acc, h => by
    show (if same g = true then O.ok (R.fl acc) g else .no) = _
    rw [if_pos hs, List.map_nil, List.append_nil]
  | x :: xs, acc, h => by
    show (if same g = true then (f (mk x) g).bind fun y g => lcLoop f same (match y with
      | some y => acc ++ [y]
      | none => acc) (xs.map mk) g else .no) = _
    rw [if_pos hs, h x List.mem_cons_self, O.bind_ok]
    show lcLoop f same (acc ++ [out x]) (xs.map mk) g = _
    rw [lc_gen hs mk out xs _ fun a ha => h a (List.mem_cons_of_mem _ ha), List.append_assoc]
    rfl
theorem lc_fil {α : Type} {f : D → G → O (Option D)} {same : G → Bool} {g : G} (hs : same g = true) (mk out : α → D) (p : α → Bool) : ∀ (xs : List α) (acc : List D), (∀ a ∈ xs, f (mk a) g = .ok (if p a = true then some (out a) else none) g) →
    lcLoop f same acc (xs.map mk) g = .ok (.fl (acc ++ (xs.filter p).map out)) g
  | [], acc, h => by
    show (if same g = true then O.ok (R.fl acc) g else .no) = _
    rw [if_pos hs, List.filter_nil, List.map_nil, List.append_nil]
  | x :: xs, acc, h => by
    show (if same g = true then (f (mk x) g).bind fun y g => lcLoop f same (match y with
      | some y => acc ++ [y]
      | none => acc) (xs.map mk) g else .no) = _
    rw [if_pos hs, h x List.mem_cons_self, O.bind_ok]
    have ih := fun acc => lc_fil hs mk out p xs acc fun a ha => h a (List.mem_cons_of_mem _ ha)
    by_cases hp : p x = true
    · rw [if_pos hp, List.filter_cons_of_pos hp]
      show lcLoop f same (acc ++ [out x]) (xs.map mk) g = _
      rw [ih, List.append_assoc]
      rfl
    · rw [if_neg hp, List.filter_cons_of_neg hp]
      exact ih acc
/-- a for loop that leaves at no turn: P tells the slots and the store behind i turns -/
theorem for_gen {α : Type} {body : D → Lo → G → O (Fl × Lo)} {same : G → Bool} (mk : α → D) (P : List α → Lo → G → Prop) (Q : O (Fl × Lo) → Prop) (hs : ∀ r l g, P r l g → same g = true)
    (hb : ∀ a r l g, P (a :: r) l g → (∃ l' g', body (mk a) l g = .ok (.nx, l') g' ∧ P r l' g') ∨ ∃ x l' g', body (mk a) l g = .ok (.rt x, l') g' ∧ Q (.ok (.rt x, l') g')) (he : ∀ l g, P [] l g → Q (.ok (.nx, l) g)) :
    ∀ (xs : List α) (l : Lo) (g : G), P xs l g → Q (forLoop body same (xs.map mk) l g)
  | [], l, g, h => by
    show Q (if same g = true then .ok (.nx, l) g else .no)
    rw [if_pos (hs _ _ _ h)]
    exact he l g h
  | a :: r, l, g, h => by
    show Q (if same g = true then (body (mk a) l g).bind fun (f, l) g => (match f with
      | .nx => forLoop body same (r.map mk) l g
      | .rt r => .ok (.rt r, l) g) else .no)
    rw [if_pos (hs _ _ _ h)]
    rcases hb a r l g h with ⟨l', g', e, h'⟩ | ⟨x, l', g', e, h'⟩
    · rw [e]
      exact for_gen mk P Q hs hb he r l' g' h'
    · rw [e]
      exact h'
theorem enum_zip {α : Type} (mk : α → D) : ∀ (xs : List α) (k : Nat), enumD k (xs.map mk) = (xs.zipIdx k).map fun p => .tup [.int (p.2 : Int), mk p.1]
  | [], k => rfl
  | x :: xs, k => by
    rw [List.zipIdx_cons, List.map_cons, List.map_cons, enumD, enum_zip mk xs (k + 1)]
theorem dInts_map : ∀ l : List Int, dInts (l.map .int) = some l
  | [] => rfl
  | x :: l => by
    show (dInts (l.map .int)).map (x :: ·) = _
    rw [dInts_map l]
    rfl
theorem dStrs_map : ∀ l : List (List Nat), dStrs (l.map .str) = some l
  | [] => rfl
  | x :: l => by
    show (dStrs (l.map .str)).map (x :: ·) = _
    rw [dStrs_map l]
    rfl
theorem dBls_map : ∀ l : List Bool, dBls (l.map .bl) = some l
  | [] => rfl
  | x :: l => by
    show (dBls (l.map .bl)).map (x :: ·) = _
    rw [dBls_map l]
    rfl
theorem short {α : Type} {l : List α} (h : l.length ≤ LIM) : isShort LIM l = true := (isShort_iff _ _).mpr h
theorem enumD_length : ∀ (k : Nat) (xs : List D), (enumD k xs).length = xs.length
  | k, [] => rfl
  | k, x :: xs => by rw [enumD, List.length_cons, enumD_length (k + 1) xs, List.length_cons]
end Pd
namespace Pd
theorem for_all {body : D → Lo → G → O (Fl × Lo)} {same : G → Bool} (xs : List D) (P : Nat → Lo → G → Prop) (Q : O (Fl × Lo) → Prop) (hs : ∀ i l g, P i l g → same g = true)
    (hb : ∀ i x l g, xs[i]? = some x → P i l g → (∃ l' g', body x l g = .ok (.nx, l') g' ∧ P (i + 1) l' g') ∨ ∃ r l' g', body x l g = .ok (.rt r, l') g' ∧ Q (.ok (.rt r, l') g')) (he : ∀ l g, P xs.length l g → Q (.ok (.nx, l) g)) :
    ∀ (n i : Nat) (l : Lo) (g : G), n = xs.length - i → i ≤ xs.length → P i l g → Q (forLoop body same (xs.drop i) l g)
  | 0, i, l, g, hn, hi, h => by
    have e : i = xs.length := by omega
    subst e
    rw [List.drop_length]
    show Q (if same g = true then .ok (.nx, l) g else .no)
    rw [if_pos (hs _ _ _ h)]
    exact he l g h
  | n + 1, i, l, g, hn, hi, h => by
    have hl : i < xs.length := by omega
    rw [List.drop_eq_getElem_cons hl]
    show Q (if same g = true then (body (xs[i]) l g).bind fun (f, l) g => (match f with
      | .nx => forLoop body same (xs.drop (i + 1)) l g
      | .rt r => .ok (.rt r, l) g) else .no)
    rw [if_pos (hs _ _ _ h)]
    rcases hb i xs[i] l g (List.getElem?_eq_getElem hl) h with ⟨l', g', e, h'⟩ | ⟨x, l', g', e, h'⟩
    · rw [e]
      exact for_all xs P Q hs hb he n (i + 1) l' g' (by omega) hl h'
    · rw [e]
      exact h'
theorem rangeD_len (lo : Int) (n : Nat) : (rangeD lo n).length = n := by simp [rangeD]
theorem rangeD_get {lo : Int} {n i : Nat} {x : D} (h : (rangeD lo n)[i]? = some x) : i < n ∧ x = .int (lo + i) := by
  unfold rangeD at h
  rw [List.getElem?_map] at h
  obtain ⟨c, h1, h2⟩ := Option.map_eq_some_iff.mp h
  obtain ⟨h3, h4⟩ := List.getElem?_eq_some_iff.mp h1
  simp at h3 h4
  subst h4
  exact ⟨h3, h2.symm⟩
/-- a loop over a range -/
theorem for_rng {body : D → Lo → G → O (Fl × Lo)} {same : G → Bool} {lo : Int} {n : Nat} (P : Nat → Lo → G → Prop) (Q : O (Fl × Lo) → Prop) (hs : ∀ i l g, P i l g → same g = true)
    (hb : ∀ i l g, i < n → P i l g → (∃ l' g', body (.int (lo + i)) l g = .ok (.nx, l') g' ∧ P (i + 1) l' g') ∨ ∃ r l' g', body (.int (lo + i)) l g = .ok (.rt r, l') g' ∧ Q (.ok (.rt r, l') g')) (he : ∀ l g, P n l g → Q (.ok (.nx, l) g)) {l : Lo} {g : G} (h : P 0 l g) :
    Q (forLoop body same (rangeD lo n) l g) := by
  have q := for_all (body := body) (same := same) (rangeD lo n) P Q hs (fun i x l g hx hp => by
    obtain ⟨h1, rfl⟩ := rangeD_get hx
    exact hb i l g h1 hp) (fun l g hp => he l g (by rw [rangeD_len] at hp; exact hp)) ((rangeD lo n).length - 0) 0 l g rfl (Nat.zero_le _) h
  rwa [List.drop_zero] at q
/-- a loop over a list -/
theorem for_lst {body : D → Lo → G → O (Fl × Lo)} {same : G → Bool} {xs : List D} (P : Nat → Lo → G → Prop) (Q : O (Fl × Lo) → Prop) (hs : ∀ i l g, P i l g → same g = true)
    (hb : ∀ i x l g, xs[i]? = some x → P i l g → (∃ l' g', body x l g = .ok (.nx, l') g' ∧ P (i + 1) l' g') ∨ ∃ r l' g', body x l g = .ok (.rt r, l') g' ∧ Q (.ok (.rt r, l') g')) (he : ∀ l g, P xs.length l g → Q (.ok (.nx, l) g)) {l : Lo} {g : G} (h : P 0 l g) :
    Q (forLoop body same xs l g) := by
  have q := for_all (body := body) (same := same) xs P Q hs hb he (xs.length - 0) 0 l g rfl (Nat.zero_le _) h
  rwa [List.drop_zero] at q
theorem mul_int {i j : Int} (h : i.natAbs < 18446744073709551616 ∨ j.natAbs < 18446744073709551616) : binop .mul (.int i) (.int j) = some (.d (.int (i * j))) := if_pos h
theorem add_int {i j : Int} : binop .add (.int i) (.int j) = some (.d (.int (i + j))) := rfl
theorem sub_int {i j : Int} : binop .sub (.int i) (.int j) = some (.d (.int (i - j))) := rfl
theorem mod_int {i j : Int} (h : 0 < j) : binop .mod (.int i) (.int j) = some (.d (.int (i % j))) := if_pos h
theorem fdiv_int {i j : Int} (h : 0 < j ∧ j < 1073741824) : binop .fdiv (.int i) (.int j) = some (.d (.int (i / j))) := if_pos h
theorem add_str {a b : List Nat} (h : a.length + b.length ≤ LIM) : binop .add (.str a) (.str b) = some (.d (.str (a ++ b))) := if_pos (short (by rw [List.length_append]; exact h))
theorem add_lst {a b : List D} (h : a.length + b.length ≤ LIM) : binop .add (.lst a) (.lst b) = some (.fl (a ++ b)) := if_pos (short (by rw [List.length_append]; exact h))
theorem len_str (s : List Nat) : bi .len [.str s] = some (.d (.int s.length)) := rfl
theorem len_lst (s : List D) : bi .len [.lst s] = some (.d (.int s.length)) := rfl
theorem len_tup (s : List D) : bi .len [.tup s] = some (.d (.int s.length)) := rfl
theorem ord_one (c : Nat) : bi .ord [.str [c]] = some (.d (.int c)) := rfl
theorem int_int (i : Int) : bi .int [.int i] = some (.d (.int i)) := rfl
theorem at_nat {α : Type} {xs : List α} {i : Nat} {x : α} (h : xs[i]? = some x) : atD xs (i : Int) = some x := by
  have hl := (List.getElem?_eq_some_iff.mp h).1
  unfold atD ixOf
  rw [if_pos (by omega), if_pos (by omega)]
  simpa using h
theorem ix_str {s : List Nat} {i c : Nat} (h : s[i]? = some c) : ixop (.str s) (.int (i : Int)) = some (.str [c]) := by
  show (atD s (i : Int)).map _ = _
  rw [at_nat h]
  rfl
theorem ix_lst {xs : List D} {i : Nat} {x : D} (h : xs[i]? = some x) : ixop (.lst xs) (.int (i : Int)) = some x := at_nat h
end Pd
/-! Pd16: that an expression gives a text, a number, a list of texts, with bounds; not which. -/
namespace Pd
/-- a text of at most n signs -/
def BS (E : Env) (c : C) (l : Lo) (g : G) (n : Nat) : Prop := ∃ s : List Nat, ev E c l g = .ok (.d (.str s)) g ∧ s.length ≤ n
def BN (E : Env) (c : C) (l : Lo) (g : G) : Prop := ∃ i : Int, ev E c l g = .ok (.d (.int i)) g
def BP (E : Env) (c : C) (l : Lo) (g : G) : Prop := ∃ i : Int, 0 < i ∧ ev E c l g = .ok (.d (.int i)) g
def BO (E : Env) (c : Co) (l : Lo) (g : G) : Prop := ∃ i : Option Int, evo E c l g = .ok i g
def tot (xs : List (List Nat)) : Nat := (xs.map List.length).sum
/-- a list of at most n texts, of t signs in all -/
def BL (E : Env) (c : C) (l : Lo) (g : G) (n t : Nat) : Prop := ∃ (r : R) (xs : List (List Nat)), ev E c l g = .ok r g ∧ look g r.toD = .lst (xs.map .str) ∧ xs.length ≤ n ∧ tot xs ≤ t
/-- arguments -/
def BA (E : Env) (c : Cs) (l : Lo) (g : G) (n t : Nat) : Prop := ∃ xs : List (List Nat), evs E c l g = .ok (xs.map .str) g ∧ xs.length = n ∧ tot xs ≤ t
section
variable {E : Env} {l : Lo} {g : G} {a b c : C} {n m t u : Nat}
theorem BS.le (h : BS E a l g n) (q : n ≤ m) : BS E a l g m := let ⟨s, h1, h2⟩ := h; ⟨s, h1, Nat.le_trans h2 q⟩
theorem BP.i (h : BP E a l g) : BN E a l g := let ⟨i, _, h1⟩ := h; ⟨i, h1⟩
theorem bs_var {i : Nat} {s : List Nat} (h : l[i]? = some (some (.str s))) (hn : s.length ≤ n) : BS E (.var i) l g n := ⟨s, by rw [ev, h], hn⟩
theorem bs_con {s : List Nat} (hn : s.length ≤ n) : BS E (.con (.str s)) l g n := ⟨s, by rw [ev], hn⟩
theorem bi_con {i : Int} : BN E (.con (.int i)) l g := ⟨i, by rw [ev]⟩
theorem bp_con {i : Int} (h : 0 < i) : BP E (.con (.int i)) l g := ⟨i, h, by rw [ev]⟩
theorem bi_var {i : Nat} {v : Int} (h : l[i]? = some (some (.int v))) : BN E (.var i) l g := ⟨v, by rw [ev, h]⟩
theorem bi_add (ha : BN E a l g) (hb : BN E b l g) : BN E (.bin .add a b) l g := by
  obtain ⟨i, h1⟩ := ha
  obtain ⟨j, h2⟩ := hb
  exact ⟨i + j, by rw [ev, h1, O.bind_ok, h2]; rfl⟩
theorem bi_sub (ha : BN E a l g) (hb : BN E b l g) : BN E (.bin .sub a b) l g := by
  obtain ⟨i, h1⟩ := ha
  obtain ⟨j, h2⟩ := hb
  exact ⟨i - j, by rw [ev, h1, O.bind_ok, h2]; rfl⟩
theorem bi_mod (ha : BN E a l g) (hb : BP E b l g) : BN E (.bin .mod a b) l g := by
  obtain ⟨i, h1⟩ := ha
  obtain ⟨j, h0, h2⟩ := hb
  refine ⟨i % j, ?_⟩
  rw [ev, h1, O.bind_ok, h2]
  show O.of (binop .mod (.int i) (.int j)) g = _
  rw [mod_int h0]
  rfl
theorem bi_len (ha : BS E a l g n) : BN E (.bi .len (.cons a .nil)) l g := by
  obtain ⟨s, h1, h2⟩ := ha
  exact ⟨s.length, by rw [ev, evs, h1]; rfl⟩
theorem bp_len1 (ha : BS E a l g n) : BP E (.bin .add (.bi .len (.cons a .nil)) (.con (.int 1))) l g := by
  obtain ⟨s, h1, h2⟩ := ha
  exact ⟨s.length + 1, by omega, by rw [ev, ev, evs, h1]; rfl⟩
theorem bi_lenL (ha : BL E a l g n t) : BN E (.bi .len (.cons a .nil)) l g := by
  obtain ⟨r, xs, h1, h2, h3, h4⟩ := ha
  refine ⟨xs.length, ?_⟩
  rw [ev, evs, h1]
  show O.of (bi .len [look g r.toD]) g = _
  rw [h2, len_lst, List.length_map]
  rfl
theorem bp_lenL1 (ha : BL E a l g n t) : BP E (.bin .add (.bi .len (.cons a .nil)) (.con (.int 1))) l g := by
  obtain ⟨r, xs, h1, h2, h3, h4⟩ := ha
  refine ⟨xs.length + 1, by omega, ?_⟩
  rw [ev, ev, evs, h1]
  show O.bind (O.of (bi .len [look g r.toD]) g) _ = _
  rw [h2, len_lst, List.length_map]
  rfl
theorem bi_max (ha : BN E a l g) (hb : BN E b l g) : BN E (.bi .max (.cons a (.cons b .nil))) l g := by
  obtain ⟨i, h1⟩ := ha
  obtain ⟨j, h2⟩ := hb
  exact ⟨if j > i then j else i, by rw [ev, evs, h1, O.bind_ok, evs, h2]; rfl⟩
theorem bi_draw {i k : Nat} {ds : List Nat} (h : l[i]? = some (some (.lst (ds.map fun (x : Nat) => D.int (x : Int))))) (hk : k < ds.length) {j : Int} (hj : j = (k : Int)) : BN E (.ix (.var i) (.con (.int j))) l g := by
  subst hj
  refine ⟨ds[k], ?_⟩
  have e0 : ev E (.var i) l g = .ok (.d (.lst (ds.map fun (x : Nat) => D.int (x : Int)))) g := by rw [ev, h]
  have e1 : ev E (.con (.int (k : Int))) l g = .ok (.d (.int (k : Int))) g := by rw [ev]
  rw [ev, e0, O.bind_ok, e1, O.bind_ok]
  show O.of ((ixop (.lst (ds.map fun (x : Nat) => D.int (x : Int))) (.int (k : Int))).map R.d) g = _
  rw [ix_lst (x := .int (ds[k] : Nat)) (by rw [List.getElem?_map, List.getElem?_eq_getElem hk]; rfl)]
  rfl
theorem bo_non : BO E .non l g := ⟨none, by rw [evo]⟩
theorem bo_some (h : BN E a l g) : BO E (.some a) l g := by
  obtain ⟨i, h1⟩ := h
  exact ⟨some i, by rw [evo, h1]; rfl⟩
theorem bs_add (ha : BS E a l g n) (hb : BS E b l g m) (h : n + m ≤ LIM) : BS E (.bin .add a b) l g (n + m) := by
  obtain ⟨s, h1, h2⟩ := ha
  obtain ⟨t, h3, h4⟩ := hb
  refine ⟨s ++ t, ?_, by rw [List.length_append]; omega⟩
  rw [ev, h1, O.bind_ok, h3]
  show O.of (binop .add (.str s) (.str t)) g = _
  rw [add_str (by omega)]
  rfl
theorem cut_le {α : Type} (xs : List α) (lo hi : Option Int) : (cut xs lo hi).length ≤ xs.length := by
  unfold cut
  rw [List.length_take, List.length_drop]
  omega
theorem bs_sl {lo hi : Co} (ha : BS E a l g n) (hl : BO E lo l g) (hh : BO E hi l g) : BS E (.sl a lo hi) l g n := by
  obtain ⟨s, h1, h2⟩ := ha
  obtain ⟨i, h3⟩ := hl
  obtain ⟨j, h4⟩ := hh
  refine ⟨cut s i j, ?_, Nat.le_trans (cut_le _ _ _) h2⟩
  rw [ev, h1, O.bind_ok, h3, O.bind_ok, h4]
  rfl
theorem tot_app (xs ys : List (List Nat)) : tot (xs ++ ys) = tot xs + tot ys := by unfold tot; rw [List.map_append, List.sum_append]
theorem tot_drop : ∀ (xs : List (List Nat)) (n : Nat), tot (xs.drop n) ≤ tot xs
  | [], n => by simp [tot]
  | x :: xs, 0 => Nat.le_refl _
  | x :: xs, n + 1 => by
    have := tot_drop xs n
    rw [List.drop_succ_cons]
    unfold tot at *
    rw [List.map_cons, List.sum_cons]
    omega
theorem tot_take : ∀ (xs : List (List Nat)) (n : Nat), tot (xs.take n) ≤ tot xs
  | [], n => by simp [tot]
  | x :: xs, 0 => by simp [tot]
  | x :: xs, n + 1 => by
    have := tot_take xs n
    rw [List.take_succ_cons]
    unfold tot at *
    rw [List.map_cons, List.sum_cons, List.map_cons, List.sum_cons]
    omega
theorem tot_cut (xs : List (List Nat)) (lo hi : Option Int) : tot (cut xs lo hi) ≤ tot xs := Nat.le_trans (tot_take _ _) (tot_drop _ _)
theorem tot_rev (xs : List (List Nat)) : tot xs.reverse = tot xs := by unfold tot; rw [List.map_reverse, List.sum_reverse]
theorem tot_flat (xs : List (List Nat)) : xs.flatten.length = tot xs := by unfold tot; rw [List.length_flatten]
theorem tot_mem {xs : List (List Nat)} {s : List Nat} (h : s ∈ xs) : s.length ≤ tot xs := by
  induction xs with
  | nil => simp at h
  | cons x xs ih =>
    unfold tot at *
    rw [List.map_cons, List.sum_cons]
    rcases List.mem_cons.mp h with e | h
    · rw [e]; omega
    · have := ih h; omega
theorem cut_mapS (xs : List (List Nat)) (lo hi : Option Int) : cut (xs.map D.str) lo hi = (cut xs lo hi).map .str := by
  unfold cut
  rw [List.length_map, List.map_take, List.map_drop]
theorem bl_var {i : Nat} {xs : List (List Nat)} (h : l[i]? = some (some (.lst (xs.map .str)))) (hn : xs.length ≤ n) (ht : tot xs ≤ t) : BL E (.var i) l g n t := ⟨.d (.lst (xs.map .str)), xs, by rw [ev, h], rfl, hn, ht⟩
theorem bl_obj {i k : Nat} {xs : List (List Nat)} (h : l[i]? = some (some (.obj k))) (hg : g[k]? = some (.lst (xs.map .str))) (hn : xs.length ≤ n) (ht : tot xs ≤ t) : BL E (.var i) l g n t :=
  ⟨.d (.obj k), xs, by rw [ev, h], by show (match g[k]? with | some (.lst xs) => D.lst xs | _ => .obj k) = _; rw [hg], hn, ht⟩
theorem bl_sl {lo hi : Co} (ha : BL E a l g n t) (hl : BO E lo l g) (hh : BO E hi l g) : BL E (.sl a lo hi) l g n t := by
  obtain ⟨r, s, h1, h0, h2, h2'⟩ := ha
  obtain ⟨i, h3⟩ := hl
  obtain ⟨j, h4⟩ := hh
  refine ⟨.fl ((cut s i j).map .str), cut s i j, ?_, rfl, Nat.le_trans (cut_le _ _ _) h2, Nat.le_trans (tot_cut _ _ _) h2'⟩
  rw [ev, h1, O.bind_ok, h3, O.bind_ok, h4, O.bind_ok, h0]
  show O.ok (R.fl (cut (s.map .str) i j)) g = _
  rw [cut_mapS]
theorem bl_rev (ha : BL E a l g n t) : BL E (.rev a) l g n t := by
  obtain ⟨r, s, h1, h0, h2, h2'⟩ := ha
  refine ⟨.fl (s.reverse.map .str), s.reverse, ?_, rfl, by simpa using h2, by rw [tot_rev]; exact h2'⟩
  rw [ev, h1, O.bind_ok, h0, List.map_reverse]
theorem bl_add (ha : BL E a l g n t) (hb : BL E b l g m u) (h : n + m ≤ LIM) : BL E (.bin .add a b) l g (n + m) (t + u) := by
  obtain ⟨r, s, h1, h2, h3, h4⟩ := ha
  obtain ⟨r', s', h1', h2', h3', h4'⟩ := hb
  refine ⟨.fl ((s ++ s').map .str), s ++ s', ?_, rfl, by rw [List.length_append]; omega, by rw [tot_app]; omega⟩
  rw [ev, h1, O.bind_ok, h1', O.bind_ok, h2, h2', add_lst (by rw [List.length_map, List.length_map]; omega), List.map_append]
  rfl
theorem ba_nil : BA E .nil l g 0 0 := ⟨[], by rw [evs]; rfl, rfl, Nat.le_refl _⟩
theorem ba_cons {r : Cs} (ha : BS E a l g n) (hr : BA E r l g m t) : BA E (.cons a r) l g (m + 1) (n + t) := by
  obtain ⟨s, h1, h2⟩ := ha
  obtain ⟨xs, h3, h4, h5⟩ := hr
  refine ⟨s :: xs, ?_, by rw [List.length_cons, h4], ?_⟩
  · rw [evs, h1, O.bind_ok, h3]; rfl
  · unfold tot at *
    rw [List.map_cons, List.sum_cons]
    omega
theorem bl_lst {es : Cs} (h : BA E es l g n t) (hn : n ≤ LIM) : BL E (.lst es) l g n t := by
  obtain ⟨xs, h1, h2, h3⟩ := h
  refine ⟨.fl (xs.map .str), xs, ?_, rfl, by omega, h3⟩
  rw [ev, h1, O.bind_ok, if_pos (short (by rw [List.length_map]; omega))]
theorem joinE0 : ∀ l : List (List Nat), joinL [] l = l.flatten
  | [] => rfl
  | [p] => by simp [joinL]
  | p :: q :: r => by
    show p ++ [] ++ joinL [] (q :: r) = _
    rw [joinE0 (q :: r)]
    simp
theorem bs_join (ha : BL E a l g n t) (h : t ≤ LIM) : BS E (.met .join (.con (.str [])) (.cons a .nil)) l g t := by
  obtain ⟨r, s, h1, h2, h3, h4⟩ := ha
  refine ⟨s.flatten, ?_, by rw [tot_flat]; exact h4⟩
  rw [ev, ev, O.bind_ok]
  show (evs E (.cons a .nil) l g).bind _ = _
  rw [evs, h1, O.bind_ok, evs, O.bind_ok, O.bind_ok]
  show O.of (met .join [] [look g r.toD]) g = _
  rw [h2]
  show O.of ((dStrs (s.map .str)).bind fun l => if isShort LIM (joinL [] l) then some (R.d (.str (joinL [] l))) else none) g = _
  rw [dStrs_map, Option.bind_some, joinE0, if_pos (short (by rw [tot_flat]; omega))]
  rfl
/-! ### statement by statement -/
theorem x_asg {tg : Tg} {e : C} {rest : Ss} {r : R} {l' : Lo} (h : ev E e l g = .ok r g) (ha : assign tg r.toD l = some l') : execs E (.cons (.asg tg e) rest) l g = execs E rest l' g := by
  rw [execs, exec, h, O.bind_ok, ha]
  rfl
theorem x_new {i : Nat} {e : C} {rest : Ss} {r : R} {xs : List D} {l' : Lo} (h : ev E e l g = .ok (.fl xs) g) (ha : assign (.v i) (.obj g.length) l = some l') : execs E (.cons (.asg (.v i) (.new e)) rest) l g = execs E rest l' (g ++ [.lst xs]) := by
  rw [execs, exec, ev, h, O.bind_ok]
  show O.bind (O.bind (O.of (assign (.v i) (.obj g.length) l) _) _) _ = _
  rw [ha]
  rfl
theorem x_ret {e : C} {rest : Ss} {r : R} (h : ev E e l g = .ok r g) : execs E (.cons (.ret e) rest) l g = .ok (.rt r, l) g := by
  rw [execs, exec, h]
  rfl
theorem x_if {tt : T} {x y rest : Ss} {k : Bool} (h : evT E tt l g = .ok k g) : execs E (.cons (.ifS tt x y) rest) l g = ((if k = true then execs E x l g else execs E y l g).bind fun (f, l) g => match f with
    | .nx => execs E rest l g
    | .rt x => .ok (.rt x, l) g) := by
  rw [execs, exec, h, O.bind_ok] <;> rfl
/-- hands back a text of at most n signs -/
def XS (E : Env) (c : Ss) (l : Lo) (g : G) (n : Nat) : Prop := ∃ (s : List Nat) (l' : Lo), execs E c l g = .ok (.rt (.d (.str s)), l') g ∧ s.length ≤ n
theorem xs_ret {e : C} {rest : Ss} (h : BS E e l g n) : XS E (.cons (.ret e) rest) l g n := by
  obtain ⟨s, h1, h2⟩ := h
  exact ⟨s, l, x_ret h1, h2⟩
theorem xs_if {tt : T} {x rest : Ss} {k : Bool} (h : evT E tt l g = .ok k g) (ha : XS E x l g n) (hb : XS E rest l g n) : XS E (.cons (.ifS tt x .nil) rest) l g n := by
  cases k with
  | true =>
    obtain ⟨s, l', h1, h2⟩ := ha
    exact ⟨s, l', by rw [x_if h, if_pos rfl, h1]; rfl, h2⟩
  | false =>
    obtain ⟨s, l', h1, h2⟩ := hb
    exact ⟨s, l', by rw [x_if h, if_neg (by decide), execs, O.bind_ok]; exact h1, h2⟩
theorem t_eq {i : Nat} {v j : Int} (h : l[i]? = some (some (.int v))) : evT E (.cmp .eq (.var i) (.con (.int j))) l g = .ok (v == j) g := by
  have e0 : ev E (.var i) l g = .ok (.d (.int v)) g := by rw [ev, h]
  have e1 : ev E (.con (.int j)) l g = .ok (.d (.int j)) g := by rw [ev]
  rw [evT, e0, O.bind_ok, e1]
  rfl
/-- a list of texts that was just made -/
def BF (E : Env) (c : C) (l : Lo) (g : G) (n t : Nat) : Prop := ∃ xs : List (List Nat), ev E c l g = .ok (.fl (xs.map .str)) g ∧ xs.length ≤ n ∧ tot xs ≤ t
theorem bf_lst {es : Cs} (h : BA E es l g n t) (hn : n ≤ LIM) : BF E (.lst es) l g n t := by
  obtain ⟨xs, h1, h2, h3⟩ := h
  refine ⟨xs, ?_, by omega, h3⟩
  rw [ev, h1, O.bind_ok, if_pos (short (by rw [List.length_map]; omega))]
theorem bf_add (ha : BL E a l g n t) (hb : BL E b l g m u) (h : n + m ≤ LIM) : BF E (.bin .add a b) l g (n + m) (t + u) := by
  obtain ⟨r, s, h1, h2, h3, h4⟩ := ha
  obtain ⟨r', s', h1', h2', h3', h4'⟩ := hb
  refine ⟨s ++ s', ?_, by rw [List.length_append]; omega, by rw [tot_app]; omega⟩
  rw [ev, h1, O.bind_ok, h1', O.bind_ok, h2, h2', add_lst (by rw [List.length_map, List.length_map]; omega), List.map_append]
  rfl
theorem x_newF {i : Nat} {e : C} {rest : Ss} {l' : Lo} (h : BF E e l g n t) (ha : assign (.v i) (.obj g.length) l = some l') : ∃ xs : List (List Nat), xs.length ≤ n ∧ tot xs ≤ t ∧ execs E (.cons (.asg (.v i) (.new e)) rest) l g = execs E rest l' (g ++ [.lst (xs.map .str)]) := by
  obtain ⟨xs, h1, h2, h3⟩ := h
  exact ⟨xs, h2, h3, x_new (r := .d .non) h1 ha⟩
theorem x_app {i k : Nat} {e : C} {rest : Ss} {xs : List (List Nat)} (hv : l[i]? = some (some (.obj k))) (hg : g[k]? = some (.lst (xs.map .str))) (h : BS E e l g n) (hn : xs.length ≤ LIM) :
    ∃ s : List Nat, s.length ≤ n ∧ execs E (.cons (.app (.var i) e) rest) l g = execs E rest l (g.set k (.lst ((xs ++ [s]).map .str))) := by
  obtain ⟨s, h1, h2⟩ := h
  refine ⟨s, h2, ?_⟩
  have e0 : ev E (.var i) l g = .ok (.d (.obj k)) g := by rw [ev, hv]
  rw [execs, exec, e0]
  simp only [O.bind_ok, hg, h1, R.toD_d]
  rw [if_pos (short (by simpa using hn)), List.map_append]
  rfl
end
end Pd
/-! Pd17: statement by statement (2). -/
namespace Pd
section
variable {E : Env} {l : Lo} {g : G} {a b c : C} {n m t u : Nat}
theorem x_nil : execs E .nil l g = .ok (.nx, l) g := by rw [execs]
theorem x_for {it : It} {tg : Tg} {b rest : Ss} {w : Wk} {l' : Lo} {g' : G} (h : evI E it l g = .ok w g) (hz : w.its.length ≤ LIM) (hf : forLoop (fun x l g => (O.of (assign tg x l) g).bind fun l g => execs E b l g) (stands w.it w.raw) w.its l g = .ok (.nx, l') g') :
    execs E (.cons (.forS it tg b) rest) l g = execs E rest l' g' := by
  rw [execs, exec, h, O.bind_ok, if_pos (short hz), hf]
  rfl
theorem x_ifF {tt : T} {x rest : Ss} (h : evT E tt l g = .ok false g) : execs E (.cons (.ifS tt x .nil) rest) l g = execs E rest l g := by
  rw [x_if h, if_neg (by decide), execs]
  rfl
theorem x_ifT {tt : T} {x y rest : Ss} {l' : Lo} {g' : G} (h : evT E tt l g = .ok true g) (ha : execs E x l g = .ok (.nx, l') g') : execs E (.cons (.ifS tt x y) rest) l g = execs E rest l' g' := by
  rw [x_if h, if_pos rfl, ha]
  rfl
theorem slIx_nat (n d k : Nat) : slIx n d (some (k : Int)) = min k n := by
  show (if (k : Int) < 0 then ((k : Int) + n).toNat else min (k : Int).toNat n) = _
  rw [if_neg (by omega)]
  rfl
theorem slIx_m1 (n d : Nat) : slIx n d (some (-1)) = ((-1 : Int) + n).toNat := by
  show (if (-1 : Int) < 0 then ((-1 : Int) + n).toNat else min (-1 : Int).toNat n) = _
  rw [if_pos (by decide)]
theorem cut_take {α : Type} (xs : List α) (n : Nat) : cut xs (some 0) (some (n : Int)) = xs.take n := by
  unfold cut
  rw [slIx_nat, show slIx xs.length 0 (some 0) = min 0 xs.length from slIx_nat _ _ 0, Nat.zero_min, List.drop_zero, Nat.sub_zero]
  by_cases h : n ≤ xs.length
  · rw [Nat.min_eq_left h]
  · rw [Nat.min_eq_right (by omega), List.take_length, List.take_of_length_le (by omega)]
theorem cut_drop {α : Type} (xs : List α) (n : Nat) : cut xs (some (n : Int)) none = xs.drop n := by
  unfold cut
  rw [slIx_nat]
  show (xs.drop (min n xs.length)).take (xs.length - min n xs.length) = _
  by_cases h : n ≤ xs.length
  · rw [Nat.min_eq_left h, List.take_of_length_le (by rw [List.length_drop]; exact Nat.le_refl _)]
  · rw [Nat.min_eq_right (by omega), List.drop_length, List.take_nil, List.drop_of_length_le (by omega)]
theorem x_fors {it : It} {tg : Tg} {b rest : Ss} {w : Wk} (P : Nat → Lo → G → Prop) (hI : evI E it l g = .ok w g) (hz : w.its.length ≤ LIM) (hs : ∀ i l g, P i l g → stands w.it w.raw g = true) (h0 : P 0 l g)
    (hb : ∀ i x l g, w.its[i]? = some x → P i l g → ∃ l1 l2 g2, assign tg x l = some l1 ∧ execs E b l1 g = .ok (.nx, l2) g2 ∧ P (i + 1) l2 g2) : ∃ l' g', P w.its.length l' g' ∧ execs E (.cons (.forS it tg b) rest) l g = execs E rest l' g' := by
  have key : ∃ l' g', P w.its.length l' g' ∧ forLoop (fun x l g => (O.of (assign tg x l) g).bind fun l g => execs E b l g) (stands w.it w.raw) w.its l g = .ok (.nx, l') g' := by
    refine for_lst (xs := w.its) P (fun o => ∃ l' g', P w.its.length l' g' ∧ o = .ok (.nx, l') g') hs (fun i x l g hx hp => ?_) (fun l g hp => ⟨l, g, hp, rfl⟩) h0
    obtain ⟨l1, l2, g2, h1, h2, h3⟩ := hb i x l g hx hp
    exact .inl ⟨l2, g2, by rw [h1]; exact h2, h3⟩
  obtain ⟨l', g', h1, h2⟩ := key
  exact ⟨l', g', h1, x_for hI hz h2⟩
theorem x_for_rng {a : C} {tg : Tg} {b rest : Ss} {n : Nat} (P : Nat → Lo → G → Prop) (hI : ev E a l g = .ok (.d (.int (n : Int))) g) (hz : n ≤ LIM) (h0 : P 0 l g)
    (hb : ∀ i l g, i < n → P i l g → ∃ l1 l2 g2, assign tg (.int (i : Int)) l = some l1 ∧ execs E b l1 g = .ok (.nx, l2) g2 ∧ P (i + 1) l2 g2) : ∃ l' g', P n l' g' ∧ execs E (.cons (.forS (.range1 a) tg b) rest) l g = execs E rest l' g' := by
  have hl : LIM = 1000000 := rfl
  have hsm : small (n : Int) = true := by unfold small; exact decide_eq_true (by omega)
  have hI2 : evI E (.range1 a) l g = .ok ⟨.non, [], rangeD 0 n⟩ g := by
    rw [evI, hI, O.bind_ok]
    show (if small (n : Int) = true then O.ok (⟨.non, [], rangeD 0 (n : Int).toNat⟩ : Wk) g else .no) = _
    rw [if_pos hsm]
    rfl
  have q := x_fors (tg := tg) (b := b) (rest := rest) P hI2 (by show (rangeD 0 n).length ≤ LIM; rw [rangeD_len]; exact hz) (fun i l g _ => rfl) h0 fun i x l g hx hp => by
    obtain ⟨h1, rfl⟩ := rangeD_get hx
    rw [Int.zero_add]
    exact hb i l g h1 hp
  have e : (rangeD 0 n).length = n := rangeD_len 0 n
  obtain ⟨l', g', h1, h2⟩ := q
  exact ⟨l', g', by rw [show (⟨.non, [], rangeD 0 n⟩ : Wk).its.length = n from e] at h1; exact h1, h2⟩
theorem ex_var {i : Nat} {d : D} (h : l[i]? = some (some d)) : ev E (.var i) l g = .ok (.d d) g := by rw [ev, h]
theorem ex_con {d : D} : ev E (.con d) l g = .ok (.d d) g := by rw [ev]
theorem ex_add {x y : List Nat} (ha : ev E a l g = .ok (.d (.str x)) g) (hb : ev E b l g = .ok (.d (.str y)) g) (h : x.length + y.length ≤ LIM) : ev E (.bin .add a b) l g = .ok (.d (.str (x ++ y))) g := by
  rw [ev, ha, O.bind_ok, hb]
  show O.of (binop .add (.str x) (.str y)) g = _
  rw [add_str h]
  rfl
theorem ex_addI {x y : Int} (ha : ev E a l g = .ok (.d (.int x)) g) (hb : ev E b l g = .ok (.d (.int y)) g) : ev E (.bin .add a b) l g = .ok (.d (.int (x + y))) g := by
  rw [ev, ha, O.bind_ok, hb]; rfl
theorem ex_subI {x y : Int} (ha : ev E a l g = .ok (.d (.int x)) g) (hb : ev E b l g = .ok (.d (.int y)) g) : ev E (.bin .sub a b) l g = .ok (.d (.int (x - y))) g := by
  rw [ev, ha, O.bind_ok, hb]; rfl
theorem ex_len {x : List Nat} (ha : ev E a l g = .ok (.d (.str x)) g) : ev E (.bi .len (.cons a .nil)) l g = .ok (.d (.int (x.length : Nat))) g := by
  rw [ev, evs, ha]; rfl
theorem ex_sl {x : List Nat} {lo hi : Co} {i j : Option Int} (ha : ev E a l g = .ok (.d (.str x)) g) (hl : evo E lo l g = .ok i g) (hh : evo E hi l g = .ok j g) : ev E (.sl a lo hi) l g = .ok (.d (.str (cut x i j))) g := by
  rw [ev, ha, O.bind_ok, hl, O.bind_ok, hh]; rfl
theorem ex_some {i : Int} (ha : ev E a l g = .ok (.d (.int i)) g) : evo E (.some a) l g = .ok (some i) g := by rw [evo, ha]; rfl
theorem ex_non : evo E .non l g = .ok none g := by rw [evo]
theorem ex_ixS {x : List Nat} {i c0 : Nat} (ha : ev E a l g = .ok (.d (.str x)) g) (hb : ev E b l g = .ok (.d (.int (i : Int))) g) (h : x[i]? = some c0) : ev E (.ix a b) l g = .ok (.d (.str [c0])) g := by
  rw [ev, ha, O.bind_ok, hb]
  show O.of ((ixop (.str x) (.int (i : Int))).map R.d) g = _
  rw [ix_str h]
  rfl
theorem ex_ixL {x : List D} {i : Nat} {d : D} (ha : ev E a l g = .ok (.d (.lst x)) g) (hb : ev E b l g = .ok (.d (.int (i : Int))) g) (h : x[i]? = some d) : ev E (.ix a b) l g = .ok (.d d) g := by
  rw [ev, ha, O.bind_ok, hb]
  show O.of ((ixop (.lst x) (.int (i : Int))).map R.d) g = _
  rw [ix_lst h]
  rfl
theorem ex_slL {x : List (List Nat)} {lo hi : Co} {i j : Option Int} (ha : ev E a l g = .ok (.d (.lst (x.map .str))) g) (hl : evo E lo l g = .ok i g) (hh : evo E hi l g = .ok j g) : ev E (.sl a lo hi) l g = .ok (.fl ((cut x i j).map .str)) g := by
  rw [ev, ha, O.bind_ok, hl, O.bind_ok, hh]
  show O.ok (R.fl (cut (x.map .str) i j)) g = _
  rw [cut_mapS]
theorem ex_mod {x : Int} {y m : Nat} (ha : ev E a l g = .ok (.d (.int x)) g) (hb : ev E b l g = .ok (.d (.int (y : Int))) g) (h0 : 0 < y) (hm : x % (y : Int) = m) : ev E (.bin .mod a b) l g = .ok (.d (.int (m : Int))) g := by
  rw [ev, ha, O.bind_ok, hb]
  show O.of (binop .mod (.int x) (.int (y : Int))) g = _
  rw [mod_int (by omega), hm]
  rfl
theorem es_one {r : R} (ha : ev E a l g = .ok r g) : evs E (.cons a .nil) l g = .ok [r.toD] g := by rw [evs, ha]; rfl
theorem es_two {r r' : R} (ha : ev E a l g = .ok r g) (hb : ev E b l g = .ok r' g) : evs E (.cons a (.cons b .nil)) l g = .ok [r.toD, r'.toD] g := by rw [evs, ha, O.bind_ok, es_one hb]; rfl
theorem es_three {r r' r'' : R} (ha : ev E a l g = .ok r g) (hb : ev E b l g = .ok r' g) (hc : ev E c l g = .ok r'' g) : evs E (.cons a (.cons b (.cons c .nil))) l g = .ok [r.toD, r'.toD, r''.toD] g := by rw [evs, ha, O.bind_ok, es_two hb hc]; rfl
theorem ex_call {f : Nat} {args : Cs} {ds : List D} {r : R} {g' : G} (ha : evs E args l g = .ok ds g) (hp : D.pures ds = true) (hc : E.call f ds = .ok r g') : ev E (.call f args) l g = .ok r g := by
  rw [ev, ha, O.bind_ok]
  unfold callW
  rw [if_pos hp, hc]
theorem et_notT (ha : ev E a l g = .ok (.d (.bl true)) g) : evT E (.not (.val a)) l g = .ok false g := by
  rw [evT, evT, ha]
  rfl
theorem et_cmp {op : Cop} {x y : D} {k : Bool} {r r' : R} (ha : ev E a l g = .ok r g) (hb : ev E b l g = .ok r' g) (h1 : look g r.toD = x) (h2 : look g r'.toD = y) (h : cmpop op x y = some k) : evT E (.cmp op a b) l g = .ok k g := by
  rw [evT, ha, O.bind_ok, hb, O.bind_ok, h1, h2, h]
  rfl
theorem et_andF {t1 t2 : T} (h : evT E t1 l g = .ok false g) : evT E (.and (.cons t1 (.one t2))) l g = .ok false g := by
  rw [evT, evA, h]
  rfl
theorem et_andT {t1 t2 : T} {k : Bool} (h : evT E t1 l g = .ok true g) (h2 : evT E t2 l g = .ok k g) : evT E (.and (.cons t1 (.one t2))) l g = .ok k g := by
  rw [evT, evA, h, O.bind_ok, if_pos rfl, evA, h2]
/-- .. as a rule for what is wanted of the whole -/
theorem u_rng {a : C} {tg : Tg} {b rest : Ss} (Q : O (Fl × Lo) → Prop) (n : Nat) (P : Nat → Lo → G → Prop) (hI : ev E a l g = .ok (.d (.int (n : Int))) g) (hz : n ≤ LIM) (h0 : P 0 l g)
    (hb : ∀ i l g, i < n → P i l g → ∃ l1, assign tg (.int (i : Int)) l = some l1 ∧ ∃ l2 g2, execs E b l1 g = .ok (.nx, l2) g2 ∧ P (i + 1) l2 g2) (he : ∀ l' g', P n l' g' → Q (execs E rest l' g')) : Q (execs E (.cons (.forS (.range1 a) tg b) rest) l g) := by
  obtain ⟨l', g', h1, h2⟩ := x_for_rng (b := b) (rest := rest) P hI hz h0 fun i l g hi hp => by
    obtain ⟨l1, q1, l2, g2, q2, q3⟩ := hb i l g hi hp
    exact ⟨l1, l2, g2, q1, q2, q3⟩
  rw [h2]
  exact he l' g' h1
theorem u_fors {it : It} {tg : Tg} {b rest : Ss} (Q : O (Fl × Lo) → Prop) (w : Wk) (P : Nat → Lo → G → Prop) (hI : evI E it l g = .ok w g) (hz : w.its.length ≤ LIM) (hs : ∀ i l g, P i l g → stands w.it w.raw g = true) (h0 : P 0 l g)
    (hb : ∀ i x l g, w.its[i]? = some x → P i l g → ∃ l1, assign tg x l = some l1 ∧ ∃ l2 g2, execs E b l1 g = .ok (.nx, l2) g2 ∧ P (i + 1) l2 g2) (he : ∀ l' g', P w.its.length l' g' → Q (execs E rest l' g')) : Q (execs E (.cons (.forS it tg b) rest) l g) := by
  obtain ⟨l', g', h1, h2⟩ := x_fors (b := b) (rest := rest) P hI hz hs h0 fun i x l g hi hp => by
    obtain ⟨l1, q1, l2, g2, q2, q3⟩ := hb i x l g hi hp
    exact ⟨l1, l2, g2, q1, q2, q3⟩
  rw [h2]
  exact he l' g' h1
theorem u_ifT {tt : T} {x y rest : Ss} (Q : O (Fl × Lo) → Prop) (h : evT E tt l g = .ok true g) (ha : ∃ l' g', execs E x l g = .ok (.nx, l') g' ∧ Q (execs E rest l' g')) : Q (execs E (.cons (.ifS tt x y) rest) l g) := by
  obtain ⟨l', g', h1, h2⟩ := ha
  rw [x_ifT h h1]
  exact h2
theorem u_ifF {tt : T} {x rest : Ss} (Q : O (Fl × Lo) → Prop) (h : evT E tt l g = .ok false g) (ha : Q (execs E rest l g)) : Q (execs E (.cons (.ifS tt x .nil) rest) l g) := by
  rw [x_ifF h]
  exact ha
theorem u_asg {tg : Tg} {e : C} {rest : Ss} (Q : O (Fl × Lo) → Prop) (r : R) (l' : Lo) (h : ev E e l g = .ok r g) (ha : assign tg r.toD l = some l') (q : Q (execs E rest l' g)) : Q (execs E (.cons (.asg tg e) rest) l g) := by
  rw [x_asg h ha]
  exact q
end
end Pd
/-! Pd18: calls with things of the store; comprehensions of texts that only exist. -/
namespace Pd
section
variable {E : Env} {l : Lo} {g : G} {a b c : C} {n m t u : Nat}
theorem snap_obj {i : Nat} {xs : List D} (h : g[i]? = some (.lst xs)) (hp : D.pures xs = true) : snap g (.obj i) = some (.lst xs) := by
  show (match g[i]? with
    | some (.lst xs) => if D.pures xs then some (D.lst xs) else none
    | _ => none) = _
  rw [h]
  show (if D.pures xs = true then some (D.lst xs) else none) = _
  rw [if_pos hp]
theorem snap_lst {xs : List D} (hp : D.pures xs = true) : snap g (.lst xs) = some (.lst xs) := by
  show (if D.pures xs = true then some (D.lst xs) else none) = _
  rw [if_pos hp]
theorem snaps_one {d y : D} (h : snap g d = some y) : snaps g [d] = some [y] := by
  show (snap g d).bind _ = _
  rw [h]
  rfl
theorem snaps_two {d y d' y' : D} (h : snap g d = some y) (h' : snap g d' = some y') : snaps g [d, d'] = some [y, y'] := by
  show (snap g d).bind (fun y => (snaps g [d']).map (y :: ·)) = _
  rw [h, snaps_one h']
  rfl
theorem ex_callO {f : Nat} {args : Cs} {ds es : List D} {x : D} {g' : G} (ha : evs E args l g = .ok ds g) (hp : D.pures ds = false) (hs : snaps g ds = some es) (hc : E.call f es = .ok (.d x) g') (hx : D.scalar x = true) : ev E (.call f args) l g = .ok (.d x) g := by
  rw [ev, ha, O.bind_ok]
  unfold callW
  rw [hp, if_neg (by decide), hs]
  show (match E.call f es with
      | .ok (.d x) _ => if D.scalar x then O.ok (R.d x) g else .no
      | .ok (.fl xs) _ => if xs.all D.scalar then .ok (.fl xs) g else .no
      | .ex c _ => .ex c g
      | _ => .no) = _
  rw [hc]
  show (if D.scalar x = true then O.ok (R.d x) g else .no) = _
  rw [if_pos hx]
theorem ex_callF {f : Nat} {args : Cs} {ds es xs : List D} {g' : G} (ha : evs E args l g = .ok ds g) (hp : D.pures ds = false) (hs : snaps g ds = some es) (hc : E.call f es = .ok (.fl xs) g') (hx : xs.all D.scalar = true) : ev E (.call f args) l g = .ok (.fl xs) g := by
  rw [ev, ha, O.bind_ok]
  unfold callW
  rw [hp, if_neg (by decide), hs]
  show (match E.call f es with
      | .ok (.d x) _ => if D.scalar x then O.ok (R.d x) g else .no
      | .ok (.fl xs) _ => if xs.all D.scalar then .ok (.fl xs) g else .no
      | .ex c _ => .ex c g
      | _ => .no) = _
  rw [hc]
  show (if xs.all D.scalar = true then O.ok (R.fl xs) g else .no) = _
  rw [if_pos hx]
theorem scalar_strs (xs : List (List Nat)) : (xs.map D.str).all D.scalar = true := by
  rw [List.all_map, List.all_eq_true]
  intro x _
  rfl
theorem pures_strs (l : List (List Nat)) : D.pures (l.map .str) = true := by
  induction l with
  | nil => rfl
  | cons a l ih => exact ih
theorem oks_strs (n : Nat) (xs : List (List Nat)) : D.oksN n (xs.map .str) = true := by
  induction xs with
  | nil => cases n <;> rfl
  | cons x xs ih =>
    rw [List.map_cons, D.oksN, ih]
    cases n <;> rfl
theorem eqvs_strs (xs : List (List Nat)) : D.eqvs (xs.map .str) (xs.map .str) = true := by
  induction xs with
  | nil => rfl
  | cons x xs ih =>
    rw [List.map_cons, D.eqvs, ih]
    show (x == x && true) = true
    simp
theorem ne_strs (xs : List (List Nat)) : cmpop .ne (.lst (xs.map .str)) (.lst (xs.map .str)) = some false := by
  show (if (D.okN 60 (.lst (xs.map .str)) && D.okN 60 (.lst (xs.map .str))) = true then some (!D.eqv (.lst (xs.map .str)) (.lst (xs.map .str))) else none) = _
  have e : D.okN 60 (.lst (xs.map .str)) = true := oks_strs 59 xs
  have e2 : D.eqv (.lst (xs.map .str)) (.lst (xs.map .str)) = true := eqvs_strs xs
  rw [e, e2]
  rfl
theorem lc_ex {α : Type} {f : D → G → O (Option D)} {same : G → Bool} (hs : same g = true) (mk : α → D) (Ok : List Nat → Prop) : ∀ (xs : List α) (acc : List D), (∀ a ∈ xs, ∃ s, f (mk a) g = .ok (some (.str s)) g ∧ Ok s) →
    ∃ ss : List (List Nat), lcLoop f same acc (xs.map mk) g = .ok (.fl (acc ++ ss.map .str)) g ∧ ss.length = xs.length ∧ ∀ s ∈ ss, Ok s
  | [], acc, h => ⟨[], by
    show (if same g = true then O.ok (R.fl acc) g else .no) = _
    rw [if_pos hs, List.map_nil, List.append_nil], rfl, by simp⟩
  | x :: xs, acc, h => by
    obtain ⟨s, h1, h2⟩ := h x List.mem_cons_self
    obtain ⟨ss, h3, h4, h5⟩ := lc_ex hs mk Ok xs (acc ++ [.str s]) fun a ha => h a (List.mem_cons_of_mem _ ha)
    refine ⟨s :: ss, ?_, by simp [h4], fun t ht => ?_⟩
    · show (if same g = true then (f (mk x) g).bind fun y g => lcLoop f same (match y with
        | some y => acc ++ [y]
        | none => acc) (xs.map mk) g else .no) = _
      rw [if_pos hs, h1, O.bind_ok]
      show lcLoop f same (acc ++ [.str s]) (xs.map mk) g = _
      rw [h3, List.append_assoc]
      rfl
    · rcases List.mem_cons.mp ht with e | ht
      · rw [e]; exact h2
      · exact h5 t ht
theorem et_or2F {t1 t2 t3 : T} (h1 : evT E t1 l g = .ok false g) (h2 : evT E t2 l g = .ok false g) (h3 : evT E t3 l g = .ok false g) : evT E (.or (.cons t1 (.cons t2 (.one t3)))) l g = .ok false g := by
  rw [evT, evR, h1, O.bind_ok, if_neg (by decide), evR, h2, O.bind_ok, if_neg (by decide), evR, h3]
theorem x_setIx {i k : Nat} {e : C} {rest : Ss} {xs : List D} {r : R} (he : ev E e l g = .ok r g) (hv : l[i]? = some (some (.obj k))) (hg : g[k]? = some (.lst xs)) (hx : 0 < xs.length) : execs E (.cons (.setIx (.var i) (.con (.int 0)) e) rest) l g = execs E rest l (g.set k (.lst (xs.set 0 r.toD))) := by
  have e0 : ev E (.var i) l g = .ok (.d (.obj k)) g := by rw [ev, hv]
  have e1 : ev E (.con (.int 0)) l g = .ok (.d (.int 0)) g := by rw [ev]
  have e2 : ixOf xs.length 0 = some 0 := by
    unfold ixOf
    rw [if_pos (by decide), if_pos (by omega)]
    rfl
  rw [execs, exec, he]
  simp only [O.bind_ok, e0, e1, hg, e2]
end
end Pd
/-! K67d: what the defs of k67 reckon. -/
namespace K67
open Pd
abbrev En (k : Nat) : Env := ⟨Pr.glo, run Pr k⟩
theorem r0 (k : Nat) (ds : List D) : run Pr (k + 1) 0 ds = runFn (En k) c_check_of ds := rfl
def chk (s : List Nat) : Int := ((s.zipIdx.map fun p => ((p.2 : Int) + 1) * (p.1 : Int)).sum) % 971
theorem zip_lt {s : List Nat} {p : Nat × Nat} (h : p ∈ s.zipIdx) : p.2 < s.length ∧ s[p.2]? = some p.1 := by
  obtain ⟨c, i⟩ := p
  have := List.mem_zipIdx h
  refine ⟨by simpa using this.2.1, ?_⟩
  have h2 := this.2.2
  rw [List.getElem?_eq_getElem (by simpa using this.2.1)]
  simp at h2
  exact congrArg some h2.symm
theorem enum_str (s : List Nat) : enumD 0 (s.map fun c => .str [c]) = s.zipIdx.map fun p => .tup [.int (p.2 : Int), .str [p.1]] := enum_zip _ s 0
theorem run_check (k : Nat) (s : List Nat) (h : s.length ≤ LIM) : run Pr (k + 1) 0 [.str s] = .ok (.d (.int (chk s))) [] := by
  rw [r0]
  unfold c_check_of
  simp only [runFn, ss, execs, exec, ev, evs, evo, evT, evA, evR, evO, evI, assign, setAll, wipeL, look, O.bind_ok, O.bind_no, O.of_some, O.of_none, R.toD_d, R.toD_fl, List.getElem?_cons_zero, List.getElem?_cons_succ, List.set_cons_zero, List.set_cons_succ, List.map_cons, List.map_nil, List.length_cons, List.length_nil, List.cons_append, List.nil_append, List.replicate, Option.map_some, Option.map_none, true_and, and_true, Nat.reduceAdd, Nat.reduceSub, Nat.reduceLT, Nat.reduceLeDiff, Nat.reduceEqDiff, and_self, ↓reduceIte]
  have hz : seqE (.str s) = some (s.map fun c => .str [c]) := rfl
  rw [hz]
  simp only [runFn, ss, execs, exec, ev, evs, evo, evT, evA, evR, evO, evI, assign, setAll, wipeL, look, O.bind_ok, O.bind_no, O.of_some, O.of_none, R.toD_d, R.toD_fl, List.getElem?_cons_zero, List.getElem?_cons_succ, List.set_cons_zero, List.set_cons_succ, List.map_cons, List.map_nil, List.length_cons, List.length_nil, List.cons_append, List.nil_append, List.replicate, Option.map_some, Option.map_none, true_and, and_true, Nat.reduceAdd, Nat.reduceSub, Nat.reduceLT, Nat.reduceLeDiff, Nat.reduceEqDiff, and_self, ↓reduceIte]
  rw [enum_str, if_pos (short (by simpa using h)), lc_gen (out := fun p : Nat × Nat => D.int (((p.2 : Int) + 1) * p.1)) rfl]
  · simp only [runFn, ss, execs, exec, ev, evs, evo, evT, evA, evR, evO, evI, assign, setAll, wipeL, look, O.bind_ok, O.bind_no, O.of_some, O.of_none, R.toD_d, R.toD_fl, List.getElem?_cons_zero, List.getElem?_cons_succ, List.set_cons_zero, List.set_cons_succ, List.map_cons, List.map_nil, List.length_cons, List.length_nil, List.cons_append, List.nil_append, List.replicate, Option.map_some, Option.map_none, true_and, and_true, Nat.reduceAdd, Nat.reduceSub, Nat.reduceLT, Nat.reduceLeDiff, Nat.reduceEqDiff, and_self, ↓reduceIte]
    have e : bi .sum [.lst ([] ++ s.zipIdx.map fun p : Nat × Nat => D.int (((p.2 : Int) + 1) * p.1))] = some (.d (.int ((s.zipIdx.map fun p => ((p.2 : Int) + 1) * (p.1 : Int)).sum))) := by
      have : (s.zipIdx.map fun p : Nat × Nat => D.int (((p.2 : Int) + 1) * p.1)) = (s.zipIdx.map fun p : Nat × Nat => (((p.2 : Int) + 1) * p.1)).map .int := by rw [List.map_map]; rfl
      rw [List.nil_append, this]
      show (dInts _).map _ = _
      rw [dInts_map]
      rfl
    rw [List.nil_append] at e
    rw [e]
    simp only [runFn, ss, execs, exec, ev, evs, evo, evT, evA, evR, evO, evI, assign, setAll, wipeL, look, O.bind_ok, O.bind_no, O.of_some, O.of_none, R.toD_d, R.toD_fl, List.getElem?_cons_zero, List.getElem?_cons_succ, List.set_cons_zero, List.set_cons_succ, List.map_cons, List.map_nil, List.length_cons, List.length_nil, List.cons_append, List.nil_append, List.replicate, Option.map_some, Option.map_none, true_and, and_true, Nat.reduceAdd, Nat.reduceSub, Nat.reduceLT, Nat.reduceLeDiff, Nat.reduceEqDiff, and_self, ↓reduceIte]
    have g0 : Pr.glo 0 = some (.int 971) := rfl
    rw [g0]
    simp only [runFn, ss, execs, exec, ev, evs, evo, evT, evA, evR, evO, evI, assign, setAll, wipeL, look, O.bind_ok, O.bind_no, O.of_some, O.of_none, R.toD_d, R.toD_fl, List.getElem?_cons_zero, List.getElem?_cons_succ, List.set_cons_zero, List.set_cons_succ, List.map_cons, List.map_nil, List.length_cons, List.length_nil, List.cons_append, List.nil_append, List.replicate, Option.map_some, Option.map_none, true_and, and_true, Nat.reduceAdd, Nat.reduceSub, Nat.reduceLT, Nat.reduceLeDiff, Nat.reduceEqDiff, and_self, ↓reduceIte]
    rw [mod_int (by decide)]
    rfl
  · intro p hp
    simp only [runFn, ss, execs, exec, ev, evs, evo, evT, evA, evR, evO, evI, assign, setAll, wipeL, look, O.bind_ok, O.bind_no, O.of_some, O.of_none, R.toD_d, R.toD_fl, List.getElem?_cons_zero, List.getElem?_cons_succ, List.set_cons_zero, List.set_cons_succ, List.map_cons, List.map_nil, List.length_cons, List.length_nil, List.cons_append, List.nil_append, List.replicate, Option.map_some, Option.map_none, true_and, and_true, Nat.reduceAdd, Nat.reduceSub, Nat.reduceLT, Nat.reduceLeDiff, Nat.reduceEqDiff, and_self, ↓reduceIte]
    have := (zip_lt hp).1
    have hl : LIM = 1000000 := rfl
    rw [add_int, ord_one]
    simp only [runFn, ss, execs, exec, ev, evs, evo, evT, evA, evR, evO, evI, assign, setAll, wipeL, look, O.bind_ok, O.bind_no, O.of_some, O.of_none, R.toD_d, R.toD_fl, List.getElem?_cons_zero, List.getElem?_cons_succ, List.set_cons_zero, List.set_cons_succ, List.map_cons, List.map_nil, List.length_cons, List.length_nil, List.cons_append, List.nil_append, List.replicate, Option.map_some, Option.map_none, true_and, and_true, Nat.reduceAdd, Nat.reduceSub, Nat.reduceLT, Nat.reduceLeDiff, Nat.reduceEqDiff, and_self, ↓reduceIte]
    rw [mul_int (.inl (by omega))]
    rfl
theorem r8 (k : Nat) (ds : List D) : run Pr (k + 1) 8 ds = runFn (En k) c__law_check_of ds := rfl
/-- the sum of the first i -/
def tot (s : List Nat) (i : Nat) : Int := (((s.zipIdx).take i).map fun p => ((p.2 : Int) + 1) * (p.1 : Int)).sum
theorem tot_succ {s : List Nat} {i c : Nat} (h : s[i]? = some c) : tot s (i + 1) = tot s i + ((i : Int) + 1) * c := by
  have hl := (List.getElem?_eq_some_iff.mp h).1
  have e : s.zipIdx.take (i + 1) = s.zipIdx.take i ++ [(c, i)] := by
    rw [List.take_add_one]
    congr 1
    rw [List.getElem?_zipIdx, h]
    simp
  unfold tot
  rw [e, List.map_append, List.sum_append]
  simp
theorem run_lawcheck (k : Nat) (s : List Nat) (h : s.length ≤ LIM) : run Pr (k + 1) 8 [.str s] = .ok (.d (.int (chk s))) [] := by
  rw [r8]
  unfold c__law_check_of
  have hl : LIM = 1000000 := rfl
  have hsm : small (s.length : Int) = true := by unfold small; exact decide_eq_true (by omega)
  simp only [runFn, ss, execs, exec, ev, evs, evo, evT, evA, evR, evO, evI, assign, setAll, wipeL, look, O.bind_ok, O.bind_no, O.of_some, O.of_none, R.toD_d, R.toD_fl, List.getElem?_cons_zero, List.getElem?_cons_succ, List.set_cons_zero, List.set_cons_succ, List.map_cons, List.map_nil, List.length_cons, List.length_nil, List.cons_append, List.nil_append, List.replicate, Option.map_some, Option.map_none, true_and, and_true, Nat.reduceAdd, Nat.reduceSub, Nat.reduceLT, Nat.reduceLeDiff, Nat.reduceEqDiff, and_self, ↓reduceIte]
  rw [len_str]
  simp only [runFn, ss, execs, exec, ev, evs, evo, evT, evA, evR, evO, evI, assign, setAll, wipeL, look, O.bind_ok, O.bind_no, O.of_some, O.of_none, R.toD_d, R.toD_fl, List.getElem?_cons_zero, List.getElem?_cons_succ, List.set_cons_zero, List.set_cons_succ, List.map_cons, List.map_nil, List.length_cons, List.length_nil, List.cons_append, List.nil_append, List.replicate, Option.map_some, Option.map_none, true_and, and_true, Nat.reduceAdd, Nat.reduceSub, Nat.reduceLT, Nat.reduceLeDiff, Nat.reduceEqDiff, and_self, ↓reduceIte]
  rw [if_pos hsm]
  simp only [runFn, ss, execs, exec, ev, evs, evo, evT, evA, evR, evO, evI, assign, setAll, wipeL, look, O.bind_ok, O.bind_no, O.of_some, O.of_none, R.toD_d, R.toD_fl, List.getElem?_cons_zero, List.getElem?_cons_succ, List.set_cons_zero, List.set_cons_succ, List.map_cons, List.map_nil, List.length_cons, List.length_nil, List.cons_append, List.nil_append, List.replicate, Option.map_some, Option.map_none, true_and, and_true, Nat.reduceAdd, Nat.reduceSub, Nat.reduceLT, Nat.reduceLeDiff, Nat.reduceEqDiff, and_self, ↓reduceIte]
  rw [if_pos (short (by rw [rangeD_len]; simpa using h))]
  generalize hq : forLoop _ _ _ _ _ = q
  have key : ∃ l, q = .ok (.nx, l) [] ∧ l[1]? = some (some (.int (tot s s.length))) := by
    rw [← hq]
    refine for_rng (fun i l g => g = [] ∧ ∃ kk, l = [some (.str s), some (.int (tot s i)), kk]) (fun o => ∃ l, o = .ok (.nx, l) [] ∧ l[1]? = some (some (.int (tot s s.length)))) (fun i l g hp => rfl) (fun i l g hi hp => ?_) (fun l g hp => ?_) ⟨rfl, none, rfl⟩
    · obtain ⟨rfl, kk, rfl⟩ := hp
      refine .inl ⟨[some (.str s), some (.int (tot s (i + 1))), some (.int (0 + (i : Int)))], [], ?_, rfl, _, rfl⟩
      obtain ⟨c, hc⟩ : ∃ c, s[i]? = some c := ⟨_, List.getElem?_eq_getElem (by simpa using hi)⟩
      have hi : i < s.length := by simpa using hi
      simp only [runFn, ss, execs, exec, ev, evs, evo, evT, evA, evR, evO, evI, assign, setAll, wipeL, look, O.bind_ok, O.bind_no, O.of_some, O.of_none, R.toD_d, R.toD_fl, List.getElem?_cons_zero, List.getElem?_cons_succ, List.set_cons_zero, List.set_cons_succ, List.map_cons, List.map_nil, List.length_cons, List.length_nil, List.cons_append, List.nil_append, List.replicate, Option.map_some, Option.map_none, true_and, and_true, Nat.reduceAdd, Nat.reduceSub, Nat.reduceLT, Nat.reduceLeDiff, Nat.reduceEqDiff, and_self, ↓reduceIte]
      rw [Int.zero_add, ix_str hc]
      simp only [runFn, ss, execs, exec, ev, evs, evo, evT, evA, evR, evO, evI, assign, setAll, wipeL, look, O.bind_ok, O.bind_no, O.of_some, O.of_none, R.toD_d, R.toD_fl, List.getElem?_cons_zero, List.getElem?_cons_succ, List.set_cons_zero, List.set_cons_succ, List.map_cons, List.map_nil, List.length_cons, List.length_nil, List.cons_append, List.nil_append, List.replicate, Option.map_some, Option.map_none, true_and, and_true, Nat.reduceAdd, Nat.reduceSub, Nat.reduceLT, Nat.reduceLeDiff, Nat.reduceEqDiff, and_self, ↓reduceIte]
      rw [ord_one, add_int]
      simp only [runFn, ss, execs, exec, ev, evs, evo, evT, evA, evR, evO, evI, assign, setAll, wipeL, look, O.bind_ok, O.bind_no, O.of_some, O.of_none, R.toD_d, R.toD_fl, List.getElem?_cons_zero, List.getElem?_cons_succ, List.set_cons_zero, List.set_cons_succ, List.map_cons, List.map_nil, List.length_cons, List.length_nil, List.cons_append, List.nil_append, List.replicate, Option.map_some, Option.map_none, true_and, and_true, Nat.reduceAdd, Nat.reduceSub, Nat.reduceLT, Nat.reduceLeDiff, Nat.reduceEqDiff, and_self, ↓reduceIte]
      rw [mul_int (.inl (by omega))]
      simp only [runFn, ss, execs, exec, ev, evs, evo, evT, evA, evR, evO, evI, assign, setAll, wipeL, look, O.bind_ok, O.bind_no, O.of_some, O.of_none, R.toD_d, R.toD_fl, List.getElem?_cons_zero, List.getElem?_cons_succ, List.set_cons_zero, List.set_cons_succ, List.map_cons, List.map_nil, List.length_cons, List.length_nil, List.cons_append, List.nil_append, List.replicate, Option.map_some, Option.map_none, true_and, and_true, Nat.reduceAdd, Nat.reduceSub, Nat.reduceLT, Nat.reduceLeDiff, Nat.reduceEqDiff, and_self, ↓reduceIte]
      rw [add_int, ← tot_succ hc]
      rfl
    · obtain ⟨rfl, kk, rfl⟩ := hp
      exact ⟨_, rfl, by simp⟩
  obtain ⟨l, rfl, hl1⟩ := key
  simp only [runFn, ss, execs, exec, ev, evs, evo, evT, evA, evR, evO, evI, assign, setAll, wipeL, look, O.bind_ok, O.bind_no, O.of_some, O.of_none, R.toD_d, R.toD_fl, List.getElem?_cons_zero, List.getElem?_cons_succ, List.set_cons_zero, List.set_cons_succ, List.map_cons, List.map_nil, List.length_cons, List.length_nil, List.cons_append, List.nil_append, List.replicate, Option.map_some, Option.map_none, true_and, and_true, Nat.reduceAdd, Nat.reduceSub, Nat.reduceLT, Nat.reduceLeDiff, Nat.reduceEqDiff, and_self, ↓reduceIte]
  rw [hl1]
  simp only [runFn, ss, execs, exec, ev, evs, evo, evT, evA, evR, evO, evI, assign, setAll, wipeL, look, O.bind_ok, O.bind_no, O.of_some, O.of_none, R.toD_d, R.toD_fl, List.getElem?_cons_zero, List.getElem?_cons_succ, List.set_cons_zero, List.set_cons_succ, List.map_cons, List.map_nil, List.length_cons, List.length_nil, List.cons_append, List.nil_append, List.replicate, Option.map_some, Option.map_none, true_and, and_true, Nat.reduceAdd, Nat.reduceSub, Nat.reduceLT, Nat.reduceLeDiff, Nat.reduceEqDiff, and_self, ↓reduceIte]
  rw [mod_int (by decide)]
  have e : tot s s.length % 971 = chk s := by
    unfold tot chk
    rw [List.take_of_length_le (by simp)]
  rw [e]
  rfl
end K67
/-! K67e: records, journals. -/
namespace K67
open Pd
theorem r1 (k : Nat) (ds : List D) : run Pr (k + 1) 1 ds = runFn (En k) c_record ds := rfl
theorem r9 (k : Nat) (ds : List D) : run Pr (k + 1) 9 ds = runFn (En k) c__law_record ds := rfl
theorem call_ok {E : Env} {f : Nat} {ds : List D} {r : R} {g g' : G} (h : D.pures ds = true) (e : E.call f ds = .ok r g') : callW E f ds g = .ok r g := by
  unfold callW
  rw [if_pos h, e]
theorem chk_lt (s : List Nat) : 0 ≤ chk s ∧ chk s < 971 := ⟨Int.emod_nonneg _ (by decide), Int.emod_lt_of_pos _ (by decide)⟩
/-- the check as a text -/
def chkT (s : List Nat) : List Nat := natL (chk s).toNat
theorem intL_nat (n : Nat) : intL (n : Int) = natL n := rfl
theorem intL_chk (s : List Nat) : intL (chk s) = chkT s := by
  have h := (chk_lt s).1
  unfold chkT
  rw [← intL_nat, Int.toNat_of_nonneg h]
theorem chkT_len (s : List Nat) : (chkT s).length ≤ 21 := natL_len (by have := (chk_lt s).2; omega)
theorem fmt_nat {n : Nat} (h : n ≤ LIM) : fmt (.int (n : Int)) = some (natL n) := by
  have hl : LIM = 1000000 := rfl
  show (if (n : Int).natAbs < 1000000000000000000000 then some (intL n) else none) = _
  rw [if_pos (by omega)]
  rfl
theorem fmt_chk (s : List Nat) : fmt (.int (chk s)) = some (chkT s) := by
  show (if (chk s).natAbs < 1000000000000000000000 then some (intL (chk s)) else none) = _
  rw [if_pos (by have := chk_lt s; omega), intL_chk]
/-- a record -/
def rec (n : Nat) (s : List Nat) : List Nat := natL n ++ (44 :: (chkT s ++ (44 :: (s ++ [10]))))
theorem nat_len {n : Nat} (h : n ≤ LIM) : (natL n).length ≤ 21 := natL_len (by have hl : LIM = 1000000 := rfl; omega)
theorem rec_len {n : Nat} (h : n ≤ LIM) (s : List Nat) : (rec n s).length ≤ s.length + 45 := by
  have h1 := nat_len h
  have h2 := chkT_len s
  unfold rec
  simp only [List.length_append, List.length_cons, List.length_nil]
  omega
theorem run_rec (k n : Nat) (s : List Nat) (hn : n ≤ LIM) (h : s.length ≤ 900000) : run Pr (k + 2) 1 [.int n, .str s] = .ok (.d (.str (rec n s))) [] := by
  have hl : LIM = 1000000 := rfl
  have hc := run_check k s (by omega)
  rw [r1]
  unfold c_record
  simp only [runFn, ss, execs, exec, ev, evs, evo, evT, evA, evR, evO, evI, assign, setAll, wipeL, look, O.bind_ok, O.bind_no, O.of_some, O.of_none, R.toD_d, R.toD_fl, List.getElem?_cons_zero, List.getElem?_cons_succ, List.set_cons_zero, List.set_cons_succ, List.map_cons, List.map_nil, List.length_cons, List.length_nil, List.cons_append, List.nil_append, List.replicate, Option.map_some, Option.map_none, true_and, and_true, Nat.reduceAdd, Nat.reduceSub, Nat.reduceLT, Nat.reduceLeDiff, Nat.reduceEqDiff, and_self, ↓reduceIte]
  rw [fmt_nat hn]
  simp only [runFn, ss, execs, exec, ev, evs, evo, evT, evA, evR, evO, evI, assign, setAll, wipeL, look, O.bind_ok, O.bind_no, O.of_some, O.of_none, R.toD_d, R.toD_fl, List.getElem?_cons_zero, List.getElem?_cons_succ, List.set_cons_zero, List.set_cons_succ, List.map_cons, List.map_nil, List.length_cons, List.length_nil, List.cons_append, List.nil_append, List.replicate, Option.map_some, Option.map_none, true_and, and_true, Nat.reduceAdd, Nat.reduceSub, Nat.reduceLT, Nat.reduceLeDiff, Nat.reduceEqDiff, and_self, ↓reduceIte]
  rw [call_ok (r := .d (.int (chk s))) rfl hc]
  simp only [runFn, ss, execs, exec, ev, evs, evo, evT, evA, evR, evO, evI, assign, setAll, wipeL, look, O.bind_ok, O.bind_no, O.of_some, O.of_none, R.toD_d, R.toD_fl, List.getElem?_cons_zero, List.getElem?_cons_succ, List.set_cons_zero, List.set_cons_succ, List.map_cons, List.map_nil, List.length_cons, List.length_nil, List.cons_append, List.nil_append, List.replicate, Option.map_some, Option.map_none, true_and, and_true, Nat.reduceAdd, Nat.reduceSub, Nat.reduceLT, Nat.reduceLeDiff, Nat.reduceEqDiff, and_self, ↓reduceIte]
  rw [fmt_chk]
  simp only [runFn, ss, execs, exec, ev, evs, evo, evT, evA, evR, evO, evI, assign, setAll, wipeL, look, O.bind_ok, O.bind_no, O.of_some, O.of_none, R.toD_d, R.toD_fl, List.getElem?_cons_zero, List.getElem?_cons_succ, List.set_cons_zero, List.set_cons_succ, List.map_cons, List.map_nil, List.length_cons, List.length_nil, List.cons_append, List.nil_append, List.replicate, Option.map_some, Option.map_none, true_and, and_true, Nat.reduceAdd, Nat.reduceSub, Nat.reduceLT, Nat.reduceLeDiff, Nat.reduceEqDiff, and_self, ↓reduceIte]
  rw [show fmt (.str s) = some s from rfl]
  simp only [runFn, ss, execs, exec, ev, evs, evo, evT, evA, evR, evO, evI, assign, setAll, wipeL, look, O.bind_ok, O.bind_no, O.of_some, O.of_none, R.toD_d, R.toD_fl, List.getElem?_cons_zero, List.getElem?_cons_succ, List.set_cons_zero, List.set_cons_succ, List.map_cons, List.map_nil, List.length_cons, List.length_nil, List.cons_append, List.nil_append, List.replicate, Option.map_some, Option.map_none, true_and, and_true, Nat.reduceAdd, Nat.reduceSub, Nat.reduceLT, Nat.reduceLeDiff, Nat.reduceEqDiff, and_self, ↓reduceIte]
  have e : dStrs [.str (natL n), .str [44], .str (chkT s), .str [44], .str s, .str [10]] = some [natL n, [44], chkT s, [44], s, [10]] := dStrs_map [natL n, [44], chkT s, [44], s, [10]]
  have e2 : [natL n, [44], chkT s, [44], s, [10]].flatten = rec n s := by simp [rec]
  rw [e, Option.bind_some, e2, if_pos (short (by have := rec_len hn s; omega))]
  rfl
theorem str_nat {n : Nat} (h : n ≤ LIM) : bi .str [.int (n : Int)] = some (.d (.str (natL n))) := by
  have hl : LIM = 1000000 := rfl
  show (if (n : Int).natAbs < 1000000000000000000000 then some (R.d (.str (intL n))) else none) = _
  rw [if_pos (by omega)]
  rfl
theorem str_chk (s : List Nat) : bi .str [.int (chk s)] = some (.d (.str (chkT s))) := by
  show (if (chk s).natAbs < 1000000000000000000000 then some (R.d (.str (intL (chk s)))) else none) = _
  rw [if_pos (by have := chk_lt s; omega), intL_chk]
theorem run_lawrec (k n : Nat) (s : List Nat) (hn : n ≤ LIM) (h : s.length ≤ 900000) : run Pr (k + 2) 9 [.int n, .str s] = .ok (.d (.str (rec n s))) [] := by
  have hl : LIM = 1000000 := rfl
  have hc := run_lawcheck k s (by omega)
  have h1 := nat_len hn
  have h2 := chkT_len s
  rw [r9]
  unfold c__law_record
  simp only [runFn, ss, execs, exec, ev, evs, evo, evT, evA, evR, evO, evI, assign, setAll, wipeL, look, O.bind_ok, O.bind_no, O.of_some, O.of_none, R.toD_d, R.toD_fl, List.getElem?_cons_zero, List.getElem?_cons_succ, List.set_cons_zero, List.set_cons_succ, List.map_cons, List.map_nil, List.length_cons, List.length_nil, List.cons_append, List.nil_append, List.replicate, Option.map_some, Option.map_none, true_and, and_true, Nat.reduceAdd, Nat.reduceSub, Nat.reduceLT, Nat.reduceLeDiff, Nat.reduceEqDiff, and_self, ↓reduceIte]
  rw [str_nat hn]
  simp only [runFn, ss, execs, exec, ev, evs, evo, evT, evA, evR, evO, evI, assign, setAll, wipeL, look, O.bind_ok, O.bind_no, O.of_some, O.of_none, R.toD_d, R.toD_fl, List.getElem?_cons_zero, List.getElem?_cons_succ, List.set_cons_zero, List.set_cons_succ, List.map_cons, List.map_nil, List.length_cons, List.length_nil, List.cons_append, List.nil_append, List.replicate, Option.map_some, Option.map_none, true_and, and_true, Nat.reduceAdd, Nat.reduceSub, Nat.reduceLT, Nat.reduceLeDiff, Nat.reduceEqDiff, and_self, ↓reduceIte]
  rw [add_str (by simp; omega)]
  simp only [runFn, ss, execs, exec, ev, evs, evo, evT, evA, evR, evO, evI, assign, setAll, wipeL, look, O.bind_ok, O.bind_no, O.of_some, O.of_none, R.toD_d, R.toD_fl, List.getElem?_cons_zero, List.getElem?_cons_succ, List.set_cons_zero, List.set_cons_succ, List.map_cons, List.map_nil, List.length_cons, List.length_nil, List.cons_append, List.nil_append, List.replicate, Option.map_some, Option.map_none, true_and, and_true, Nat.reduceAdd, Nat.reduceSub, Nat.reduceLT, Nat.reduceLeDiff, Nat.reduceEqDiff, and_self, ↓reduceIte]
  rw [call_ok (r := .d (.int (chk s))) rfl hc]
  simp only [runFn, ss, execs, exec, ev, evs, evo, evT, evA, evR, evO, evI, assign, setAll, wipeL, look, O.bind_ok, O.bind_no, O.of_some, O.of_none, R.toD_d, R.toD_fl, List.getElem?_cons_zero, List.getElem?_cons_succ, List.set_cons_zero, List.set_cons_succ, List.map_cons, List.map_nil, List.length_cons, List.length_nil, List.cons_append, List.nil_append, List.replicate, Option.map_some, Option.map_none, true_and, and_true, Nat.reduceAdd, Nat.reduceSub, Nat.reduceLT, Nat.reduceLeDiff, Nat.reduceEqDiff, and_self, ↓reduceIte]
  rw [str_chk]
  simp only [runFn, ss, execs, exec, ev, evs, evo, evT, evA, evR, evO, evI, assign, setAll, wipeL, look, O.bind_ok, O.bind_no, O.of_some, O.of_none, R.toD_d, R.toD_fl, List.getElem?_cons_zero, List.getElem?_cons_succ, List.set_cons_zero, List.set_cons_succ, List.map_cons, List.map_nil, List.length_cons, List.length_nil, List.cons_append, List.nil_append, List.replicate, Option.map_some, Option.map_none, true_and, and_true, Nat.reduceAdd, Nat.reduceSub, Nat.reduceLT, Nat.reduceLeDiff, Nat.reduceEqDiff, and_self, ↓reduceIte]
  rw [add_str (by simp; omega)]
  simp only [runFn, ss, execs, exec, ev, evs, evo, evT, evA, evR, evO, evI, assign, setAll, wipeL, look, O.bind_ok, O.bind_no, O.of_some, O.of_none, R.toD_d, R.toD_fl, List.getElem?_cons_zero, List.getElem?_cons_succ, List.set_cons_zero, List.set_cons_succ, List.map_cons, List.map_nil, List.length_cons, List.length_nil, List.cons_append, List.nil_append, List.replicate, Option.map_some, Option.map_none, true_and, and_true, Nat.reduceAdd, Nat.reduceSub, Nat.reduceLT, Nat.reduceLeDiff, Nat.reduceEqDiff, and_self, ↓reduceIte]
  rw [add_str (by simp; omega)]
  simp only [runFn, ss, execs, exec, ev, evs, evo, evT, evA, evR, evO, evI, assign, setAll, wipeL, look, O.bind_ok, O.bind_no, O.of_some, O.of_none, R.toD_d, R.toD_fl, List.getElem?_cons_zero, List.getElem?_cons_succ, List.set_cons_zero, List.set_cons_succ, List.map_cons, List.map_nil, List.length_cons, List.length_nil, List.cons_append, List.nil_append, List.replicate, Option.map_some, Option.map_none, true_and, and_true, Nat.reduceAdd, Nat.reduceSub, Nat.reduceLT, Nat.reduceLeDiff, Nat.reduceEqDiff, and_self, ↓reduceIte]
  rw [add_str (by simp; omega)]
  simp only [runFn, ss, execs, exec, ev, evs, evo, evT, evA, evR, evO, evI, assign, setAll, wipeL, look, O.bind_ok, O.bind_no, O.of_some, O.of_none, R.toD_d, R.toD_fl, List.getElem?_cons_zero, List.getElem?_cons_succ, List.set_cons_zero, List.set_cons_succ, List.map_cons, List.map_nil, List.length_cons, List.length_nil, List.cons_append, List.nil_append, List.replicate, Option.map_some, Option.map_none, true_and, and_true, Nat.reduceAdd, Nat.reduceSub, Nat.reduceLT, Nat.reduceLeDiff, Nat.reduceEqDiff, and_self, ↓reduceIte]
  rw [add_str (by simp; omega)]
  simp only [runFn, ss, execs, exec, ev, evs, evo, evT, evA, evR, evO, evI, assign, setAll, wipeL, look, O.bind_ok, O.bind_no, O.of_some, O.of_none, R.toD_d, R.toD_fl, List.getElem?_cons_zero, List.getElem?_cons_succ, List.set_cons_zero, List.set_cons_succ, List.map_cons, List.map_nil, List.length_cons, List.length_nil, List.cons_append, List.nil_append, List.replicate, Option.map_some, Option.map_none, true_and, and_true, Nat.reduceAdd, Nat.reduceSub, Nat.reduceLT, Nat.reduceLeDiff, Nat.reduceEqDiff, and_self, ↓reduceIte]
  have e : ((((natL n ++ [44]) ++ chkT s) ++ [44]) ++ s) ++ [10] = rec n s := by simp [rec]
  rw [e]
  rfl
/-! ### journals -/
def jour (n : Nat) : List (List Nat) → List Nat
  | [] => []
  | s :: r => rec n s ++ jour (n + 1) r
theorem jour_len : ∀ (ls : List (List Nat)) (n : Nat), n + ls.length ≤ LIM → (jour n ls).length ≤ (ls.map List.length).sum + 45 * ls.length
  | [], n, h => Nat.zero_le _
  | s :: r, n, h => by
    rw [List.length_cons] at h
    have h1 := rec_len (n := n) (by omega) s
    have h2 := jour_len r (n + 1) (by omega)
    simp only [jour, List.length_append, List.map_cons, List.sum_cons, List.length_cons]
    omega
theorem joinE : ∀ l : List (List Nat), joinL [] l = l.flatten
  | [] => rfl
  | [p] => by simp [joinL]
  | p :: q :: r => by
    show p ++ [] ++ joinL [] (q :: r) = _
    rw [joinE (q :: r)]
    simp
theorem jour_eq : ∀ (ls : List (List Nat)) (n : Nat), ((ls.zipIdx n).map fun p => rec p.2 p.1).flatten = jour n ls
  | [], n => rfl
  | s :: r, n => by
    rw [List.zipIdx_cons, List.map_cons, List.flatten_cons, jour_eq r (n + 1)]
    rfl
theorem zip_shift : ∀ (ls : List (List Nat)) (n : Nat), (ls.zipIdx n).map (fun p => rec (p.2 + 1) p.1) = (ls.zipIdx (n + 1)).map fun p => rec p.2 p.1
  | [], n => rfl
  | s :: r, n => by
    rw [List.zipIdx_cons, List.zipIdx_cons, List.map_cons, List.map_cons, zip_shift r (n + 1)]
theorem zip_mem {α : Type} {s : List α} {p : α × Nat} (h : p ∈ s.zipIdx) : p.2 < s.length ∧ s[p.2]? = some p.1 := by
  obtain ⟨c, i⟩ := p
  have := List.mem_zipIdx h
  refine ⟨by simpa using this.2.1, ?_⟩
  have h2 := this.2.2
  rw [List.getElem?_eq_getElem (by simpa using this.2.1)]
  simp at h2
  exact congrArg some h2.symm
theorem sum_mem {l : List (List Nat)} {s : List Nat} (h : s ∈ l) : s.length ≤ (l.map List.length).sum := List.single_le_sum_of_mem h
where
  List.single_le_sum_of_mem : ∀ {l : List (List Nat)} {s : List Nat}, s ∈ l → s.length ≤ (l.map List.length).sum
    | a :: l, s, h => by
      rw [List.map_cons, List.sum_cons]
      rcases List.mem_cons.mp h with e | h
      · rw [e]; omega
      · have := List.single_le_sum_of_mem h; omega
/-- of a size that the defs take -/
def Sz (ls : List (List Nat)) : Prop := (ls.map List.length).sum + 45 * ls.length ≤ 800000
theorem r2 (k : Nat) (ds : List D) : run Pr (k + 1) 2 ds = runFn (En k) c_journal_of ds := rfl
theorem r10 (k : Nat) (ds : List D) : run Pr (k + 1) 10 ds = runFn (En k) c__law_journal ds := rfl
theorem met_join {ls : List (List Nat)} (h : (ls.flatten).length ≤ LIM) : met .join [] [.lst (ls.map .str)] = some (.d (.str ls.flatten)) := by
  show ((dStrs (ls.map .str)).bind fun l => if isShort LIM (joinL [] l) then some (R.d (.str (joinL [] l))) else none) = _
  rw [dStrs_map, Option.bind_some, joinE, if_pos (short h)]
theorem run_jour (k : Nat) (ls : List (List Nat)) (h : Sz ls) : run Pr (k + 3) 2 [.lst (ls.map .str)] = .ok (.d (.str (jour 1 ls))) [] := by
  have hl : LIM = 1000000 := rfl
  unfold Sz at h
  rw [r2]
  unfold c_journal_of
  simp only [runFn, ss, execs, exec, ev, evs, evo, evT, evA, evR, evO, evI, assign, setAll, wipeL, look, O.bind_ok, O.bind_no, O.of_some, O.of_none, R.toD_d, R.toD_fl, List.getElem?_cons_zero, List.getElem?_cons_succ, List.set_cons_zero, List.set_cons_succ, List.map_cons, List.map_nil, List.length_cons, List.length_nil, List.cons_append, List.nil_append, List.replicate, Option.map_some, Option.map_none, true_and, and_true, Nat.reduceAdd, Nat.reduceSub, Nat.reduceLT, Nat.reduceLeDiff, Nat.reduceEqDiff, and_self, ↓reduceIte]
  rw [show seqE (.lst (ls.map .str)) = some (ls.map .str) from rfl]
  simp only [runFn, ss, execs, exec, ev, evs, evo, evT, evA, evR, evO, evI, assign, setAll, wipeL, look, O.bind_ok, O.bind_no, O.of_some, O.of_none, R.toD_d, R.toD_fl, List.getElem?_cons_zero, List.getElem?_cons_succ, List.set_cons_zero, List.set_cons_succ, List.map_cons, List.map_nil, List.length_cons, List.length_nil, List.cons_append, List.nil_append, List.replicate, Option.map_some, Option.map_none, true_and, and_true, Nat.reduceAdd, Nat.reduceSub, Nat.reduceLT, Nat.reduceLeDiff, Nat.reduceEqDiff, and_self, ↓reduceIte]
  have en : enumD 0 (ls.map D.str) = ls.zipIdx.map fun p => .tup [.int (p.2 : Int), .str p.1] := enum_zip _ ls 0
  rw [en, if_pos (short (by simp; omega)), lc_gen (out := fun p : List Nat × Nat => D.str (rec (p.2 + 1) p.1)) rfl]
  · simp only [runFn, ss, execs, exec, ev, evs, evo, evT, evA, evR, evO, evI, assign, setAll, wipeL, look, O.bind_ok, O.bind_no, O.of_some, O.of_none, R.toD_d, R.toD_fl, List.getElem?_cons_zero, List.getElem?_cons_succ, List.set_cons_zero, List.set_cons_succ, List.map_cons, List.map_nil, List.length_cons, List.length_nil, List.cons_append, List.nil_append, List.replicate, Option.map_some, Option.map_none, true_and, and_true, Nat.reduceAdd, Nat.reduceSub, Nat.reduceLT, Nat.reduceLeDiff, Nat.reduceEqDiff, and_self, ↓reduceIte]
    have e : (ls.zipIdx.map fun p : List Nat × Nat => D.str (rec (p.2 + 1) p.1)) = (ls.zipIdx.map fun p => rec (p.2 + 1) p.1).map .str := by rw [List.map_map]; rfl
    have e2 : (ls.zipIdx.map fun p => rec (p.2 + 1) p.1).flatten = jour 1 ls := by rw [zip_shift, jour_eq]
    rw [e, met_join (by rw [e2]; have := jour_len ls 1 (by omega); omega), e2]
    rfl
  · intro p hp
    obtain ⟨h1, h2⟩ := zip_mem hp
    have h3 := sum_mem (List.mem_of_getElem? h2)
    simp only [runFn, ss, execs, exec, ev, evs, evo, evT, evA, evR, evO, evI, assign, setAll, wipeL, look, O.bind_ok, O.bind_no, O.of_some, O.of_none, R.toD_d, R.toD_fl, List.getElem?_cons_zero, List.getElem?_cons_succ, List.set_cons_zero, List.set_cons_succ, List.map_cons, List.map_nil, List.length_cons, List.length_nil, List.cons_append, List.nil_append, List.replicate, Option.map_some, Option.map_none, true_and, and_true, Nat.reduceAdd, Nat.reduceSub, Nat.reduceLT, Nat.reduceLeDiff, Nat.reduceEqDiff, and_self, ↓reduceIte]
    rw [add_int]
    simp only [runFn, ss, execs, exec, ev, evs, evo, evT, evA, evR, evO, evI, assign, setAll, wipeL, look, O.bind_ok, O.bind_no, O.of_some, O.of_none, R.toD_d, R.toD_fl, List.getElem?_cons_zero, List.getElem?_cons_succ, List.set_cons_zero, List.set_cons_succ, List.map_cons, List.map_nil, List.length_cons, List.length_nil, List.cons_append, List.nil_append, List.replicate, Option.map_some, Option.map_none, true_and, and_true, Nat.reduceAdd, Nat.reduceSub, Nat.reduceLT, Nat.reduceLeDiff, Nat.reduceEqDiff, and_self, ↓reduceIte]
    have h4 := run_rec k (p.2 + 1) p.1 (by omega) (by omega)
    rw [call_ok (r := .d (.str (rec (p.2 + 1) p.1))) rfl h4]
    rfl
theorem run_lawjour (k : Nat) (ls : List (List Nat)) (h : Sz ls) : run Pr (k + 3) 10 [.lst (ls.map .str)] = .ok (.d (.str (jour 1 ls))) [] := by
  have hl : LIM = 1000000 := rfl
  unfold Sz at h
  have hsm : small ((ls.map D.str).length : Int) = true := by unfold small; exact decide_eq_true (by rw [List.length_map]; omega)
  rw [r10]
  unfold c__law_journal
  simp only [runFn, ss, execs, exec, ev, evs, evo, evT, evA, evR, evO, evI, assign, setAll, wipeL, look, O.bind_ok, O.bind_no, O.of_some, O.of_none, R.toD_d, R.toD_fl, List.getElem?_cons_zero, List.getElem?_cons_succ, List.set_cons_zero, List.set_cons_succ, List.map_cons, List.map_nil, List.length_cons, List.length_nil, List.cons_append, List.nil_append, List.replicate, Option.map_some, Option.map_none, true_and, and_true, Nat.reduceAdd, Nat.reduceSub, Nat.reduceLT, Nat.reduceLeDiff, Nat.reduceEqDiff, and_self, ↓reduceIte]
  rw [len_lst]
  simp only [runFn, ss, execs, exec, ev, evs, evo, evT, evA, evR, evO, evI, assign, setAll, wipeL, look, O.bind_ok, O.bind_no, O.of_some, O.of_none, R.toD_d, R.toD_fl, List.getElem?_cons_zero, List.getElem?_cons_succ, List.set_cons_zero, List.set_cons_succ, List.map_cons, List.map_nil, List.length_cons, List.length_nil, List.cons_append, List.nil_append, List.replicate, Option.map_some, Option.map_none, true_and, and_true, Nat.reduceAdd, Nat.reduceSub, Nat.reduceLT, Nat.reduceLeDiff, Nat.reduceEqDiff, and_self, ↓reduceIte]
  rw [if_pos hsm]
  simp only [runFn, ss, execs, exec, ev, evs, evo, evT, evA, evR, evO, evI, assign, setAll, wipeL, look, O.bind_ok, O.bind_no, O.of_some, O.of_none, R.toD_d, R.toD_fl, List.getElem?_cons_zero, List.getElem?_cons_succ, List.set_cons_zero, List.set_cons_succ, List.map_cons, List.map_nil, List.length_cons, List.length_nil, List.cons_append, List.nil_append, List.replicate, Option.map_some, Option.map_none, true_and, and_true, Nat.reduceAdd, Nat.reduceSub, Nat.reduceLT, Nat.reduceLeDiff, Nat.reduceEqDiff, and_self, ↓reduceIte]
  have en : rangeD 0 ((ls.map D.str).length : Int).toNat = ls.zipIdx.map fun p => .int (p.2 : Int) := by
    apply List.ext_getElem?
    intro i
    unfold rangeD
    rw [List.getElem?_map, List.getElem?_map, List.getElem?_zipIdx, List.length_map, Int.toNat_natCast]
    by_cases hi : i < ls.length
    · rw [List.getElem?_eq_getElem (by simpa using hi), List.getElem?_eq_getElem hi]
      simp
    · rw [List.getElem?_eq_none (by simp; omega), List.getElem?_eq_none (by omega)]
      rfl
  rw [en, if_pos (short (by simp; omega)), lc_gen (out := fun p : List Nat × Nat => D.str (rec (p.2 + 1) p.1)) rfl]
  · simp only [runFn, ss, execs, exec, ev, evs, evo, evT, evA, evR, evO, evI, assign, setAll, wipeL, look, O.bind_ok, O.bind_no, O.of_some, O.of_none, R.toD_d, R.toD_fl, List.getElem?_cons_zero, List.getElem?_cons_succ, List.set_cons_zero, List.set_cons_succ, List.map_cons, List.map_nil, List.length_cons, List.length_nil, List.cons_append, List.nil_append, List.replicate, Option.map_some, Option.map_none, true_and, and_true, Nat.reduceAdd, Nat.reduceSub, Nat.reduceLT, Nat.reduceLeDiff, Nat.reduceEqDiff, and_self, ↓reduceIte]
    have e : (ls.zipIdx.map fun p : List Nat × Nat => D.str (rec (p.2 + 1) p.1)) = (ls.zipIdx.map fun p => rec (p.2 + 1) p.1).map .str := by rw [List.map_map]; rfl
    have e2 : (ls.zipIdx.map fun p => rec (p.2 + 1) p.1).flatten = jour 1 ls := by rw [zip_shift, jour_eq]
    rw [e, met_join (by rw [e2]; have := jour_len ls 1 (by omega); omega), e2]
    rfl
  · intro p hp
    obtain ⟨h1, h2⟩ := zip_mem hp
    have h3 := sum_mem (List.mem_of_getElem? h2)
    have h5 : (ls.map D.str)[p.2]? = some (.str p.1) := by rw [List.getElem?_map, h2]; rfl
    simp only [runFn, ss, execs, exec, ev, evs, evo, evT, evA, evR, evO, evI, assign, setAll, wipeL, look, O.bind_ok, O.bind_no, O.of_some, O.of_none, R.toD_d, R.toD_fl, List.getElem?_cons_zero, List.getElem?_cons_succ, List.set_cons_zero, List.set_cons_succ, List.map_cons, List.map_nil, List.length_cons, List.length_nil, List.cons_append, List.nil_append, List.replicate, Option.map_some, Option.map_none, true_and, and_true, Nat.reduceAdd, Nat.reduceSub, Nat.reduceLT, Nat.reduceLeDiff, Nat.reduceEqDiff, and_self, ↓reduceIte]
    rw [add_int, ix_lst h5]
    simp only [runFn, ss, execs, exec, ev, evs, evo, evT, evA, evR, evO, evI, assign, setAll, wipeL, look, O.bind_ok, O.bind_no, O.of_some, O.of_none, R.toD_d, R.toD_fl, List.getElem?_cons_zero, List.getElem?_cons_succ, List.set_cons_zero, List.set_cons_succ, List.map_cons, List.map_nil, List.length_cons, List.length_nil, List.cons_append, List.nil_append, List.replicate, Option.map_some, Option.map_none, true_and, and_true, Nat.reduceAdd, Nat.reduceSub, Nat.reduceLT, Nat.reduceLeDiff, Nat.reduceEqDiff, and_self, ↓reduceIte]
    have h4 := run_lawrec k (p.2 + 1) p.1 (by omega) (by omega)
    rw [call_ok (r := .d (.str (rec (p.2 + 1) p.1))) rfl h4]
    rfl
end K67
/-! K67f: rows back into lines. -/
namespace K67
open Pd
/-- what stands behind the first comma -/
def aft (s : List Nat) : List Nat := match par [44] [] s with
  | some (_, b) => b
  | none => []
def lineOf (row : List Nat) : List Nat := aft (aft row)
def okC (c : Nat) : Bool := !ltL [c] [32] && !ltL [126] [c]
def okRow (n : Nat) (row : List Nat) : Bool := decide ((lineOf row).length ≤ 4100) && ((lineOf row).all okC && (rec n (lineOf row) == row ++ [10]))
theorem part2 (s : List Nat) : ∃ a b, met .partition s [.str [44]] = some (.d (.tup [.str a, .str b, .str (aft s)])) := by
  show ∃ a b, (match par [44] [] s with
    | some (a, b) => some (R.d (.tup [.str a, .str [44], .str b]))
    | none => some (.d (.tup [.str s, .str [], .str []]))) = _
  unfold aft
  cases h : par [44] [] s with
  | none => exact ⟨_, _, rfl⟩
  | some p => obtain ⟨a, b⟩ := p; exact ⟨_, _, rfl⟩
theorem ix_tup3 (x y z : D) : ixop (.tup [x, y, z]) (.int 2) = some z := rfl
theorem aft_len (s : List Nat) : (aft s).length ≤ s.length := by
  unfold aft
  cases h : par [44] [] s with
  | none => exact Nat.zero_le _
  | some p =>
    obtain ⟨a, b⟩ := p
    have := (par_mem [44] s [] a b h).2.2
    simp at this ⊢
    omega
theorem lineOf_len (s : List Nat) : (lineOf s).length ≤ s.length := Nat.le_trans (aft_len _) (aft_len _)
theorem cmp_le_str (a b : List Nat) : cmpop .le (.str a) (.str b) = some (!ltL b a) := rfl
theorem cmp_lt_str (a b : List Nat) : cmpop .lt (.str a) (.str b) = some (ltL a b) := rfl
theorem cmp_gt_str (a b : List Nat) : cmpop .gt (.str a) (.str b) = some (ltL b a) := rfl
theorem cmp_eq_str (a b : List Nat) : cmpop .eq (.str a) (.str b) = some (a == b) := rfl
theorem cmp_ne_str (a b : List Nat) : cmpop .ne (.str a) (.str b) = some (!(a == b)) := rfl
theorem cmp_gt_int (a b : Int) : cmpop .gt (.int a) (.int b) = some (decide (b < a)) := rfl
theorem cmp_lt_int (a b : Int) : cmpop .lt (.int a) (.int b) = some (decide (a < b)) := rfl
theorem seq_str (s : List Nat) : seqD (.str s) = some (s.map fun c => .str [c]) := rfl
theorem seq_lst (s : List D) : seqD (.lst s) = some s := rfl
theorem all_bl (l : List Bool) : bi .all [.lst (l.map .bl)] = some (.d (.bl (l.all id))) := by
  show (dBls _).map _ = _
  rw [dBls_map]
  rfl
theorem r3 (k : Nat) (ds : List D) : run Pr (k + 1) 3 ds = runFn (En k) c_line_in ds := rfl
theorem run_line (k n : Nat) (row : List Nat) (hn : n ≤ LIM) (h : row.length ≤ 800000) : run Pr (k + 3) 3 [.int n, .str row] = .ok (.d (if okRow n row = true then .str (lineOf row) else .non)) [] := by
  have hl : LIM = 1000000 := rfl
  have hll := lineOf_len row
  obtain ⟨a1, b1, e1⟩ := part2 row
  obtain ⟨a2, b2, e2⟩ := part2 (aft row)
  rw [r3]
  unfold c_line_in
  simp only [runFn, ss, execs, exec, ev, evs, evo, evT, evA, evR, evO, evI, assign, setAll, wipeL, look, O.bind_ok, O.bind_no, O.of_some, O.of_none, R.toD_d, R.toD_fl, List.getElem?_cons_zero, List.getElem?_cons_succ, List.set_cons_zero, List.set_cons_succ, List.map_cons, List.map_nil, List.length_cons, List.length_nil, List.cons_append, List.nil_append, List.replicate, Option.map_some, Option.map_none, true_and, and_true, Nat.reduceAdd, Nat.reduceSub, Nat.reduceLT, Nat.reduceLeDiff, Nat.reduceEqDiff, and_self, ↓reduceIte]
  rw [e1]
  simp only [runFn, ss, execs, exec, ev, evs, evo, evT, evA, evR, evO, evI, assign, setAll, wipeL, look, O.bind_ok, O.bind_no, O.of_some, O.of_none, R.toD_d, R.toD_fl, List.getElem?_cons_zero, List.getElem?_cons_succ, List.set_cons_zero, List.set_cons_succ, List.map_cons, List.map_nil, List.length_cons, List.length_nil, List.cons_append, List.nil_append, List.replicate, Option.map_some, Option.map_none, true_and, and_true, Nat.reduceAdd, Nat.reduceSub, Nat.reduceLT, Nat.reduceLeDiff, Nat.reduceEqDiff, and_self, ↓reduceIte]
  rw [ix_tup3]
  simp only [runFn, ss, execs, exec, ev, evs, evo, evT, evA, evR, evO, evI, assign, setAll, wipeL, look, O.bind_ok, O.bind_no, O.of_some, O.of_none, R.toD_d, R.toD_fl, List.getElem?_cons_zero, List.getElem?_cons_succ, List.set_cons_zero, List.set_cons_succ, List.map_cons, List.map_nil, List.length_cons, List.length_nil, List.cons_append, List.nil_append, List.replicate, Option.map_some, Option.map_none, true_and, and_true, Nat.reduceAdd, Nat.reduceSub, Nat.reduceLT, Nat.reduceLeDiff, Nat.reduceEqDiff, and_self, ↓reduceIte]
  rw [e2]
  simp only [runFn, ss, execs, exec, ev, evs, evo, evT, evA, evR, evO, evI, assign, setAll, wipeL, look, O.bind_ok, O.bind_no, O.of_some, O.of_none, R.toD_d, R.toD_fl, List.getElem?_cons_zero, List.getElem?_cons_succ, List.set_cons_zero, List.set_cons_succ, List.map_cons, List.map_nil, List.length_cons, List.length_nil, List.cons_append, List.nil_append, List.replicate, Option.map_some, Option.map_none, true_and, and_true, Nat.reduceAdd, Nat.reduceSub, Nat.reduceLT, Nat.reduceLeDiff, Nat.reduceEqDiff, and_self, ↓reduceIte]
  rw [ix_tup3]
  simp only [runFn, ss, execs, exec, ev, evs, evo, evT, evA, evR, evO, evI, assign, setAll, wipeL, look, O.bind_ok, O.bind_no, O.of_some, O.of_none, R.toD_d, R.toD_fl, List.getElem?_cons_zero, List.getElem?_cons_succ, List.set_cons_zero, List.set_cons_succ, List.map_cons, List.map_nil, List.length_cons, List.length_nil, List.cons_append, List.nil_append, List.replicate, Option.map_some, Option.map_none, true_and, and_true, Nat.reduceAdd, Nat.reduceSub, Nat.reduceLT, Nat.reduceLeDiff, Nat.reduceEqDiff, and_self, ↓reduceIte]
  show _ = O.ok (R.d (if okRow n row = true then D.str (lineOf row) else D.non)) []
  rw [show aft (aft row) = lineOf row from rfl]
  generalize hline : lineOf row = line
  rw [hline] at hll
  have hok : okRow n row = (decide (line.length ≤ 4100) && (line.all okC && (rec n line == row ++ [10]))) := by unfold okRow; rw [hline]
  rw [len_str]
  simp only [runFn, ss, execs, exec, ev, evs, evo, evT, evA, evR, evO, evI, assign, setAll, wipeL, look, O.bind_ok, O.bind_no, O.of_some, O.of_none, R.toD_d, R.toD_fl, List.getElem?_cons_zero, List.getElem?_cons_succ, List.set_cons_zero, List.set_cons_succ, List.map_cons, List.map_nil, List.length_cons, List.length_nil, List.cons_append, List.nil_append, List.replicate, Option.map_some, Option.map_none, true_and, and_true, Nat.reduceAdd, Nat.reduceSub, Nat.reduceLT, Nat.reduceLeDiff, Nat.reduceEqDiff, and_self, ↓reduceIte]
  rw [show Pr.glo 1 = some (.int 4100) from rfl]
  simp only [runFn, ss, execs, exec, ev, evs, evo, evT, evA, evR, evO, evI, assign, setAll, wipeL, look, O.bind_ok, O.bind_no, O.of_some, O.of_none, R.toD_d, R.toD_fl, List.getElem?_cons_zero, List.getElem?_cons_succ, List.set_cons_zero, List.set_cons_succ, List.map_cons, List.map_nil, List.length_cons, List.length_nil, List.cons_append, List.nil_append, List.replicate, Option.map_some, Option.map_none, true_and, and_true, Nat.reduceAdd, Nat.reduceSub, Nat.reduceLT, Nat.reduceLeDiff, Nat.reduceEqDiff, and_self, ↓reduceIte]
  rw [cmp_gt_int, hok]
  simp only [runFn, ss, execs, exec, ev, evs, evo, evT, evA, evR, evO, evI, assign, setAll, wipeL, look, O.bind_ok, O.bind_no, O.of_some, O.of_none, R.toD_d, R.toD_fl, List.getElem?_cons_zero, List.getElem?_cons_succ, List.set_cons_zero, List.set_cons_succ, List.map_cons, List.map_nil, List.length_cons, List.length_nil, List.cons_append, List.nil_append, List.replicate, Option.map_some, Option.map_none, true_and, and_true, Nat.reduceAdd, Nat.reduceSub, Nat.reduceLT, Nat.reduceLeDiff, Nat.reduceEqDiff, and_self, ↓reduceIte]
  by_cases h1 : (4100 : Int) < line.length
  · rw [show decide ((4100 : Int) < (line.length : Int)) = true from decide_eq_true h1, show decide (line.length ≤ 4100) = false from decide_eq_false (by omega)]
    simp only [runFn, ss, execs, exec, ev, evs, evo, evT, evA, evR, evO, evI, assign, setAll, wipeL, look, O.bind_ok, O.bind_no, O.of_some, O.of_none, R.toD_d, R.toD_fl, List.getElem?_cons_zero, List.getElem?_cons_succ, List.set_cons_zero, List.set_cons_succ, List.map_cons, List.map_nil, List.length_cons, List.length_nil, List.cons_append, List.nil_append, List.replicate, Option.map_some, Option.map_none, true_and, and_true, Nat.reduceAdd, Nat.reduceSub, Nat.reduceLT, Nat.reduceLeDiff, Nat.reduceEqDiff, and_self, ↓reduceIte]
    rfl
  · rw [show decide ((4100 : Int) < (line.length : Int)) = false from decide_eq_false h1, show decide (line.length ≤ 4100) = true from decide_eq_true (by omega)]
    simp only [runFn, ss, execs, exec, ev, evs, evo, evT, evA, evR, evO, evI, assign, setAll, wipeL, look, O.bind_ok, O.bind_no, O.of_some, O.of_none, R.toD_d, R.toD_fl, List.getElem?_cons_zero, List.getElem?_cons_succ, List.set_cons_zero, List.set_cons_succ, List.map_cons, List.map_nil, List.length_cons, List.length_nil, List.cons_append, List.nil_append, List.replicate, Option.map_some, Option.map_none, true_and, and_true, Nat.reduceAdd, Nat.reduceSub, Nat.reduceLT, Nat.reduceLeDiff, Nat.reduceEqDiff, and_self, ↓reduceIte, seq_str]
    rw [if_neg (by decide), if_pos (short (by simp; omega)), lc_gen (out := fun c : Nat => D.bl (okC c)) rfl]
    · simp only [runFn, ss, execs, exec, ev, evs, evo, evT, evA, evR, evO, evI, assign, setAll, wipeL, look, O.bind_ok, O.bind_no, O.of_some, O.of_none, R.toD_d, R.toD_fl, List.getElem?_cons_zero, List.getElem?_cons_succ, List.set_cons_zero, List.set_cons_succ, List.map_cons, List.map_nil, List.length_cons, List.length_nil, List.cons_append, List.nil_append, List.replicate, Option.map_some, Option.map_none, true_and, and_true, Nat.reduceAdd, Nat.reduceSub, Nat.reduceLT, Nat.reduceLeDiff, Nat.reduceEqDiff, and_self, ↓reduceIte]
      have e : (line.map fun c => D.bl (okC c)) = (line.map okC).map .bl := by rw [List.map_map]; rfl
      rw [e, all_bl]
      simp only [runFn, ss, execs, exec, ev, evs, evo, evT, evA, evR, evO, evI, assign, setAll, wipeL, look, O.bind_ok, O.bind_no, O.of_some, O.of_none, R.toD_d, R.toD_fl, List.getElem?_cons_zero, List.getElem?_cons_succ, List.set_cons_zero, List.set_cons_succ, List.map_cons, List.map_nil, List.length_cons, List.length_nil, List.cons_append, List.nil_append, List.replicate, Option.map_some, Option.map_none, true_and, and_true, Nat.reduceAdd, Nat.reduceSub, Nat.reduceLT, Nat.reduceLeDiff, Nat.reduceEqDiff, and_self, ↓reduceIte]
      have e3 : (line.map okC).all id = line.all okC := by rw [List.all_map]; rfl
      rw [show truth (.bl ((line.map okC).all id)) = some (line.all okC) from by rw [e3]; rfl]
      simp only [runFn, ss, execs, exec, ev, evs, evo, evT, evA, evR, evO, evI, assign, setAll, wipeL, look, O.bind_ok, O.bind_no, O.of_some, O.of_none, R.toD_d, R.toD_fl, List.getElem?_cons_zero, List.getElem?_cons_succ, List.set_cons_zero, List.set_cons_succ, List.map_cons, List.map_nil, List.length_cons, List.length_nil, List.cons_append, List.nil_append, List.replicate, Option.map_some, Option.map_none, true_and, and_true, Nat.reduceAdd, Nat.reduceSub, Nat.reduceLT, Nat.reduceLeDiff, Nat.reduceEqDiff, and_self, ↓reduceIte]
      cases hc : line.all okC with
      | false => rfl
      | true =>
        simp only [runFn, ss, execs, exec, ev, evs, evo, evT, evA, evR, evO, evI, assign, setAll, wipeL, look, O.bind_ok, O.bind_no, O.of_some, O.of_none, R.toD_d, R.toD_fl, List.getElem?_cons_zero, List.getElem?_cons_succ, List.set_cons_zero, List.set_cons_succ, List.map_cons, List.map_nil, List.length_cons, List.length_nil, List.cons_append, List.nil_append, List.replicate, Option.map_some, Option.map_none, true_and, and_true, Nat.reduceAdd, Nat.reduceSub, Nat.reduceLT, Nat.reduceLeDiff, Nat.reduceEqDiff, and_self, ↓reduceIte, Bool.not_true]
        rw [if_neg (by decide)]
        simp only [runFn, ss, execs, exec, ev, evs, evo, evT, evA, evR, evO, evI, assign, setAll, wipeL, look, O.bind_ok, O.bind_no, O.of_some, O.of_none, R.toD_d, R.toD_fl, List.getElem?_cons_zero, List.getElem?_cons_succ, List.set_cons_zero, List.set_cons_succ, List.map_cons, List.map_nil, List.length_cons, List.length_nil, List.cons_append, List.nil_append, List.replicate, Option.map_some, Option.map_none, true_and, and_true, Nat.reduceAdd, Nat.reduceSub, Nat.reduceLT, Nat.reduceLeDiff, Nat.reduceEqDiff, and_self, ↓reduceIte]
        have hr := run_rec k n line hn (by omega)
        rw [call_ok (r := .d (.str (rec n line))) rfl hr]
        simp only [runFn, ss, execs, exec, ev, evs, evo, evT, evA, evR, evO, evI, assign, setAll, wipeL, look, O.bind_ok, O.bind_no, O.of_some, O.of_none, R.toD_d, R.toD_fl, List.getElem?_cons_zero, List.getElem?_cons_succ, List.set_cons_zero, List.set_cons_succ, List.map_cons, List.map_nil, List.length_cons, List.length_nil, List.cons_append, List.nil_append, List.replicate, Option.map_some, Option.map_none, true_and, and_true, Nat.reduceAdd, Nat.reduceSub, Nat.reduceLT, Nat.reduceLeDiff, Nat.reduceEqDiff, and_self, ↓reduceIte]
        rw [add_str (by simp; omega)]
        simp only [runFn, ss, execs, exec, ev, evs, evo, evT, evA, evR, evO, evI, assign, setAll, wipeL, look, O.bind_ok, O.bind_no, O.of_some, O.of_none, R.toD_d, R.toD_fl, List.getElem?_cons_zero, List.getElem?_cons_succ, List.set_cons_zero, List.set_cons_succ, List.map_cons, List.map_nil, List.length_cons, List.length_nil, List.cons_append, List.nil_append, List.replicate, Option.map_some, Option.map_none, true_and, and_true, Nat.reduceAdd, Nat.reduceSub, Nat.reduceLT, Nat.reduceLeDiff, Nat.reduceEqDiff, and_self, ↓reduceIte]
        rw [cmp_eq_str]
        simp only [runFn, ss, execs, exec, ev, evs, evo, evT, evA, evR, evO, evI, assign, setAll, wipeL, look, O.bind_ok, O.bind_no, O.of_some, O.of_none, R.toD_d, R.toD_fl, List.getElem?_cons_zero, List.getElem?_cons_succ, List.set_cons_zero, List.set_cons_succ, List.map_cons, List.map_nil, List.length_cons, List.length_nil, List.cons_append, List.nil_append, List.replicate, Option.map_some, Option.map_none, true_and, and_true, Nat.reduceAdd, Nat.reduceSub, Nat.reduceLT, Nat.reduceLeDiff, Nat.reduceEqDiff, and_self, ↓reduceIte]
        cases hq : (rec n line == row ++ [10]) <;> rfl
    · intro c hc
      simp only [runFn, ss, execs, exec, ev, evs, evo, evT, evA, evR, evO, evI, assign, setAll, wipeL, look, O.bind_ok, O.bind_no, O.of_some, O.of_none, R.toD_d, R.toD_fl, List.getElem?_cons_zero, List.getElem?_cons_succ, List.set_cons_zero, List.set_cons_succ, List.map_cons, List.map_nil, List.length_cons, List.length_nil, List.cons_append, List.nil_append, List.replicate, Option.map_some, Option.map_none, true_and, and_true, Nat.reduceAdd, Nat.reduceSub, Nat.reduceLT, Nat.reduceLeDiff, Nat.reduceEqDiff, and_self, ↓reduceIte]
      rw [cmp_le_str]
      simp only [runFn, ss, execs, exec, ev, evs, evo, evT, evA, evR, evO, evI, assign, setAll, wipeL, look, O.bind_ok, O.bind_no, O.of_some, O.of_none, R.toD_d, R.toD_fl, List.getElem?_cons_zero, List.getElem?_cons_succ, List.set_cons_zero, List.set_cons_succ, List.map_cons, List.map_nil, List.length_cons, List.length_nil, List.cons_append, List.nil_append, List.replicate, Option.map_some, Option.map_none, true_and, and_true, Nat.reduceAdd, Nat.reduceSub, Nat.reduceLT, Nat.reduceLeDiff, Nat.reduceEqDiff, and_self, ↓reduceIte]
      unfold okC
      cases hx : ltL [c] [32] with
      | true => rfl
      | false =>
        simp only [runFn, ss, execs, exec, ev, evs, evo, evT, evA, evR, evO, evI, assign, setAll, wipeL, look, O.bind_ok, O.bind_no, O.of_some, O.of_none, R.toD_d, R.toD_fl, List.getElem?_cons_zero, List.getElem?_cons_succ, List.set_cons_zero, List.set_cons_succ, List.map_cons, List.map_nil, List.length_cons, List.length_nil, List.cons_append, List.nil_append, List.replicate, Option.map_some, Option.map_none, true_and, and_true, Nat.reduceAdd, Nat.reduceSub, Nat.reduceLT, Nat.reduceLeDiff, Nat.reduceEqDiff, and_self, ↓reduceIte, Bool.not_false]
        rw [cmp_le_str]
        rfl
end K67
/-! K67g: journals back into lines. -/
namespace K67
open Pd
def recs : Nat → List (List Nat) → List (List Nat)
  | _, [] => []
  | n, row :: r => if okRow n row = true then lineOf row :: recs (n + 1) r else []
def rowsOf (text : List Nat) : List (List Nat) := cut (spl [10] 0 [] text) none (some (-1))
theorem spl_count (S : List Nat) : ∀ (l : List Nat) (k : Nat) (acc : List Nat), (spl S k acc l).length ≤ l.length + 1
  | [], k, acc => by cases k <;> simp [spl]
  | c :: r, 0, acc => by
    rw [spl]
    split
    · rw [List.length_cons, List.length_cons]
      have := spl_count S r (S.length - 1) []
      omega
    · have := spl_count S r 0 (acc ++ [c])
      rw [List.length_cons]
      omega
  | c :: r, k + 1, acc => by
    rw [spl]
    have := spl_count S r k acc
    rw [List.length_cons]
    omega
theorem cut_map {α β : Type} (f : α → β) (xs : List α) (lo hi : Option Int) : cut (xs.map f) lo hi = (cut xs lo hi).map f := by
  unfold cut
  rw [List.length_map, List.map_take, List.map_drop]
theorem cut_mem {α : Type} {xs : List α} {lo hi : Option Int} {a : α} (h : a ∈ cut xs lo hi) : a ∈ xs := List.mem_of_mem_drop (List.mem_of_mem_take h)
theorem cut_len {α : Type} (xs : List α) (lo hi : Option Int) : (cut xs lo hi).length ≤ xs.length := by
  unfold cut
  rw [List.length_take, List.length_drop]
  omega
theorem rows_len (text : List Nat) : (rowsOf text).length ≤ text.length + 1 := Nat.le_trans (cut_len _ _ _) (spl_count _ _ _ _)
theorem row_len {text row : List Nat} (h : row ∈ rowsOf text) : row.length ≤ text.length := by
  have := (spl_mem [10] text 0 [] row (cut_mem h)).2
  simpa using this
theorem split_nl (text : List Nat) : met .split text [.str [10]] = some (.fl ((spl [10] 0 [] text).map .str)) := rfl
theorem slop_rows (text : List Nat) : slop (.lst ((spl [10] 0 [] text).map .str)) none (some (-((1 : Nat) : Int))) = some (.fl ((rowsOf text).map .str)) := by
  show some (R.fl (cut _ none (some (-1)))) = _
  rw [cut_map]
  rfl
theorem r4 (k : Nat) (ds : List D) : run Pr (k + 1) 4 ds = runFn (En k) c_lines_in ds := rfl
theorem pures_str (l : List (List Nat)) : D.pures (l.map .str) = true := by
  induction l with
  | nil => rfl
  | cons a l ih => exact ih
theorem get_drop {rows : List (List Nat)} {i : Nat} {row : List Nat} (h : rows[i]? = some row) : rows.drop i = row :: rows.drop (i + 1) := by
  have hl := (List.getElem?_eq_some_iff.mp h)
  rw [List.drop_eq_getElem_cons hl.1, hl.2]
theorem run_lines (k : Nat) (text : List Nat) (h : text.length ≤ 800000) : run Pr (k + 4) 4 [.str text] = .ok (.fl ((recs 1 (rowsOf text)).map .str)) [] := by
  have hl : LIM = 1000000 := rfl
  have hrl := rows_len text
  rw [r4]
  unfold c_lines_in
  simp only [runFn, ss, execs, exec, ev, evs, evo, evT, evA, evR, evO, evI, assign, setAll, wipeL, look, O.bind_ok, O.bind_no, O.of_some, O.of_none, R.toD_d, R.toD_fl, List.getElem?_cons_zero, List.getElem?_cons_succ, List.set_cons_zero, List.set_cons_succ, List.map_cons, List.map_nil, List.length_cons, List.length_nil, List.cons_append, List.nil_append, List.replicate, Option.map_some, Option.map_none, true_and, and_true, Nat.reduceAdd, Nat.reduceSub, Nat.reduceLT, Nat.reduceLeDiff, Nat.reduceEqDiff, and_self, ↓reduceIte]
  rw [if_pos (show isShort LIM ([] : List D) = true from rfl)]
  simp only [runFn, ss, execs, exec, ev, evs, evo, evT, evA, evR, evO, evI, assign, setAll, wipeL, look, O.bind_ok, O.bind_no, O.of_some, O.of_none, R.toD_d, R.toD_fl, List.getElem?_cons_zero, List.getElem?_cons_succ, List.set_cons_zero, List.set_cons_succ, List.map_cons, List.map_nil, List.length_cons, List.length_nil, List.cons_append, List.nil_append, List.replicate, Option.map_some, Option.map_none, true_and, and_true, Nat.reduceAdd, Nat.reduceSub, Nat.reduceLT, Nat.reduceLeDiff, Nat.reduceEqDiff, and_self, ↓reduceIte]
  rw [split_nl]
  simp only [runFn, ss, execs, exec, ev, evs, evo, evT, evA, evR, evO, evI, assign, setAll, wipeL, look, O.bind_ok, O.bind_no, O.of_some, O.of_none, R.toD_d, R.toD_fl, List.getElem?_cons_zero, List.getElem?_cons_succ, List.set_cons_zero, List.set_cons_succ, List.map_cons, List.map_nil, List.length_cons, List.length_nil, List.cons_append, List.nil_append, List.replicate, Option.map_some, Option.map_none, true_and, and_true, Nat.reduceAdd, Nat.reduceSub, Nat.reduceLT, Nat.reduceLeDiff, Nat.reduceEqDiff, and_self, ↓reduceIte]
  rw [slop_rows]
  simp only [runFn, ss, execs, exec, ev, evs, evo, evT, evA, evR, evO, evI, assign, setAll, wipeL, look, O.bind_ok, O.bind_no, O.of_some, O.of_none, R.toD_d, R.toD_fl, List.getElem?_cons_zero, List.getElem?_cons_succ, List.set_cons_zero, List.set_cons_succ, List.map_cons, List.map_nil, List.length_cons, List.length_nil, List.cons_append, List.nil_append, List.replicate, Option.map_some, Option.map_none, true_and, and_true, Nat.reduceAdd, Nat.reduceSub, Nat.reduceLT, Nat.reduceLeDiff, Nat.reduceEqDiff, and_self, ↓reduceIte, seq_lst]
  rw [if_pos (short (by simp; omega))]
  generalize hq : forLoop _ _ _ _ _ = q
  have key : ∃ l, (q = .ok (.nx, l) [.lst ((recs 1 (rowsOf text)).map .str)] ∧ l[1]? = some (some (.obj 0))) ∨ q = .ok (.rt (.d (.obj 0)), l) [.lst ((recs 1 (rowsOf text)).map .str)] := by
    rw [← hq]
    refine for_lst (fun i l g => ∃ acc rw ln, g = [.lst (acc.map .str)] ∧ l = [some (.str text), some (.obj 0), rw, ln] ∧ acc.length = i ∧ recs 1 (rowsOf text) = acc ++ recs (i + 1) ((rowsOf text).drop i))
      (fun o => ∃ l, (o = .ok (.nx, l) [.lst ((recs 1 (rowsOf text)).map .str)] ∧ l[1]? = some (some (.obj 0))) ∨ o = .ok (.rt (.d (.obj 0)), l) [.lst ((recs 1 (rowsOf text)).map .str)]) (fun i l g hp => rfl) (fun i x l g hx hp => ?_) (fun l g hp => ?_) ⟨[], none, none, rfl, rfl, rfl, by simp⟩
    · obtain ⟨acc, rw_, ln, rfl, rfl, ha, hr⟩ := hp
      rw [List.getElem?_map] at hx
      obtain ⟨row, hrow, rfl⟩ := Option.map_eq_some_iff.mp hx
      have hri := (List.getElem?_eq_some_iff.mp hrow).1
      have hrow2 := row_len (List.mem_of_getElem? hrow)
      have hc := run_line k (i + 1) row (by omega) (by omega)
      rw [get_drop hrow, recs] at hr
      cases hok : okRow (i + 1) row with
      | false =>
        rw [hok] at hr hc
        refine .inr ⟨.d (.obj 0), [some (.str text), some (.obj 0), some (.str row), some .non], [.lst (acc.map .str)], ?_, [some (.str text), some (.obj 0), some (.str row), some .non], .inr ?_⟩
        · simp only [runFn, ss, execs, exec, ev, evs, evo, evT, evA, evR, evO, evI, assign, setAll, wipeL, look, O.bind_ok, O.bind_no, O.of_some, O.of_none, R.toD_d, R.toD_fl, List.getElem?_cons_zero, List.getElem?_cons_succ, List.set_cons_zero, List.set_cons_succ, List.map_cons, List.map_nil, List.length_cons, List.length_nil, List.cons_append, List.nil_append, List.replicate, Option.map_some, Option.map_none, true_and, and_true, Nat.reduceAdd, Nat.reduceSub, Nat.reduceLT, Nat.reduceLeDiff, Nat.reduceEqDiff, and_self, ↓reduceIte]
          rw [len_lst]
          simp only [runFn, ss, execs, exec, ev, evs, evo, evT, evA, evR, evO, evI, assign, setAll, wipeL, look, O.bind_ok, O.bind_no, O.of_some, O.of_none, R.toD_d, R.toD_fl, List.getElem?_cons_zero, List.getElem?_cons_succ, List.set_cons_zero, List.set_cons_succ, List.map_cons, List.map_nil, List.length_cons, List.length_nil, List.cons_append, List.nil_append, List.replicate, Option.map_some, Option.map_none, true_and, and_true, Nat.reduceAdd, Nat.reduceSub, Nat.reduceLT, Nat.reduceLeDiff, Nat.reduceEqDiff, and_self, ↓reduceIte]
          rw [add_int, List.length_map, ha]
          simp only [runFn, ss, execs, exec, ev, evs, evo, evT, evA, evR, evO, evI, assign, setAll, wipeL, look, O.bind_ok, O.bind_no, O.of_some, O.of_none, R.toD_d, R.toD_fl, List.getElem?_cons_zero, List.getElem?_cons_succ, List.set_cons_zero, List.set_cons_succ, List.map_cons, List.map_nil, List.length_cons, List.length_nil, List.cons_append, List.nil_append, List.replicate, Option.map_some, Option.map_none, true_and, and_true, Nat.reduceAdd, Nat.reduceSub, Nat.reduceLT, Nat.reduceLeDiff, Nat.reduceEqDiff, and_self, ↓reduceIte]
          rw [call_ok (r := .d .non) rfl hc]
          rfl
        · have hr : recs 1 (rowsOf text) = acc := by rw [hr]; simp
          rw [hr]
      | true =>
        rw [hok] at hr hc
        refine .inl ⟨[some (.str text), some (.obj 0), some (.str row), some (.str (lineOf row))], [.lst ((acc ++ [lineOf row]).map .str)], ?_, acc ++ [lineOf row], _, _, rfl, rfl, by simp [ha], ?_⟩
        · simp only [runFn, ss, execs, exec, ev, evs, evo, evT, evA, evR, evO, evI, assign, setAll, wipeL, look, O.bind_ok, O.bind_no, O.of_some, O.of_none, R.toD_d, R.toD_fl, List.getElem?_cons_zero, List.getElem?_cons_succ, List.set_cons_zero, List.set_cons_succ, List.map_cons, List.map_nil, List.length_cons, List.length_nil, List.cons_append, List.nil_append, List.replicate, Option.map_some, Option.map_none, true_and, and_true, Nat.reduceAdd, Nat.reduceSub, Nat.reduceLT, Nat.reduceLeDiff, Nat.reduceEqDiff, and_self, ↓reduceIte]
          rw [len_lst]
          simp only [runFn, ss, execs, exec, ev, evs, evo, evT, evA, evR, evO, evI, assign, setAll, wipeL, look, O.bind_ok, O.bind_no, O.of_some, O.of_none, R.toD_d, R.toD_fl, List.getElem?_cons_zero, List.getElem?_cons_succ, List.set_cons_zero, List.set_cons_succ, List.map_cons, List.map_nil, List.length_cons, List.length_nil, List.cons_append, List.nil_append, List.replicate, Option.map_some, Option.map_none, true_and, and_true, Nat.reduceAdd, Nat.reduceSub, Nat.reduceLT, Nat.reduceLeDiff, Nat.reduceEqDiff, and_self, ↓reduceIte]
          rw [add_int, List.length_map, ha]
          simp only [runFn, ss, execs, exec, ev, evs, evo, evT, evA, evR, evO, evI, assign, setAll, wipeL, look, O.bind_ok, O.bind_no, O.of_some, O.of_none, R.toD_d, R.toD_fl, List.getElem?_cons_zero, List.getElem?_cons_succ, List.set_cons_zero, List.set_cons_succ, List.map_cons, List.map_nil, List.length_cons, List.length_nil, List.cons_append, List.nil_append, List.replicate, Option.map_some, Option.map_none, true_and, and_true, Nat.reduceAdd, Nat.reduceSub, Nat.reduceLT, Nat.reduceLeDiff, Nat.reduceEqDiff, and_self, ↓reduceIte]
          rw [call_ok (r := .d (.str (lineOf row))) rfl hc]
          simp only [runFn, ss, execs, exec, ev, evs, evo, evT, evA, evR, evO, evI, assign, setAll, wipeL, look, O.bind_ok, O.bind_no, O.of_some, O.of_none, R.toD_d, R.toD_fl, List.getElem?_cons_zero, List.getElem?_cons_succ, List.set_cons_zero, List.set_cons_succ, List.map_cons, List.map_nil, List.length_cons, List.length_nil, List.cons_append, List.nil_append, List.replicate, Option.map_some, Option.map_none, true_and, and_true, Nat.reduceAdd, Nat.reduceSub, Nat.reduceLT, Nat.reduceLeDiff, Nat.reduceEqDiff, and_self, ↓reduceIte]
          rw [if_neg (by decide)]
          simp only [runFn, ss, execs, exec, ev, evs, evo, evT, evA, evR, evO, evI, assign, setAll, wipeL, look, O.bind_ok, O.bind_no, O.of_some, O.of_none, R.toD_d, R.toD_fl, List.getElem?_cons_zero, List.getElem?_cons_succ, List.set_cons_zero, List.set_cons_succ, List.map_cons, List.map_nil, List.length_cons, List.length_nil, List.cons_append, List.nil_append, List.replicate, Option.map_some, Option.map_none, true_and, and_true, Nat.reduceAdd, Nat.reduceSub, Nat.reduceLT, Nat.reduceLeDiff, Nat.reduceEqDiff, and_self, ↓reduceIte]
          rw [if_pos (short (by simp; omega)), List.map_append]
          rfl
        · rw [hr]
          simp
    · obtain ⟨acc, rw_, ln, rfl, rfl, ha, hr⟩ := hp
      have hr : recs 1 (rowsOf text) = acc := by
        rw [hr, List.length_map, List.drop_length, recs, List.append_nil]
      exact ⟨_, .inl ⟨by rw [hr], rfl⟩⟩
  have hfin : D.pures ((recs 1 (rowsOf text)).map .str) = true := pures_str _
  obtain ⟨l, ⟨rfl, hl1⟩ | rfl⟩ := key
  · simp only [runFn, ss, execs, exec, ev, evs, evo, evT, evA, evR, evO, evI, assign, setAll, wipeL, look, O.bind_ok, O.bind_no, O.of_some, O.of_none, R.toD_d, R.toD_fl, List.getElem?_cons_zero, List.getElem?_cons_succ, List.set_cons_zero, List.set_cons_succ, List.map_cons, List.map_nil, List.length_cons, List.length_nil, List.cons_append, List.nil_append, List.replicate, Option.map_some, Option.map_none, true_and, and_true, Nat.reduceAdd, Nat.reduceSub, Nat.reduceLT, Nat.reduceLeDiff, Nat.reduceEqDiff, and_self, ↓reduceIte]
    rw [hl1]
    simp only [runFn, ss, execs, exec, ev, evs, evo, evT, evA, evR, evO, evI, assign, setAll, wipeL, look, O.bind_ok, O.bind_no, O.of_some, O.of_none, R.toD_d, R.toD_fl, List.getElem?_cons_zero, List.getElem?_cons_succ, List.set_cons_zero, List.set_cons_succ, List.map_cons, List.map_nil, List.length_cons, List.length_nil, List.cons_append, List.nil_append, List.replicate, Option.map_some, Option.map_none, true_and, and_true, Nat.reduceAdd, Nat.reduceSub, Nat.reduceLT, Nat.reduceLeDiff, Nat.reduceEqDiff, and_self, ↓reduceIte]
    show back (.d (.obj 0)) [.lst ((recs 1 (rowsOf text)).map .str)] = _
    show (if D.pures ((recs 1 (rowsOf text)).map .str) = true then O.ok (R.fl ((recs 1 (rowsOf text)).map .str)) [] else .no) = _
    rw [if_pos hfin]
  · simp only [runFn, ss, execs, exec, ev, evs, evo, evT, evA, evR, evO, evI, assign, setAll, wipeL, look, O.bind_ok, O.bind_no, O.of_some, O.of_none, R.toD_d, R.toD_fl, List.getElem?_cons_zero, List.getElem?_cons_succ, List.set_cons_zero, List.set_cons_succ, List.map_cons, List.map_nil, List.length_cons, List.length_nil, List.cons_append, List.nil_append, List.replicate, Option.map_some, Option.map_none, true_and, and_true, Nat.reduceAdd, Nat.reduceSub, Nat.reduceLT, Nat.reduceLeDiff, Nat.reduceEqDiff, and_self, ↓reduceIte]
    show (if D.pures ((recs 1 (rowsOf text)).map .str) = true then O.ok (R.fl ((recs 1 (rowsOf text)).map .str)) [] else .no) = _
    rw [if_pos hfin]
end K67
/-! K67h: the law's own way back. -/
namespace K67
open Pd
theorem pre44 (c : Nat) (r : List Nat) : isPre [44] (c :: r) = (44 == c) := by simp [isPre]
theorem spl_ne (S : List Nat) : ∀ (l : List Nat) (k : Nat) (acc : List Nat), spl S k acc l ≠ []
  | [], k, acc => by cases k <;> simp [spl]
  | c :: r, 0, acc => by
    rw [spl]
    split
    · simp
    · exact spl_ne S r 0 _
  | c :: r, k + 1, acc => by
    rw [spl]
    exact spl_ne S r k acc
theorem join_cons {s p : List Nat} {l : List (List Nat)} (h : l ≠ []) : joinL s (p :: l) = p ++ s ++ joinL s l := by
  cases l with
  | nil => exact absurd rfl h
  | cons q r => rfl
theorem join_spl : ∀ (l acc : List Nat), joinL [44] (spl [44] 0 acc l) = acc ++ l
  | [], acc => by simp [spl, joinL]
  | c :: r, acc => by
    rw [spl, pre44]
    by_cases h : (44 == c) = true
    · rw [if_pos h, join_cons (spl_ne _ _ _ _), show ([44] : List Nat).length - 1 = 0 from rfl, join_spl r []]
      have : 44 = c := by simpa using h
      rw [← this]
      simp
    · rw [if_neg h, join_spl r (acc ++ [c])]
      simp
/-- a row by its first comma -/
theorem cases44 : ∀ (l : List Nat), 44 ∉ l ∨ ∃ p r, 44 ∉ p ∧ l = p ++ (44 :: r)
  | [] => .inl (by simp)
  | c :: l => by
    by_cases h : c = 44
    · exact .inr ⟨[], l, by simp, by rw [h]; rfl⟩
    · rcases cases44 l with q | ⟨p, r, q1, q2⟩
      · exact .inl (by simp only [List.mem_cons, not_or]; exact ⟨fun z => h z.symm, q⟩)
      · exact .inr ⟨c :: p, r, by simp only [List.mem_cons, not_or]; exact ⟨fun z => h z.symm, q1⟩, by rw [q2]; rfl⟩
theorem spl_no {l : List Nat} (h : 44 ∉ l) : spl [44] 0 [] l = [l] := by
  rw [spl_eq, TL.spl_last1 h]
  rfl
theorem spl_yes {p r : List Nat} (h : 44 ∉ p) : spl [44] 0 [] (p ++ (44 :: r)) = p :: spl [44] 0 [] r := by
  rw [spl_eq, spl_eq]
  exact TL.spl_part1 (s := 44) (S := []) (p := p) (rest := r) (acc := []) h
theorem aft_no {l : List Nat} (h : 44 ∉ l) : aft l = [] := by
  unfold aft
  rw [par_eq, TL.par_none1 h]
theorem aft_yes {p r : List Nat} (h : 44 ∉ p) : aft (p ++ (44 :: r)) = r := by
  unfold aft
  rw [par_eq, show TL.par [44] [] (p ++ (44 :: r)) = some ([] ++ p, r) from TL.par_part1 (s := 44) (S := []) (p := p) (rest := r) (acc := []) h]
theorem nat_free (n : Nat) : 44 ∉ natL n := TL.numL_free (n := n) (s := 44) (.inl (by decide))
theorem nat_free10 (n : Nat) : 10 ∉ natL n := TL.numL_free (n := n) (s := 10) (.inl (by decide))
/-- a record without its end -/
def row0 (n : Nat) (t s : List Nat) : List Nat := natL n ++ (44 :: (t ++ (44 :: s)))
theorem rec_row (n : Nat) (s : List Nat) : rec n s = row0 n (chkT s) s ++ [10] := by simp [rec, row0]
theorem rec_eq {n : Nat} {s row : List Nat} (h : rec n s = row ++ [10]) : row = row0 n (chkT s) s := by
  rw [rec_row] at h
  exact (List.append_cancel_right h).symm
theorem line_row {n m : Nat} {s : List Nat} : lineOf (row0 n (natL m) s) = s := by
  unfold lineOf row0
  rw [aft_yes (nat_free n), aft_yes (nat_free m)]
theorem few_bad {n : Nat} {row : List Nat} (h : (spl [44] 0 [] row).length < 3) : okRow n row = false := by
  unfold okRow
  have key : ¬ rec n (lineOf row) = row ++ [10] := fun e => by
    have e := rec_eq e
    rw [e] at h
    unfold row0 chkT at h
    rw [spl_yes (nat_free n), spl_yes (nat_free _), List.length_cons, List.length_cons] at h
    have := List.length_pos_iff.mpr (spl_ne [44] (lineOf row) 0 [])
    omega
  have hb : (rec n (lineOf row) == row ++ [10]) = false := by
    cases z : (rec n (lineOf row) == row ++ [10]) with
    | false => rfl
    | true => exact absurd (eq_of_beq z) key
  rw [hb, Bool.and_false, Bool.and_false]
theorem many_line {row : List Nat} (h : ¬ (spl [44] 0 [] row).length < 3) : joinL [44] ((spl [44] 0 [] row).drop 2) = lineOf row := by
  rcases cases44 row with q | ⟨p, r, q1, rfl⟩
  · rw [spl_no q] at h
    exact absurd (by simp) h
  · rw [spl_yes q1] at h ⊢
    rcases cases44 r with q | ⟨p2, r2, q2, rfl⟩
    · rw [spl_no q] at h
      exact absurd (by simp) h
    · rw [spl_yes q2]
      unfold lineOf
      rw [aft_yes q1, aft_yes q2]
      show joinL [44] (spl [44] 0 [] r2) = r2
      rw [join_spl]
      rfl
theorem cut_from (xs : List (List Nat)) : cut xs (some 2) none = xs.drop 2 := by
  unfold cut
  show (xs.drop (min 2 xs.length)).take (xs.length - min 2 xs.length) = _
  by_cases h : 2 ≤ xs.length
  · rw [Nat.min_eq_left h, List.take_of_length_le (by rw [List.length_drop]; exact Nat.le_refl _)]
  · rw [Nat.min_eq_right (by omega), List.drop_length, List.take_nil, List.drop_of_length_le (by omega)]
theorem join_len_le {l : List Nat} : ∀ n : Nat, (joinL [44] ((spl [44] 0 [] l).drop n)).length ≤ l.length := by
  have gen : ∀ (ps : List (List Nat)) (n : Nat), (joinL [44] (ps.drop n)).length ≤ (joinL [44] ps).length := by
    intro ps
    induction ps with
    | nil => intro n; simp
    | cons p ps ih =>
      intro n
      cases n with
      | zero => exact Nat.le_refl _
      | succ n =>
        rw [List.drop_succ_cons]
        by_cases z : ps = []
        · subst z; simp [joinL]
        · rw [join_cons z]
          have := ih n
          simp
          omega
  intro n
  have := gen (spl [44] 0 [] l) n
  rw [join_spl] at this
  simpa using this
theorem split_comma (row : List Nat) : met .split row [.str [44]] = some (.fl ((spl [44] 0 [] row).map .str)) := rfl
theorem slop_from (ws : List (List Nat)) : slop (.lst (ws.map .str)) (some 2) none = some (.fl ((ws.drop 2).map .str)) := by
  show some (R.fl (cut _ (some 2) none)) = _
  rw [cut_map, cut_from]
theorem join_comma {ws : List (List Nat)} (h : (joinL [44] ws).length ≤ LIM) : met .join [44] [.lst (ws.map .str)] = some (.d (.str (joinL [44] ws))) := by
  show ((dStrs (ws.map .str)).bind fun l => if isShort LIM (joinL [44] l) then some (R.d (.str (joinL [44] l))) else none) = _
  rw [dStrs_map, Option.bind_some, if_pos (short h)]
theorem not_okC (c : Nat) : (if ltL [c] [32] = true then true else ltL [126] [c]) = !okC c := by
  unfold okC
  cases ltL [c] [32] <;> cases ltL [126] [c] <;> rfl
theorem r11 (k : Nat) (ds : List D) : run Pr (k + 1) 11 ds = runFn (En k) c__law_records ds := rfl
theorem run_lawlines (k : Nat) (text : List Nat) (h : text.length ≤ 800000) : run Pr (k + 4) 11 [.str text] = .ok (.fl ((recs 1 (rowsOf text)).map .str)) [] := by
  have hl : LIM = 1000000 := rfl
  have hrl := rows_len text
  rw [r11]
  unfold c__law_records
  simp only [runFn, ss, execs, exec, ev, evs, evo, evT, evA, evR, evO, evI, assign, setAll, wipeL, look, O.bind_ok, O.bind_no, O.of_some, O.of_none, R.toD_d, R.toD_fl, List.getElem?_cons_zero, List.getElem?_cons_succ, List.set_cons_zero, List.set_cons_succ, List.map_cons, List.map_nil, List.length_cons, List.length_nil, List.cons_append, List.nil_append, List.replicate, Option.map_some, Option.map_none, true_and, and_true, Nat.reduceAdd, Nat.reduceSub, Nat.reduceLT, Nat.reduceLeDiff, Nat.reduceEqDiff, and_self, ↓reduceIte]
  rw [if_pos (show isShort LIM ([] : List D) = true from rfl)]
  simp only [runFn, ss, execs, exec, ev, evs, evo, evT, evA, evR, evO, evI, assign, setAll, wipeL, look, O.bind_ok, O.bind_no, O.of_some, O.of_none, R.toD_d, R.toD_fl, List.getElem?_cons_zero, List.getElem?_cons_succ, List.set_cons_zero, List.set_cons_succ, List.map_cons, List.map_nil, List.length_cons, List.length_nil, List.cons_append, List.nil_append, List.replicate, Option.map_some, Option.map_none, true_and, and_true, Nat.reduceAdd, Nat.reduceSub, Nat.reduceLT, Nat.reduceLeDiff, Nat.reduceEqDiff, and_self, ↓reduceIte]
  rw [split_nl]
  simp only [runFn, ss, execs, exec, ev, evs, evo, evT, evA, evR, evO, evI, assign, setAll, wipeL, look, O.bind_ok, O.bind_no, O.of_some, O.of_none, R.toD_d, R.toD_fl, List.getElem?_cons_zero, List.getElem?_cons_succ, List.set_cons_zero, List.set_cons_succ, List.map_cons, List.map_nil, List.length_cons, List.length_nil, List.cons_append, List.nil_append, List.replicate, Option.map_some, Option.map_none, true_and, and_true, Nat.reduceAdd, Nat.reduceSub, Nat.reduceLT, Nat.reduceLeDiff, Nat.reduceEqDiff, and_self, ↓reduceIte]
  rw [slop_rows]
  simp only [runFn, ss, execs, exec, ev, evs, evo, evT, evA, evR, evO, evI, assign, setAll, wipeL, look, O.bind_ok, O.bind_no, O.of_some, O.of_none, R.toD_d, R.toD_fl, List.getElem?_cons_zero, List.getElem?_cons_succ, List.set_cons_zero, List.set_cons_succ, List.map_cons, List.map_nil, List.length_cons, List.length_nil, List.cons_append, List.nil_append, List.replicate, Option.map_some, Option.map_none, true_and, and_true, Nat.reduceAdd, Nat.reduceSub, Nat.reduceLT, Nat.reduceLeDiff, Nat.reduceEqDiff, and_self, ↓reduceIte, seq_lst]
  rw [if_pos (short (by simp; omega))]
  generalize hq : forLoop _ _ _ _ _ = q
  have key : ∃ l, (q = .ok (.nx, l) [.lst ((recs 1 (rowsOf text)).map .str)] ∧ l[1]? = some (some (.obj 0))) ∨ q = .ok (.rt (.d (.obj 0)), l) [.lst ((recs 1 (rowsOf text)).map .str)] := by
    rw [← hq]
    refine for_lst (fun i l g => ∃ acc rw ws ln bd, g = [.lst (acc.map .str)] ∧ l = [some (.str text), some (.obj 0), rw, ws, ln, bd, none] ∧ acc.length = i ∧ recs 1 (rowsOf text) = acc ++ recs (i + 1) ((rowsOf text).drop i))
      (fun o => ∃ l, (o = .ok (.nx, l) [.lst ((recs 1 (rowsOf text)).map .str)] ∧ l[1]? = some (some (.obj 0))) ∨ o = .ok (.rt (.d (.obj 0)), l) [.lst ((recs 1 (rowsOf text)).map .str)]) (fun i l g hp => rfl) (fun i x l g hx hp => ?_) (fun l g hp => ?_) ⟨[], none, none, none, none, rfl, rfl, rfl, by simp⟩
    · obtain ⟨acc, rw_, ws, ln, bd, rfl, rfl, ha, hr⟩ := hp
      rw [List.getElem?_map] at hx
      obtain ⟨row, hrow, rfl⟩ := Option.map_eq_some_iff.mp hx
      have hri := (List.getElem?_eq_some_iff.mp hrow).1
      have hrow2 := row_len (List.mem_of_getElem? hrow)
      have hjl := join_len_le (l := row) 2
      have hwl := spl_count [44] row 0 []
      rw [get_drop hrow, recs] at hr
      generalize hW : spl [44] 0 [] row = W at hjl hwl
      generalize hL : joinL [44] (W.drop 2) = L at hjl
      have hc := run_lawrec (k + 1) (i + 1) L (by omega) (by omega)
      have hfil : bi .len [.lst ([] ++ (L.filter fun c => !okC c).map fun c => D.str [c])] = some (.d (.int ((L.filter fun c => !okC c).length : Nat))) := by
        rw [List.nil_append, len_lst, List.length_map]
      rw [List.nil_append] at hfil
      have hbad : decide ((0 : Int) < ((L.filter fun c => !okC c).length : Nat)) = !L.all okC := by
        by_cases z : L.all okC = true
        · rw [z]
          have : L.filter (fun c => !okC c) = [] := by
            rw [List.filter_eq_nil_iff]
            intro a ha
            rw [List.all_eq_true] at z
            rw [z a ha]
            decide
          rw [this]
          rfl
        · have z2 : L.all okC = false := by simpa using z
          rw [z2]
          obtain ⟨a, ha, hb⟩ := List.all_eq_false.mp z2
          have : a ∈ L.filter (fun c => !okC c) := List.mem_filter.mpr ⟨ha, by simpa using hb⟩
          have := List.length_pos_of_mem this
          exact decide_eq_true (by omega)
      -- the test of the row
      obtain ⟨b1, hb1⟩ : ∃ b, decide (((W.length : Nat) : Int) < 3) = b := ⟨_, rfl⟩
      obtain ⟨b3, hb3⟩ : ∃ b, decide ((4100 : Int) < (L.length : Nat)) = b := ⟨_, rfl⟩
      obtain ⟨b2, hb2⟩ : ∃ b, L.all okC = b := ⟨_, rfl⟩
      obtain ⟨b4, hb4⟩ : ∃ b, (rec (i + 1) L == row ++ [10]) = b := ⟨_, rfl⟩
      have hcond : okRow (i + 1) row = (!b1 && (b2 && (!b3 && b4))) := by
        by_cases hw : W.length < 3
        · rw [few_bad (by rw [hW]; exact hw), ← hb1, decide_eq_true (by omega)]
          rfl
        · have hline := many_line (row := row) (by rw [hW]; exact hw)
          rw [hW, hL] at hline
          have hb1' : b1 = false := by rw [← hb1]; exact decide_eq_false (by omega)
          unfold okRow
          rw [← hline, hb1', hb2, hb4]
          have h3 : decide (L.length ≤ 4100) = !b3 := by
            rw [← hb3]
            by_cases h1 : L.length ≤ 4100
            · rw [decide_eq_true h1, decide_eq_false (by omega)]; rfl
            · rw [decide_eq_false h1, decide_eq_true (by omega)]; rfl
          rw [h3]
          cases b2 <;> cases b3 <;> cases b4 <;> rfl
      have hline : okRow (i + 1) row = true → L = lineOf row := fun z => by
        by_cases hw : W.length < 3
        · rw [few_bad (by rw [hW]; exact hw)] at z
          cases z
        · have hline := many_line (row := row) (by rw [hW]; exact hw)
          rw [hW, hL] at hline
          exact hline
      rw [hb2] at hbad
      cases hok : okRow (i + 1) row with
      | false =>
        rw [hok] at hr hcond
        have hr : recs 1 (rowsOf text) = acc := by rw [hr]; simp
        refine .inr ⟨.d (.obj 0), [some (.str text), some (.obj 0), some (.str row), some (.lst (W.map .str)), some (.str L), some (.int ((L.filter fun c => !okC c).length : Nat)), none], [.lst (acc.map .str)], ?_, _, .inr (by rw [hr])⟩
        · simp only [runFn, ss, execs, exec, ev, evs, evo, evT, evA, evR, evO, evI, assign, setAll, wipeL, look, O.bind_ok, O.bind_no, O.of_some, O.of_none, R.toD_d, R.toD_fl, List.getElem?_cons_zero, List.getElem?_cons_succ, List.set_cons_zero, List.set_cons_succ, List.map_cons, List.map_nil, List.length_cons, List.length_nil, List.cons_append, List.nil_append, List.replicate, Option.map_some, Option.map_none, true_and, and_true, Nat.reduceAdd, Nat.reduceSub, Nat.reduceLT, Nat.reduceLeDiff, Nat.reduceEqDiff, and_self, ↓reduceIte]
          rw [split_comma, hW]
          simp only [runFn, ss, execs, exec, ev, evs, evo, evT, evA, evR, evO, evI, assign, setAll, wipeL, look, O.bind_ok, O.bind_no, O.of_some, O.of_none, R.toD_d, R.toD_fl, List.getElem?_cons_zero, List.getElem?_cons_succ, List.set_cons_zero, List.set_cons_succ, List.map_cons, List.map_nil, List.length_cons, List.length_nil, List.cons_append, List.nil_append, List.replicate, Option.map_some, Option.map_none, true_and, and_true, Nat.reduceAdd, Nat.reduceSub, Nat.reduceLT, Nat.reduceLeDiff, Nat.reduceEqDiff, and_self, ↓reduceIte]
          rw [slop_from]
          simp only [runFn, ss, execs, exec, ev, evs, evo, evT, evA, evR, evO, evI, assign, setAll, wipeL, look, O.bind_ok, O.bind_no, O.of_some, O.of_none, R.toD_d, R.toD_fl, List.getElem?_cons_zero, List.getElem?_cons_succ, List.set_cons_zero, List.set_cons_succ, List.map_cons, List.map_nil, List.length_cons, List.length_nil, List.cons_append, List.nil_append, List.replicate, Option.map_some, Option.map_none, true_and, and_true, Nat.reduceAdd, Nat.reduceSub, Nat.reduceLT, Nat.reduceLeDiff, Nat.reduceEqDiff, and_self, ↓reduceIte]
          rw [join_comma (by rw [hL]; omega), hL]
          simp only [runFn, ss, execs, exec, ev, evs, evo, evT, evA, evR, evO, evI, assign, setAll, wipeL, look, O.bind_ok, O.bind_no, O.of_some, O.of_none, R.toD_d, R.toD_fl, List.getElem?_cons_zero, List.getElem?_cons_succ, List.set_cons_zero, List.set_cons_succ, List.map_cons, List.map_nil, List.length_cons, List.length_nil, List.cons_append, List.nil_append, List.replicate, Option.map_some, Option.map_none, true_and, and_true, Nat.reduceAdd, Nat.reduceSub, Nat.reduceLT, Nat.reduceLeDiff, Nat.reduceEqDiff, and_self, ↓reduceIte, seq_str]
          rw [if_pos (short (by simp; omega)), lc_fil (p := fun c => !okC c) (out := fun c : Nat => D.str [c]) rfl]
          · simp only [runFn, ss, execs, exec, ev, evs, evo, evT, evA, evR, evO, evI, assign, setAll, wipeL, look, O.bind_ok, O.bind_no, O.of_some, O.of_none, R.toD_d, R.toD_fl, List.getElem?_cons_zero, List.getElem?_cons_succ, List.set_cons_zero, List.set_cons_succ, List.map_cons, List.map_nil, List.length_cons, List.length_nil, List.cons_append, List.nil_append, List.replicate, Option.map_some, Option.map_none, true_and, and_true, Nat.reduceAdd, Nat.reduceSub, Nat.reduceLT, Nat.reduceLeDiff, Nat.reduceEqDiff, and_self, ↓reduceIte]
            rw [hfil]
            simp only [runFn, ss, execs, exec, ev, evs, evo, evT, evA, evR, evO, evI, assign, setAll, wipeL, look, O.bind_ok, O.bind_no, O.of_some, O.of_none, R.toD_d, R.toD_fl, List.getElem?_cons_zero, List.getElem?_cons_succ, List.set_cons_zero, List.set_cons_succ, List.map_cons, List.map_nil, List.length_cons, List.length_nil, List.cons_append, List.nil_append, List.replicate, Option.map_some, Option.map_none, true_and, and_true, Nat.reduceAdd, Nat.reduceSub, Nat.reduceLT, Nat.reduceLeDiff, Nat.reduceEqDiff, and_self, ↓reduceIte]
            rw [len_lst]
            simp only [runFn, ss, execs, exec, ev, evs, evo, evT, evA, evR, evO, evI, assign, setAll, wipeL, look, O.bind_ok, O.bind_no, O.of_some, O.of_none, R.toD_d, R.toD_fl, List.getElem?_cons_zero, List.getElem?_cons_succ, List.set_cons_zero, List.set_cons_succ, List.map_cons, List.map_nil, List.length_cons, List.length_nil, List.cons_append, List.nil_append, List.replicate, Option.map_some, Option.map_none, true_and, and_true, Nat.reduceAdd, Nat.reduceSub, Nat.reduceLT, Nat.reduceLeDiff, Nat.reduceEqDiff, and_self, ↓reduceIte]
            rw [cmp_lt_int, List.length_map, hb1]
            simp only [runFn, ss, execs, exec, ev, evs, evo, evT, evA, evR, evO, evI, assign, setAll, wipeL, look, O.bind_ok, O.bind_no, O.of_some, O.of_none, R.toD_d, R.toD_fl, List.getElem?_cons_zero, List.getElem?_cons_succ, List.set_cons_zero, List.set_cons_succ, List.map_cons, List.map_nil, List.length_cons, List.length_nil, List.cons_append, List.nil_append, List.replicate, Option.map_some, Option.map_none, true_and, and_true, Nat.reduceAdd, Nat.reduceSub, Nat.reduceLT, Nat.reduceLeDiff, Nat.reduceEqDiff, and_self, ↓reduceIte]
            cases b1 with
            | true => rfl
            | false =>
              rw [if_neg (by decide), cmp_gt_int, hbad]
              simp only [runFn, ss, execs, exec, ev, evs, evo, evT, evA, evR, evO, evI, assign, setAll, wipeL, look, O.bind_ok, O.bind_no, O.of_some, O.of_none, R.toD_d, R.toD_fl, List.getElem?_cons_zero, List.getElem?_cons_succ, List.set_cons_zero, List.set_cons_succ, List.map_cons, List.map_nil, List.length_cons, List.length_nil, List.cons_append, List.nil_append, List.replicate, Option.map_some, Option.map_none, true_and, and_true, Nat.reduceAdd, Nat.reduceSub, Nat.reduceLT, Nat.reduceLeDiff, Nat.reduceEqDiff, and_self, ↓reduceIte]
              cases b2 with
              | false => rfl
              | true =>
                simp only [runFn, ss, execs, exec, ev, evs, evo, evT, evA, evR, evO, evI, assign, setAll, wipeL, look, O.bind_ok, O.bind_no, O.of_some, O.of_none, R.toD_d, R.toD_fl, List.getElem?_cons_zero, List.getElem?_cons_succ, List.set_cons_zero, List.set_cons_succ, List.map_cons, List.map_nil, List.length_cons, List.length_nil, List.cons_append, List.nil_append, List.replicate, Option.map_some, Option.map_none, true_and, and_true, Nat.reduceAdd, Nat.reduceSub, Nat.reduceLT, Nat.reduceLeDiff, Nat.reduceEqDiff, and_self, ↓reduceIte, Bool.not_true]
                rw [if_neg (by decide), len_str]
                simp only [runFn, ss, execs, exec, ev, evs, evo, evT, evA, evR, evO, evI, assign, setAll, wipeL, look, O.bind_ok, O.bind_no, O.of_some, O.of_none, R.toD_d, R.toD_fl, List.getElem?_cons_zero, List.getElem?_cons_succ, List.set_cons_zero, List.set_cons_succ, List.map_cons, List.map_nil, List.length_cons, List.length_nil, List.cons_append, List.nil_append, List.replicate, Option.map_some, Option.map_none, true_and, and_true, Nat.reduceAdd, Nat.reduceSub, Nat.reduceLT, Nat.reduceLeDiff, Nat.reduceEqDiff, and_self, ↓reduceIte]
                rw [cmp_gt_int, hb3]
                simp only [runFn, ss, execs, exec, ev, evs, evo, evT, evA, evR, evO, evI, assign, setAll, wipeL, look, O.bind_ok, O.bind_no, O.of_some, O.of_none, R.toD_d, R.toD_fl, List.getElem?_cons_zero, List.getElem?_cons_succ, List.set_cons_zero, List.set_cons_succ, List.map_cons, List.map_nil, List.length_cons, List.length_nil, List.cons_append, List.nil_append, List.replicate, Option.map_some, Option.map_none, true_and, and_true, Nat.reduceAdd, Nat.reduceSub, Nat.reduceLT, Nat.reduceLeDiff, Nat.reduceEqDiff, and_self, ↓reduceIte]
                cases b3 with
                | true => rfl
                | false =>
                  rw [if_neg (by decide), len_lst]
                  simp only [runFn, ss, execs, exec, ev, evs, evo, evT, evA, evR, evO, evI, assign, setAll, wipeL, look, O.bind_ok, O.bind_no, O.of_some, O.of_none, R.toD_d, R.toD_fl, List.getElem?_cons_zero, List.getElem?_cons_succ, List.set_cons_zero, List.set_cons_succ, List.map_cons, List.map_nil, List.length_cons, List.length_nil, List.cons_append, List.nil_append, List.replicate, Option.map_some, Option.map_none, true_and, and_true, Nat.reduceAdd, Nat.reduceSub, Nat.reduceLT, Nat.reduceLeDiff, Nat.reduceEqDiff, and_self, ↓reduceIte]
                  rw [add_int, List.length_map, ha]
                  simp only [runFn, ss, execs, exec, ev, evs, evo, evT, evA, evR, evO, evI, assign, setAll, wipeL, look, O.bind_ok, O.bind_no, O.of_some, O.of_none, R.toD_d, R.toD_fl, List.getElem?_cons_zero, List.getElem?_cons_succ, List.set_cons_zero, List.set_cons_succ, List.map_cons, List.map_nil, List.length_cons, List.length_nil, List.cons_append, List.nil_append, List.replicate, Option.map_some, Option.map_none, true_and, and_true, Nat.reduceAdd, Nat.reduceSub, Nat.reduceLT, Nat.reduceLeDiff, Nat.reduceEqDiff, and_self, ↓reduceIte]
                  rw [call_ok (r := .d (.str (rec (i + 1) L))) rfl hc]
                  simp only [runFn, ss, execs, exec, ev, evs, evo, evT, evA, evR, evO, evI, assign, setAll, wipeL, look, O.bind_ok, O.bind_no, O.of_some, O.of_none, R.toD_d, R.toD_fl, List.getElem?_cons_zero, List.getElem?_cons_succ, List.set_cons_zero, List.set_cons_succ, List.map_cons, List.map_nil, List.length_cons, List.length_nil, List.cons_append, List.nil_append, List.replicate, Option.map_some, Option.map_none, true_and, and_true, Nat.reduceAdd, Nat.reduceSub, Nat.reduceLT, Nat.reduceLeDiff, Nat.reduceEqDiff, and_self, ↓reduceIte]
                  rw [add_str (by simp; omega)]
                  simp only [runFn, ss, execs, exec, ev, evs, evo, evT, evA, evR, evO, evI, assign, setAll, wipeL, look, O.bind_ok, O.bind_no, O.of_some, O.of_none, R.toD_d, R.toD_fl, List.getElem?_cons_zero, List.getElem?_cons_succ, List.set_cons_zero, List.set_cons_succ, List.map_cons, List.map_nil, List.length_cons, List.length_nil, List.cons_append, List.nil_append, List.replicate, Option.map_some, Option.map_none, true_and, and_true, Nat.reduceAdd, Nat.reduceSub, Nat.reduceLT, Nat.reduceLeDiff, Nat.reduceEqDiff, and_self, ↓reduceIte]
                  rw [cmp_ne_str, hb4]
                  simp only [runFn, ss, execs, exec, ev, evs, evo, evT, evA, evR, evO, evI, assign, setAll, wipeL, look, O.bind_ok, O.bind_no, O.of_some, O.of_none, R.toD_d, R.toD_fl, List.getElem?_cons_zero, List.getElem?_cons_succ, List.set_cons_zero, List.set_cons_succ, List.map_cons, List.map_nil, List.length_cons, List.length_nil, List.cons_append, List.nil_append, List.replicate, Option.map_some, Option.map_none, true_and, and_true, Nat.reduceAdd, Nat.reduceSub, Nat.reduceLT, Nat.reduceLeDiff, Nat.reduceEqDiff, and_self, ↓reduceIte]
                  cases b4 with
                  | false => rfl
                  | true => cases hcond
          · intro c hc
            simp only [runFn, ss, execs, exec, ev, evs, evo, evT, evA, evR, evO, evI, assign, setAll, wipeL, look, O.bind_ok, O.bind_no, O.of_some, O.of_none, R.toD_d, R.toD_fl, List.getElem?_cons_zero, List.getElem?_cons_succ, List.set_cons_zero, List.set_cons_succ, List.map_cons, List.map_nil, List.length_cons, List.length_nil, List.cons_append, List.nil_append, List.replicate, Option.map_some, Option.map_none, true_and, and_true, Nat.reduceAdd, Nat.reduceSub, Nat.reduceLT, Nat.reduceLeDiff, Nat.reduceEqDiff, and_self, ↓reduceIte]
            rw [cmp_lt_str]
            simp only [runFn, ss, execs, exec, ev, evs, evo, evT, evA, evR, evO, evI, assign, setAll, wipeL, look, O.bind_ok, O.bind_no, O.of_some, O.of_none, R.toD_d, R.toD_fl, List.getElem?_cons_zero, List.getElem?_cons_succ, List.set_cons_zero, List.set_cons_succ, List.map_cons, List.map_nil, List.length_cons, List.length_nil, List.cons_append, List.nil_append, List.replicate, Option.map_some, Option.map_none, true_and, and_true, Nat.reduceAdd, Nat.reduceSub, Nat.reduceLT, Nat.reduceLeDiff, Nat.reduceEqDiff, and_self, ↓reduceIte]
            rw [cmp_gt_str]
            simp only [runFn, ss, execs, exec, ev, evs, evo, evT, evA, evR, evO, evI, assign, setAll, wipeL, look, O.bind_ok, O.bind_no, O.of_some, O.of_none, R.toD_d, R.toD_fl, List.getElem?_cons_zero, List.getElem?_cons_succ, List.set_cons_zero, List.set_cons_succ, List.map_cons, List.map_nil, List.length_cons, List.length_nil, List.cons_append, List.nil_append, List.replicate, Option.map_some, Option.map_none, true_and, and_true, Nat.reduceAdd, Nat.reduceSub, Nat.reduceLT, Nat.reduceLeDiff, Nat.reduceEqDiff, and_self, ↓reduceIte]
            have hk := not_okC c
            cases hx : ltL [c] [32] with
            | true =>
              rw [hx] at hk
              have hk : true = !okC c := hk
              rw [← hk]
              rfl
            | false =>
              rw [hx] at hk
              have hk : ltL [126] [c] = !okC c := hk
              rw [← hk]
              cases ltL [126] [c] <;> rfl
      | true =>
        rw [hok] at hr hcond
        refine .inl ⟨[some (.str text), some (.obj 0), some (.str row), some (.lst (W.map .str)), some (.str L), some (.int ((L.filter fun c => !okC c).length : Nat)), none], [.lst ((acc ++ [L]).map .str)], ?_, acc ++ [L], _, _, _, _, rfl, rfl, by simp [ha], ?_⟩
        · have hb : b1 = false ∧ b2 = true ∧ b3 = false ∧ b4 = true := by cases b1 <;> cases b2 <;> cases b3 <;> cases b4 <;> first | exact ⟨rfl, rfl, rfl, rfl⟩ | cases hcond
          obtain ⟨rfl, rfl, rfl, rfl⟩ := hb
          simp only [runFn, ss, execs, exec, ev, evs, evo, evT, evA, evR, evO, evI, assign, setAll, wipeL, look, O.bind_ok, O.bind_no, O.of_some, O.of_none, R.toD_d, R.toD_fl, List.getElem?_cons_zero, List.getElem?_cons_succ, List.set_cons_zero, List.set_cons_succ, List.map_cons, List.map_nil, List.length_cons, List.length_nil, List.cons_append, List.nil_append, List.replicate, Option.map_some, Option.map_none, true_and, and_true, Nat.reduceAdd, Nat.reduceSub, Nat.reduceLT, Nat.reduceLeDiff, Nat.reduceEqDiff, and_self, ↓reduceIte]
          rw [split_comma, hW]
          simp only [runFn, ss, execs, exec, ev, evs, evo, evT, evA, evR, evO, evI, assign, setAll, wipeL, look, O.bind_ok, O.bind_no, O.of_some, O.of_none, R.toD_d, R.toD_fl, List.getElem?_cons_zero, List.getElem?_cons_succ, List.set_cons_zero, List.set_cons_succ, List.map_cons, List.map_nil, List.length_cons, List.length_nil, List.cons_append, List.nil_append, List.replicate, Option.map_some, Option.map_none, true_and, and_true, Nat.reduceAdd, Nat.reduceSub, Nat.reduceLT, Nat.reduceLeDiff, Nat.reduceEqDiff, and_self, ↓reduceIte]
          rw [slop_from]
          simp only [runFn, ss, execs, exec, ev, evs, evo, evT, evA, evR, evO, evI, assign, setAll, wipeL, look, O.bind_ok, O.bind_no, O.of_some, O.of_none, R.toD_d, R.toD_fl, List.getElem?_cons_zero, List.getElem?_cons_succ, List.set_cons_zero, List.set_cons_succ, List.map_cons, List.map_nil, List.length_cons, List.length_nil, List.cons_append, List.nil_append, List.replicate, Option.map_some, Option.map_none, true_and, and_true, Nat.reduceAdd, Nat.reduceSub, Nat.reduceLT, Nat.reduceLeDiff, Nat.reduceEqDiff, and_self, ↓reduceIte]
          rw [join_comma (by rw [hL]; omega), hL]
          simp only [runFn, ss, execs, exec, ev, evs, evo, evT, evA, evR, evO, evI, assign, setAll, wipeL, look, O.bind_ok, O.bind_no, O.of_some, O.of_none, R.toD_d, R.toD_fl, List.getElem?_cons_zero, List.getElem?_cons_succ, List.set_cons_zero, List.set_cons_succ, List.map_cons, List.map_nil, List.length_cons, List.length_nil, List.cons_append, List.nil_append, List.replicate, Option.map_some, Option.map_none, true_and, and_true, Nat.reduceAdd, Nat.reduceSub, Nat.reduceLT, Nat.reduceLeDiff, Nat.reduceEqDiff, and_self, ↓reduceIte, seq_str]
          rw [if_pos (short (by simp; omega)), lc_fil (p := fun c => !okC c) (out := fun c : Nat => D.str [c]) rfl]
          · simp only [runFn, ss, execs, exec, ev, evs, evo, evT, evA, evR, evO, evI, assign, setAll, wipeL, look, O.bind_ok, O.bind_no, O.of_some, O.of_none, R.toD_d, R.toD_fl, List.getElem?_cons_zero, List.getElem?_cons_succ, List.set_cons_zero, List.set_cons_succ, List.map_cons, List.map_nil, List.length_cons, List.length_nil, List.cons_append, List.nil_append, List.replicate, Option.map_some, Option.map_none, true_and, and_true, Nat.reduceAdd, Nat.reduceSub, Nat.reduceLT, Nat.reduceLeDiff, Nat.reduceEqDiff, and_self, ↓reduceIte]
            rw [hfil]
            simp only [runFn, ss, execs, exec, ev, evs, evo, evT, evA, evR, evO, evI, assign, setAll, wipeL, look, O.bind_ok, O.bind_no, O.of_some, O.of_none, R.toD_d, R.toD_fl, List.getElem?_cons_zero, List.getElem?_cons_succ, List.set_cons_zero, List.set_cons_succ, List.map_cons, List.map_nil, List.length_cons, List.length_nil, List.cons_append, List.nil_append, List.replicate, Option.map_some, Option.map_none, true_and, and_true, Nat.reduceAdd, Nat.reduceSub, Nat.reduceLT, Nat.reduceLeDiff, Nat.reduceEqDiff, and_self, ↓reduceIte]
            rw [len_lst]
            simp only [runFn, ss, execs, exec, ev, evs, evo, evT, evA, evR, evO, evI, assign, setAll, wipeL, look, O.bind_ok, O.bind_no, O.of_some, O.of_none, R.toD_d, R.toD_fl, List.getElem?_cons_zero, List.getElem?_cons_succ, List.set_cons_zero, List.set_cons_succ, List.map_cons, List.map_nil, List.length_cons, List.length_nil, List.cons_append, List.nil_append, List.replicate, Option.map_some, Option.map_none, true_and, and_true, Nat.reduceAdd, Nat.reduceSub, Nat.reduceLT, Nat.reduceLeDiff, Nat.reduceEqDiff, and_self, ↓reduceIte]
            rw [cmp_lt_int, List.length_map, hb1]
            simp only [runFn, ss, execs, exec, ev, evs, evo, evT, evA, evR, evO, evI, assign, setAll, wipeL, look, O.bind_ok, O.bind_no, O.of_some, O.of_none, R.toD_d, R.toD_fl, List.getElem?_cons_zero, List.getElem?_cons_succ, List.set_cons_zero, List.set_cons_succ, List.map_cons, List.map_nil, List.length_cons, List.length_nil, List.cons_append, List.nil_append, List.replicate, Option.map_some, Option.map_none, true_and, and_true, Nat.reduceAdd, Nat.reduceSub, Nat.reduceLT, Nat.reduceLeDiff, Nat.reduceEqDiff, and_self, ↓reduceIte]
            rw [if_neg (by decide), cmp_gt_int, hbad]
            simp only [runFn, ss, execs, exec, ev, evs, evo, evT, evA, evR, evO, evI, assign, setAll, wipeL, look, O.bind_ok, O.bind_no, O.of_some, O.of_none, R.toD_d, R.toD_fl, List.getElem?_cons_zero, List.getElem?_cons_succ, List.set_cons_zero, List.set_cons_succ, List.map_cons, List.map_nil, List.length_cons, List.length_nil, List.cons_append, List.nil_append, List.replicate, Option.map_some, Option.map_none, true_and, and_true, Nat.reduceAdd, Nat.reduceSub, Nat.reduceLT, Nat.reduceLeDiff, Nat.reduceEqDiff, and_self, ↓reduceIte, Bool.not_true]
            rw [if_neg (by decide), len_str]
            simp only [runFn, ss, execs, exec, ev, evs, evo, evT, evA, evR, evO, evI, assign, setAll, wipeL, look, O.bind_ok, O.bind_no, O.of_some, O.of_none, R.toD_d, R.toD_fl, List.getElem?_cons_zero, List.getElem?_cons_succ, List.set_cons_zero, List.set_cons_succ, List.map_cons, List.map_nil, List.length_cons, List.length_nil, List.cons_append, List.nil_append, List.replicate, Option.map_some, Option.map_none, true_and, and_true, Nat.reduceAdd, Nat.reduceSub, Nat.reduceLT, Nat.reduceLeDiff, Nat.reduceEqDiff, and_self, ↓reduceIte]
            rw [cmp_gt_int, hb3]
            simp only [runFn, ss, execs, exec, ev, evs, evo, evT, evA, evR, evO, evI, assign, setAll, wipeL, look, O.bind_ok, O.bind_no, O.of_some, O.of_none, R.toD_d, R.toD_fl, List.getElem?_cons_zero, List.getElem?_cons_succ, List.set_cons_zero, List.set_cons_succ, List.map_cons, List.map_nil, List.length_cons, List.length_nil, List.cons_append, List.nil_append, List.replicate, Option.map_some, Option.map_none, true_and, and_true, Nat.reduceAdd, Nat.reduceSub, Nat.reduceLT, Nat.reduceLeDiff, Nat.reduceEqDiff, and_self, ↓reduceIte]
            rw [if_neg (by decide), len_lst]
            simp only [runFn, ss, execs, exec, ev, evs, evo, evT, evA, evR, evO, evI, assign, setAll, wipeL, look, O.bind_ok, O.bind_no, O.of_some, O.of_none, R.toD_d, R.toD_fl, List.getElem?_cons_zero, List.getElem?_cons_succ, List.set_cons_zero, List.set_cons_succ, List.map_cons, List.map_nil, List.length_cons, List.length_nil, List.cons_append, List.nil_append, List.replicate, Option.map_some, Option.map_none, true_and, and_true, Nat.reduceAdd, Nat.reduceSub, Nat.reduceLT, Nat.reduceLeDiff, Nat.reduceEqDiff, and_self, ↓reduceIte]
            rw [add_int, List.length_map, ha]
            simp only [runFn, ss, execs, exec, ev, evs, evo, evT, evA, evR, evO, evI, assign, setAll, wipeL, look, O.bind_ok, O.bind_no, O.of_some, O.of_none, R.toD_d, R.toD_fl, List.getElem?_cons_zero, List.getElem?_cons_succ, List.set_cons_zero, List.set_cons_succ, List.map_cons, List.map_nil, List.length_cons, List.length_nil, List.cons_append, List.nil_append, List.replicate, Option.map_some, Option.map_none, true_and, and_true, Nat.reduceAdd, Nat.reduceSub, Nat.reduceLT, Nat.reduceLeDiff, Nat.reduceEqDiff, and_self, ↓reduceIte]
            rw [call_ok (r := .d (.str (rec (i + 1) L))) rfl hc]
            simp only [runFn, ss, execs, exec, ev, evs, evo, evT, evA, evR, evO, evI, assign, setAll, wipeL, look, O.bind_ok, O.bind_no, O.of_some, O.of_none, R.toD_d, R.toD_fl, List.getElem?_cons_zero, List.getElem?_cons_succ, List.set_cons_zero, List.set_cons_succ, List.map_cons, List.map_nil, List.length_cons, List.length_nil, List.cons_append, List.nil_append, List.replicate, Option.map_some, Option.map_none, true_and, and_true, Nat.reduceAdd, Nat.reduceSub, Nat.reduceLT, Nat.reduceLeDiff, Nat.reduceEqDiff, and_self, ↓reduceIte]
            rw [add_str (by simp; omega)]
            simp only [runFn, ss, execs, exec, ev, evs, evo, evT, evA, evR, evO, evI, assign, setAll, wipeL, look, O.bind_ok, O.bind_no, O.of_some, O.of_none, R.toD_d, R.toD_fl, List.getElem?_cons_zero, List.getElem?_cons_succ, List.set_cons_zero, List.set_cons_succ, List.map_cons, List.map_nil, List.length_cons, List.length_nil, List.cons_append, List.nil_append, List.replicate, Option.map_some, Option.map_none, true_and, and_true, Nat.reduceAdd, Nat.reduceSub, Nat.reduceLT, Nat.reduceLeDiff, Nat.reduceEqDiff, and_self, ↓reduceIte]
            rw [cmp_ne_str, hb4]
            simp only [runFn, ss, execs, exec, ev, evs, evo, evT, evA, evR, evO, evI, assign, setAll, wipeL, look, O.bind_ok, O.bind_no, O.of_some, O.of_none, R.toD_d, R.toD_fl, List.getElem?_cons_zero, List.getElem?_cons_succ, List.set_cons_zero, List.set_cons_succ, List.map_cons, List.map_nil, List.length_cons, List.length_nil, List.cons_append, List.nil_append, List.replicate, Option.map_some, Option.map_none, true_and, and_true, Nat.reduceAdd, Nat.reduceSub, Nat.reduceLT, Nat.reduceLeDiff, Nat.reduceEqDiff, and_self, ↓reduceIte, Bool.not_true]
            rw [if_neg (by decide)]
            simp only [runFn, ss, execs, exec, ev, evs, evo, evT, evA, evR, evO, evI, assign, setAll, wipeL, look, O.bind_ok, O.bind_no, O.of_some, O.of_none, R.toD_d, R.toD_fl, List.getElem?_cons_zero, List.getElem?_cons_succ, List.set_cons_zero, List.set_cons_succ, List.map_cons, List.map_nil, List.length_cons, List.length_nil, List.cons_append, List.nil_append, List.replicate, Option.map_some, Option.map_none, true_and, and_true, Nat.reduceAdd, Nat.reduceSub, Nat.reduceLT, Nat.reduceLeDiff, Nat.reduceEqDiff, and_self, ↓reduceIte]
            rw [if_pos (short (by simp; omega)), List.map_append]
            rfl
          · intro c hc
            simp only [runFn, ss, execs, exec, ev, evs, evo, evT, evA, evR, evO, evI, assign, setAll, wipeL, look, O.bind_ok, O.bind_no, O.of_some, O.of_none, R.toD_d, R.toD_fl, List.getElem?_cons_zero, List.getElem?_cons_succ, List.set_cons_zero, List.set_cons_succ, List.map_cons, List.map_nil, List.length_cons, List.length_nil, List.cons_append, List.nil_append, List.replicate, Option.map_some, Option.map_none, true_and, and_true, Nat.reduceAdd, Nat.reduceSub, Nat.reduceLT, Nat.reduceLeDiff, Nat.reduceEqDiff, and_self, ↓reduceIte]
            rw [cmp_lt_str]
            simp only [runFn, ss, execs, exec, ev, evs, evo, evT, evA, evR, evO, evI, assign, setAll, wipeL, look, O.bind_ok, O.bind_no, O.of_some, O.of_none, R.toD_d, R.toD_fl, List.getElem?_cons_zero, List.getElem?_cons_succ, List.set_cons_zero, List.set_cons_succ, List.map_cons, List.map_nil, List.length_cons, List.length_nil, List.cons_append, List.nil_append, List.replicate, Option.map_some, Option.map_none, true_and, and_true, Nat.reduceAdd, Nat.reduceSub, Nat.reduceLT, Nat.reduceLeDiff, Nat.reduceEqDiff, and_self, ↓reduceIte]
            rw [cmp_gt_str]
            simp only [runFn, ss, execs, exec, ev, evs, evo, evT, evA, evR, evO, evI, assign, setAll, wipeL, look, O.bind_ok, O.bind_no, O.of_some, O.of_none, R.toD_d, R.toD_fl, List.getElem?_cons_zero, List.getElem?_cons_succ, List.set_cons_zero, List.set_cons_succ, List.map_cons, List.map_nil, List.length_cons, List.length_nil, List.cons_append, List.nil_append, List.replicate, Option.map_some, Option.map_none, true_and, and_true, Nat.reduceAdd, Nat.reduceSub, Nat.reduceLT, Nat.reduceLeDiff, Nat.reduceEqDiff, and_self, ↓reduceIte]
            have hk := not_okC c
            cases hx : ltL [c] [32] with
            | true =>
              rw [hx] at hk
              have hk : true = !okC c := hk
              rw [← hk]
              rfl
            | false =>
              rw [hx] at hk
              have hk : ltL [126] [c] = !okC c := hk
              rw [← hk]
              cases ltL [126] [c] <;> rfl
        · rw [hr, hline hok]
          simp
    · obtain ⟨acc, rw_, ws, ln, bd, rfl, rfl, ha, hr⟩ := hp
      have hr : recs 1 (rowsOf text) = acc := by
        rw [hr, List.length_map, List.drop_length, recs, List.append_nil]
      exact ⟨_, .inl ⟨by rw [hr], rfl⟩⟩
  have hfin : D.pures ((recs 1 (rowsOf text)).map .str) = true := pures_str _
  obtain ⟨l, ⟨rfl, hl1⟩ | rfl⟩ := key
  · simp only [runFn, ss, execs, exec, ev, evs, evo, evT, evA, evR, evO, evI, assign, setAll, wipeL, look, O.bind_ok, O.bind_no, O.of_some, O.of_none, R.toD_d, R.toD_fl, List.getElem?_cons_zero, List.getElem?_cons_succ, List.set_cons_zero, List.set_cons_succ, List.map_cons, List.map_nil, List.length_cons, List.length_nil, List.cons_append, List.nil_append, List.replicate, Option.map_some, Option.map_none, true_and, and_true, Nat.reduceAdd, Nat.reduceSub, Nat.reduceLT, Nat.reduceLeDiff, Nat.reduceEqDiff, and_self, ↓reduceIte]
    rw [hl1]
    simp only [runFn, ss, execs, exec, ev, evs, evo, evT, evA, evR, evO, evI, assign, setAll, wipeL, look, O.bind_ok, O.bind_no, O.of_some, O.of_none, R.toD_d, R.toD_fl, List.getElem?_cons_zero, List.getElem?_cons_succ, List.set_cons_zero, List.set_cons_succ, List.map_cons, List.map_nil, List.length_cons, List.length_nil, List.cons_append, List.nil_append, List.replicate, Option.map_some, Option.map_none, true_and, and_true, Nat.reduceAdd, Nat.reduceSub, Nat.reduceLT, Nat.reduceLeDiff, Nat.reduceEqDiff, and_self, ↓reduceIte]
    show (if D.pures ((recs 1 (rowsOf text)).map .str) = true then O.ok (R.fl ((recs 1 (rowsOf text)).map .str)) [] else .no) = _
    rw [if_pos hfin]
  · simp only [runFn, ss, execs, exec, ev, evs, evo, evT, evA, evR, evO, evI, assign, setAll, wipeL, look, O.bind_ok, O.bind_no, O.of_some, O.of_none, R.toD_d, R.toD_fl, List.getElem?_cons_zero, List.getElem?_cons_succ, List.set_cons_zero, List.set_cons_succ, List.map_cons, List.map_nil, List.length_cons, List.length_nil, List.cons_append, List.nil_append, List.replicate, Option.map_some, Option.map_none, true_and, and_true, Nat.reduceAdd, Nat.reduceSub, Nat.reduceLT, Nat.reduceLeDiff, Nat.reduceEqDiff, and_self, ↓reduceIte]
    show (if D.pures ((recs 1 (rowsOf text)).map .str) = true then O.ok (R.fl ((recs 1 (rowsOf text)).map .str)) [] else .no) = _
    rw [if_pos hfin]
end K67
/-! K67i: the law's comparing, its draws. -/
namespace K67
open Pd
theorem r7 (k : Nat) (ds : List D) : run Pr (k + 1) 7 ds = runFn (En k) c__law_same ds := rfl
theorem same_int (k : Nat) (a : Int) : run Pr (k + 1) 7 [.int a, .int a] = .ok (.d (.bl true)) [] := by
  rw [r7]
  unfold c__law_same
  simp only [runFn, ss, execs, exec, ev, evs, evo, evT, evA, evR, evO, evI, assign, setAll, wipeL, look, O.bind_ok, O.bind_no, O.of_some, O.of_none, R.toD_d, R.toD_fl, List.getElem?_cons_zero, List.getElem?_cons_succ, List.set_cons_zero, List.set_cons_succ, List.map_cons, List.map_nil, List.length_cons, List.length_nil, List.cons_append, List.nil_append, List.replicate, Option.map_some, Option.map_none, true_and, and_true, Nat.reduceAdd, Nat.reduceSub, Nat.reduceLT, Nat.reduceLeDiff, Nat.reduceEqDiff, and_self, ↓reduceIte]
  have e : cmpop .eq (.int a) (.int a) = some true := by
    show some (a == a) = _
    rw [beq_self_eq_true]
  simp [isTy, truth, e, back, D.pure]
theorem same_str (k : Nat) (a : List Nat) : run Pr (k + 1) 7 [.str a, .str a] = .ok (.d (.bl true)) [] := by
  rw [r7]
  unfold c__law_same
  simp only [runFn, ss, execs, exec, ev, evs, evo, evT, evA, evR, evO, evI, assign, setAll, wipeL, look, O.bind_ok, O.bind_no, O.of_some, O.of_none, R.toD_d, R.toD_fl, List.getElem?_cons_zero, List.getElem?_cons_succ, List.set_cons_zero, List.set_cons_succ, List.map_cons, List.map_nil, List.length_cons, List.length_nil, List.cons_append, List.nil_append, List.replicate, Option.map_some, Option.map_none, true_and, and_true, Nat.reduceAdd, Nat.reduceSub, Nat.reduceLT, Nat.reduceLeDiff, Nat.reduceEqDiff, and_self, ↓reduceIte]
  have e : cmpop .eq (.str a) (.str a) = some true := by
    show some (a == a) = _
    rw [beq_self_eq_true]
  simp [isTy, truth, e, back, D.pure]
theorem same_lst (k : Nat) (xs : List (List Nat)) (h : xs.length ≤ 900000) : run Pr (k + 2) 7 [.lst (xs.map .str), .lst (xs.map .str)] = .ok (.d (.bl true)) [] := by
  have hl : LIM = 1000000 := rfl
  have hsm : small ((xs.map D.str).length : Int) = true := by unfold small; exact decide_eq_true (by rw [List.length_map]; omega)
  rw [r7]
  unfold c__law_same
  simp only [runFn, ss, execs, exec, ev, evs, evo, evT, evA, evR, evO, evI, assign, setAll, wipeL, look, O.bind_ok, O.bind_no, O.of_some, O.of_none, R.toD_d, R.toD_fl, List.getElem?_cons_zero, List.getElem?_cons_succ, List.set_cons_zero, List.set_cons_succ, List.map_cons, List.map_nil, List.length_cons, List.length_nil, List.cons_append, List.nil_append, List.replicate, Option.map_some, Option.map_none, true_and, and_true, Nat.reduceAdd, Nat.reduceSub, Nat.reduceLT, Nat.reduceLeDiff, Nat.reduceEqDiff, and_self, ↓reduceIte]
  rw [len_lst]
  simp only [runFn, ss, execs, exec, ev, evs, evo, evT, evA, evR, evO, evI, assign, setAll, wipeL, look, O.bind_ok, O.bind_no, O.of_some, O.of_none, R.toD_d, R.toD_fl, List.getElem?_cons_zero, List.getElem?_cons_succ, List.set_cons_zero, List.set_cons_succ, List.map_cons, List.map_nil, List.length_cons, List.length_nil, List.cons_append, List.nil_append, List.replicate, Option.map_some, Option.map_none, true_and, and_true, Nat.reduceAdd, Nat.reduceSub, Nat.reduceLT, Nat.reduceLeDiff, Nat.reduceEqDiff, and_self, ↓reduceIte]
  have e : cmpop .ne (.int ((xs.map D.str).length : Nat)) (.int ((xs.map D.str).length : Nat)) = some false := by
    show some (!(((xs.map D.str).length : Nat) : Int) == _) = _
    rw [beq_self_eq_true]
    rfl
  simp only [isTy, truth, e, Option.map_some, O.of_some, O.bind_ok, beq_self_eq_true, Bool.not_true, if_true, if_false, Bool.false_eq_true, ↓reduceIte, R.toD_d, look]
  simp only [runFn, ss, execs, exec, ev, evs, evo, evT, evA, evR, evO, evI, assign, setAll, wipeL, look, O.bind_ok, O.bind_no, O.of_some, O.of_none, R.toD_d, R.toD_fl, List.getElem?_cons_zero, List.getElem?_cons_succ, List.set_cons_zero, List.set_cons_succ, List.map_cons, List.map_nil, List.length_cons, List.length_nil, List.cons_append, List.nil_append, List.replicate, Option.map_some, Option.map_none, true_and, and_true, Nat.reduceAdd, Nat.reduceSub, Nat.reduceLT, Nat.reduceLeDiff, Nat.reduceEqDiff, and_self, ↓reduceIte]
  rw [len_lst]
  simp only [runFn, ss, execs, exec, ev, evs, evo, evT, evA, evR, evO, evI, assign, setAll, wipeL, look, O.bind_ok, O.bind_no, O.of_some, O.of_none, R.toD_d, R.toD_fl, List.getElem?_cons_zero, List.getElem?_cons_succ, List.set_cons_zero, List.set_cons_succ, List.map_cons, List.map_nil, List.length_cons, List.length_nil, List.cons_append, List.nil_append, List.replicate, Option.map_some, Option.map_none, true_and, and_true, Nat.reduceAdd, Nat.reduceSub, Nat.reduceLT, Nat.reduceLeDiff, Nat.reduceEqDiff, and_self, ↓reduceIte]
  rw [if_pos hsm]
  simp only [runFn, ss, execs, exec, ev, evs, evo, evT, evA, evR, evO, evI, assign, setAll, wipeL, look, O.bind_ok, O.bind_no, O.of_some, O.of_none, R.toD_d, R.toD_fl, List.getElem?_cons_zero, List.getElem?_cons_succ, List.set_cons_zero, List.set_cons_succ, List.map_cons, List.map_nil, List.length_cons, List.length_nil, List.cons_append, List.nil_append, List.replicate, Option.map_some, Option.map_none, true_and, and_true, Nat.reduceAdd, Nat.reduceSub, Nat.reduceLT, Nat.reduceLeDiff, Nat.reduceEqDiff, and_self, ↓reduceIte]
  rw [if_pos (short (by rw [rangeD_len]; simp; omega))]
  generalize hq : forLoop _ _ _ _ _ = q
  have key : ∃ l, q = .ok (.nx, l) [] := by
    rw [← hq]
    refine for_rng (fun i l g => g = [] ∧ ∃ kk, l = [some (.lst (xs.map .str)), some (.lst (xs.map .str)), kk]) (fun o => ∃ l, o = .ok (.nx, l) []) (fun i l g hp => rfl) (fun i l g hi hp => ?_) (fun l g hp => ?_) ⟨rfl, none, rfl⟩
    · obtain ⟨rfl, kk, rfl⟩ := hp
      have hi : i < xs.length := by simpa using hi
      have h5 : (xs.map D.str)[i]? = some (.str xs[i]) := by rw [List.getElem?_map, List.getElem?_eq_getElem hi]; rfl
      refine .inl ⟨[some (.lst (xs.map .str)), some (.lst (xs.map .str)), some (.int (0 + (i : Int)))], [], ?_, rfl, _, rfl⟩
      simp only [runFn, ss, execs, exec, ev, evs, evo, evT, evA, evR, evO, evI, assign, setAll, wipeL, look, O.bind_ok, O.bind_no, O.of_some, O.of_none, R.toD_d, R.toD_fl, List.getElem?_cons_zero, List.getElem?_cons_succ, List.set_cons_zero, List.set_cons_succ, List.map_cons, List.map_nil, List.length_cons, List.length_nil, List.cons_append, List.nil_append, List.replicate, Option.map_some, Option.map_none, true_and, and_true, Nat.reduceAdd, Nat.reduceSub, Nat.reduceLT, Nat.reduceLeDiff, Nat.reduceEqDiff, and_self, ↓reduceIte]
      rw [Int.zero_add, ix_lst h5]
      simp only [runFn, ss, execs, exec, ev, evs, evo, evT, evA, evR, evO, evI, assign, setAll, wipeL, look, O.bind_ok, O.bind_no, O.of_some, O.of_none, R.toD_d, R.toD_fl, List.getElem?_cons_zero, List.getElem?_cons_succ, List.set_cons_zero, List.set_cons_succ, List.map_cons, List.map_nil, List.length_cons, List.length_nil, List.cons_append, List.nil_append, List.replicate, Option.map_some, Option.map_none, true_and, and_true, Nat.reduceAdd, Nat.reduceSub, Nat.reduceLT, Nat.reduceLeDiff, Nat.reduceEqDiff, and_self, ↓reduceIte]
      rw [call_ok (r := .d (.bl true)) rfl (same_str k xs[i])]
      rfl
    · obtain ⟨rfl, kk, rfl⟩ := hp
      exact ⟨_, rfl⟩
  obtain ⟨l, rfl⟩ := key
  rfl
end K67
/-! K67j: the law's draws. -/
namespace K67
open Pd
theorem r5 (k : Nat) (ds : List D) : run Pr (k + 1) 5 ds = runFn (En k) c__law_cell ds := rfl
theorem r6 (k : Nat) (ds : List D) : run Pr (k + 1) 6 ds = runFn (En k) c__law_numbers ds := rfl
theorem r12 (k : Nat) (ds : List D) : run Pr (k + 1) 12 ds = runFn (En k) c__law_signs_drawn ds := rfl
theorem run_cell (k : Nat) (ns : List Int) : ∃ c, run Pr (k + 1) 5 [.scr (ns.map .int), .int 0] = .ok (.d (.int c)) [] := by
  rw [r5]
  unfold c__law_cell
  simp only [runFn, ss, execs, exec, ev, evs, evo, evT, evA, evR, evO, evI, assign, setAll, wipeL, look, O.bind_ok, O.bind_no, O.of_some, O.of_none, R.toD_d, R.toD_fl, List.getElem?_cons_zero, List.getElem?_cons_succ, List.set_cons_zero, List.set_cons_succ, List.map_cons, List.map_nil, List.length_cons, List.length_nil, List.cons_append, List.nil_append, List.replicate, Option.map_some, Option.map_none, true_and, and_true, Nat.reduceAdd, Nat.reduceSub, Nat.reduceLT, Nat.reduceLeDiff, Nat.reduceEqDiff, and_self, ↓reduceIte]
  rw [show bi .len [.scr (ns.map .int)] = some (.d (.int ((ns.map D.int).length : Nat))) from rfl]
  simp only [runFn, ss, execs, exec, ev, evs, evo, evT, evA, evR, evO, evI, assign, setAll, wipeL, look, O.bind_ok, O.bind_no, O.of_some, O.of_none, R.toD_d, R.toD_fl, List.getElem?_cons_zero, List.getElem?_cons_succ, List.set_cons_zero, List.set_cons_succ, List.map_cons, List.map_nil, List.length_cons, List.length_nil, List.cons_append, List.nil_append, List.replicate, Option.map_some, Option.map_none, true_and, and_true, Nat.reduceAdd, Nat.reduceSub, Nat.reduceLT, Nat.reduceLeDiff, Nat.reduceEqDiff, and_self, ↓reduceIte]
  rw [cmp_lt_int]
  simp only [runFn, ss, execs, exec, ev, evs, evo, evT, evA, evR, evO, evI, assign, setAll, wipeL, look, O.bind_ok, O.bind_no, O.of_some, O.of_none, R.toD_d, R.toD_fl, List.getElem?_cons_zero, List.getElem?_cons_succ, List.set_cons_zero, List.set_cons_succ, List.map_cons, List.map_nil, List.length_cons, List.length_nil, List.cons_append, List.nil_append, List.replicate, Option.map_some, Option.map_none, true_and, and_true, Nat.reduceAdd, Nat.reduceSub, Nat.reduceLT, Nat.reduceLeDiff, Nat.reduceEqDiff, and_self, ↓reduceIte]
  cases ns with
  | nil => exact ⟨0, rfl⟩
  | cons n ns =>
    rw [decide_eq_true (by simp)]
    have e : ixop (.scr ((n :: ns).map .int)) (.int 0) = some (.int n) := at_nat (i := 0) rfl
    simp only [runFn, ss, execs, exec, ev, evs, evo, evT, evA, evR, evO, evI, assign, setAll, wipeL, look, O.bind_ok, O.bind_no, O.of_some, O.of_none, R.toD_d, R.toD_fl, List.getElem?_cons_zero, List.getElem?_cons_succ, List.set_cons_zero, List.set_cons_succ, List.map_cons, List.map_nil, List.length_cons, List.length_nil, List.cons_append, List.nil_append, List.replicate, Option.map_some, Option.map_none, true_and, and_true, Nat.reduceAdd, Nat.reduceSub, Nat.reduceLT, Nat.reduceLeDiff, Nat.reduceEqDiff, and_self, ↓reduceIte]
    simp only [List.map_cons] at e
    rw [e]
    exact ⟨n, rfl⟩
theorem mod_nat {i : Int} {n : Nat} (h : 0 < n) : ∃ m : Nat, m < n ∧ i % (n : Int) = m := by
  have h1 := Int.emod_nonneg i (b := (n : Int)) (by omega)
  have h2 := Int.emod_lt_of_pos i (b := (n : Int)) (by omega)
  exact ⟨(i % (n : Int)).toNat, by omega, by omega⟩
abbrev nD (x : Nat) : D := .int (x : Int)
theorem pow18 : binop .pow (.int 10) (.int 18) = some (.d (.int 1000000000000000000)) := rfl
theorem cmp_ge_int (a b : Int) : cmpop .ge (.int a) (.int b) = some (decide (b ≤ a)) := rfl
theorem pures_nat (l : List Nat) : D.pures (l.map nD) = true := by
  induction l with
  | nil => rfl
  | cons a l ih => exact ih
theorem back_lst {xs : List D} (h : D.pures xs = true) : back (.d (.obj 0)) [.lst xs] = .ok (.fl xs) [] := if_pos h
theorem run_numbers (k : Nat) (cell : Int) (count limit : Nat) (hc : count ≤ 1000) (h0 : 0 < limit) (h1 : limit < 1073741824) :
    ∃ xs : List Nat, xs.length = count ∧ (∀ x ∈ xs, x < limit) ∧ run Pr (k + 1) 6 [.int cell, .int count, .int limit] = .ok (.fl (xs.map nD)) [] := by
  have hl : LIM = 1000000 := rfl
  have hsm : small (count : Int) = true := by unfold small; exact decide_eq_true (by omega)
  rw [r6]
  unfold c__law_numbers
  simp only [runFn, ss, execs, exec, ev, evs, evo, evT, evA, evR, evO, evI, assign, setAll, wipeL, look, O.bind_ok, O.bind_no, O.of_some, O.of_none, R.toD_d, R.toD_fl, List.getElem?_cons_zero, List.getElem?_cons_succ, List.set_cons_zero, List.set_cons_succ, List.map_cons, List.map_nil, List.length_cons, List.length_nil, List.cons_append, List.nil_append, List.replicate, Option.map_some, Option.map_none, true_and, and_true, Nat.reduceAdd, Nat.reduceSub, Nat.reduceLT, Nat.reduceLeDiff, Nat.reduceEqDiff, and_self, ↓reduceIte]
  rw [if_pos (show isShort LIM ([] : List D) = true from rfl)]
  simp only [runFn, ss, execs, exec, ev, evs, evo, evT, evA, evR, evO, evI, assign, setAll, wipeL, look, O.bind_ok, O.bind_no, O.of_some, O.of_none, R.toD_d, R.toD_fl, List.getElem?_cons_zero, List.getElem?_cons_succ, List.set_cons_zero, List.set_cons_succ, List.map_cons, List.map_nil, List.length_cons, List.length_nil, List.cons_append, List.nil_append, List.replicate, Option.map_some, Option.map_none, true_and, and_true, Nat.reduceAdd, Nat.reduceSub, Nat.reduceLT, Nat.reduceLeDiff, Nat.reduceEqDiff, and_self, ↓reduceIte]
  rw [pow18]
  simp only [runFn, ss, execs, exec, ev, evs, evo, evT, evA, evR, evO, evI, assign, setAll, wipeL, look, O.bind_ok, O.bind_no, O.of_some, O.of_none, R.toD_d, R.toD_fl, List.getElem?_cons_zero, List.getElem?_cons_succ, List.set_cons_zero, List.set_cons_succ, List.map_cons, List.map_nil, List.length_cons, List.length_nil, List.cons_append, List.nil_append, List.replicate, Option.map_some, Option.map_none, true_and, and_true, Nat.reduceAdd, Nat.reduceSub, Nat.reduceLT, Nat.reduceLeDiff, Nat.reduceEqDiff, and_self, ↓reduceIte]
  rw [cmp_ge_int]
  simp only [runFn, ss, execs, exec, ev, evs, evo, evT, evA, evR, evO, evI, assign, setAll, wipeL, look, O.bind_ok, O.bind_no, O.of_some, O.of_none, R.toD_d, R.toD_fl, List.getElem?_cons_zero, List.getElem?_cons_succ, List.set_cons_zero, List.set_cons_succ, List.map_cons, List.map_nil, List.length_cons, List.length_nil, List.cons_append, List.nil_append, List.replicate, Option.map_some, Option.map_none, true_and, and_true, Nat.reduceAdd, Nat.reduceSub, Nat.reduceLT, Nat.reduceLeDiff, Nat.reduceEqDiff, and_self, ↓reduceIte]
  by_cases hb : (1000000000000000000 : Int) ≤ cell
  · rw [decide_eq_true hb]
    simp only [runFn, ss, execs, exec, ev, evs, evo, evT, evA, evR, evO, evI, assign, setAll, wipeL, look, O.bind_ok, O.bind_no, O.of_some, O.of_none, R.toD_d, R.toD_fl, List.getElem?_cons_zero, List.getElem?_cons_succ, List.set_cons_zero, List.set_cons_succ, List.map_cons, List.map_nil, List.length_cons, List.length_nil, List.cons_append, List.nil_append, List.replicate, Option.map_some, Option.map_none, true_and, and_true, Nat.reduceAdd, Nat.reduceSub, Nat.reduceLT, Nat.reduceLeDiff, Nat.reduceEqDiff, and_self, ↓reduceIte]
    rw [if_pos hsm]
    simp only [runFn, ss, execs, exec, ev, evs, evo, evT, evA, evR, evO, evI, assign, setAll, wipeL, look, O.bind_ok, O.bind_no, O.of_some, O.of_none, R.toD_d, R.toD_fl, List.getElem?_cons_zero, List.getElem?_cons_succ, List.set_cons_zero, List.set_cons_succ, List.map_cons, List.map_nil, List.length_cons, List.length_nil, List.cons_append, List.nil_append, List.replicate, Option.map_some, Option.map_none, true_and, and_true, Nat.reduceAdd, Nat.reduceSub, Nat.reduceLT, Nat.reduceLeDiff, Nat.reduceEqDiff, and_self, ↓reduceIte]
    rw [if_pos (short (by rw [rangeD_len]; omega))]
    generalize hq : forLoop _ _ _ _ _ = q
    have key : ∃ (xs : List Nat) (l : Lo), xs.length = count ∧ (∀ x ∈ xs, x < limit) ∧ q = .ok (.nx, l) [.lst (xs.map nD)] ∧ l[3]? = some (some (.obj 0)) := by
      rw [← hq]
      refine for_rng (fun i l g => ∃ (xs : List Nat) (c : Int) (kk mx : Option D), xs.length = i ∧ (∀ x ∈ xs, x < limit) ∧ g = [.lst (xs.map nD)] ∧ l = [some (.int c), some (.int count), some (.int limit), some (.obj 0), kk, mx])
        (fun o => ∃ (xs : List Nat) (l : Lo), xs.length = count ∧ (∀ x ∈ xs, x < limit) ∧ o = .ok (.nx, l) [.lst (xs.map nD)] ∧ l[3]? = some (some (.obj 0))) (fun i l g hp => rfl) (fun i l g hi hp => ?_) (fun l g hp => ?_) ⟨[], cell, none, none, rfl, by simp, rfl, rfl⟩
      · obtain ⟨xs, c, kk, mx, hx, hlt, rfl, rfl⟩ := hp
        obtain ⟨d, hd, he⟩ := mod_nat (i := c) h0
        have hi : i < count := by simpa using hi
        refine .inl ⟨[some (.int (c / limit)), some (.int count), some (.int limit), some (.obj 0), some (.int (0 + (i : Int))), mx], [.lst ((xs ++ [d]).map nD)], ?_, xs ++ [d], _, _, _, by simp [hx], fun x hm => ?_, rfl, rfl⟩
        · simp only [runFn, ss, execs, exec, ev, evs, evo, evT, evA, evR, evO, evI, assign, setAll, wipeL, look, O.bind_ok, O.bind_no, O.of_some, O.of_none, R.toD_d, R.toD_fl, List.getElem?_cons_zero, List.getElem?_cons_succ, List.set_cons_zero, List.set_cons_succ, List.map_cons, List.map_nil, List.length_cons, List.length_nil, List.cons_append, List.nil_append, List.replicate, Option.map_some, Option.map_none, true_and, and_true, Nat.reduceAdd, Nat.reduceSub, Nat.reduceLT, Nat.reduceLeDiff, Nat.reduceEqDiff, and_self, ↓reduceIte]
          rw [int_int]
          simp only [runFn, ss, execs, exec, ev, evs, evo, evT, evA, evR, evO, evI, assign, setAll, wipeL, look, O.bind_ok, O.bind_no, O.of_some, O.of_none, R.toD_d, R.toD_fl, List.getElem?_cons_zero, List.getElem?_cons_succ, List.set_cons_zero, List.set_cons_succ, List.map_cons, List.map_nil, List.length_cons, List.length_nil, List.cons_append, List.nil_append, List.replicate, Option.map_some, Option.map_none, true_and, and_true, Nat.reduceAdd, Nat.reduceSub, Nat.reduceLT, Nat.reduceLeDiff, Nat.reduceEqDiff, and_self, ↓reduceIte]
          rw [mod_int (by omega), he]
          simp only [runFn, ss, execs, exec, ev, evs, evo, evT, evA, evR, evO, evI, assign, setAll, wipeL, look, O.bind_ok, O.bind_no, O.of_some, O.of_none, R.toD_d, R.toD_fl, List.getElem?_cons_zero, List.getElem?_cons_succ, List.set_cons_zero, List.set_cons_succ, List.map_cons, List.map_nil, List.length_cons, List.length_nil, List.cons_append, List.nil_append, List.replicate, Option.map_some, Option.map_none, true_and, and_true, Nat.reduceAdd, Nat.reduceSub, Nat.reduceLT, Nat.reduceLeDiff, Nat.reduceEqDiff, and_self, ↓reduceIte]
          rw [if_pos (short (by simp; omega)), List.map_append]
          simp only [runFn, ss, execs, exec, ev, evs, evo, evT, evA, evR, evO, evI, assign, setAll, wipeL, look, O.bind_ok, O.bind_no, O.of_some, O.of_none, R.toD_d, R.toD_fl, List.getElem?_cons_zero, List.getElem?_cons_succ, List.set_cons_zero, List.set_cons_succ, List.map_cons, List.map_nil, List.length_cons, List.length_nil, List.cons_append, List.nil_append, List.replicate, Option.map_some, Option.map_none, true_and, and_true, Nat.reduceAdd, Nat.reduceSub, Nat.reduceLT, Nat.reduceLeDiff, Nat.reduceEqDiff, and_self, ↓reduceIte]
          rw [int_int]
          simp only [runFn, ss, execs, exec, ev, evs, evo, evT, evA, evR, evO, evI, assign, setAll, wipeL, look, O.bind_ok, O.bind_no, O.of_some, O.of_none, R.toD_d, R.toD_fl, List.getElem?_cons_zero, List.getElem?_cons_succ, List.set_cons_zero, List.set_cons_succ, List.map_cons, List.map_nil, List.length_cons, List.length_nil, List.cons_append, List.nil_append, List.replicate, Option.map_some, Option.map_none, true_and, and_true, Nat.reduceAdd, Nat.reduceSub, Nat.reduceLT, Nat.reduceLeDiff, Nat.reduceEqDiff, and_self, ↓reduceIte]
          rw [fdiv_int ⟨by omega, by omega⟩]
          rfl
        · rcases List.mem_append.mp hm with q | q
          · exact hlt x q
          · rw [List.mem_singleton.mp q]; exact hd
      · obtain ⟨xs, c, kk, mx, hx, hlt, rfl, rfl⟩ := hp
        exact ⟨xs, _, by simpa using hx, hlt, rfl, rfl⟩
    obtain ⟨xs, l, hx, hlt, rfl, hl3⟩ := key
    refine ⟨xs, hx, hlt, ?_⟩
    simp only [runFn, ss, execs, exec, ev, evs, evo, evT, evA, evR, evO, evI, assign, setAll, wipeL, look, O.bind_ok, O.bind_no, O.of_some, O.of_none, R.toD_d, R.toD_fl, List.getElem?_cons_zero, List.getElem?_cons_succ, List.set_cons_zero, List.set_cons_succ, List.map_cons, List.map_nil, List.length_cons, List.length_nil, List.cons_append, List.nil_append, List.replicate, Option.map_some, Option.map_none, true_and, and_true, Nat.reduceAdd, Nat.reduceSub, Nat.reduceLT, Nat.reduceLeDiff, Nat.reduceEqDiff, and_self, ↓reduceIte]
    rw [hl3]
    simp only [runFn, ss, execs, exec, ev, evs, evo, evT, evA, evR, evO, evI, assign, setAll, wipeL, look, O.bind_ok, O.bind_no, O.of_some, O.of_none, R.toD_d, R.toD_fl, List.getElem?_cons_zero, List.getElem?_cons_succ, List.set_cons_zero, List.set_cons_succ, List.map_cons, List.map_nil, List.length_cons, List.length_nil, List.cons_append, List.nil_append, List.replicate, Option.map_some, Option.map_none, true_and, and_true, Nat.reduceAdd, Nat.reduceSub, Nat.reduceLT, Nat.reduceLeDiff, Nat.reduceEqDiff, and_self, ↓reduceIte]
    exact back_lst (pures_nat xs)
  · rw [decide_eq_false hb]
    rw [if_neg (by decide)]
    simp only [runFn, ss, execs, exec, ev, evs, evo, evT, evA, evR, evO, evI, assign, setAll, wipeL, look, O.bind_ok, O.bind_no, O.of_some, O.of_none, R.toD_d, R.toD_fl, List.getElem?_cons_zero, List.getElem?_cons_succ, List.set_cons_zero, List.set_cons_succ, List.map_cons, List.map_nil, List.length_cons, List.length_nil, List.cons_append, List.nil_append, List.replicate, Option.map_some, Option.map_none, true_and, and_true, Nat.reduceAdd, Nat.reduceSub, Nat.reduceLT, Nat.reduceLeDiff, Nat.reduceEqDiff, and_self, ↓reduceIte]
    rw [if_pos hsm]
    simp only [runFn, ss, execs, exec, ev, evs, evo, evT, evA, evR, evO, evI, assign, setAll, wipeL, look, O.bind_ok, O.bind_no, O.of_some, O.of_none, R.toD_d, R.toD_fl, List.getElem?_cons_zero, List.getElem?_cons_succ, List.set_cons_zero, List.set_cons_succ, List.map_cons, List.map_nil, List.length_cons, List.length_nil, List.cons_append, List.nil_append, List.replicate, Option.map_some, Option.map_none, true_and, and_true, Nat.reduceAdd, Nat.reduceSub, Nat.reduceLT, Nat.reduceLeDiff, Nat.reduceEqDiff, and_self, ↓reduceIte]
    rw [if_pos (short (by rw [rangeD_len]; omega))]
    generalize hq : forLoop _ _ _ _ _ = q
    have key : ∃ (xs : List Nat) (l : Lo), xs.length = count ∧ (∀ x ∈ xs, x < limit) ∧ q = .ok (.nx, l) [.lst (xs.map nD)] ∧ l[3]? = some (some (.obj 0)) := by
      rw [← hq]
      refine for_rng (fun i l g => ∃ (xs : List Nat) (c : Int) (kk mx : Option D), xs.length = i ∧ (∀ x ∈ xs, x < limit) ∧ g = [.lst (xs.map nD)] ∧ l = [some (.int c), some (.int count), some (.int limit), some (.obj 0), kk, mx])
        (fun o => ∃ (xs : List Nat) (l : Lo), xs.length = count ∧ (∀ x ∈ xs, x < limit) ∧ o = .ok (.nx, l) [.lst (xs.map nD)] ∧ l[3]? = some (some (.obj 0))) (fun i l g hp => rfl) (fun i l g hi hp => ?_) (fun l g hp => ?_) ⟨[], cell, none, none, rfl, by simp, rfl, rfl⟩
      · obtain ⟨xs, c, kk, mx, hx, hlt, rfl, rfl⟩ := hp
        have hi : i < count := by simpa using hi
        obtain ⟨d1, hd1, he1⟩ := mod_nat (i := c * 48271 + (0 + (i : Int)) * 69621 + 7) (n := 2147483647) (by decide)
        obtain ⟨d2, hd2, he2⟩ := mod_nat (i := (d1 : Int) * d1 + d1 * 40692 + (0 + (i : Int)) * 16807 + 11) (n := 2147483399) (by decide)
        obtain ⟨d, hd, he⟩ := mod_nat (i := (d2 : Int) / 32) h0
        refine .inl ⟨[some (.int c), some (.int count), some (.int limit), some (.obj 0), some (.int (0 + (i : Int))), some (.int d2)], [.lst ((xs ++ [d]).map nD)], ?_, xs ++ [d], _, _, _, by simp [hx], fun x hm => ?_, rfl, rfl⟩
        · simp only [runFn, ss, execs, exec, ev, evs, evo, evT, evA, evR, evO, evI, assign, setAll, wipeL, look, O.bind_ok, O.bind_no, O.of_some, O.of_none, R.toD_d, R.toD_fl, List.getElem?_cons_zero, List.getElem?_cons_succ, List.set_cons_zero, List.set_cons_succ, List.map_cons, List.map_nil, List.length_cons, List.length_nil, List.cons_append, List.nil_append, List.replicate, Option.map_some, Option.map_none, true_and, and_true, Nat.reduceAdd, Nat.reduceSub, Nat.reduceLT, Nat.reduceLeDiff, Nat.reduceEqDiff, and_self, ↓reduceIte]
          rw [mul_int (.inr (by decide))]
          simp only [runFn, ss, execs, exec, ev, evs, evo, evT, evA, evR, evO, evI, assign, setAll, wipeL, look, O.bind_ok, O.bind_no, O.of_some, O.of_none, R.toD_d, R.toD_fl, List.getElem?_cons_zero, List.getElem?_cons_succ, List.set_cons_zero, List.set_cons_succ, List.map_cons, List.map_nil, List.length_cons, List.length_nil, List.cons_append, List.nil_append, List.replicate, Option.map_some, Option.map_none, true_and, and_true, Nat.reduceAdd, Nat.reduceSub, Nat.reduceLT, Nat.reduceLeDiff, Nat.reduceEqDiff, and_self, ↓reduceIte]
          rw [mul_int (.inr (by decide))]
          simp only [runFn, ss, execs, exec, ev, evs, evo, evT, evA, evR, evO, evI, assign, setAll, wipeL, look, O.bind_ok, O.bind_no, O.of_some, O.of_none, R.toD_d, R.toD_fl, List.getElem?_cons_zero, List.getElem?_cons_succ, List.set_cons_zero, List.set_cons_succ, List.map_cons, List.map_nil, List.length_cons, List.length_nil, List.cons_append, List.nil_append, List.replicate, Option.map_some, Option.map_none, true_and, and_true, Nat.reduceAdd, Nat.reduceSub, Nat.reduceLT, Nat.reduceLeDiff, Nat.reduceEqDiff, and_self, ↓reduceIte]
          rw [add_int]
          simp only [runFn, ss, execs, exec, ev, evs, evo, evT, evA, evR, evO, evI, assign, setAll, wipeL, look, O.bind_ok, O.bind_no, O.of_some, O.of_none, R.toD_d, R.toD_fl, List.getElem?_cons_zero, List.getElem?_cons_succ, List.set_cons_zero, List.set_cons_succ, List.map_cons, List.map_nil, List.length_cons, List.length_nil, List.cons_append, List.nil_append, List.replicate, Option.map_some, Option.map_none, true_and, and_true, Nat.reduceAdd, Nat.reduceSub, Nat.reduceLT, Nat.reduceLeDiff, Nat.reduceEqDiff, and_self, ↓reduceIte]
          rw [add_int]
          simp only [runFn, ss, execs, exec, ev, evs, evo, evT, evA, evR, evO, evI, assign, setAll, wipeL, look, O.bind_ok, O.bind_no, O.of_some, O.of_none, R.toD_d, R.toD_fl, List.getElem?_cons_zero, List.getElem?_cons_succ, List.set_cons_zero, List.set_cons_succ, List.map_cons, List.map_nil, List.length_cons, List.length_nil, List.cons_append, List.nil_append, List.replicate, Option.map_some, Option.map_none, true_and, and_true, Nat.reduceAdd, Nat.reduceSub, Nat.reduceLT, Nat.reduceLeDiff, Nat.reduceEqDiff, and_self, ↓reduceIte]
          rw [int_int]
          simp only [runFn, ss, execs, exec, ev, evs, evo, evT, evA, evR, evO, evI, assign, setAll, wipeL, look, O.bind_ok, O.bind_no, O.of_some, O.of_none, R.toD_d, R.toD_fl, List.getElem?_cons_zero, List.getElem?_cons_succ, List.set_cons_zero, List.set_cons_succ, List.map_cons, List.map_nil, List.length_cons, List.length_nil, List.cons_append, List.nil_append, List.replicate, Option.map_some, Option.map_none, true_and, and_true, Nat.reduceAdd, Nat.reduceSub, Nat.reduceLT, Nat.reduceLeDiff, Nat.reduceEqDiff, and_self, ↓reduceIte]
          rw [mod_int (by decide), show (c * 48271 + (0 + (i : Int)) * 69621 + 7) % 2147483647 = (d1 : Int) from he1]
          simp only [runFn, ss, execs, exec, ev, evs, evo, evT, evA, evR, evO, evI, assign, setAll, wipeL, look, O.bind_ok, O.bind_no, O.of_some, O.of_none, R.toD_d, R.toD_fl, List.getElem?_cons_zero, List.getElem?_cons_succ, List.set_cons_zero, List.set_cons_succ, List.map_cons, List.map_nil, List.length_cons, List.length_nil, List.cons_append, List.nil_append, List.replicate, Option.map_some, Option.map_none, true_and, and_true, Nat.reduceAdd, Nat.reduceSub, Nat.reduceLT, Nat.reduceLeDiff, Nat.reduceEqDiff, and_self, ↓reduceIte]
          rw [mul_int (.inl (by omega))]
          simp only [runFn, ss, execs, exec, ev, evs, evo, evT, evA, evR, evO, evI, assign, setAll, wipeL, look, O.bind_ok, O.bind_no, O.of_some, O.of_none, R.toD_d, R.toD_fl, List.getElem?_cons_zero, List.getElem?_cons_succ, List.set_cons_zero, List.set_cons_succ, List.map_cons, List.map_nil, List.length_cons, List.length_nil, List.cons_append, List.nil_append, List.replicate, Option.map_some, Option.map_none, true_and, and_true, Nat.reduceAdd, Nat.reduceSub, Nat.reduceLT, Nat.reduceLeDiff, Nat.reduceEqDiff, and_self, ↓reduceIte]
          rw [mul_int (.inl (by omega))]
          simp only [runFn, ss, execs, exec, ev, evs, evo, evT, evA, evR, evO, evI, assign, setAll, wipeL, look, O.bind_ok, O.bind_no, O.of_some, O.of_none, R.toD_d, R.toD_fl, List.getElem?_cons_zero, List.getElem?_cons_succ, List.set_cons_zero, List.set_cons_succ, List.map_cons, List.map_nil, List.length_cons, List.length_nil, List.cons_append, List.nil_append, List.replicate, Option.map_some, Option.map_none, true_and, and_true, Nat.reduceAdd, Nat.reduceSub, Nat.reduceLT, Nat.reduceLeDiff, Nat.reduceEqDiff, and_self, ↓reduceIte]
          rw [add_int]
          simp only [runFn, ss, execs, exec, ev, evs, evo, evT, evA, evR, evO, evI, assign, setAll, wipeL, look, O.bind_ok, O.bind_no, O.of_some, O.of_none, R.toD_d, R.toD_fl, List.getElem?_cons_zero, List.getElem?_cons_succ, List.set_cons_zero, List.set_cons_succ, List.map_cons, List.map_nil, List.length_cons, List.length_nil, List.cons_append, List.nil_append, List.replicate, Option.map_some, Option.map_none, true_and, and_true, Nat.reduceAdd, Nat.reduceSub, Nat.reduceLT, Nat.reduceLeDiff, Nat.reduceEqDiff, and_self, ↓reduceIte]
          rw [mul_int (.inr (by decide))]
          simp only [runFn, ss, execs, exec, ev, evs, evo, evT, evA, evR, evO, evI, assign, setAll, wipeL, look, O.bind_ok, O.bind_no, O.of_some, O.of_none, R.toD_d, R.toD_fl, List.getElem?_cons_zero, List.getElem?_cons_succ, List.set_cons_zero, List.set_cons_succ, List.map_cons, List.map_nil, List.length_cons, List.length_nil, List.cons_append, List.nil_append, List.replicate, Option.map_some, Option.map_none, true_and, and_true, Nat.reduceAdd, Nat.reduceSub, Nat.reduceLT, Nat.reduceLeDiff, Nat.reduceEqDiff, and_self, ↓reduceIte]
          rw [add_int]
          simp only [runFn, ss, execs, exec, ev, evs, evo, evT, evA, evR, evO, evI, assign, setAll, wipeL, look, O.bind_ok, O.bind_no, O.of_some, O.of_none, R.toD_d, R.toD_fl, List.getElem?_cons_zero, List.getElem?_cons_succ, List.set_cons_zero, List.set_cons_succ, List.map_cons, List.map_nil, List.length_cons, List.length_nil, List.cons_append, List.nil_append, List.replicate, Option.map_some, Option.map_none, true_and, and_true, Nat.reduceAdd, Nat.reduceSub, Nat.reduceLT, Nat.reduceLeDiff, Nat.reduceEqDiff, and_self, ↓reduceIte]
          rw [add_int]
          simp only [runFn, ss, execs, exec, ev, evs, evo, evT, evA, evR, evO, evI, assign, setAll, wipeL, look, O.bind_ok, O.bind_no, O.of_some, O.of_none, R.toD_d, R.toD_fl, List.getElem?_cons_zero, List.getElem?_cons_succ, List.set_cons_zero, List.set_cons_succ, List.map_cons, List.map_nil, List.length_cons, List.length_nil, List.cons_append, List.nil_append, List.replicate, Option.map_some, Option.map_none, true_and, and_true, Nat.reduceAdd, Nat.reduceSub, Nat.reduceLT, Nat.reduceLeDiff, Nat.reduceEqDiff, and_self, ↓reduceIte]
          rw [int_int]
          simp only [runFn, ss, execs, exec, ev, evs, evo, evT, evA, evR, evO, evI, assign, setAll, wipeL, look, O.bind_ok, O.bind_no, O.of_some, O.of_none, R.toD_d, R.toD_fl, List.getElem?_cons_zero, List.getElem?_cons_succ, List.set_cons_zero, List.set_cons_succ, List.map_cons, List.map_nil, List.length_cons, List.length_nil, List.cons_append, List.nil_append, List.replicate, Option.map_some, Option.map_none, true_and, and_true, Nat.reduceAdd, Nat.reduceSub, Nat.reduceLT, Nat.reduceLeDiff, Nat.reduceEqDiff, and_self, ↓reduceIte]
          rw [mod_int (by decide), show ((d1 : Int) * d1 + d1 * 40692 + (0 + (i : Int)) * 16807 + 11) % 2147483399 = (d2 : Int) from he2]
          simp only [runFn, ss, execs, exec, ev, evs, evo, evT, evA, evR, evO, evI, assign, setAll, wipeL, look, O.bind_ok, O.bind_no, O.of_some, O.of_none, R.toD_d, R.toD_fl, List.getElem?_cons_zero, List.getElem?_cons_succ, List.set_cons_zero, List.set_cons_succ, List.map_cons, List.map_nil, List.length_cons, List.length_nil, List.cons_append, List.nil_append, List.replicate, Option.map_some, Option.map_none, true_and, and_true, Nat.reduceAdd, Nat.reduceSub, Nat.reduceLT, Nat.reduceLeDiff, Nat.reduceEqDiff, and_self, ↓reduceIte]
          rw [fdiv_int ⟨by decide, by decide⟩]
          simp only [runFn, ss, execs, exec, ev, evs, evo, evT, evA, evR, evO, evI, assign, setAll, wipeL, look, O.bind_ok, O.bind_no, O.of_some, O.of_none, R.toD_d, R.toD_fl, List.getElem?_cons_zero, List.getElem?_cons_succ, List.set_cons_zero, List.set_cons_succ, List.map_cons, List.map_nil, List.length_cons, List.length_nil, List.cons_append, List.nil_append, List.replicate, Option.map_some, Option.map_none, true_and, and_true, Nat.reduceAdd, Nat.reduceSub, Nat.reduceLT, Nat.reduceLeDiff, Nat.reduceEqDiff, and_self, ↓reduceIte]
          rw [int_int]
          simp only [runFn, ss, execs, exec, ev, evs, evo, evT, evA, evR, evO, evI, assign, setAll, wipeL, look, O.bind_ok, O.bind_no, O.of_some, O.of_none, R.toD_d, R.toD_fl, List.getElem?_cons_zero, List.getElem?_cons_succ, List.set_cons_zero, List.set_cons_succ, List.map_cons, List.map_nil, List.length_cons, List.length_nil, List.cons_append, List.nil_append, List.replicate, Option.map_some, Option.map_none, true_and, and_true, Nat.reduceAdd, Nat.reduceSub, Nat.reduceLT, Nat.reduceLeDiff, Nat.reduceEqDiff, and_self, ↓reduceIte]
          rw [mod_int (by omega), he]
          simp only [runFn, ss, execs, exec, ev, evs, evo, evT, evA, evR, evO, evI, assign, setAll, wipeL, look, O.bind_ok, O.bind_no, O.of_some, O.of_none, R.toD_d, R.toD_fl, List.getElem?_cons_zero, List.getElem?_cons_succ, List.set_cons_zero, List.set_cons_succ, List.map_cons, List.map_nil, List.length_cons, List.length_nil, List.cons_append, List.nil_append, List.replicate, Option.map_some, Option.map_none, true_and, and_true, Nat.reduceAdd, Nat.reduceSub, Nat.reduceLT, Nat.reduceLeDiff, Nat.reduceEqDiff, and_self, ↓reduceIte]
          rw [if_pos (short (by simp; omega)), List.map_append]
          rfl
        · rcases List.mem_append.mp hm with q | q
          · exact hlt x q
          · rw [List.mem_singleton.mp q]; exact hd
      · obtain ⟨xs, c, kk, mx, hx, hlt, rfl, rfl⟩ := hp
        exact ⟨xs, _, by simpa using hx, hlt, rfl, rfl⟩
    obtain ⟨xs, l, hx, hlt, rfl, hl3⟩ := key
    refine ⟨xs, hx, hlt, ?_⟩
    simp only [runFn, ss, execs, exec, ev, evs, evo, evT, evA, evR, evO, evI, assign, setAll, wipeL, look, O.bind_ok, O.bind_no, O.of_some, O.of_none, R.toD_d, R.toD_fl, List.getElem?_cons_zero, List.getElem?_cons_succ, List.set_cons_zero, List.set_cons_succ, List.map_cons, List.map_nil, List.length_cons, List.length_nil, List.cons_append, List.nil_append, List.replicate, Option.map_some, Option.map_none, true_and, and_true, Nat.reduceAdd, Nat.reduceSub, Nat.reduceLT, Nat.reduceLeDiff, Nat.reduceEqDiff, and_self, ↓reduceIte]
    rw [hl3]
    simp only [runFn, ss, execs, exec, ev, evs, evo, evT, evA, evR, evO, evI, assign, setAll, wipeL, look, O.bind_ok, O.bind_no, O.of_some, O.of_none, R.toD_d, R.toD_fl, List.getElem?_cons_zero, List.getElem?_cons_succ, List.set_cons_zero, List.set_cons_succ, List.map_cons, List.map_nil, List.length_cons, List.length_nil, List.cons_append, List.nil_append, List.replicate, Option.map_some, Option.map_none, true_and, and_true, Nat.reduceAdd, Nat.reduceSub, Nat.reduceLT, Nat.reduceLeDiff, Nat.reduceEqDiff, and_self, ↓reduceIte]
    exact back_lst (pures_nat xs)
/-- the law's signs -/
def known : List Nat := [32, 33, 34, 35, 36] ++ (List.range 89).map (· + 38)
def Prn (s : List Nat) : Prop := ∀ c ∈ s, 32 ≤ c ∧ c ≤ 126
theorem known_ok : ∀ c ∈ known, 32 ≤ c ∧ c ≤ 126 := by decide
theorem run_signs (k : Nat) (draw : Int) (count : Nat) (hc : count ≤ 1000) : ∃ s : List Nat, s.length = count ∧ Prn s ∧ run Pr (k + 2) 12 [.int draw, .int count] = .ok (.d (.str s)) [] := by
  have hl : LIM = 1000000 := rfl
  obtain ⟨xs, hx, hlt, e⟩ := run_numbers k draw count 94 hc (by decide) (by decide)
  refine ⟨xs.map fun x => known.getD x 0, by simpa using hx, fun c hm => ?_, ?_⟩
  · obtain ⟨x, h1, rfl⟩ := List.mem_map.mp hm
    have h2 : x < known.length := hlt x h1
    rw [List.getD_eq_getElem?_getD, List.getElem?_eq_getElem h2]
    exact known_ok _ (List.getElem_mem h2)
  · rw [r12]
    unfold c__law_signs_drawn
    simp only [runFn, ss, execs, exec, ev, evs, evo, evT, evA, evR, evO, evI, assign, setAll, wipeL, look, O.bind_ok, O.bind_no, O.of_some, O.of_none, R.toD_d, R.toD_fl, List.getElem?_cons_zero, List.getElem?_cons_succ, List.set_cons_zero, List.set_cons_succ, List.map_cons, List.map_nil, List.length_cons, List.length_nil, List.cons_append, List.nil_append, List.replicate, Option.map_some, Option.map_none, true_and, and_true, Nat.reduceAdd, Nat.reduceSub, Nat.reduceLT, Nat.reduceLeDiff, Nat.reduceEqDiff, and_self, ↓reduceIte]
    rw [call_ok (r := .fl (xs.map nD)) rfl e]
    simp only [runFn, ss, execs, exec, ev, evs, evo, evT, evA, evR, evO, evI, assign, setAll, wipeL, look, O.bind_ok, O.bind_no, O.of_some, O.of_none, R.toD_d, R.toD_fl, List.getElem?_cons_zero, List.getElem?_cons_succ, List.set_cons_zero, List.set_cons_succ, List.map_cons, List.map_nil, List.length_cons, List.length_nil, List.cons_append, List.nil_append, List.replicate, Option.map_some, Option.map_none, true_and, and_true, Nat.reduceAdd, Nat.reduceSub, Nat.reduceLT, Nat.reduceLeDiff, Nat.reduceEqDiff, and_self, ↓reduceIte, seq_lst]
    rw [if_pos (short (by simp; omega)), lc_gen (out := fun x : Nat => D.str [known.getD x 0]) rfl]
    · simp only [runFn, ss, execs, exec, ev, evs, evo, evT, evA, evR, evO, evI, assign, setAll, wipeL, look, O.bind_ok, O.bind_no, O.of_some, O.of_none, R.toD_d, R.toD_fl, List.getElem?_cons_zero, List.getElem?_cons_succ, List.set_cons_zero, List.set_cons_succ, List.map_cons, List.map_nil, List.length_cons, List.length_nil, List.cons_append, List.nil_append, List.replicate, Option.map_some, Option.map_none, true_and, and_true, Nat.reduceAdd, Nat.reduceSub, Nat.reduceLT, Nat.reduceLeDiff, Nat.reduceEqDiff, and_self, ↓reduceIte]
      have e2 : (xs.map fun x => D.str [known.getD x 0]) = (xs.map fun x => [known.getD x 0]).map .str := by rw [List.map_map]; rfl
      have e3 : (xs.map fun x => [known.getD x 0]).flatten = xs.map fun x => known.getD x 0 := by
        clear hlt e hx e2
        induction xs with
        | nil => rfl
        | cons x xs ih => rw [List.map_cons, List.flatten_cons, ih, List.map_cons]; rfl
      rw [e2, met_join (by rw [e3]; simp; omega), e3]
      rfl
    · intro x hm
      have h2 : x < known.length := hlt x hm
      have h3 : known[x]? = some (known.getD x 0) := by rw [List.getD_eq_getElem?_getD, List.getElem?_eq_getElem h2]; rfl
      rw [show ([32, 33, 34, 35, 36, 38, 39, 40, 41, 42, 43, 44, 45, 46, 47, 48, 49, 50, 51, 52, 53, 54, 55, 56, 57, 58, 59, 60, 61, 62, 63, 64, 65, 66, 67, 68, 69, 70, 71, 72, 73, 74, 75, 76, 77, 78, 79, 80, 81, 82, 83, 84, 85, 86, 87, 88, 89, 90, 91, 92, 93, 94, 95, 96, 97, 98, 99, 100, 101, 102, 103, 104, 105, 106, 107, 108, 109, 110, 111, 112, 113, 114, 115, 116, 117, 118, 119, 120, 121, 122, 123, 124, 125, 126] : List Nat) = known from by decide]
      rw [ix_str h3]
      rfl
end K67
/-! K67k: the law's texts: that they are texts. -/
namespace K67
open Pd
theorem bs_call {E : Env} {f : Nat} {args : Cs} {l : Lo} {g : G} {ds : List D} {s : List Nat} {n : Nat} {g' : G} (ha : evs E args l g = .ok ds g) (hp : D.pures ds = true) (hc : E.call f ds = .ok (.d (.str s)) g') (hn : s.length ≤ n) : BS E (.call f args) l g n := by
  refine ⟨s, ?_, hn⟩
  rw [ev, ha, O.bind_ok, call_ok hp hc]
theorem r13 (k : Nat) (ds : List D) : run Pr (k + 1) 13 ds = runFn (En k) c__law_bent_string ds := rfl
theorem sign_at {s : List Nat} {i : Int} (h0 : 0 < s.length) : ∃ c, ixop (.str s) (.int (i % (s.length : Nat))) = some (.str [c]) := by
  obtain ⟨m, h1, h2⟩ := mod_nat (i := i) h0
  exact ⟨s[m], by rw [h2]; exact ix_str (List.getElem?_eq_getElem h1)⟩
theorem cmp_eq_int (a b : Int) : cmpop .eq (.int a) (.int b) = some (a == b) := rfl
theorem bent_ok (k : Nat) (text : List Nat) (ds : List Nat) (at_ : Nat) (h : text.length ≤ 300000) (hd : at_ + 2 < ds.length) :
    ∃ s : List Nat, s.length ≤ 2 * text.length + 1 ∧ run Pr (k + 1) 13 [.str text, .lst (ds.map nD), .int at_] = .ok (.d (.str s)) [] := by
  have hl : LIM = 1000000 := rfl
  have e0 : ixop (.lst (ds.map nD)) (.int (at_ : Int)) = some (.int (ds[at_] : Nat)) := ix_lst (by rw [List.getElem?_map, List.getElem?_eq_getElem (by omega)]; rfl)
  have e1 : ixop (.lst (ds.map nD)) (.int ((at_ : Int) + 1)) = some (.int (ds[at_ + 1] : Nat)) := ix_lst (i := at_ + 1) (by rw [List.getElem?_map, List.getElem?_eq_getElem (by omega)]; rfl)
  have e2 : ixop (.lst (ds.map nD)) (.int ((at_ : Int) + 2)) = some (.int (ds[at_ + 2] : Nat)) := ix_lst (i := at_ + 2) (by rw [List.getElem?_map, List.getElem?_eq_getElem (by omega)]; rfl)
  obtain ⟨c, hc⟩ := sign_at (s := [48, 49, 50, 51, 52, 53, 54, 55, 56, 57, 32, 10, 44, 47, 97, 98, 99, 100, 111, 112, 114, 116, 117, 40, 41, 61, 124, 58]) (i := ((ds[at_ + 1] : Nat) : Int)) (by decide)
  simp only [List.length_cons, List.length_nil, Nat.reduceAdd] at hc
  rw [r13]
  unfold c__law_bent_string runFn
  rw [if_pos ⟨rfl, by decide⟩]
  simp only [ss]
  generalize hq : execs (En k) _ _ _ = q
  obtain ⟨spot, hspot⟩ : ∃ i, ((ds[at_] : Nat) : Int) % ((text.length : Nat) + 1 : Int) = i := ⟨_, rfl⟩
  obtain ⟨kind, hkind⟩ : ∃ i, ((ds[at_ + 2] : Nat) : Int) % 7 = i := ⟨_, rfl⟩
  have key : ∃ (s : List Nat) (l' : Lo), q = .ok (.rt (.d (.str s)), l') [] ∧ s.length ≤ 2 * text.length + 1 := by
    rw [← hq]
    show XS _ _ _ _ _
    rw [XS, x_asg (r := .d (.str [48, 49, 50, 51, 52, 53, 54, 55, 56, 57, 32, 10, 44, 47, 97, 98, 99, 100, 111, 112, 114, 116, 117, 40, 41, 61, 124, 58])) (l' := [some (.str text), some (.lst (ds.map nD)), some (.int at_), some (.str [48, 49, 50, 51, 52, 53, 54, 55, 56, 57, 32, 10, 44, 47, 97, 98, 99, 100, 111, 112, 114, 116, 117, 40, 41, 61, 124, 58]), none, none, none]),
      x_asg (r := .d (.int spot)) (l' := [some (.str text), some (.lst (ds.map nD)), some (.int at_), some (.str [48, 49, 50, 51, 52, 53, 54, 55, 56, 57, 32, 10, 44, 47, 97, 98, 99, 100, 111, 112, 114, 116, 117, 40, 41, 61, 124, 58]), some (.int spot), none, none]),
      x_asg (r := .d (.str [c])) (l' := [some (.str text), some (.lst (ds.map nD)), some (.int at_), some (.str [48, 49, 50, 51, 52, 53, 54, 55, 56, 57, 32, 10, 44, 47, 97, 98, 99, 100, 111, 112, 114, 116, 117, 40, 41, 61, 124, 58]), some (.int spot), some (.str [c]), none]),
      x_asg (r := .d (.int kind)) (l' := [some (.str text), some (.lst (ds.map nD)), some (.int at_), some (.str [48, 49, 50, 51, 52, 53, 54, 55, 56, 57, 32, 10, 44, 47, 97, 98, 99, 100, 111, 112, 114, 116, 117, 40, 41, 61, 124, 58]), some (.int spot), some (.str [c]), some (.int kind)])]
    · show XS _ _ _ _ _
      generalize hll : ([some (.str text), some (.lst (ds.map nD)), some (.int at_), some (.str [48, 49, 50, 51, 52, 53, 54, 55, 56, 57, 32, 10, 44, 47, 97, 98, 99, 100, 111, 112, 114, 116, 117, 40, 41, 61, 124, 58]), some (.int spot), some (.str [c]), some (.int kind)] : Lo) = ll
      have v0 : BS (En k) (.var 0) ll [] text.length := bs_var (by rw [← hll]; rfl) (Nat.le_refl _)
      have v1 : ll[1]? = some (some (.lst (ds.map fun (x : Nat) => D.int (x : Int)))) := by rw [← hll]; rfl
      have sp : BN (En k) (.var 4) ll [] := bi_var (v := spot) (by rw [← hll]; rfl)
      have vc : BS (En k) (.var 5) ll [] 1 := bs_var (s := [c]) (by rw [← hll]; rfl) (by simp)
      have vk : ll[6]? = some (some (.int kind)) := by rw [← hll]; rfl
      have lo0 : BO (En k) (.some (.con (.int 0))) ll [] := bo_some bi_con
      have sp1 : BN (En k) (.bin .add (.var 4) (.con (.int 1))) ll [] := bi_add sp bi_con
      have va : ll[2]? = some (some (.int at_)) := by rw [← hll]; rfl
      have dr : BN (En k) (.ix (.var 1) (.bin .add (.var 2) (.con (.int 1)))) ll [] := by
        refine ⟨((ds[at_ + 1] : Nat) : Int), ?_⟩
        rw [← hll]
        simp only [runFn, ss, execs, exec, ev, evs, evo, evT, evA, evR, evO, evI, assign, setAll, wipeL, look, O.bind_ok, O.bind_no, O.of_some, O.of_none, R.toD_d, R.toD_fl, List.getElem?_cons_zero, List.getElem?_cons_succ, List.set_cons_zero, List.set_cons_succ, List.map_cons, List.map_nil, List.length_cons, List.length_nil, List.cons_append, List.nil_append, List.replicate, Option.map_some, Option.map_none, true_and, and_true, Nat.reduceAdd, Nat.reduceSub, Nat.reduceLT, Nat.reduceLeDiff, Nat.reduceEqDiff, and_self, ↓reduceIte]
        rw [add_int]
        simp only [runFn, ss, execs, exec, ev, evs, evo, evT, evA, evR, evO, evI, assign, setAll, wipeL, look, O.bind_ok, O.bind_no, O.of_some, O.of_none, R.toD_d, R.toD_fl, List.getElem?_cons_zero, List.getElem?_cons_succ, List.set_cons_zero, List.set_cons_succ, List.map_cons, List.map_nil, List.length_cons, List.length_nil, List.cons_append, List.nil_append, List.replicate, Option.map_some, Option.map_none, true_and, and_true, Nat.reduceAdd, Nat.reduceSub, Nat.reduceLT, Nat.reduceLeDiff, Nat.reduceEqDiff, and_self, ↓reduceIte]
        rw [e1]
        rfl
      have p1 : BS (En k) (.sl (.var 0) (.some (.con (.int 0))) (.some (.var 4))) ll [] text.length := bs_sl v0 lo0 (bo_some sp)
      have p2 : BS (En k) (.sl (.var 0) (.some (.bin .add (.var 4) (.con (.int 1)))) .non) ll [] text.length := bs_sl v0 (bo_some sp1) bo_non
      have p3 : BS (En k) (.sl (.var 0) (.some (.var 4)) .non) ll [] text.length := bs_sl v0 (bo_some sp) bo_non
      have p4 : BS (En k) (.sl (.var 0) (.some (.bin .mod (.ix (.var 1) (.bin .add (.var 2) (.con (.int 1)))) (.bin .add (.bi .len (.cons (.var 0) .nil)) (.con (.int 1))))) .non) ll [] text.length := bs_sl v0 (bo_some (bi_mod dr (bp_len1 v0))) bo_non
      exact xs_if (t_eq vk) (xs_ret ((bs_add p1 p2 (by omega)).le (by omega))) (xs_if (t_eq vk) (xs_ret ((bs_add (bs_add p1 vc (by omega)) p2 (by omega)).le (by omega)))
        (xs_if (t_eq vk) (xs_ret (p1.le (by omega))) (xs_if (t_eq vk) (xs_ret ((bs_add v0 vc (by omega)).le (by omega))) (xs_if (t_eq vk) (xs_ret ((bs_add vc v0 (by omega)).le (by omega)))
        (xs_if (t_eq vk) (xs_ret ((bs_add p1 p4 (by omega)).le (by omega))) (xs_ret ((bs_add (bs_add p1 vc (by omega)) p3 (by omega)).le (by omega))))))))
    · simp only [runFn, ss, execs, exec, ev, evs, evo, evT, evA, evR, evO, evI, assign, setAll, wipeL, look, O.bind_ok, O.bind_no, O.of_some, O.of_none, R.toD_d, R.toD_fl, List.getElem?_cons_zero, List.getElem?_cons_succ, List.set_cons_zero, List.set_cons_succ, List.map_cons, List.map_nil, List.length_cons, List.length_nil, List.cons_append, List.nil_append, List.replicate, Option.map_some, Option.map_none, true_and, and_true, Nat.reduceAdd, Nat.reduceSub, Nat.reduceLT, Nat.reduceLeDiff, Nat.reduceEqDiff, and_self, ↓reduceIte]
      rw [add_int]
      simp only [runFn, ss, execs, exec, ev, evs, evo, evT, evA, evR, evO, evI, assign, setAll, wipeL, look, O.bind_ok, O.bind_no, O.of_some, O.of_none, R.toD_d, R.toD_fl, List.getElem?_cons_zero, List.getElem?_cons_succ, List.set_cons_zero, List.set_cons_succ, List.map_cons, List.map_nil, List.length_cons, List.length_nil, List.cons_append, List.nil_append, List.replicate, Option.map_some, Option.map_none, true_and, and_true, Nat.reduceAdd, Nat.reduceSub, Nat.reduceLT, Nat.reduceLeDiff, Nat.reduceEqDiff, and_self, ↓reduceIte]
      rw [e2]
      simp only [runFn, ss, execs, exec, ev, evs, evo, evT, evA, evR, evO, evI, assign, setAll, wipeL, look, O.bind_ok, O.bind_no, O.of_some, O.of_none, R.toD_d, R.toD_fl, List.getElem?_cons_zero, List.getElem?_cons_succ, List.set_cons_zero, List.set_cons_succ, List.map_cons, List.map_nil, List.length_cons, List.length_nil, List.cons_append, List.nil_append, List.replicate, Option.map_some, Option.map_none, true_and, and_true, Nat.reduceAdd, Nat.reduceSub, Nat.reduceLT, Nat.reduceLeDiff, Nat.reduceEqDiff, and_self, ↓reduceIte]
      rw [mod_int (by decide), hkind]
      rfl
    · rfl
    · simp only [runFn, ss, execs, exec, ev, evs, evo, evT, evA, evR, evO, evI, assign, setAll, wipeL, look, O.bind_ok, O.bind_no, O.of_some, O.of_none, R.toD_d, R.toD_fl, List.getElem?_cons_zero, List.getElem?_cons_succ, List.set_cons_zero, List.set_cons_succ, List.map_cons, List.map_nil, List.length_cons, List.length_nil, List.cons_append, List.nil_append, List.replicate, Option.map_some, Option.map_none, true_and, and_true, Nat.reduceAdd, Nat.reduceSub, Nat.reduceLT, Nat.reduceLeDiff, Nat.reduceEqDiff, and_self, ↓reduceIte]
      rw [add_int]
      simp only [runFn, ss, execs, exec, ev, evs, evo, evT, evA, evR, evO, evI, assign, setAll, wipeL, look, O.bind_ok, O.bind_no, O.of_some, O.of_none, R.toD_d, R.toD_fl, List.getElem?_cons_zero, List.getElem?_cons_succ, List.set_cons_zero, List.set_cons_succ, List.map_cons, List.map_nil, List.length_cons, List.length_nil, List.cons_append, List.nil_append, List.replicate, Option.map_some, Option.map_none, true_and, and_true, Nat.reduceAdd, Nat.reduceSub, Nat.reduceLT, Nat.reduceLeDiff, Nat.reduceEqDiff, and_self, ↓reduceIte]
      rw [e1]
      simp only [runFn, ss, execs, exec, ev, evs, evo, evT, evA, evR, evO, evI, assign, setAll, wipeL, look, O.bind_ok, O.bind_no, O.of_some, O.of_none, R.toD_d, R.toD_fl, List.getElem?_cons_zero, List.getElem?_cons_succ, List.set_cons_zero, List.set_cons_succ, List.map_cons, List.map_nil, List.length_cons, List.length_nil, List.cons_append, List.nil_append, List.replicate, Option.map_some, Option.map_none, true_and, and_true, Nat.reduceAdd, Nat.reduceSub, Nat.reduceLT, Nat.reduceLeDiff, Nat.reduceEqDiff, and_self, ↓reduceIte]
      rw [len_str]
      simp only [runFn, ss, execs, exec, ev, evs, evo, evT, evA, evR, evO, evI, assign, setAll, wipeL, look, O.bind_ok, O.bind_no, O.of_some, O.of_none, R.toD_d, R.toD_fl, List.getElem?_cons_zero, List.getElem?_cons_succ, List.set_cons_zero, List.set_cons_succ, List.map_cons, List.map_nil, List.length_cons, List.length_nil, List.cons_append, List.nil_append, List.replicate, Option.map_some, Option.map_none, true_and, and_true, Nat.reduceAdd, Nat.reduceSub, Nat.reduceLT, Nat.reduceLeDiff, Nat.reduceEqDiff, and_self, ↓reduceIte]
      rw [mod_int (by decide)]
      simp only [runFn, ss, execs, exec, ev, evs, evo, evT, evA, evR, evO, evI, assign, setAll, wipeL, look, O.bind_ok, O.bind_no, O.of_some, O.of_none, R.toD_d, R.toD_fl, List.getElem?_cons_zero, List.getElem?_cons_succ, List.set_cons_zero, List.set_cons_succ, List.map_cons, List.map_nil, List.length_cons, List.length_nil, List.cons_append, List.nil_append, List.replicate, Option.map_some, Option.map_none, true_and, and_true, Nat.reduceAdd, Nat.reduceSub, Nat.reduceLT, Nat.reduceLeDiff, Nat.reduceEqDiff, and_self, ↓reduceIte]
      rw [hc]
      rfl
    · rfl
    · simp only [runFn, ss, execs, exec, ev, evs, evo, evT, evA, evR, evO, evI, assign, setAll, wipeL, look, O.bind_ok, O.bind_no, O.of_some, O.of_none, R.toD_d, R.toD_fl, List.getElem?_cons_zero, List.getElem?_cons_succ, List.set_cons_zero, List.set_cons_succ, List.map_cons, List.map_nil, List.length_cons, List.length_nil, List.cons_append, List.nil_append, List.replicate, Option.map_some, Option.map_none, true_and, and_true, Nat.reduceAdd, Nat.reduceSub, Nat.reduceLT, Nat.reduceLeDiff, Nat.reduceEqDiff, and_self, ↓reduceIte]
      rw [e0]
      simp only [runFn, ss, execs, exec, ev, evs, evo, evT, evA, evR, evO, evI, assign, setAll, wipeL, look, O.bind_ok, O.bind_no, O.of_some, O.of_none, R.toD_d, R.toD_fl, List.getElem?_cons_zero, List.getElem?_cons_succ, List.set_cons_zero, List.set_cons_succ, List.map_cons, List.map_nil, List.length_cons, List.length_nil, List.cons_append, List.nil_append, List.replicate, Option.map_some, Option.map_none, true_and, and_true, Nat.reduceAdd, Nat.reduceSub, Nat.reduceLT, Nat.reduceLeDiff, Nat.reduceEqDiff, and_self, ↓reduceIte]
      rw [len_str]
      simp only [runFn, ss, execs, exec, ev, evs, evo, evT, evA, evR, evO, evI, assign, setAll, wipeL, look, O.bind_ok, O.bind_no, O.of_some, O.of_none, R.toD_d, R.toD_fl, List.getElem?_cons_zero, List.getElem?_cons_succ, List.set_cons_zero, List.set_cons_succ, List.map_cons, List.map_nil, List.length_cons, List.length_nil, List.cons_append, List.nil_append, List.replicate, Option.map_some, Option.map_none, true_and, and_true, Nat.reduceAdd, Nat.reduceSub, Nat.reduceLT, Nat.reduceLeDiff, Nat.reduceEqDiff, and_self, ↓reduceIte]
      rw [add_int]
      simp only [runFn, ss, execs, exec, ev, evs, evo, evT, evA, evR, evO, evI, assign, setAll, wipeL, look, O.bind_ok, O.bind_no, O.of_some, O.of_none, R.toD_d, R.toD_fl, List.getElem?_cons_zero, List.getElem?_cons_succ, List.set_cons_zero, List.set_cons_succ, List.map_cons, List.map_nil, List.length_cons, List.length_nil, List.cons_append, List.nil_append, List.replicate, Option.map_some, Option.map_none, true_and, and_true, Nat.reduceAdd, Nat.reduceSub, Nat.reduceLT, Nat.reduceLeDiff, Nat.reduceEqDiff, and_self, ↓reduceIte]
      rw [mod_int (by omega), hspot]
      rfl
    · rfl
    · rw [ev]
    · rfl
  obtain ⟨s, l', rfl, hn⟩ := key
  exact ⟨s, hn, rfl⟩
end K67
/-! K67l: the law's texts: that they are texts, and not too long. -/
namespace K67
open Pd
theorem r15 (k : Nat) (ds : List D) : run Pr (k + 1) 15 ds = runFn (En k) c__law_texts ds := rfl
theorem spl_sum (S : List Nat) : ∀ (l : List Nat) (k : Nat) (acc : List Nat), Pd.tot (spl S k acc l) ≤ acc.length + l.length
  | [], k, acc => by cases k <;> simp [spl, Pd.tot]
  | c :: r, 0, acc => by
    rw [spl]
    split
    · have := spl_sum S r (S.length - 1) []
      unfold Pd.tot at *
      rw [List.map_cons, List.sum_cons]
      simp at this ⊢
      omega
    · have := spl_sum S r 0 (acc ++ [c])
      simp at this ⊢
      omega
  | c :: r, k + 1, acc => by
    rw [spl]
    have := spl_sum S r k acc
    simp at this ⊢
    omega
theorem rows_tot (text : List Nat) : Pd.tot ((rowsOf text).map (· ++ [10])) ≤ 2 * text.length + 1 := by
  have h1 : ∀ xs : List (List Nat), Pd.tot (xs.map (· ++ [10])) = Pd.tot xs + xs.length := by
    intro xs
    induction xs with
    | nil => rfl
    | cons x xs ih =>
      unfold Pd.tot at *
      simp only [List.map_cons, List.sum_cons, List.length_append, List.length_cons, List.length_nil] at *
      omega
  rw [h1]
  have h2 := Nat.le_trans (tot_cut (spl [10] 0 [] text) none (some (-1))) (spl_sum [10] text 0 [])
  have h3 := rows_len text
  unfold rowsOf at *
  simp at h2
  omega
theorem jour_le {ls : List (List Nat)} (h1 : ls.length ≤ 8) (h2 : Pd.tot ls ≤ 1000) : (jour 1 ls).length ≤ 2000 ∧ Sz ls := by
  have h3 := jour_len ls 1 (by have hl : LIM = 1000000 := rfl; omega)
  unfold Pd.tot at h2
  unfold Sz
  omega
theorem texts_ok (k : Nat) (ls : List (List Nat)) (ds : List Nat) (h1 : ls.length ≤ 8) (h2 : Pd.tot ls ≤ 1000) (hd : 11 ≤ ds.length) :
    ∃ xs : List (List Nat), xs.length ≤ 1000 ∧ (∀ x ∈ xs, x.length ≤ 200000) ∧ run Pr (k + 4) 15 [.lst (ls.map .str), .lst (ds.map nD)] = .ok (.fl (xs.map .str)) [] := by
  have hl : LIM = 1000000 := rfl
  obtain ⟨hj1, hj2⟩ := jour_le h1 h2
  have c1 := run_lawjour k ls hj2
  obtain ⟨at_, ha1, ha2⟩ := mod_nat (i := ((ds[0] : Nat) : Int)) (n := ls.length + 1) (by omega)
  have hcut1 := cut_le ls (some 0) (some (at_ : Int))
  have hcut2 := tot_cut ls (some 0) (some (at_ : Int))
  obtain ⟨hj3, hj4⟩ := jour_le (ls := cut ls (some 0) (some (at_ : Int))) (by omega) (by omega)
  have c2 := run_lawjour k (cut ls (some 0) (some (at_ : Int))) hj4
  have hrt := rows_tot (jour 1 ls)
  have hrl := rows_len (jour 1 ls)
  have e0 : ixop (.lst (ds.map nD)) (.int 0) = some (.int (ds[0] : Nat)) := ix_lst (i := 0) (by rw [List.getElem?_map, List.getElem?_eq_getElem (by omega)]; rfl)
  rw [r15]
  unfold c__law_texts runFn
  rw [if_pos ⟨rfl, by decide⟩]
  simp only [ss]
  generalize hq : execs (En (k + 3)) _ _ _ = q
  have key : ∃ (xs : List (List Nat)) (l' : Lo) (g' : G), q = .ok (.rt (.fl (xs.map .str)), l') g' ∧ xs.length ≤ 1000 ∧ Pd.tot xs ≤ 200000 := by
    rw [← hq]
    rw [x_asg (r := .d (.str (jour 1 ls))) (l' := [some (.lst (ls.map .str)), some (.lst (ds.map nD)), some (.str (jour 1 ls)), none, none, none, none, none]),
      x_asg (r := .d (.int at_)) (l' := [some (.lst (ls.map .str)), some (.lst (ds.map nD)), some (.str (jour 1 ls)), some (.int at_), none, none, none, none]),
      x_asg (r := .d (.str (jour 1 (cut ls (some 0) (some (at_ : Int)))))) (l' := [some (.lst (ls.map .str)), some (.lst (ds.map nD)), some (.str (jour 1 ls)), some (.int at_), some (.str (jour 1 (cut ls (some 0) (some (at_ : Int))))), none, none, none]),
      x_asg (r := .fl (((rowsOf (jour 1 ls)).map (· ++ [10])).map .str)) (l' := [some (.lst (ls.map .str)), some (.lst (ds.map nD)), some (.str (jour 1 ls)), some (.int at_), some (.str (jour 1 (cut ls (some 0) (some (at_ : Int))))), some (.lst (((rowsOf (jour 1 ls)).map (· ++ [10])).map .str)), none, none])]
    · generalize hR : jour 1 (cut ls (some 0) (some (at_ : Int))) = RR at *
      generalize hT : jour 1 ls = T at *
      generalize hW : (rowsOf T).map (· ++ [10]) = W at *
      have hWl : W.length ≤ 2001 := by rw [← hW]; simpa using (by omega : (rowsOf T).length ≤ 2001)
      have hWt : Pd.tot W ≤ 4001 := by omega
      have facts : ∀ (ll : Lo) (g : G), ll[1]? = some (some (.lst (ds.map nD))) → ll[2]? = some (some (.str T)) → ll[3]? = some (some (.int at_)) → ll[4]? = some (some (.str RR)) → ll[5]? = some (some (.lst (W.map .str))) →
          (BS (En (k + 3)) (.var 2) ll g 2000 ∧ BN (En (k + 3)) (.var 3) ll g ∧ BS (En (k + 3)) (.var 4) ll g 2000 ∧ BL (En (k + 3)) (.var 5) ll g 2001 4001) := fun ll g v1 v2 v3 v4 v5 =>
        ⟨bs_var v2 (by omega), bi_var v3, bs_var v4 (by omega), bl_var v5 hWl hWt⟩
      have lo0 : ∀ ll g, BO (En (k + 3)) (.some (.con (.int 0))) ll g := fun ll g => bo_some bi_con
      -- found = [..]
      obtain ⟨v2, v3, v4, v5⟩ := facts [some (.lst (ls.map .str)), some (.lst (ds.map nD)), some (.str T), some (.int at_), some (.str RR), some (.lst (W.map .str)), none, none] [] rfl rfl rfl rfl rfl
      obtain ⟨xs0, n0, t0, q0⟩ := x_newF (i := 6) (E := En (k + 3)) (l' := [some (.lst (ls.map .str)), some (.lst (ds.map nD)), some (.str T), some (.int at_), some (.str RR), some (.lst (W.map .str)), some (.obj 0), none])
        (rest := _) (bf_lst (ba_cons v2 (ba_cons (bs_sl v2 (lo0 _ _) (bo_some (bi_mod (bi_draw (i := 1) (k := 1) (j := 1) (ds := ds) rfl (by omega) rfl) (bp_len1 v2)))) (ba_cons (bs_add v4 v2 (by decide)) (ba_cons (bs_add v2 (bs_con (s := [10]) (n := 1) (by decide)) (by decide)) (ba_cons (bs_con (s := []) (n := 0) (by decide))
          (ba_cons (bs_sl v4 (lo0 _ _) (bo_some (bi_max bi_con (bi_sub (bi_len v4) bi_con)))) (ba_cons (bs_join (bl_rev v5) (by decide)) (ba_cons (bs_join (bl_add (bl_sl v5 (lo0 _ _) (bo_some v3)) (bl_sl v5 (bo_some (bi_add v3 bi_con)) bo_non) (by decide)) (by decide)) ba_nil)))))))) (by decide)) rfl
      rw [q0]
      obtain ⟨v2, v3, v4, v5⟩ := facts [some (.lst (ls.map .str)), some (.lst (ds.map nD)), some (.str T), some (.int at_), some (.str RR), some (.lst (W.map .str)), some (.obj 0), none] ([] ++ [.lst (xs0.map .str)]) rfl rfl rfl rfl rfl
      have hstr : BS (En (k + 3)) (.bi .str (.cons (.bin .add (.var 3) (.con (.int 1))) .nil)) [some (.lst (ls.map .str)), some (.lst (ds.map nD)), some (.str T), some (.int at_), some (.str RR), some (.lst (W.map .str)), some (.obj 0), none] ([] ++ [.lst (xs0.map .str)]) 21 := by
        refine ⟨natL (at_ + 1), ?_, nat_len (by omega)⟩
        simp only [runFn, ss, execs, exec, ev, evs, evo, evT, evA, evR, evO, evI, assign, setAll, wipeL, look, O.bind_ok, O.bind_no, O.of_some, O.of_none, R.toD_d, R.toD_fl, List.getElem?_cons_zero, List.getElem?_cons_succ, List.set_cons_zero, List.set_cons_succ, List.map_cons, List.map_nil, List.length_cons, List.length_nil, List.cons_append, List.nil_append, List.replicate, Option.map_some, Option.map_none, true_and, and_true, Nat.reduceAdd, Nat.reduceSub, Nat.reduceLT, Nat.reduceLeDiff, Nat.reduceEqDiff, and_self, ↓reduceIte]
        rw [add_int]
        simp only [runFn, ss, execs, exec, ev, evs, evo, evT, evA, evR, evO, evI, assign, setAll, wipeL, look, O.bind_ok, O.bind_no, O.of_some, O.of_none, R.toD_d, R.toD_fl, List.getElem?_cons_zero, List.getElem?_cons_succ, List.set_cons_zero, List.set_cons_succ, List.map_cons, List.map_nil, List.length_cons, List.length_nil, List.cons_append, List.nil_append, List.replicate, Option.map_some, Option.map_none, true_and, and_true, Nat.reduceAdd, Nat.reduceSub, Nat.reduceLT, Nat.reduceLeDiff, Nat.reduceEqDiff, and_self, ↓reduceIte]
        rw [show bi .str [.int ((at_ : Int) + 1)] = some (.d (.str (natL (at_ + 1)))) from str_nat (n := at_ + 1) (by omega)]
        rfl
      have cs : ∀ (s : List Nat) (ll : Lo) (g : G), s.length ≤ 10 → BS (En (k + 3)) (.con (.str s)) ll g 10 := fun s ll g h => bs_con h
      obtain ⟨xs1, n1, t1, q1⟩ := x_newF (i := 6) (E := En (k + 3)) (l := [some (.lst (ls.map .str)), some (.lst (ds.map nD)), some (.str T), some (.int at_), some (.str RR), some (.lst (W.map .str)), some (.obj 0), none]) (g := [] ++ [.lst (xs0.map .str)]) (l' := [some (.lst (ls.map .str)), some (.lst (ds.map nD)), some (.str T), some (.int at_), some (.str RR), some (.lst (W.map .str)), some (.obj 1), none])
        (rest := _) (bf_add (bl_obj (i := 6) (k := 0) (xs := xs0) rfl rfl n0 t0) (bl_lst (ba_cons (bs_add (bs_add v4 (cs [48] _ _ (by decide)) (by decide)) (bs_sl v2 (bo_some (bi_len v4)) bo_non) (by decide)) (ba_cons (bs_add (bs_add v4 (cs [32] _ _ (by decide)) (by decide)) (bs_sl v2 (bo_some (bi_len v4)) bo_non) (by decide))
          (ba_cons (bs_add (bs_add v4 hstr (by decide)) (cs [44, 48, 44, 10] _ _ (by decide)) (by decide)) (ba_cons (cs [49, 44, 48, 44, 10] _ _ (by decide)) (ba_cons (cs [49, 44, 48, 10] _ _ (by decide)) (ba_cons (cs [49, 44, 57, 55, 44, 97, 10] _ _ (by decide)) (ba_cons (cs [49, 44, 48, 57, 55, 44, 97, 10] _ _ (by decide))
          (ba_cons (cs [49, 44, 57, 56, 44, 97, 10] _ _ (by decide)) (ba_cons (cs [48, 49, 44, 57, 55, 44, 97, 10] _ _ (by decide)) ba_nil))))))))) (by decide)) (by decide)) rfl
      rw [q1]
      obtain ⟨v2, v3, v4, v5⟩ := facts [some (.lst (ls.map .str)), some (.lst (ds.map nD)), some (.str T), some (.int at_), some (.str RR), some (.lst (W.map .str)), some (.obj 1), none] (([] ++ [.lst (xs0.map .str)]) ++ [.lst (xs1.map .str)]) rfl rfl rfl rfl rfl
      obtain ⟨xs2, n2, t2, q2⟩ := x_newF (i := 6) (E := En (k + 3)) (l := [some (.lst (ls.map .str)), some (.lst (ds.map nD)), some (.str T), some (.int at_), some (.str RR), some (.lst (W.map .str)), some (.obj 1), none]) (g := ([] ++ [.lst (xs0.map .str)]) ++ [.lst (xs1.map .str)]) (l' := [some (.lst (ls.map .str)), some (.lst (ds.map nD)), some (.str T), some (.int at_), some (.str RR), some (.lst (W.map .str)), some (.obj 2), none])
        (rest := _) (bf_add (bl_obj (i := 6) (k := 1) (xs := xs1) rfl rfl n1 t1) (bl_lst (ba_cons (cs [50, 44, 57, 55, 44, 97, 10] _ _ (by decide)) (ba_cons (cs [49, 44, 50, 57, 51, 44, 97, 98, 10] _ _ (by decide)) (ba_cons (cs [49, 44, 57, 55, 44, 97] _ _ (by decide)) (ba_cons (cs [49, 44, 57, 55, 44, 44, 97, 10] _ _ (by decide)) (ba_cons (cs [44, 44, 10] _ _ (by decide)) ba_nil))))) (by decide)) (by decide)) rfl
      rw [q2]
      obtain ⟨v2, v3, v4, v5⟩ := facts [some (.lst (ls.map .str)), some (.lst (ds.map nD)), some (.str T), some (.int at_), some (.str RR), some (.lst (W.map .str)), some (.obj 2), none] ((([] ++ [.lst (xs0.map .str)]) ++ [.lst (xs1.map .str)]) ++ [.lst (xs2.map .str)]) rfl rfl rfl rfl rfl
      have w1 := bl_sl (lo := .some (.con (.int 0))) (hi := .some (.var 3)) v5 (lo0 _ _) (bo_some v3)
      have w2 := bl_sl (lo := .some (.var 3)) (hi := .some (.bin .add (.var 3) (.con (.int 1)))) v5 (bo_some v3) (bo_some (bi_add v3 bi_con))
      have w3 := bl_sl (lo := .some (.var 3)) (hi := .non) v5 (bo_some v3) bo_non
      have w4 := bl_sl (lo := .some (.bin .add (.var 3) (.con (.int 1)))) (hi := .some (.bin .add (.var 3) (.con (.int 2)))) v5 (bo_some (bi_add v3 bi_con)) (bo_some (bi_add v3 bi_con))
      have w5 := bl_sl (lo := .some (.bin .add (.var 3) (.con (.int 2)))) (hi := .non) v5 (bo_some (bi_add v3 bi_con)) bo_non
      obtain ⟨xs3, n3, t3, q3⟩ := x_newF (i := 6) (E := En (k + 3)) (l := [some (.lst (ls.map .str)), some (.lst (ds.map nD)), some (.str T), some (.int at_), some (.str RR), some (.lst (W.map .str)), some (.obj 2), none]) (g := (([] ++ [.lst (xs0.map .str)]) ++ [.lst (xs1.map .str)]) ++ [.lst (xs2.map .str)]) (l' := [some (.lst (ls.map .str)), some (.lst (ds.map nD)), some (.str T), some (.int at_), some (.str RR), some (.lst (W.map .str)), some (.obj 3), none])
        (rest := _) (bf_add (bl_obj (i := 6) (k := 2) (xs := xs2) rfl rfl n2 t2) (bl_lst (ba_cons (bs_join (bl_add (bl_add w1 w2 (by decide)) w3 (by decide)) (by decide)) (ba_cons (bs_join (bl_add (bl_add (bl_add w1 w4 (by decide)) w2 (by decide)) w5 (by decide)) (by decide)) ba_nil)) (by decide)) (by decide)) rfl
      rw [q3]
      obtain ⟨v2, v3, v4, v5⟩ := facts [some (.lst (ls.map .str)), some (.lst (ds.map nD)), some (.str T), some (.int at_), some (.str RR), some (.lst (W.map .str)), some (.obj 3), none] (((([] ++ [.lst (xs0.map .str)]) ++ [.lst (xs1.map .str)]) ++ [.lst (xs2.map .str)]) ++ [.lst (xs3.map .str)]) rfl rfl rfl rfl rfl
      have z1 : BS (En (k + 3)) (.call 9 (.cons (.bin .add (.var 3) (.con (.int 1))) (.cons (.bin .mul (.con (.str [97])) (.bin .add (.con (.int 4099)) (.bin .mod (.ix (.var 1) (.con (.int 3))) (.con (.int 3))))) .nil))) [some (.lst (ls.map .str)), some (.lst (ds.map nD)), some (.str T), some (.int at_), some (.str RR), some (.lst (W.map .str)), some (.obj 3), none] (((([] ++ [.lst (xs0.map .str)]) ++ [.lst (xs1.map .str)]) ++ [.lst (xs2.map .str)]) ++ [.lst (xs3.map .str)]) 5000 := by
        obtain ⟨d, hd1, hd2⟩ := mod_nat (i := ((ds[3] : Nat) : Int)) (n := 3) (by decide)
        have hlen : ((List.replicate (4099 + (d : Int)).toNat ([97] : List Nat)).flatten).length = 4099 + d := by
          rw [List.length_flatten]
          simp
          omega
        refine bs_call (ds := [.int ((at_ + 1 : Nat) : Int), .str (List.replicate (4099 + (d : Int)).toNat [97]).flatten]) (s := rec (at_ + 1) (List.replicate (4099 + (d : Int)).toNat [97]).flatten) ?_ rfl (run_lawrec (k + 1) (at_ + 1) _ (by omega) (by omega)) (by have := rec_len (n := at_ + 1) (by omega) (List.replicate (4099 + (d : Int)).toNat ([97] : List Nat)).flatten; omega)
        simp only [runFn, ss, execs, exec, ev, evs, evo, evT, evA, evR, evO, evI, assign, setAll, wipeL, look, O.bind_ok, O.bind_no, O.of_some, O.of_none, R.toD_d, R.toD_fl, List.getElem?_cons_zero, List.getElem?_cons_succ, List.set_cons_zero, List.set_cons_succ, List.map_cons, List.map_nil, List.length_cons, List.length_nil, List.cons_append, List.nil_append, List.replicate, Option.map_some, Option.map_none, true_and, and_true, Nat.reduceAdd, Nat.reduceSub, Nat.reduceLT, Nat.reduceLeDiff, Nat.reduceEqDiff, and_self, ↓reduceIte]
        rw [add_int]
        simp only [runFn, ss, execs, exec, ev, evs, evo, evT, evA, evR, evO, evI, assign, setAll, wipeL, look, O.bind_ok, O.bind_no, O.of_some, O.of_none, R.toD_d, R.toD_fl, List.getElem?_cons_zero, List.getElem?_cons_succ, List.set_cons_zero, List.set_cons_succ, List.map_cons, List.map_nil, List.length_cons, List.length_nil, List.cons_append, List.nil_append, List.replicate, Option.map_some, Option.map_none, true_and, and_true, Nat.reduceAdd, Nat.reduceSub, Nat.reduceLT, Nat.reduceLeDiff, Nat.reduceEqDiff, and_self, ↓reduceIte]
        rw [show ixop (.lst (ds.map nD)) (.int 3) = some (.int (ds[3] : Nat)) from ix_lst (i := 3) (by rw [List.getElem?_map, List.getElem?_eq_getElem (by omega)]; rfl)]
        simp only [runFn, ss, execs, exec, ev, evs, evo, evT, evA, evR, evO, evI, assign, setAll, wipeL, look, O.bind_ok, O.bind_no, O.of_some, O.of_none, R.toD_d, R.toD_fl, List.getElem?_cons_zero, List.getElem?_cons_succ, List.set_cons_zero, List.set_cons_succ, List.map_cons, List.map_nil, List.length_cons, List.length_nil, List.cons_append, List.nil_append, List.replicate, Option.map_some, Option.map_none, true_and, and_true, Nat.reduceAdd, Nat.reduceSub, Nat.reduceLT, Nat.reduceLeDiff, Nat.reduceEqDiff, and_self, ↓reduceIte]
        rw [mod_int (by decide), show ((ds[3] : Nat) : Int) % 3 = (d : Int) from hd2]
        simp only [runFn, ss, execs, exec, ev, evs, evo, evT, evA, evR, evO, evI, assign, setAll, wipeL, look, O.bind_ok, O.bind_no, O.of_some, O.of_none, R.toD_d, R.toD_fl, List.getElem?_cons_zero, List.getElem?_cons_succ, List.set_cons_zero, List.set_cons_succ, List.map_cons, List.map_nil, List.length_cons, List.length_nil, List.cons_append, List.nil_append, List.replicate, Option.map_some, Option.map_none, true_and, and_true, Nat.reduceAdd, Nat.reduceSub, Nat.reduceLT, Nat.reduceLeDiff, Nat.reduceEqDiff, and_self, ↓reduceIte]
        rw [add_int]
        simp only [runFn, ss, execs, exec, ev, evs, evo, evT, evA, evR, evO, evI, assign, setAll, wipeL, look, O.bind_ok, O.bind_no, O.of_some, O.of_none, R.toD_d, R.toD_fl, List.getElem?_cons_zero, List.getElem?_cons_succ, List.set_cons_zero, List.set_cons_succ, List.map_cons, List.map_nil, List.length_cons, List.length_nil, List.cons_append, List.nil_append, List.replicate, Option.map_some, Option.map_none, true_and, and_true, Nat.reduceAdd, Nat.reduceSub, Nat.reduceLT, Nat.reduceLeDiff, Nat.reduceEqDiff, and_self, ↓reduceIte]
        rw [show binop .mul (.str [97]) (.int (4099 + (d : Int))) = some (.d (.str (List.replicate (4099 + (d : Int)).toNat [97]).flatten)) from if_pos ⟨by simp; omega, by omega⟩]
        rfl
      have z2 : BS (En (k + 3)) (.call 9 (.cons (.bin .add (.var 3) (.con (.int 2))) (.cons (.con (.str [98])) .nil))) [some (.lst (ls.map .str)), some (.lst (ds.map nD)), some (.str T), some (.int at_), some (.str RR), some (.lst (W.map .str)), some (.obj 3), none] (((([] ++ [.lst (xs0.map .str)]) ++ [.lst (xs1.map .str)]) ++ [.lst (xs2.map .str)]) ++ [.lst (xs3.map .str)]) 100 := by
        refine bs_call (ds := [.int ((at_ + 2 : Nat) : Int), .str [98]]) (s := rec (at_ + 2) [98]) ?_ rfl (run_lawrec (k + 1) (at_ + 2) _ (by omega) (by simp)) (by have := rec_len (n := at_ + 2) (by omega) ([98] : List Nat); simp at this; omega)
        simp only [runFn, ss, execs, exec, ev, evs, evo, evT, evA, evR, evO, evI, assign, setAll, wipeL, look, O.bind_ok, O.bind_no, O.of_some, O.of_none, R.toD_d, R.toD_fl, List.getElem?_cons_zero, List.getElem?_cons_succ, List.set_cons_zero, List.set_cons_succ, List.map_cons, List.map_nil, List.length_cons, List.length_nil, List.cons_append, List.nil_append, List.replicate, Option.map_some, Option.map_none, true_and, and_true, Nat.reduceAdd, Nat.reduceSub, Nat.reduceLT, Nat.reduceLeDiff, Nat.reduceEqDiff, and_self, ↓reduceIte]
        rw [add_int]
        rfl
      obtain ⟨s4, n4, q4⟩ := x_app (i := 6) (k := 3) (E := En (k + 3)) (l := [some (.lst (ls.map .str)), some (.lst (ds.map nD)), some (.str T), some (.int at_), some (.str RR), some (.lst (W.map .str)), some (.obj 3), none]) (g := ((([] ++ [.lst (xs0.map .str)]) ++ [.lst (xs1.map .str)]) ++ [.lst (xs2.map .str)]) ++ [.lst (xs3.map .str)]) (rest := .cons (.ret (.bin .add (.var 6) (.lst (.cons (.call 13 (.cons (.var 2) (.cons (.var 1) (.cons (.con (.int 2)) .nil)))) (.cons (.call 13 (.cons (.var 2) (.cons (.var 1) (.cons (.con (.int 5)) .nil)))) (.cons (.call 13 (.cons (.var 2) (.cons (.var 1) (.cons (.con (.int 8)) .nil)))) .nil)))))) .nil)
        (xs := xs3) rfl rfl (bs_add (bs_add v4 z1 (by decide)) z2 (by decide)) (by omega)
      rw [q4]
      generalize hgg : List.set (((([] ++ [.lst (xs0.map .str)]) ++ [.lst (xs1.map .str)]) ++ [.lst (xs2.map .str)]) ++ [.lst (xs3.map .str)]) 3 (Cell.lst ((xs3 ++ [s4]).map .str)) = gg
      have hg3 : gg[3]? = some (.lst ((xs3 ++ [s4]).map .str)) := by rw [← hgg]; rfl
      have bb : ∀ j : Nat, j ≤ 8 → BS (En (k + 3)) (.call 13 (.cons (.var 2) (.cons (.var 1) (.cons (.con (.int (j : Int))) .nil)))) [some (.lst (ls.map .str)), some (.lst (ds.map nD)), some (.str T), some (.int at_), some (.str RR), some (.lst (W.map .str)), some (.obj 3), none] gg 5000 := fun j hj => by
        obtain ⟨s, hs1, hs2⟩ := bent_ok (k + 2) T ds j (by omega) (by omega)
        refine bs_call (ds := [.str T, .lst (ds.map nD), .int (j : Int)]) (s := s) ?_ ?_ hs2 (by omega)
        · simp only [runFn, ss, execs, exec, ev, evs, evo, evT, evA, evR, evO, evI, assign, setAll, wipeL, look, O.bind_ok, O.bind_no, O.of_some, O.of_none, R.toD_d, R.toD_fl, List.getElem?_cons_zero, List.getElem?_cons_succ, List.set_cons_zero, List.set_cons_succ, List.map_cons, List.map_nil, List.length_cons, List.length_nil, List.cons_append, List.nil_append, List.replicate, Option.map_some, Option.map_none, true_and, and_true, Nat.reduceAdd, Nat.reduceSub, Nat.reduceLT, Nat.reduceLeDiff, Nat.reduceEqDiff, and_self, ↓reduceIte]
        · show (D.pures (ds.map nD) && true) = true
          rw [pures_nat]
          rfl
      obtain ⟨xs5, h5, n5, t5⟩ := bf_add (E := En (k + 3)) (a := .var 6) (b := .lst (.cons (.call 13 (.cons (.var 2) (.cons (.var 1) (.cons (.con (.int 2)) .nil)))) (.cons (.call 13 (.cons (.var 2) (.cons (.var 1) (.cons (.con (.int 5)) .nil)))) (.cons (.call 13 (.cons (.var 2) (.cons (.var 1) (.cons (.con (.int 8)) .nil)))) .nil))))
        (bl_obj (l := [some (.lst (ls.map .str)), some (.lst (ds.map nD)), some (.str T), some (.int at_), some (.str RR), some (.lst (W.map .str)), some (.obj 3), none]) (g := gg) (i := 6) (k := 3) (xs := xs3 ++ [s4]) (n := 100) (t := 90000) rfl hg3 (by rw [List.length_append, List.length_singleton]; omega) (by rw [tot_app]; unfold Pd.tot at *; simp only [List.map_cons, List.map_nil, List.sum_cons, List.sum_nil]; omega))
        (bl_lst (ba_cons (bb 2 (by decide)) (ba_cons (bb 5 (by decide)) (ba_cons (bb 8 (by decide)) ba_nil))) (by decide)) (by decide)
      exact ⟨xs5, _, _, x_ret h5, by omega, by omega⟩
    · simp only [runFn, ss, execs, exec, ev, evs, evo, evT, evA, evR, evO, evI, assign, setAll, wipeL, look, O.bind_ok, O.bind_no, O.of_some, O.of_none, R.toD_d, R.toD_fl, List.getElem?_cons_zero, List.getElem?_cons_succ, List.set_cons_zero, List.set_cons_succ, List.map_cons, List.map_nil, List.length_cons, List.length_nil, List.cons_append, List.nil_append, List.replicate, Option.map_some, Option.map_none, true_and, and_true, Nat.reduceAdd, Nat.reduceSub, Nat.reduceLT, Nat.reduceLeDiff, Nat.reduceEqDiff, and_self, ↓reduceIte]
      rw [split_nl]
      simp only [runFn, ss, execs, exec, ev, evs, evo, evT, evA, evR, evO, evI, assign, setAll, wipeL, look, O.bind_ok, O.bind_no, O.of_some, O.of_none, R.toD_d, R.toD_fl, List.getElem?_cons_zero, List.getElem?_cons_succ, List.set_cons_zero, List.set_cons_succ, List.map_cons, List.map_nil, List.length_cons, List.length_nil, List.cons_append, List.nil_append, List.replicate, Option.map_some, Option.map_none, true_and, and_true, Nat.reduceAdd, Nat.reduceSub, Nat.reduceLT, Nat.reduceLeDiff, Nat.reduceEqDiff, and_self, ↓reduceIte]
      rw [slop_rows]
      simp only [runFn, ss, execs, exec, ev, evs, evo, evT, evA, evR, evO, evI, assign, setAll, wipeL, look, O.bind_ok, O.bind_no, O.of_some, O.of_none, R.toD_d, R.toD_fl, List.getElem?_cons_zero, List.getElem?_cons_succ, List.set_cons_zero, List.set_cons_succ, List.map_cons, List.map_nil, List.length_cons, List.length_nil, List.cons_append, List.nil_append, List.replicate, Option.map_some, Option.map_none, true_and, and_true, Nat.reduceAdd, Nat.reduceSub, Nat.reduceLT, Nat.reduceLeDiff, Nat.reduceEqDiff, and_self, ↓reduceIte, seq_lst]
      rw [if_pos (short (by simp; omega)), lc_gen (out := fun s : List Nat => D.str (s ++ [10])) rfl]
      · rw [List.nil_append, List.map_map]; rfl
      · intro s hs
        have := row_len hs
        simp only [runFn, ss, execs, exec, ev, evs, evo, evT, evA, evR, evO, evI, assign, setAll, wipeL, look, O.bind_ok, O.bind_no, O.of_some, O.of_none, R.toD_d, R.toD_fl, List.getElem?_cons_zero, List.getElem?_cons_succ, List.set_cons_zero, List.set_cons_succ, List.map_cons, List.map_nil, List.length_cons, List.length_nil, List.cons_append, List.nil_append, List.replicate, Option.map_some, Option.map_none, true_and, and_true, Nat.reduceAdd, Nat.reduceSub, Nat.reduceLT, Nat.reduceLeDiff, Nat.reduceEqDiff, and_self, ↓reduceIte]
        rw [add_str (by simp; omega)]
        rfl
    · rfl
    · simp only [runFn, ss, execs, exec, ev, evs, evo, evT, evA, evR, evO, evI, assign, setAll, wipeL, look, O.bind_ok, O.bind_no, O.of_some, O.of_none, R.toD_d, R.toD_fl, List.getElem?_cons_zero, List.getElem?_cons_succ, List.set_cons_zero, List.set_cons_succ, List.map_cons, List.map_nil, List.length_cons, List.length_nil, List.cons_append, List.nil_append, List.replicate, Option.map_some, Option.map_none, true_and, and_true, Nat.reduceAdd, Nat.reduceSub, Nat.reduceLT, Nat.reduceLeDiff, Nat.reduceEqDiff, and_self, ↓reduceIte]
      rw [show slop (.lst (ls.map .str)) (some 0) (some (at_ : Int)) = some (.fl ((cut ls (some 0) (some (at_ : Int))).map .str)) from by show some (R.fl (cut _ _ _)) = _; rw [cut_mapS]]
      simp only [runFn, ss, execs, exec, ev, evs, evo, evT, evA, evR, evO, evI, assign, setAll, wipeL, look, O.bind_ok, O.bind_no, O.of_some, O.of_none, R.toD_d, R.toD_fl, List.getElem?_cons_zero, List.getElem?_cons_succ, List.set_cons_zero, List.set_cons_succ, List.map_cons, List.map_nil, List.length_cons, List.length_nil, List.cons_append, List.nil_append, List.replicate, Option.map_some, Option.map_none, true_and, and_true, Nat.reduceAdd, Nat.reduceSub, Nat.reduceLT, Nat.reduceLeDiff, Nat.reduceEqDiff, and_self, ↓reduceIte]
      rw [call_ok (r := .d (.str (jour 1 (cut ls (some 0) (some (at_ : Int)))))) (by show (D.pures ((cut ls (some 0) (some (at_ : Int))).map .str) && true) = true; rw [pures_str]; rfl) c2]
    · rfl
    · simp only [runFn, ss, execs, exec, ev, evs, evo, evT, evA, evR, evO, evI, assign, setAll, wipeL, look, O.bind_ok, O.bind_no, O.of_some, O.of_none, R.toD_d, R.toD_fl, List.getElem?_cons_zero, List.getElem?_cons_succ, List.set_cons_zero, List.set_cons_succ, List.map_cons, List.map_nil, List.length_cons, List.length_nil, List.cons_append, List.nil_append, List.replicate, Option.map_some, Option.map_none, true_and, and_true, Nat.reduceAdd, Nat.reduceSub, Nat.reduceLT, Nat.reduceLeDiff, Nat.reduceEqDiff, and_self, ↓reduceIte]
      rw [e0]
      simp only [runFn, ss, execs, exec, ev, evs, evo, evT, evA, evR, evO, evI, assign, setAll, wipeL, look, O.bind_ok, O.bind_no, O.of_some, O.of_none, R.toD_d, R.toD_fl, List.getElem?_cons_zero, List.getElem?_cons_succ, List.set_cons_zero, List.set_cons_succ, List.map_cons, List.map_nil, List.length_cons, List.length_nil, List.cons_append, List.nil_append, List.replicate, Option.map_some, Option.map_none, true_and, and_true, Nat.reduceAdd, Nat.reduceSub, Nat.reduceLT, Nat.reduceLeDiff, Nat.reduceEqDiff, and_self, ↓reduceIte]
      rw [len_lst]
      simp only [runFn, ss, execs, exec, ev, evs, evo, evT, evA, evR, evO, evI, assign, setAll, wipeL, look, O.bind_ok, O.bind_no, O.of_some, O.of_none, R.toD_d, R.toD_fl, List.getElem?_cons_zero, List.getElem?_cons_succ, List.set_cons_zero, List.set_cons_succ, List.map_cons, List.map_nil, List.length_cons, List.length_nil, List.cons_append, List.nil_append, List.replicate, Option.map_some, Option.map_none, true_and, and_true, Nat.reduceAdd, Nat.reduceSub, Nat.reduceLT, Nat.reduceLeDiff, Nat.reduceEqDiff, and_self, ↓reduceIte]
      rw [add_int]
      simp only [runFn, ss, execs, exec, ev, evs, evo, evT, evA, evR, evO, evI, assign, setAll, wipeL, look, O.bind_ok, O.bind_no, O.of_some, O.of_none, R.toD_d, R.toD_fl, List.getElem?_cons_zero, List.getElem?_cons_succ, List.set_cons_zero, List.set_cons_succ, List.map_cons, List.map_nil, List.length_cons, List.length_nil, List.cons_append, List.nil_append, List.replicate, Option.map_some, Option.map_none, true_and, and_true, Nat.reduceAdd, Nat.reduceSub, Nat.reduceLT, Nat.reduceLeDiff, Nat.reduceEqDiff, and_self, ↓reduceIte]
      rw [mod_int (by omega), List.length_map, show ((ds[0] : Nat) : Int) % ((ls.length : Int) + 1) = (at_ : Int) from ha2]
      rfl
    · rfl
    · simp only [runFn, ss, execs, exec, ev, evs, evo, evT, evA, evR, evO, evI, assign, setAll, wipeL, look, O.bind_ok, O.bind_no, O.of_some, O.of_none, R.toD_d, R.toD_fl, List.getElem?_cons_zero, List.getElem?_cons_succ, List.set_cons_zero, List.set_cons_succ, List.map_cons, List.map_nil, List.length_cons, List.length_nil, List.cons_append, List.nil_append, List.replicate, Option.map_some, Option.map_none, true_and, and_true, Nat.reduceAdd, Nat.reduceSub, Nat.reduceLT, Nat.reduceLeDiff, Nat.reduceEqDiff, and_self, ↓reduceIte]
      rw [call_ok (r := .d (.str (jour 1 ls))) (by show (D.pures (ls.map .str) && true) = true; rw [pures_str]; rfl) c1]
    · rfl
  obtain ⟨xs, l', g', rfl, hn, ht⟩ := key
  refine ⟨xs, hn, fun x hx => Nat.le_trans (tot_mem hx) ht, ?_⟩
  show back (.fl (xs.map .str)) g' = _
  show (if D.pures (xs.map .str) = true then O.ok (R.fl (xs.map .str)) [] else .no) = _
  rw [if_pos (pures_str xs)]
end K67
/-! K67m: a spoilt row is found. -/
namespace K67
open Pd
/-! ### the check -/
def wsum : Nat → List Nat → Int
  | _, [] => 0
  | i, c :: r => ((i : Int) + 1) * c + wsum (i + 1) r
theorem wsum_eq : ∀ (s : List Nat) (i : Nat), ((s.zipIdx i).map fun p => ((p.2 : Int) + 1) * (p.1 : Int)).sum = wsum i s
  | [], i => rfl
  | c :: r, i => by
    rw [List.zipIdx_cons, List.map_cons, List.sum_cons, wsum_eq r (i + 1)]
    rfl
theorem chk_eq (s : List Nat) : chk s = wsum 0 s % 971 := by
  unfold chk
  rw [wsum_eq]
theorem wsum_app : ∀ (p q : List Nat) (i : Nat), wsum i (p ++ q) = wsum i p + wsum (i + p.length) q
  | [], q, i => by simp [wsum]
  | c :: p, q, i => by
    rw [List.cons_append, wsum, wsum, wsum_app p q (i + 1), List.length_cons, show i + 1 + p.length = i + (p.length + 1) from by omega]
    omega
theorem nodiv : ∀ a < 130, 0 < a → ∀ d < 95, 0 < d → (a * d) % 971 ≠ 0 := by decide +kernel
theorem mod_ne {a b c : Nat} {S : Int} (ha : a < 129) (hb : 32 ≤ b ∧ b ≤ 126) (hc : 32 ≤ c ∧ c ≤ 126) (h : b ≠ c) : (S + ((a : Int) + 1) * b) % 971 ≠ (S + ((a : Int) + 1) * c) % 971 := by
  rcases Nat.lt_or_gt_of_ne h with q | q
  · have n := nodiv (a + 1) (by omega) (by omega) (c - b) (by omega) (by omega)
    have e : ((a : Int) + 1) * c = ((a : Int) + 1) * b + (((a + 1) * (c - b) : Nat) : Int) := by
      rw [Int.natCast_mul, Int.ofNat_sub (by omega), show ((a + 1 : Nat) : Int) = (a : Int) + 1 from rfl, ← Int.mul_add]
      have : (b : Int) + ((c : Int) - b) = c := by omega
      rw [this]
    generalize (a + 1) * (c - b) = P at n e
    generalize ((a : Int) + 1) * b = Y at e ⊢
    rw [e]
    omega
  · have n := nodiv (a + 1) (by omega) (by omega) (b - c) (by omega) (by omega)
    have e : ((a : Int) + 1) * b = ((a : Int) + 1) * c + (((a + 1) * (b - c) : Nat) : Int) := by
      rw [Int.natCast_mul, Int.ofNat_sub (by omega), show ((a + 1 : Nat) : Int) = (a : Int) + 1 from rfl, ← Int.mul_add]
      have : (c : Int) + ((b : Int) - c) = b := by omega
      rw [this]
    generalize (a + 1) * (b - c) = P at n e
    generalize ((a : Int) + 1) * c = Y at e ⊢
    rw [e]
    omega
theorem chk_change {p q : List Nat} {b c : Nat} (hp : p.length < 129) (hb : 32 ≤ b ∧ b ≤ 126) (hc : 32 ≤ c ∧ c ≤ 126) (h : b ≠ c) : chk (p ++ b :: q) ≠ chk (p ++ c :: q) := by
  rw [chk_eq, chk_eq, wsum_app, wsum_app, wsum, wsum]
  have n := mod_ne (a := p.length) (S := wsum 0 p + wsum (0 + p.length + 1) q) hp hb hc h
  rw [Nat.zero_add] at *
  intro e
  apply n
  rw [show wsum 0 p + wsum (p.length + 1) q + ((p.length : Int) + 1) * b = wsum 0 p + (((p.length : Int) + 1) * b + wsum (p.length + 1) q) from by omega, show wsum 0 p + wsum (p.length + 1) q + ((p.length : Int) + 1) * c = wsum 0 p + (((p.length : Int) + 1) * c + wsum (p.length + 1) q) from by omega]
  exact e
theorem chk_swap {p q : List Nat} {b c : Nat} (hb : 32 ≤ b ∧ b ≤ 126) (hc : 32 ≤ c ∧ c ≤ 126) (h : b ≠ c) : chk (p ++ b :: c :: q) ≠ chk (p ++ c :: b :: q) := by
  rw [chk_eq, chk_eq, wsum_app, wsum_app, wsum, wsum, wsum, wsum, Nat.zero_add]
  have e1 : (((p.length + 1 : Nat) : Int) + 1) * c = ((p.length : Int) + 1) * c + c := by
    rw [show ((p.length + 1 : Nat) : Int) + 1 = ((p.length : Int) + 1) + 1 from rfl, Int.add_mul _ 1, Int.one_mul]
  have e2 : (((p.length + 1 : Nat) : Int) + 1) * b = ((p.length : Int) + 1) * b + b := by
    rw [show ((p.length + 1 : Nat) : Int) + 1 = ((p.length : Int) + 1) + 1 from rfl, Int.add_mul _ 1, Int.one_mul]
  rw [e1, e2]
  omega
/-! ### rows -/
theorem spl10 {p r : List Nat} (h : 10 ∉ p) : spl [10] 0 [] (p ++ (10 :: r)) = p :: spl [10] 0 [] r := by
  rw [spl_eq, spl_eq]
  exact TL.spl_part1 (s := 10) (S := []) (p := p) (rest := r) (acc := []) h
theorem cut_last {α : Type} (x : α) {xs : List α} (h : xs ≠ []) : cut (x :: xs) none (some (-1)) = x :: cut xs none (some (-1)) := by
  have hp := List.length_pos_iff.mpr h
  unfold cut
  rw [slIx_m1, slIx_m1]
  show ((x :: xs).drop 0).take (((-1 : Int) + ((xs.length + 1 : Nat) : Int)).toNat - 0) = x :: (xs.drop 0).take (((-1 : Int) + (xs.length : Int)).toNat - 0)
  rw [List.drop_zero, List.drop_zero, Nat.sub_zero, Nat.sub_zero]
  have e1 : ((-1 : Int) + ((xs.length + 1 : Nat) : Int)).toNat = ((-1 : Int) + ((xs.length : Nat) : Int)).toNat + 1 := by omega
  rw [e1, List.take_succ_cons]
theorem rows_cons {p r : List Nat} (h : 10 ∉ p) : rowsOf (p ++ (10 :: r)) = p :: rowsOf r := by
  unfold rowsOf
  rw [spl10 h, cut_last _ (spl_ne _ _ _ _)]
theorem okC_of {c : Nat} (h : 32 ≤ c ∧ c ≤ 126) : okC c = true := by
  unfold okC ltL
  by_cases h1 : c = 32
  · subst h1; rfl
  · rw [if_neg h1, decide_eq_false (by omega)]
    by_cases h2 : 126 = c
    · rw [if_pos h2]; rfl
    · rw [if_neg h2, decide_eq_false (by omega)]; rfl
theorem no10 {s : List Nat} (h : Prn s) : 10 ∉ s := fun z => by have := h 10 z; omega
theorem row_no10 {n : Nat} {t s : List Nat} (h : Prn s) : 10 ∉ row0 n (chkT t) s := by
  unfold row0 chkT
  simp only [List.mem_append, List.mem_cons, not_or]
  exact ⟨nat_free10 n, by decide, nat_free10 _, by decide, no10 h⟩
theorem ok_good {n : Nat} {s : List Nat} (h : Prn s) (hl : s.length ≤ 4100) : okRow n (row0 n (chkT s) s) = true ∧ lineOf (row0 n (chkT s) s) = s := by
  have e : lineOf (row0 n (chkT s) s) = s := line_row
  refine ⟨?_, e⟩
  unfold okRow
  rw [e, decide_eq_true hl, rec_row, beq_self_eq_true, Bool.and_true, Bool.true_and]
  rw [List.all_eq_true]
  exact fun c hc => okC_of (h c hc)
theorem ok_bad {n : Nat} {t s : List Nat} (h : chk s ≠ chk t) : okRow n (row0 n (chkT t) s) = false := by
  have e : lineOf (row0 n (chkT t) s) = s := line_row
  unfold okRow
  rw [e, rec_row]
  have hb : (row0 n (chkT s) s ++ [10] == row0 n (chkT t) s ++ [10]) = false := by
    cases z : (row0 n (chkT s) s ++ [10] == row0 n (chkT t) s ++ [10]) with
    | false => rfl
    | true =>
      refine absurd ?_ h
      have q := List.append_cancel_right (eq_of_beq z)
      unfold row0 at q
      have q := List.append_cancel_left q
      have q : chkT s ++ (44 :: s) = chkT t ++ (44 :: s) := by injection q
      have q := List.append_cancel_right q
      unfold chkT at q
      have q := TL.numL_inj q
      have h1 := chk_lt s
      have h2 := chk_lt t
      omega
  rw [hb, Bool.and_false, Bool.and_false]
theorem recs_good : ∀ (pre : List (List Nat)) (n : Nat) (X : List Nat), (∀ s ∈ pre, Prn s ∧ s.length ≤ 4100) → recs n (rowsOf (jour n pre ++ X)) = pre ++ recs (n + pre.length) (rowsOf X)
  | [], n, X, _ => rfl
  | s :: r, n, X, h => by
    obtain ⟨h1, h2⟩ := h s List.mem_cons_self
    have e : jour n (s :: r) ++ X = row0 n (chkT s) s ++ (10 :: (jour (n + 1) r ++ X)) := by
      rw [jour, rec_row]
      simp
    rw [e, rows_cons (row_no10 h1), recs, if_pos (ok_good h1 h2).1, (ok_good h1 h2).2, recs_good r (n + 1) X fun s hs => h s (List.mem_cons_of_mem _ hs), List.length_cons, show n + 1 + r.length = n + (r.length + 1) from by omega]
    rfl
/-- the core: what follows a good beginning and a spoilt row is not read -/
theorem recs_spoilt {pre : List (List Nat)} {t s X : List Nat} (h : ∀ s ∈ pre, Prn s ∧ s.length ≤ 4100) (hs : Prn s) (hc : chk s ≠ chk t) :
    recs 1 (rowsOf (jour 1 pre ++ (row0 (pre.length + 1) (chkT t) s ++ (10 :: X)))) = pre := by
  rw [recs_good pre 1 _ h, rows_cons (row_no10 hs), recs, show 1 + pre.length = pre.length + 1 from by omega, ok_bad hc, if_neg (by decide), List.append_nil]
end K67
/-! K67n: the law's own spoiling. -/
namespace K67
open Pd
theorem r14 (k : Nat) (ds : List D) : run Pr (k + 1) 14 ds = runFn (En k) c__law_spoilt ds := rfl
/-- lines_in(X) is what stands before -/
theorem told_ok {k i : Nat} {ls : List (List Nat)} {ll : Lo} {e : C} {X : List Nat} (h0 : ll[0]? = some (some (.lst (ls.map .str)))) (h3 : ll[3]? = some (some (.int (i : Int)))) (hX : ev (En (k + 5)) e ll [] = .ok (.d (.str X)) []) (hl : X.length ≤ 800000)
    (hr : recs 1 (rowsOf X) = ls.take i) (hn : ls.length ≤ 8) : ev (En (k + 5)) (.call 7 (.cons (.call 4 (.cons e .nil)) (.cons (.sl (.var 0) (.some (.con (.int 0))) (.some (.var 3))) .nil))) ll [] = .ok (.d (.bl true)) [] := by
  have a1 : ev (En (k + 5)) (.call 4 (.cons e .nil)) ll [] = .ok (.fl ((ls.take i).map .str)) [] := by
    have c := run_lines (k + 1) X hl
    rw [hr] at c
    exact ex_call (es_one hX) rfl c
  have a2 : ev (En (k + 5)) (.sl (.var 0) (.some (.con (.int 0))) (.some (.var 3))) ll [] = .ok (.fl ((ls.take i).map .str)) [] := by
    rw [ex_slL (x := ls) (ex_var h0) (ex_some ex_con) (ex_some (ex_var h3)), cut_take]
  refine ex_call (es_two a1 a2) ?_ (same_lst (k + 3) (ls.take i) (by rw [List.length_take]; omega))
  show (D.pures ((ls.take i).map .str) && (D.pures ((ls.take i).map .str) && true)) = true
  rw [pures_str]
  rfl
/-- one line of the journal -/
theorem spoil_one (k i : Nat) (ls : List (List Nat)) (ds : List Nat) (h1 : ls.length ≤ 8) (h2 : Pd.tot ls ≤ 1000) (h3 : ∀ s ∈ ls, Prn s ∧ s.length ≤ 110) (hd : 16 ≤ ds.length) (line : List Nat) (hline : ls[i]? = some line) (hpos : 0 < line.length) (T : List Nat) (hj1 : T.length ≤ 2000) :
    ∃ (sp : Nat) (P : List Nat) (c : Nat) (Q Bf Rw RS Hd SG : List Nat), line = P ++ c :: Q ∧ P.length = sp ∧ ((ds[i]?.getD 0 : Nat) : Int) % (line.length : Nat) = sp ∧ run Pr (k + 5) 10 [.lst ((ls.take i).map .str)] = .ok (.d (.str Bf)) [] ∧
      run Pr (k + 5) 9 [.int ((i + 1 : Nat) : Int), .str line] = .ok (.d (.str Rw)) [] ∧ cut T (some (((Bf.length : Nat) : Int) + ((Rw.length : Nat) : Int))) none = RS ∧ cut Rw (some 0) (some (((Rw.length : Nat) : Int) - 1 - ((line.length : Nat) : Int))) = Hd ∧
      run Pr (k + 5) 12 [.int ((ds[i + 8]?.getD 0 : Nat) : Int), .int ((3 : Nat) : Int)] = .ok (.d (.str SG)) [] ∧ SG.length = 3 ∧ Prn (SG ++ [32, 126, 44]) ∧ Bf.length ≤ 2000 ∧ Hd.length ≤ 50 ∧ RS.length ≤ 2000 ∧ P.length + (Q.length + 1) ≤ 110 ∧ Prn P ∧ Prn Q ∧ (32 ≤ c ∧ c ≤ 126) ∧
      ∀ s : List Nat, Prn s → chk s ≠ chk line → recs 1 (rowsOf (Bf ++ (Hd ++ (s ++ (10 :: RS))))) = ls.take i := by
  have hl : LIM = 1000000 := rfl
  have hi : i < ls.length := (List.getElem?_eq_some_iff.mp hline).1
  obtain ⟨hprn, hll⟩ := h3 line (List.mem_of_getElem? hline)
  obtain ⟨sp, hsp1, hsp2⟩ := mod_nat (i := ((ds[i]?.getD 0 : Nat) : Int)) hpos
  obtain ⟨P, c, Q, hP, hPl⟩ : ∃ P c Q, line = P ++ c :: Q ∧ P.length = sp := ⟨line.take sp, line[sp], line.drop (sp + 1), by rw [← List.drop_eq_getElem_cons hsp1, List.take_append_drop], by rw [List.length_take]; omega⟩
  have hPQ : P.length + (Q.length + 1) ≤ 110 := by rw [hP] at hll; simpa using hll
  have htl : (ls.take i).length = i := by rw [List.length_take]; omega
  have hpre : ∀ s ∈ ls.take i, Prn s ∧ s.length ≤ 4100 := fun s hs => by have := h3 s (List.mem_of_mem_take hs); exact ⟨this.1, by omega⟩
  obtain ⟨hb1, hb2⟩ := jour_le (ls := ls.take i) (by omega) (Nat.le_trans (tot_take _ _) h2)
  have c2 := run_lawjour (k + 2) (ls.take i) hb2
  have c3 := run_lawrec (k + 3) (i + 1) line (by omega) (by omega)
  have hnl := nat_len (n := i + 1) (by omega)
  have hcl := chkT_len line
  obtain ⟨Hd, hHd⟩ : ∃ Hd, Hd = natL (i + 1) ++ (44 :: (chkT line ++ [44])) := ⟨_, rfl⟩
  have hHl : Hd.length ≤ 50 := by rw [hHd]; simp; omega
  have hRw : rec (i + 1) line = Hd ++ (line ++ [10]) := by rw [hHd]; simp [rec]
  have hcutH : cut (rec (i + 1) line) (some 0) (some ((((rec (i + 1) line).length : Nat) : Int) - 1 - ((line.length : Nat) : Int))) = Hd := by
    have e : (((rec (i + 1) line).length : Nat) : Int) - 1 - ((line.length : Nat) : Int) = (Hd.length : Nat) := by rw [hRw]; simp; omega
    rw [e, cut_take, hRw]
    simp
  obtain ⟨SG, hS1, hS2, hS3⟩ := run_signs (k + 3) ((ds[i + 8]?.getD 0 : Nat) : Int) 3 (by decide)
  refine ⟨sp, P, c, Q, jour 1 (ls.take i), rec (i + 1) line, _, Hd, SG, hP, hPl, hsp2, c2, c3, rfl, hcutH, hS3, hS1, fun x hx => ?_, hb1, hHl, Nat.le_trans (cut_le _ _ _) hj1, hPQ, fun x hx => hprn x (by rw [hP]; simp [hx]), fun x hx => hprn x (by rw [hP]; simp [hx]), hprn c (by rw [hP]; simp), fun s hs hc => ?_⟩
  · rcases List.mem_append.mp hx with q | q
    · exact hS2 x q
    · simp at q; omega
  · generalize cut T _ _ = RS
    have q := recs_spoilt (pre := ls.take i) (t := line) (s := s) (X := RS) hpre hs hc
    rw [htl] at q
    have e : jour 1 (ls.take i) ++ (row0 (i + 1) (chkT line) s ++ (10 :: RS)) = jour 1 (ls.take i) ++ (Hd ++ (s ++ (10 :: RS))) := by rw [hHd]; simp [row0]
    rw [e] at q
    exact q
end K67
/-! K67o: the law's own spoiling. -/
namespace K67
open Pd
theorem nD_get {ds : List Nat} {j : Nat} (h : j < ds.length) : (ds.map nD)[j]? = some (.int ((ds[j]?.getD 0 : Nat) : Int)) := by
  rw [List.getElem?_map, List.getElem?_eq_getElem h]
  rfl
theorem run_spoilt (k : Nat) (ls : List (List Nat)) (ds : List Nat) (h1 : ls.length ≤ 8) (h2 : Pd.tot ls ≤ 1000) (h3 : ∀ s ∈ ls, Prn s ∧ s.length ≤ 110) (hd : 16 ≤ ds.length) :
    run Pr (k + 6) 14 [.lst (ls.map .str), .lst (ds.map nD)] = .ok (.d (.bl true)) [] := by
  have hl : LIM = 1000000 := rfl
  obtain ⟨hj1, hj2⟩ := jour_le h1 h2
  have c1 := run_lawjour (k + 2) ls hj2
  rw [r14]
  unfold c__law_spoilt runFn
  rw [if_pos ⟨rfl, by decide⟩]
  simp only [ss]
  generalize jour 1 ls = T at hj1 c1
  generalize hA : D.lst (ls.map .str) = A at c1
  generalize hB : D.lst (ds.map nD) = Bd
  generalize hq : execs (En (k + 5)) _ _ _ = q
  have key : ∃ l', q = .ok (.rt (.d (.bl true)), l') [] := by
    rw [← hq]
    refine u_asg (fun o => ∃ l', o = O.ok (Fl.rt (R.d (.bl true)), l') []) (.d (.str T)) [some A, some Bd, some (.str T), none, none, none, none, none, none, none, none] ?_ rfl ?_
    · exact ex_call (es_one (ex_var (d := A) rfl)) (by rw [← hA]; show (D.pures (ls.map .str) && true) = true; rw [pures_str]; rfl) c1
    refine u_rng (fun o => ∃ l', o = O.ok (Fl.rt (R.d (.bl true)), l') []) ls.length (fun i l g => g = [] ∧ ∃ a3 a4 a5 a6 a7 a8 a9 a10, l = [some A, some Bd, some (.str T), a3, a4, a5, a6, a7, a8, a9, a10]) ?_ (by omega) ⟨rfl, none, none, none, none, none, none, none, none, rfl⟩ (fun i l g hi hp => ?_) (fun l' g' hp => ?_)
    · rw [ev, evs, ex_var (d := A) rfl, O.bind_ok, evs, O.bind_ok, O.bind_ok, ← hA]
      show O.of (bi .len [.lst (ls.map .str)]) [] = _
      rw [len_lst, List.length_map]
      rfl
    · obtain ⟨rfl, a3, a4, a5, a6, a7, a8, a9, a10, rfl⟩ := hp
      obtain ⟨line, hline⟩ : ∃ line, ls[i]? = some line := ⟨_, List.getElem?_eq_getElem hi⟩
      have hlD : (ls.map D.str)[i]? = some (.str line) := by rw [List.getElem?_map, hline]; rfl
      have goal : ∀ a4' a5' a6' a7' a8' a9' a10', ((([] : G) = []) ∧ ∃ a3 a4 a5 a6 a7 a8 a9 a10, [some A, some Bd, some (.str T), some (D.int (i : Int)), a4', a5', a6', a7', a8', a9', a10'] = [some A, some Bd, some (.str T), a3, a4, a5, a6, a7, a8, a9, a10]) := fun _ _ _ _ _ _ _ => ⟨rfl, _, _, _, _, _, _, _, _, rfl⟩
      refine ⟨[some A, some Bd, some (.str T), some (.int (i : Int)), a4, a5, a6, a7, a8, a9, a10], rfl, ?_⟩
      generalize hQ : (fun o : O (Fl × Lo) => ∃ l2 g2, o = O.ok (Fl.nx, l2) g2 ∧ g2 = [] ∧ ∃ a3 a4 a5 a6 a7 a8 a9 a10, l2 = [some A, some Bd, some (.str T), a3, a4, a5, a6, a7, a8, a9, a10]) = Q
      have fin : ∀ a4' a5' a6' a7' a8' a9' a10', Q (execs (En (k + 5)) .nil [some A, some Bd, some (.str T), some (.int (i : Int)), a4', a5', a6', a7', a8', a9', a10'] []) := fun a4' a5' a6' a7' a8' a9' a10' => by
        rw [← hQ, x_nil]
        exact ⟨_, _, rfl, goal _ _ _ _ _ _ _⟩
      suffices hS : Q (execs (En (k + 5)) _ [some A, some Bd, some (.str T), some (.int (i : Int)), a4, a5, a6, a7, a8, a9, a10] []) by
        rw [← hQ] at hS
        exact hS
      refine u_asg Q (.d (.str line)) [some A, some Bd, some (.str T), some (.int (i : Int)), some (.str line), a5, a6, a7, a8, a9, a10] ?_ rfl ?_
      · exact ex_ixL (ex_var (d := .lst (ls.map .str)) (by rw [← hA]; rfl)) (ex_var (d := .int (i : Int)) rfl) hlD
      by_cases hpos : 0 < line.length
      · obtain ⟨sp, P, c, Qs, Bf, Rw, RS, Hd, SG, e1, e2, e3, e4, e5, e6, e7, e8, e9, e10, e11, e12, e13, e14, e15, e16, e17, e18⟩ := spoil_one k i ls ds h1 h2 h3 hd line hline hpos T hj1
        refine u_ifT Q (et_cmp (x := .int (line.length : Nat)) (y := .int 0) (ex_len (ex_var (d := .str line) rfl)) ex_con rfl rfl (by show some (decide ((0 : Int) < ((line.length : Nat) : Int))) = _; rw [decide_eq_true (by omega)])) ?_
        generalize hQ2 : (fun o : O (Fl × Lo) => ∃ l' g', o = O.ok (Fl.nx, l') g' ∧ Q (execs (En (k + 5)) .nil l' g')) = Q2
        have fin2 : ∀ a4' a5' a6' a7' a8' a9' a10', Q2 (execs (En (k + 5)) .nil [some A, some Bd, some (.str T), some (.int (i : Int)), a4', a5', a6', a7', a8', a9', a10'] []) := fun a4' a5' a6' a7' a8' a9' a10' => by
          rw [← hQ2, x_nil]
          exact ⟨_, _, rfl, fin _ _ _ _ _ _ _⟩
        suffices hS : Q2 (execs (En (k + 5)) _ [some A, some Bd, some (.str T), some (.int (i : Int)), some (.str line), a5, a6, a7, a8, a9, a10] []) by
          rw [← hQ2] at hS
          exact hS
        refine u_asg Q2 (.d (.int (sp : Int))) [some A, some Bd, some (.str T), some (.int (i : Int)), some (.str line), some (.int (sp : Int)), a6, a7, a8, a9, a10] ?_ rfl ?_
        · exact ex_mod (ex_ixL (ex_var (d := .lst (ds.map nD)) (by rw [← hB]; rfl)) (ex_var (d := .int (i : Int)) rfl) (nD_get (by omega))) (ex_len (ex_var (d := .str line) rfl)) hpos e3
        refine u_asg Q2 (.d (.str Bf)) [some A, some Bd, some (.str T), some (.int (i : Int)), some (.str line), some (.int (sp : Int)), some (.str Bf), a7, a8, a9, a10] ?_ rfl ?_
        · have b1 : ∀ l : Lo, l[0]? = some (some A) → l[3]? = some (some (.int (i : Int))) → ev (En (k + 5)) (.sl (.var 0) (.some (.con (.int 0))) (.some (.var 3))) l [] = .ok (.fl ((ls.take i).map .str)) [] := fun l q0 q3 => by
            rw [ex_slL (x := ls) (ex_var (by rw [q0, hA])) (ex_some ex_con) (ex_some (ex_var q3)), cut_take]
          refine ex_call (es_one (b1 _ rfl rfl)) ?_ e4
          show (D.pures ((ls.take i).map .str) && true) = true
          rw [pures_str]
          rfl
        refine u_asg Q2 (.d (.str Rw)) [some A, some Bd, some (.str T), some (.int (i : Int)), some (.str line), some (.int (sp : Int)), some (.str Bf), some (.str Rw), a8, a9, a10] ?_ rfl ?_
        · exact ex_call (ds := [.int ((i + 1 : Nat) : Int), .str line]) (es_two (ex_addI (ex_var (d := .int (i : Int)) rfl) ex_con) (ex_var (d := .str line) rfl)) rfl e5
        refine u_asg Q2 (.d (.str RS)) [some A, some Bd, some (.str T), some (.int (i : Int)), some (.str line), some (.int (sp : Int)), some (.str Bf), some (.str Rw), some (.str RS), a9, a10] ?_ rfl ?_
        · rw [ex_sl (x := T) (ex_var rfl) (ex_some (ex_addI (ex_len (ex_var (d := .str Bf) rfl)) (ex_len (ex_var (d := .str Rw) rfl)))) ex_non, e6]
        refine u_asg Q2 (.d (.str Hd)) [some A, some Bd, some (.str T), some (.int (i : Int)), some (.str line), some (.int (sp : Int)), some (.str Bf), some (.str Rw), some (.str RS), some (.str Hd), a10] ?_ rfl ?_
        · rw [ex_sl (x := Rw) (ex_var rfl) (ex_some ex_con) (ex_some (ex_subI (ex_subI (ex_len (ex_var (d := .str Rw) rfl)) ex_con) (ex_len (ex_var (d := .str line) rfl)))), e7]
        -- the signs
        generalize hL9 : (fun a : Option D => ([some A, some Bd, some (.str T), some (.int (i : Int)), some (.str line), some (.int (sp : Int)), some (.str Bf), some (.str Rw), some (.str RS), some (.str Hd), a] : Lo)) = L9
        have hla : ∀ a, [some A, some Bd, some (.str T), some (.int (i : Int)), some (.str line), some (.int (sp : Int)), some (.str Bf), some (.str Rw), some (.str RS), some (.str Hd), a] = L9 a := fun a => by rw [← hL9]
        rw [hla]
        have vA : ∀ a, (L9 a)[0]? = some (some (.lst (ls.map .str))) := fun a => by rw [← hL9, hA]; rfl
        have vD : ∀ a, (L9 a)[1]? = some (some (.lst (ds.map nD))) := fun a => by rw [← hL9, hB]; rfl
        have v3 : ∀ a, (L9 a)[3]? = some (some (.int (i : Int))) := fun a => by rw [← hL9]; rfl
        have v4 : ∀ a, (L9 a)[4]? = some (some (.str line)) := fun a => by rw [← hL9]; rfl
        have v5 : ∀ a, (L9 a)[5]? = some (some (.int (sp : Int))) := fun a => by rw [← hL9]; rfl
        have v6 : ∀ a, (L9 a)[6]? = some (some (.str Bf)) := fun a => by rw [← hL9]; rfl
        have v8 : ∀ a, (L9 a)[8]? = some (some (.str RS)) := fun a => by rw [← hL9]; rfl
        have v9 : ∀ a, (L9 a)[9]? = some (some (.str Hd)) := fun a => by rw [← hL9]; rfl
        have v10 : ∀ a, (L9 a)[10]? = some a := fun a => by rw [← hL9]; rfl
        have as10 : ∀ a d, assign (.v 10) d (L9 a) = some (L9 (some d)) := fun a d => by rw [← hL9]; rfl
        have fin3 : ∀ a, Q2 (execs (En (k + 5)) .nil (L9 a) []) := fun a => by rw [← hla]; exact fin2 _ _ _ _ _ _ _
        clear hla hL9 fin2 fin goal
        have hctk : line[sp]? = some c := by rw [e1, ← e2]; simp
        have hcut1 : cut line (some 0) (some (sp : Int)) = P := by rw [cut_take, e1, ← e2]; simp
        have hcut2 : cut line (some ((sp : Int) + 1)) none = Qs := by
          rw [show ((sp : Int) + 1) = ((sp + 1 : Nat) : Int) from rfl, cut_drop, e1, ← e2]
          simp
        have hll : line.length = P.length + (Qs.length + 1) := by rw [e1]; simp
        refine u_fors Q2 ⟨.str (SG ++ [32, 126, 44]), (SG ++ [32, 126, 44]).map fun c => .str [c], (SG ++ [32, 126, 44]).map fun c => .str [c]⟩ (fun j l g => g = [] ∧ ∃ a, l = L9 a) ?_ (by simp [e9]; decide) (fun j l g hp => rfl) ⟨rfl, _, rfl⟩ (fun j x l g hx hp => ?_) (fun l' g' hp => ?_)
        · have b1 : ev (En (k + 5)) (.call 12 (.cons (.ix (.var 1) (.bin .add (.var 3) (.con (.int 8)))) (.cons (.con (.int 3)) .nil))) (L9 a10) [] = .ok (.d (.str SG)) [] :=
            ex_call (ds := [.int ((ds[i + 8]?.getD 0 : Nat) : Int), .int ((3 : Nat) : Int)]) (es_two (ex_ixL (i := i + 8) (ex_var (vD _)) (ex_addI (ex_var (v3 _)) ex_con) (nD_get (by omega))) ex_con) rfl e8
          have b2 : ev (En (k + 5)) (.bin .add (.call 12 (.cons (.ix (.var 1) (.bin .add (.var 3) (.con (.int 8)))) (.cons (.con (.int 3)) .nil))) (.con (.str [32, 126, 44]))) (L9 a10) [] = .ok (.d (.str (SG ++ [32, 126, 44]))) [] := ex_add b1 ex_con (by simp; omega)
          rw [evI, b2]
          rfl
        · obtain ⟨rfl, a, rfl⟩ := hp
          rw [List.getElem?_map] at hx
          obtain ⟨c', hc', rfl⟩ := Option.map_eq_some_iff.mp hx
          have hcp := e10 c' (List.mem_of_getElem? hc')
          refine ⟨L9 (some (.str [c'])), as10 _ _, L9 (some (.str [c'])), [], ?_, rfl, _, rfl⟩
          have t1 : evT (En (k + 5)) (.cmp .ne (.var 10) (.ix (.var 4) (.var 5))) (L9 (some (.str [c']))) [] = .ok (!([c'] == [c])) [] :=
            et_cmp (x := .str [c']) (y := .str [c]) (ex_var (v10 _)) (ex_ixS (ex_var (v4 _)) (ex_var (v5 _)) hctk) rfl rfl rfl
          rw [x_ifF, x_nil]
          by_cases hcc : c' = c
          · rw [hcc] at t1 ⊢
            have e0 : (!([c] == [c])) = false := by simp
            rw [e0] at t1
            exact et_andF t1
          · have e0 : (!([c'] == [c])) = true := by simp [hcc]
            rw [e0] at t1
            refine et_andT t1 (et_notT ?_)
            have x1 : ev (En (k + 5)) (.bin .add (.bin .add (.bin .add (.bin .add (.bin .add (.bin .add (.var 6) (.var 9)) (.sl (.var 4) (.some (.con (.int 0))) (.some (.var 5)))) (.var 10)) (.sl (.var 4) (.some (.bin .add (.var 5) (.con (.int 1)))) .non)) (.con (.str [10]))) (.var 8)) (L9 (some (.str [c']))) [] =
                .ok (.d (.str ((((((Bf ++ Hd) ++ cut line (some 0) (some (sp : Int))) ++ [c']) ++ cut line (some ((sp : Int) + 1)) none) ++ [10]) ++ RS))) [] := by
              have k1 := cut_le line (some 0) (some (sp : Int))
              have k2 := cut_le line (some ((sp : Int) + 1)) none
              refine ex_add (ex_add (ex_add (ex_add (ex_add (ex_add (ex_var (v6 _)) (ex_var (v9 _)) ?_) (ex_sl (ex_var (v4 _)) (ex_some ex_con) (ex_some (ex_var (v5 _)))) ?_) (ex_var (v10 _)) ?_) (ex_sl (ex_var (v4 _)) (ex_some (ex_addI (ex_var (v5 _)) ex_con)) ex_non) ?_) ex_con ?_) (ex_var (v8 _)) ?_ <;> first | omega | (simp only [List.length_append, List.length_cons, List.length_nil]; omega)
            rw [hcut1, hcut2] at x1
            have hX : ((((((Bf ++ Hd) ++ P) ++ [c']) ++ Qs) ++ [10]) ++ RS) = Bf ++ (Hd ++ ((P ++ c' :: Qs) ++ (10 :: RS))) := by simp
            rw [hX] at x1
            refine told_ok (vA _) (v3 _) x1 (by simp only [List.length_append, List.length_cons]; omega) (e18 _ (fun x hx => ?_) ?_) h1
            · rcases List.mem_append.mp hx with q | q
              · exact e15 x q
              · rcases List.mem_cons.mp q with q | q
                · rw [q]; exact hcp
                · exact e16 x q
            · rw [e1]
              exact chk_change (by omega) hcp e17 hcc
        · obtain ⟨rfl, a, rfl⟩ := hp
          by_cases hsw : sp + 1 < line.length ∧ line[sp]? ≠ line[sp + 1]?
          · obtain ⟨hs1, hs2⟩ := hsw
            obtain ⟨c2, Q2s, hQs⟩ : ∃ c2 Q2s, Qs = c2 :: Q2s := by
              cases Qs with
              | nil => simp at hll; omega
              | cons c2 Q2s => exact ⟨c2, Q2s, rfl⟩
            have hctk2 : line[sp + 1]? = some c2 := by rw [e1, ← e2, hQs]; simp
            have hcc : c ≠ c2 := fun q => hs2 (by rw [hctk, hctk2, q])
            have hcut3 : cut line (some ((sp : Int) + 2)) none = Q2s := by
              rw [show ((sp : Int) + 2) = ((sp + 2 : Nat) : Int) from rfl, cut_drop, e1, ← e2, hQs]
              simp
            have hc2 : 32 ≤ c2 ∧ c2 ≤ 126 := e16 c2 (by rw [hQs]; simp)
            have hql : Qs.length = Q2s.length + 1 := by rw [hQs]; simp
            refine u_ifT Q2 (et_andT (et_cmp (x := .int ((sp : Int) + 1)) (y := .int (line.length : Nat)) (ex_addI (ex_var (v5 _)) ex_con) (ex_len (ex_var (v4 _))) rfl rfl (by show some (decide (((sp : Int) + 1) < ((line.length : Nat) : Int))) = _; rw [decide_eq_true (by omega)]))
              (et_cmp (x := .str [c]) (y := .str [c2]) (ex_ixS (ex_var (v4 _)) (ex_var (v5 _)) hctk) (ex_ixS (i := sp + 1) (ex_var (v4 _)) (ex_addI (ex_var (v5 _)) ex_con) hctk2) rfl rfl (by show some (!([c] == [c2])) = _; simp [hcc]))) ?_
            refine ⟨L9 a, [], ?_, fin3 _⟩
            rw [x_ifF, x_nil]
            refine et_notT ?_
            have x1 : ev (En (k + 5)) (.bin .add (.bin .add (.bin .add (.bin .add (.bin .add (.bin .add (.bin .add (.var 6) (.var 9)) (.sl (.var 4) (.some (.con (.int 0))) (.some (.var 5)))) (.ix (.var 4) (.bin .add (.var 5) (.con (.int 1))))) (.ix (.var 4) (.var 5))) (.sl (.var 4) (.some (.bin .add (.var 5) (.con (.int 2)))) .non)) (.con (.str [10]))) (.var 8)) (L9 a) [] =
                .ok (.d (.str (((((((Bf ++ Hd) ++ cut line (some 0) (some (sp : Int))) ++ [c2]) ++ [c]) ++ cut line (some ((sp : Int) + 2)) none) ++ [10]) ++ RS))) [] := by
              have k1 := cut_le line (some 0) (some (sp : Int))
              have k2 := cut_le line (some ((sp : Int) + 2)) none
              refine ex_add (ex_add (ex_add (ex_add (ex_add (ex_add (ex_add (ex_var (v6 _)) (ex_var (v9 _)) ?_) (ex_sl (ex_var (v4 _)) (ex_some ex_con) (ex_some (ex_var (v5 _)))) ?_) (ex_ixS (i := sp + 1) (ex_var (v4 _)) (ex_addI (ex_var (v5 _)) ex_con) hctk2) ?_) (ex_ixS (ex_var (v4 _)) (ex_var (v5 _)) hctk) ?_) (ex_sl (ex_var (v4 _)) (ex_some (ex_addI (ex_var (v5 _)) ex_con)) ex_non) ?_) ex_con ?_) (ex_var (v8 _)) ?_ <;> first | omega | (simp only [List.length_append, List.length_cons, List.length_nil]; omega)
            rw [hcut1, hcut3] at x1
            have hX : (((((((Bf ++ Hd) ++ P) ++ [c2]) ++ [c]) ++ Q2s) ++ [10]) ++ RS) = Bf ++ (Hd ++ ((P ++ c2 :: c :: Q2s) ++ (10 :: RS))) := by simp
            rw [hX] at x1
            refine told_ok (vA _) (v3 _) x1 (by simp only [List.length_append, List.length_cons]; omega) (e18 _ (fun x hx => ?_) ?_) h1
            · rcases List.mem_append.mp hx with q | q
              · exact e15 x q
              · rcases List.mem_cons.mp q with q | q
                · rw [q]; exact hc2
                · rcases List.mem_cons.mp q with q | q
                  · rw [q]; exact e17
                  · exact e16 x (by rw [hQs]; simp [q])
            · rw [e1, hQs]
              exact chk_swap hc2 e17 (Ne.symm hcc)
          · refine u_ifF Q2 ?_ (fin3 _)
            have tA : evT (En (k + 5)) (.cmp .lt (.bin .add (.var 5) (.con (.int 1))) (.bi .len (.cons (.var 4) .nil))) (L9 a) [] = .ok (decide (((sp : Int) + 1) < ((line.length : Nat) : Int))) [] :=
              et_cmp (x := .int ((sp : Int) + 1)) (y := .int (line.length : Nat)) (ex_addI (ex_var (v5 _)) ex_con) (ex_len (ex_var (v4 _))) rfl rfl rfl
            by_cases hs1 : sp + 1 < line.length
            · rw [decide_eq_true (by omega)] at tA
              have hs2 : line[sp]? = line[sp + 1]? := by
                by_cases q : line[sp]? = line[sp + 1]?
                · exact q
                · exact absurd ⟨hs1, q⟩ hsw
              have hctk2 : line[sp + 1]? = some c := by rw [← hs2, hctk]
              exact et_andT tA (et_cmp (x := .str [c]) (y := .str [c]) (ex_ixS (ex_var (v4 _)) (ex_var (v5 _)) hctk) (ex_ixS (i := sp + 1) (ex_var (v4 _)) (ex_addI (ex_var (v5 _)) ex_con) hctk2) rfl rfl (by show some (!([c] == [c])) = _; simp))
            · rw [decide_eq_false (by omega)] at tA
              exact et_andF tA
      · refine u_ifF Q ?_ (fin _ _ _ _ _ _ _)
        exact et_cmp (x := .int (line.length : Nat)) (y := .int 0) (ex_len (ex_var (d := .str line) rfl)) ex_con rfl rfl (by show some (decide ((0 : Int) < ((line.length : Nat) : Int))) = _; rw [decide_eq_false (by omega)])
    · obtain ⟨rfl, a3, a4, a5, a6, a7, a8, a9, a10, rfl⟩ := hp
      exact ⟨_, x_ret ex_con⟩
  obtain ⟨l', rfl⟩ := key
  rfl
end K67
/-! K67p: the law. -/
namespace K67
open Pd
theorem r16 (k : Nat) (ds : List D) : run Pr (k + 1) 16 ds = runFn (En k) c_law ds := rfl
theorem add_objL {E : Env} {l : Lo} {g : G} {a b : C} {r r' : R} {xs ys : List (List Nat)} (ha : ev E a l g = .ok r g) (hb : ev E b l g = .ok r' g) (h1 : look g r.toD = .lst (xs.map .str)) (h2 : look g r'.toD = .lst (ys.map .str)) (h : xs.length + ys.length ≤ LIM) :
    ev E (.bin .add a b) l g = .ok (.fl ((xs ++ ys).map .str)) g := by
  rw [ev, ha, O.bind_ok, hb, O.bind_ok, h1, h2, add_lst (by rw [List.length_map, List.length_map]; exact h), List.map_append]
  rfl
theorem look_obj {g : G} {i : Nat} {xs : List D} (h : g[i]? = some (.lst xs)) : look g (.obj i) = .lst xs := by
  show (match g[i]? with | some (.lst xs) => D.lst xs | _ => .obj i) = _
  rw [h]
/-- the lines that are drawn -/
theorem draw_lines (k : Nat) (M : List Nat) (hM : M.length = 40) (sc : D) : ∃ (ls : List (List Nat)), 1 ≤ ls.length ∧ ls.length ≤ 8 ∧ (∀ s ∈ ls, Prn s ∧ s.length ≤ 90) ∧
    ev (En (k + 8)) (.lc (.range1 (.bin .add (.con (.int 1)) (.bin .mod (.ix (.var 1) (.con (.int 0))) (.con (.int 8))))) (.v 8) .non (.call 12 (.cons (.bin .add (.bin .mul (.ix (.var 1) (.var 8)) (.con (.int 7919))) (.var 8)) (.cons (.ix (.lst (.cons (.bin .mod (.ix (.var 1) (.bin .add (.con (.int 8)) (.var 8))) (.con (.int 12))) (.cons (.bin .mod (.ix (.var 1) (.bin .add (.con (.int 8)) (.var 8))) (.con (.int 90))) (.cons (.con (.int 0)) .nil)))) (.bin .mod (.ix (.var 1) (.var 8)) (.con (.int 3)))) .nil))) [8])
      [some sc, some (.lst (M.map nD)), none, none, none, none, none, none, none] [] = .ok (.fl (ls.map .str)) [] := by
  have hl : LIM = 1000000 := rfl
  obtain ⟨n, hn1, hn2⟩ := mod_nat (i := ((M[0]?.getD 0 : Nat) : Int)) (n := 8) (by decide)
  have e0 : ixop (.lst (M.map nD)) (.int 0) = some (.int ((M[0]?.getD 0 : Nat) : Int)) := ix_lst (i := 0) (nD_get (by omega))
  have hsm : small (1 + (n : Int)) = true := by unfold small; exact decide_eq_true (by omega)
  have hr : rangeD 0 (1 + (n : Int)).toNat = (List.range (1 + n)).map fun (j : Nat) => D.int (j : Int) := by
    have : (1 + (n : Int)).toNat = 1 + n := by omega
    rw [this]
    unfold rangeD
    congr 1
    funext j
    rw [Int.zero_add]
  have hcond : ∃ ls : List (List Nat), lcLoop (fun x g => (O.of (assign (.v 8) x (wipeL [some sc, some (.lst (M.map nD)), none, none, none, none, none, none, none] [8])) g).bind fun l' g => (evO (En (k + 8)) .non l' g).bind fun b g => if b then (ev (En (k + 8)) (.call 12 (.cons (.bin .add (.bin .mul (.ix (.var 1) (.var 8)) (.con (.int 7919))) (.var 8)) (.cons (.ix (.lst (.cons (.bin .mod (.ix (.var 1) (.bin .add (.con (.int 8)) (.var 8))) (.con (.int 12))) (.cons (.bin .mod (.ix (.var 1) (.bin .add (.con (.int 8)) (.var 8))) (.con (.int 90))) (.cons (.con (.int 0)) .nil)))) (.bin .mod (.ix (.var 1) (.var 8)) (.con (.int 3)))) .nil))) l' g).bind fun y g => .ok (some y.toD) g else .ok none g) (stands .non []) [] ((List.range (1 + n)).map fun (j : Nat) => D.int (j : Int)) [] = .ok (.fl ([] ++ ls.map .str)) [] ∧ ls.length = (List.range (1 + n)).length ∧ ∀ s ∈ ls, Prn s ∧ s.length ≤ 90 := by
    refine lc_ex rfl _ (fun s => Prn s ∧ s.length ≤ 90) _ _ fun j hj => ?_
    have hj : j < 1 + n := by simpa using hj
    obtain ⟨a, ha1, ha2⟩ := mod_nat (i := ((M[8 + j]?.getD 0 : Nat) : Int)) (n := 12) (by decide)
    obtain ⟨b, hb1, hb2⟩ := mod_nat (i := ((M[8 + j]?.getD 0 : Nat) : Int)) (n := 90) (by decide)
    obtain ⟨c, hc1, hc2⟩ := mod_nat (i := ((M[j]?.getD 0 : Nat) : Int)) (n := 3) (by decide)
    obtain ⟨d, hd1, hd2⟩ : ∃ d : Nat, d ≤ 90 ∧ ([D.int (a : Int), D.int (b : Int), D.int 0])[c]? = some (.int (d : Int)) := by
      match c, hc1 with
      | 0, _ => exact ⟨a, by omega, rfl⟩
      | 1, _ => exact ⟨b, by omega, rfl⟩
      | 2, _ => exact ⟨0, by omega, rfl⟩
    obtain ⟨s, hs1, hs2, hs3⟩ := run_signs (k + 6) (((M[j]?.getD 0 : Nat) : Int) * 7919 + (j : Int)) d (by omega)
    refine ⟨s, ?_, hs2, by omega⟩
    have vM : ([some sc, some (.lst (M.map nD)), none, none, none, none, none, none, some (D.int (j : Int))] : Lo)[1]? = some (some (.lst (M.map nD))) := rfl
    have v8 : ([some sc, some (.lst (M.map nD)), none, none, none, none, none, none, some (D.int (j : Int))] : Lo)[8]? = some (some (.int (j : Int))) := rfl
    have hex : ev (En (k + 8)) (.call 12 (.cons (.bin .add (.bin .mul (.ix (.var 1) (.var 8)) (.con (.int 7919))) (.var 8)) (.cons (.ix (.lst (.cons (.bin .mod (.ix (.var 1) (.bin .add (.con (.int 8)) (.var 8))) (.con (.int 12))) (.cons (.bin .mod (.ix (.var 1) (.bin .add (.con (.int 8)) (.var 8))) (.con (.int 90))) (.cons (.con (.int 0)) .nil)))) (.bin .mod (.ix (.var 1) (.var 8)) (.con (.int 3)))) .nil))) [some sc, some (.lst (M.map nD)), none, none, none, none, none, none, some (D.int (j : Int))] [] = .ok (.d (.str s)) [] := by
      generalize ([some sc, some (.lst (M.map nD)), none, none, none, none, none, none, some (D.int (j : Int))] : Lo) = ll at vM v8
      have q1 : ev (En (k + 8)) (.ix (.var 1) (.var 8)) ll [] = .ok (.d (.int ((M[j]?.getD 0 : Nat) : Int))) [] := ex_ixL (ex_var vM) (ex_var v8) (nD_get (by omega))
      have q2 : ev (En (k + 8)) (.bin .mul (.ix (.var 1) (.var 8)) (.con (.int 7919))) ll [] = .ok (.d (.int (((M[j]?.getD 0 : Nat) : Int) * 7919))) [] := by
        rw [ev, q1, O.bind_ok, ex_con, O.bind_ok]
        show O.of (binop .mul (.int _) (.int 7919)) [] = _
        rw [mul_int (.inr (by decide))]
        rfl
      have q3 : ev (En (k + 8)) (.ix (.var 1) (.bin .add (.con (.int 8)) (.var 8))) ll [] = .ok (.d (.int ((M[8 + j]?.getD 0 : Nat) : Int))) [] := ex_ixL (i := 8 + j) (ex_var vM) (ex_addI ex_con (ex_var v8)) (nD_get (by omega))
      have q4 : ev (En (k + 8)) (.lst (.cons (.bin .mod (.ix (.var 1) (.bin .add (.con (.int 8)) (.var 8))) (.con (.int 12))) (.cons (.bin .mod (.ix (.var 1) (.bin .add (.con (.int 8)) (.var 8))) (.con (.int 90))) (.cons (.con (.int 0)) .nil)))) ll [] = .ok (.fl [.int (a : Int), .int (b : Int), .int 0]) [] := by
        have m1 : ev (En (k + 8)) (.bin .mod (.ix (.var 1) (.bin .add (.con (.int 8)) (.var 8))) (.con (.int 12))) ll [] = .ok (.d (.int (a : Int))) [] := ex_mod (y := 12) q3 ex_con (by decide) ha2
        have m2 : ev (En (k + 8)) (.bin .mod (.ix (.var 1) (.bin .add (.con (.int 8)) (.var 8))) (.con (.int 90))) ll [] = .ok (.d (.int (b : Int))) [] := ex_mod (y := 90) q3 ex_con (by decide) hb2
        have m3 : ev (En (k + 8)) (.con (.int 0)) ll [] = .ok (.d (.int 0)) [] := ex_con
        rw [ev, es_three m1 m2 m3]
        rfl
      have q5 : ev (En (k + 8)) (.ix (.lst (.cons (.bin .mod (.ix (.var 1) (.bin .add (.con (.int 8)) (.var 8))) (.con (.int 12))) (.cons (.bin .mod (.ix (.var 1) (.bin .add (.con (.int 8)) (.var 8))) (.con (.int 90))) (.cons (.con (.int 0)) .nil)))) (.bin .mod (.ix (.var 1) (.var 8)) (.con (.int 3)))) ll [] = .ok (.d (.int (d : Int))) [] := by
        have m1 : ev (En (k + 8)) (.bin .mod (.ix (.var 1) (.var 8)) (.con (.int 3))) ll [] = .ok (.d (.int (c : Int))) [] := ex_mod (y := 3) q1 ex_con (by decide) hc2
        rw [ev, q4, O.bind_ok, m1, O.bind_ok]
        show O.of ((ixop (.lst [.int (a : Int), .int (b : Int), .int 0]) (.int (c : Int))).map R.d) [] = _
        rw [ix_lst hd2]
        rfl
      exact ex_call (es_two (ex_addI q2 (ex_var v8)) q5) rfl hs3
    show (ev _ _ [some sc, some (.lst (M.map nD)), none, none, none, none, none, none, some (D.int (j : Int))] []).bind _ = _
    rw [hex]
    rfl
  obtain ⟨ls, h1, h2, h3⟩ := hcond
  refine ⟨ls, by rw [h2, List.length_range]; omega, by rw [h2, List.length_range]; omega, h3, ?_⟩
  rw [ev, evI]
  have q0 : ev (En (k + 8)) (.bin .add (.con (.int 1)) (.bin .mod (.ix (.var 1) (.con (.int 0))) (.con (.int 8)))) [some sc, some (.lst (M.map nD)), none, none, none, none, none, none, none] [] = .ok (.d (.int (1 + (n : Int)))) [] :=
    ex_addI ex_con (ex_mod (y := 8) (ex_ixL (i := 0) (ex_var (d := .lst (M.map nD)) rfl) ex_con (nD_get (by omega))) ex_con (by decide) hn2)
  rw [q0, O.bind_ok]
  show O.bind (if small (1 + (n : Int)) = true then O.ok (⟨.non, [], rangeD 0 (1 + (n : Int)).toNat⟩ : Wk) [] else .no) _ = _
  rw [if_pos hsm, O.bind_ok, hr, if_pos (short (by simp; omega))]
  exact h1
theorem law_true (k : Nat) (ns : List Int) : ∃ g, run Pr (k + 9) 16 [.scr (ns.map .int)] = .ok (.d (.bl true)) g := by
  have hl : LIM = 1000000 := rfl
  obtain ⟨cell, hcell⟩ := run_cell (k + 7) ns
  obtain ⟨M, hM, hMlt, hMr⟩ := run_numbers (k + 7) cell 40 5040 (by decide) (by decide) (by decide)
  rw [r16]
  unfold c_law runFn
  rw [if_pos ⟨rfl, by decide⟩]
  simp only [ss]
  generalize hsc : D.scr (ns.map .int) = sc at hcell
  have hps : D.pures [sc, .int 0] = true := by
    rw [← hsc]
    show (D.pures (ns.map .int) && true) = true
    have : ∀ ns : List Int, D.pures (ns.map .int) = true := fun ns => by
      induction ns with
      | nil => rfl
      | cons a l ih => exact ih
    rw [this]
    rfl
  obtain ⟨ls0, n1, n2, n3, hls⟩ := draw_lines k M hM sc
  generalize hq : execs (En (k + 8)) _ _ _ = q
  have key : ∃ l' g', q = .ok (.rt (.d (.bl true)), l') g' := by
    rw [← hq]
    refine u_asg (fun o => ∃ l' g', o = O.ok (Fl.rt (R.d (.bl true)), l') g') (.fl (M.map nD)) [some sc, some (.lst (M.map nD)), none, none, none, none, none, none, none] ?_ rfl ?_
    · have c5 : ev (En (k + 8)) (.call 5 (.cons (.var 0) (.cons (.con (.int 0)) .nil))) [some sc, none, none, none, none, none, none, none, none] [] = .ok (.d (.int cell)) [] := ex_call (ds := [sc, .int 0]) (es_two (ex_var (d := sc) rfl) ex_con) hps hcell
      exact ex_call (ds := [.int cell, .int ((40 : Nat) : Int), .int ((5040 : Nat) : Int)]) (es_three c5 ex_con ex_con) rfl hMr
    rw [x_new (r := .d .non) hls (l' := [some sc, some (.lst (M.map nD)), some (.obj 0), none, none, none, none, none, none]) rfl]
    -- the first line may be made longer
    generalize hLM : D.lst (M.map nD) = LM
    have step : ∀ rest : Ss, ∃ ls : List (List Nat), 1 ≤ ls.length ∧ ls.length ≤ 8 ∧ (∀ s ∈ ls, Prn s ∧ s.length ≤ 110) ∧
        execs (En (k + 8)) (.cons (.ifS (.cmp .eq (.bin .mod (.ix (.var 1) (.con (.int 20))) (.con (.int 2))) (.con (.int 0))) (.cons (.setIx (.var 2) (.con (.int 0)) (.bin .add (.bin .add (.con (.str [44, 32, 97, 44, 98])) (.ix (.var 2) (.con (.int 0)))) (.con (.str [32, 44])))) .nil) .nil) rest) [some sc, some LM, some (.obj 0), none, none, none, none, none, none] ([] ++ [.lst (ls0.map .str)]) =
          execs (En (k + 8)) rest [some sc, some LM, some (.obj 0), none, none, none, none, none, none] [.lst (ls.map .str)] := fun rest => by
      obtain ⟨z, hz1, hz2⟩ := mod_nat (i := ((M[20]?.getD 0 : Nat) : Int)) (n := 2) (by decide)
      have q1 : ev (En (k + 8)) (.bin .mod (.ix (.var 1) (.con (.int 20))) (.con (.int 2))) [some sc, some LM, some (.obj 0), none, none, none, none, none, none] [.lst (ls0.map .str)] = .ok (.d (.int (z : Int))) [.lst (ls0.map .str)] := ex_mod (y := 2) (ex_ixL (i := 20) (ex_var (d := .lst (M.map nD)) (by rw [← hLM]; rfl)) ex_con (nD_get (by omega))) ex_con (by decide) hz2
      have q2 : evT (En (k + 8)) (.cmp .eq (.bin .mod (.ix (.var 1) (.con (.int 20))) (.con (.int 2))) (.con (.int 0))) [some sc, some LM, some (.obj 0), none, none, none, none, none, none] [.lst (ls0.map .str)] = .ok ((z : Int) == 0) [.lst (ls0.map .str)] := et_cmp (x := .int (z : Int)) (y := .int 0) q1 ex_con rfl rfl rfl
      rw [List.nil_append]
      cases hzb : ((z : Int) == 0) with
      | false =>
        rw [hzb] at q2
        exact ⟨ls0, n1, n2, fun s hs => ⟨(n3 s hs).1, by have := (n3 s hs).2; omega⟩, x_ifF q2⟩
      | true =>
        rw [hzb] at q2
        obtain ⟨s0, hs0⟩ : ∃ s0, ls0[0]? = some s0 := ⟨_, List.getElem?_eq_getElem (by omega)⟩
        obtain ⟨p1, p2⟩ := n3 s0 (List.mem_of_getElem? hs0)
        have q3 : ev (En (k + 8)) (.ix (.var 2) (.con (.int 0))) [some sc, some LM, some (.obj 0), none, none, none, none, none, none] [.lst (ls0.map .str)] = .ok (.d (.str s0)) [.lst (ls0.map .str)] := by
          rw [ev, ex_var (d := .obj 0) rfl, O.bind_ok, ex_con, O.bind_ok]
          show O.of ((ixop (.lst (ls0.map .str)) (.int ((0 : Nat) : Int))).map R.d) _ = _
          rw [ix_lst (x := .str s0) (by rw [List.getElem?_map, hs0]; rfl)]
          rfl
        have q4 := ex_add (ex_add (E := En (k + 8)) (l := [some sc, some LM, some (.obj 0), none, none, none, none, none, none]) (g := [.lst (ls0.map .str)]) (a := .con (.str [44, 32, 97, 44, 98])) ex_con q3 (by simp; omega)) (b := .con (.str [32, 44])) ex_con (by simp; omega)
        refine ⟨ls0.set 0 (([44, 32, 97, 44, 98] ++ s0) ++ [32, 44]), by simpa using n1, by simpa using n2, fun s hs => ?_, ?_⟩
        · rcases List.mem_or_eq_of_mem_set hs with q | q
          · exact ⟨(n3 s q).1, by have := (n3 s q).2; omega⟩
          · rw [q]
            refine ⟨fun x hx => ?_, by simp; omega⟩
            rcases List.mem_append.mp hx with q | q
            · rcases List.mem_append.mp q with q | q
              · simp at q; omega
              · exact p1 x q
            · simp at q; omega
        · refine x_ifT q2 ?_
          rw [x_setIx (xs := ls0.map .str) (k := 0) q4 rfl rfl (by simp; omega), x_nil]
          show O.ok (Fl.nx, _) [Cell.lst ((ls0.map D.str).set 0 (D.str (([44, 32, 97, 44, 98] ++ s0) ++ [32, 44])))] = _
          rw [← List.map_set]
    obtain ⟨ls, m1, m2, m3, hstep⟩ := step _
    rw [hstep]
    have htot : Pd.tot ls ≤ 1000 := by
      have : ∀ l : List (List Nat), (∀ s ∈ l, s.length ≤ 110) → Pd.tot l ≤ 110 * l.length := fun l => by
        induction l with
        | nil => intro _; exact Nat.le_refl _
        | cons a l ih =>
          intro h
          have h1 := ih fun s hs => h s (List.mem_cons_of_mem _ hs)
          have h2 := h a List.mem_cons_self
          unfold Pd.tot at *
          simp only [List.map_cons, List.sum_cons, List.length_cons]
          omega
      have := this ls fun s hs => (m3 s hs).2
      omega
    clear hstep step hls n3 n1 n2 hq
    obtain ⟨hj1, hj2⟩ := jour_le m2 htot
    generalize hLS : D.lst (ls.map .str) = LS
    have hlook : ∀ g : G, g[0]? = some (.lst (ls.map .str)) → look g (.obj 0) = .lst (ls.map .str) := fun g h => look_obj h
    have g0 : ([.lst (ls.map .str)] : G)[0]? = some (.lst (ls.map .str)) := rfl
    generalize hG : ([.lst (ls.map .str)] : G) = G0 at g0
    have vlist : ∀ (l : Lo), l[2]? = some (some (.obj 0)) → ev (En (k + 8)) (.bi .list (.cons (.var 2) .nil)) l G0 = .ok (.fl (ls.map .str)) G0 := fun l h => by
      rw [ev, es_one (ex_var h), O.bind_ok]
      show O.of (bi .list [look G0 (.obj 0)]) G0 = _
      rw [hlook G0 g0]
      rfl
    refine u_asg (fun o => ∃ l' g', o = O.ok (Fl.rt (R.d (.bl true)), l') g') (.fl (ls.map .str)) [some sc, some LM, some (.obj 0), some LS, none, none, none, none, none] (vlist _ rfl) (by rw [← hLS]; rfl) ?_
    -- every line's check
    refine u_fors (fun o => ∃ l' g', o = O.ok (Fl.rt (R.d (.bl true)), l') g') ⟨.lst ((ls ++ [[97, 98], [97], []]).map .str), (ls ++ [[97, 98], [97], []]).map .str, (ls ++ [[97, 98], [97], []]).map .str⟩ (fun i l g => g = G0 ∧ ∃ a4, l = [some sc, some LM, some (.obj 0), some LS, a4, none, none, none, none]) ?_ (by simp; omega) (fun i l g hp => rfl) ⟨rfl, _, rfl⟩ (fun i x l g hx hp => ?_) (fun l' g' hp => ?_)
    · have b1 : ev (En (k + 8)) (.lst (.cons (.con (.str [97, 98])) (.cons (.con (.str [97])) (.cons (.con (.str [])) .nil)))) [some sc, some LM, some (.obj 0), some LS, none, none, none, none, none] G0 = .ok (.fl ([[97, 98], [97], []].map .str)) G0 := by
        rw [ev, es_three ex_con ex_con ex_con]
        rfl
      have b2 := add_objL (ex_var (d := .obj 0) (l := [some sc, some LM, some (.obj 0), some LS, none, none, none, none, none]) (i := 2) rfl) b1 (hlook G0 g0) rfl (by simp; omega)
      rw [evI, b2]
      rfl
    · obtain ⟨rfl, a4, rfl⟩ := hp
      rw [List.getElem?_map] at hx
      obtain ⟨s, hs, rfl⟩ := Option.map_eq_some_iff.mp hx
      have hsl : s.length ≤ 110 := by
        rcases List.mem_append.mp (List.mem_of_getElem? hs) with q | q
        · exact (m3 s q).2
        · simp at q
          rcases q with q | q | q <;> subst q <;> simp
      refine ⟨[some sc, some LM, some (.obj 0), some LS, some (.str s), none, none, none, none], rfl, [some sc, some LM, some (.obj 0), some LS, some (.str s), none, none, none, none], g, ?_, rfl, _, rfl⟩
      rw [x_ifF, x_nil]
      have d1 : ev (En (k + 8)) (.call 0 (.cons (.var 4) .nil)) [some sc, some LM, some (.obj 0), some LS, some (.str s), none, none, none, none] g = .ok (.d (.int (chk s))) g := ex_call (ds := [.str s]) (es_one (ex_var (d := .str s) rfl)) rfl (run_check (k + 7) s (by omega))
      have d2 : ev (En (k + 8)) (.call 8 (.cons (.var 4) .nil)) [some sc, some LM, some (.obj 0), some LS, some (.str s), none, none, none, none] g = .ok (.d (.int (chk s))) g := ex_call (ds := [.str s]) (es_one (ex_var (d := .str s) rfl)) rfl (run_lawcheck (k + 7) s (by omega))
      exact et_notT (ex_call (es_two d1 d2) rfl (same_int (k + 7) (chk s)))
    · obtain ⟨rfl, a4, rfl⟩ := hp
      have sn : snaps g' [.obj 0] = some [.lst (ls.map .str)] := snaps_one (snap_obj g0 (pures_strs _))
      have cA := run_jour (k + 5) ls hj2
      have cB := run_jour (k + 5) [] (by unfold Sz; simp)
      have cC := run_lawjour (k + 5) ls hj2
      refine u_ifF (fun o => ∃ l' g', o = O.ok (Fl.rt (R.d (.bl true)), l') g') (et_or2F (et_notT ?_) ?_ (et_notT ?_)) ?_
      · have b1 := ex_call (E := En (k + 8)) (f := 2) (es_one (vlist [some sc, some LM, some (.obj 0), some LS, a4, none, none, none, none] rfl)) (by show (D.pures (ls.map .str) && true) = true; rw [pures_strs]; rfl) cA
        have b2 : ev (En (k + 8)) (.call 2 (.cons (.lst .nil) .nil)) [some sc, some LM, some (.obj 0), some LS, a4, none, none, none, none] g' = .ok (.d (.str [])) g' := by
          have b0 : ev (En (k + 8)) (.lst .nil) [some sc, some LM, some (.obj 0), some LS, a4, none, none, none, none] g' = .ok (.fl []) g' := by
            rw [ev, evs]
            rfl
          exact ex_call (es_one b0) rfl cB
        have b3 : ev (En (k + 8)) (.lst (.cons (.call 2 (.cons (.bi .list (.cons (.var 2) .nil)) .nil)) (.cons (.call 2 (.cons (.lst .nil) .nil)) .nil))) [some sc, some LM, some (.obj 0), some LS, a4, none, none, none, none] g' = .ok (.fl ([jour 1 ls, []].map .str)) g' := by
          rw [ev, es_two b1 b2]
          rfl
        have b4 : ev (En (k + 8)) (.call 10 (.cons (.var 2) .nil)) [some sc, some LM, some (.obj 0), some LS, a4, none, none, none, none] g' = .ok (.d (.str (jour 1 ls))) g' := ex_callO (es_one (ex_var (d := .obj 0) rfl)) rfl sn cC rfl
        have b5 : ev (En (k + 8)) (.lst (.cons (.call 10 (.cons (.var 2) .nil)) (.cons (.con (.str [])) .nil))) [some sc, some LM, some (.obj 0), some LS, a4, none, none, none, none] g' = .ok (.fl ([jour 1 ls, []].map .str)) g' := by
          rw [ev, es_two b4 ex_con]
          rfl
        exact ex_call (es_two b3 b5) rfl (same_lst (k + 6) [jour 1 ls, []] (by simp))
      · exact et_cmp (x := .lst (ls.map .str)) (y := .lst (ls.map .str)) (ex_var (d := .obj 0) rfl) (ex_var (d := LS) rfl) (hlook g' g0) (by rw [← hLS]; rfl) (ne_strs ls)
      · have sn2 : snaps g' [.obj 0, LM] = some [.lst (ls.map .str), .lst (M.map nD)] := snaps_two (snap_obj g0 (pures_strs _)) (by rw [← hLM]; exact snap_lst (pures_nat M))
        exact ex_callO (es_two (ex_var (d := .obj 0) rfl) (ex_var (d := LM) rfl)) rfl sn2 (run_spoilt (k + 2) ls M m2 htot m3 (by omega)) rfl
      · -- the texts
        obtain ⟨xs, x1, x2, x3⟩ := texts_ok (k + 4) ls (M.drop 21) m2 htot (by simp; omega)
        refine u_fors (fun o => ∃ l' g', o = O.ok (Fl.rt (R.d (.bl true)), l') g') ⟨.lst (xs.map .str), xs.map .str, xs.map .str⟩ (fun i l g => ∃ a4 a5 a6 a7, l = [some sc, some LM, some (.obj 0), some LS, a4, a5, a6, a7, none]) ?_ (by simp; omega) (fun i l g hp => rfl) ⟨_, _, _, _, rfl⟩ (fun i x l g hx hp => ?_) (fun l' g' hp => ?_)
        · have b1 : ev (En (k + 8)) (.sl (.var 1) (.some (.con (.int 21))) .non) [some sc, some LM, some (.obj 0), some LS, a4, none, none, none, none] g' = .ok (.fl ((M.drop 21).map nD)) g' := by
            rw [ev, ex_var (d := LM) rfl, O.bind_ok, ex_some ex_con, O.bind_ok, ex_non, O.bind_ok, ← hLM]
            show O.ok (R.fl (cut (M.map nD) (some ((21 : Nat) : Int)) none)) g' = _
            rw [cut_drop, List.map_drop]
          have sn2 : snaps g' [.obj 0, .lst ((M.drop 21).map nD)] = some [.lst (ls.map .str), .lst ((M.drop 21).map nD)] := snaps_two (snap_obj g0 (pures_strs _)) (snap_lst (pures_nat _))
          have b2 : ev (En (k + 8)) (.call 15 (.cons (.var 2) (.cons (.sl (.var 1) (.some (.con (.int 21))) .non) .nil))) [some sc, some LM, some (.obj 0), some LS, a4, none, none, none, none] g' = .ok (.fl (xs.map .str)) g' := ex_callF (es_two (ex_var (d := .obj 0) rfl) b1) rfl sn2 x3 (scalar_strs xs)
          rw [evI, b2]
          rfl
        · obtain ⟨b4, b5, b6, b7, rfl⟩ := hp
          rw [List.getElem?_map] at hx
          obtain ⟨s, hs, rfl⟩ := Option.map_eq_some_iff.mp hx
          have hsl := x2 s (List.mem_of_getElem? hs)
          refine ⟨[some sc, some LM, some (.obj 0), some LS, b4, some (.str s), b6, b7, none], rfl, ?_⟩
          refine u_rng (fun o => ∃ l2 g2, o = O.ok (Fl.nx, l2) g2 ∧ ∃ a4 a5 a6 a7, l2 = [some sc, some LM, some (.obj 0), some LS, a4, a5, a6, a7, none]) 2 (fun i l g => ∃ a6 a7, l = [some sc, some LM, some (.obj 0), some LS, b4, some (.str s), a6, a7, none]) ex_con (by decide) ⟨_, _, rfl⟩ (fun j l g hj hp => ?_) (fun l' g' hp => ?_)
          · obtain ⟨c6, c7, rfl⟩ := hp
            refine ⟨[some sc, some LM, some (.obj 0), some LS, b4, some (.str s), some (.int (j : Int)), c7, none], rfl, ?_⟩
            have cL := run_lines (k + 4) s (by omega)
            have cR := run_lawlines (k + 4) s (by omega)
            generalize hrs : recs 1 (rowsOf s) = rs at cL cR
            have hrsl : rs.length ≤ 900000 := by
              rw [← hrs]
              have : ∀ (rows : List (List Nat)) (n : Nat), (recs n rows).length ≤ rows.length := fun rows => by
                induction rows with
                | nil => intro n; exact Nat.le_refl _
                | cons r rows ih =>
                  intro n
                  rw [recs]
                  split
                  · have := ih (n + 1)
                    simp only [List.length_cons]
                    omega
                  · simp
              have h1 := this (rowsOf s) 1
              have h2 := rows_len s
              omega
            rw [x_new (r := .d .non) (ex_call (ds := [.str s]) (es_one (ex_var (d := .str s) rfl)) rfl cL) (l' := [some sc, some LM, some (.obj 0), some LS, b4, some (.str s), some (.int (j : Int)), some (.obj g.length), none]) rfl]
            have gn : (g ++ [.lst (rs.map .str)] : G)[g.length]? = some (.lst (rs.map .str)) := by simp
            generalize (g ++ [.lst (rs.map .str)] : G) = g1 at gn
            have sn2 : snaps g1 [.obj g.length, .lst (rs.map .str)] = some [.lst (rs.map .str), .lst (rs.map .str)] := snaps_two (snap_obj gn (pures_strs _)) (snap_lst (pures_strs _))
            have d1 : ev (En (k + 8)) (.call 11 (.cons (.var 5) .nil)) [some sc, some LM, some (.obj 0), some LS, b4, some (.str s), some (.int (j : Int)), some (.obj g.length), none] g1 = .ok (.fl (rs.map .str)) g1 := ex_call (ds := [.str s]) (es_one (ex_var (d := .str s) rfl)) rfl cR
            rw [x_ifF (et_notT (ex_callO (es_two (ex_var (d := .obj g.length) rfl) d1) rfl sn2 (same_lst (k + 6) rs hrsl) rfl))]
            obtain ⟨s4, n4, q4⟩ := x_app (E := En (k + 8)) (l := [some sc, some LM, some (.obj 0), some LS, b4, some (.str s), some (.int (j : Int)), some (.obj g.length), none]) (g := g1) (i := 7) (k := g.length) (rest := .nil) (xs := rs) rfl gn (bs_con (s := [99, 104, 97, 110, 103, 101, 100]) (n := 10) (by decide)) (by omega)
            rw [q4, x_nil]
            exact ⟨_, _, rfl, _, _, rfl⟩
          · obtain ⟨c6, c7, rfl⟩ := hp
            rw [x_nil]
            exact ⟨_, _, rfl, _, _, _, _, rfl⟩
        · obtain ⟨b4, b5, b6, b7, rfl⟩ := hp
          refine ⟨_, _, x_ret ?_⟩
          have d1 : ev (En (k + 8)) (.call 0 (.cons (.con (.str [97, 98])) .nil)) [some sc, some LM, some (.obj 0), some LS, b4, b5, b6, b7, none] g' = .ok (.d (.int (chk [97, 98]))) g' := ex_call (ds := [.str [97, 98]]) (es_one ex_con) rfl (run_check (k + 7) [97, 98] (by decide))
          rw [ev, d1, O.bind_ok, ex_con]
          rfl
  obtain ⟨l', g', rfl⟩ := key
  exact ⟨[], rfl⟩
theorem lawful : ∀ ns : List Int, ns.length ≤ 63 → ∃ g, run Pr 9 16 [.scr (ns.map .int)] = .ok (.d (.bl true)) g := fun ns _ => law_true 0 ns
end K67
namespace K67
open Pd PySem L2
theorem all_mk {l : PySem.W.OpenLaw} {w : World} {K : PySem.W.Frag} {h : Heap} {mg : Str → Option Value} {f0 f1 f2 f3 f4 f5 f6 f7 f8 f9 f10 f11 f12 f13 f14 f15 f16 : Addr} {od0 an0 od1 an1 od2 an2 od3 an3 od4 an4 od5 an5 od6 an6 od7 an7 od8 an8 od9 an9 od10 an10 od11 an11 od12 an12 od13 an13 od14 an14 od15 an15 od16 an16 : Option Addr} {sl0 sl1 sl2 sl3 sl4 sl5 sl6 sl7 sl8 sl9 sl10 sl11 sl12 sl13 sl14 sl15 sl16 : Array (Option Value)} {oc0 kV0 dc0 pm0 cd0 ct0 oc1 kV1 dc1 pm1 cd1 ct1 oc2 kV2 dc2 pm2 cd2 ct2 oc3 kV3 dc3 pm3 cd3 ct3 oc4 kV4 dc4 pm4 cd4 ct4 oc5 kV5 dc5 pm5 cd5 ct5 oc6 kV6 dc6 pm6 cd6 ct6 oc7 kV7 dc7 pm7 cd7 ct7 oc8 kV8 dc8 pm8 cd8 ct8 oc9 kV9 dc9 pm9 cd9 ct9 oc10 kV10 dc10 pm10 cd10 ct10 oc11 kV11 dc11 pm11 cd11 ct11 oc12 kV12 dc12 pm12 cd12 ct12 oc13 kV13 dc13 pm13 cd13 ct13 oc14 kV14 dc14 pm14 cd14 ct14 oc15 kV15 dc15 pm15 cd15 ct15 oc16 kV16 dc16 pm16 cd16 ct16 : Value} {tk0 tk1 : Tok} (X : K.In h) (G : h.Ns mainGlobals mg) {fa : Addr} (hfa : mg "law" = some (.ref fa))
    (a0 : PySem.W.nsIn K mainGlobals "check_of" = some (some (.ref f0)))
    (l0 : K.lookup f0 = some ⟨oc0, od0, .func (PySem.W.fnOf "check_of" "check_of" (defArgs (top 3)) (defBody (top 3)) (defScope (top 3)) .none kV0 dc0 pm0 an0 cd0 ct0), sl0⟩)
    (c0 : PySem.W.codeIn K cd0 "check_of" = true)
    (k0 : PySem.W.keepIn K (.ref f0) = true)
    (a1 : PySem.W.nsIn K mainGlobals "record" = some (some (.ref f1)))
    (l1 : K.lookup f1 = some ⟨oc1, od1, .func (PySem.W.fnOf "record" "record" (defArgs (top 4)) (defBody (top 4)) (defScope (top 4)) .none kV1 dc1 pm1 an1 cd1 ct1), sl1⟩)
    (c1 : PySem.W.codeIn K cd1 "record" = true)
    (k1 : PySem.W.keepIn K (.ref f1) = true)
    (a2 : PySem.W.nsIn K mainGlobals "journal_of" = some (some (.ref f2)))
    (l2 : K.lookup f2 = some ⟨oc2, od2, .func (PySem.W.fnOf "journal_of" "journal_of" (defArgs (top 5)) (defBody (top 5)) (defScope (top 5)) .none kV2 dc2 pm2 an2 cd2 ct2), sl2⟩)
    (c2 : PySem.W.codeIn K cd2 "journal_of" = true)
    (k2 : PySem.W.keepIn K (.ref f2) = true)
    (a3 : PySem.W.nsIn K mainGlobals "line_in" = some (some (.ref f3)))
    (l3 : K.lookup f3 = some ⟨oc3, od3, .func (PySem.W.fnOf "line_in" "line_in" (defArgs (top 6)) (defBody (top 6)) (defScope (top 6)) .none kV3 dc3 pm3 an3 cd3 ct3), sl3⟩)
    (c3 : PySem.W.codeIn K cd3 "line_in" = true)
    (k3 : PySem.W.keepIn K (.ref f3) = true)
    (a4 : PySem.W.nsIn K mainGlobals "lines_in" = some (some (.ref f4)))
    (l4 : K.lookup f4 = some ⟨oc4, od4, .func (PySem.W.fnOf "lines_in" "lines_in" (defArgs (top 7)) (defBody (top 7)) (defScope (top 7)) .none kV4 dc4 pm4 an4 cd4 ct4), sl4⟩)
    (c4 : PySem.W.codeIn K cd4 "lines_in" = true)
    (k4 : PySem.W.keepIn K (.ref f4) = true)
    (a5 : PySem.W.nsIn K mainGlobals "_law_cell" = some (some (.ref f5)))
    (l5 : K.lookup f5 = some ⟨oc5, od5, .func (PySem.W.fnOf "_law_cell" "_law_cell" (defArgs (top 9)) (defBody (top 9)) (defScope (top 9)) .none kV5 dc5 pm5 an5 cd5 ct5), sl5⟩)
    (c5 : PySem.W.codeIn K cd5 "_law_cell" = true)
    (k5 : PySem.W.keepIn K (.ref f5) = true)
    (a6 : PySem.W.nsIn K mainGlobals "_law_numbers" = some (some (.ref f6)))
    (l6 : K.lookup f6 = some ⟨oc6, od6, .func (PySem.W.fnOf "_law_numbers" "_law_numbers" (defArgs (top 10)) (defBody (top 10)) (defScope (top 10)) .none kV6 dc6 pm6 an6 cd6 ct6), sl6⟩)
    (c6 : PySem.W.codeIn K cd6 "_law_numbers" = true)
    (k6 : PySem.W.keepIn K (.ref f6) = true)
    (a7 : PySem.W.nsIn K mainGlobals "_law_same" = some (some (.ref f7)))
    (l7 : K.lookup f7 = some ⟨oc7, od7, .func (PySem.W.fnOf "_law_same" "_law_same" (defArgs (top 11)) (defBody (top 11)) (defScope (top 11)) .none kV7 dc7 pm7 an7 cd7 ct7), sl7⟩)
    (c7 : PySem.W.codeIn K cd7 "_law_same" = true)
    (k7 : PySem.W.keepIn K (.ref f7) = true)
    (a8 : PySem.W.nsIn K mainGlobals "_law_check_of" = some (some (.ref f8)))
    (l8 : K.lookup f8 = some ⟨oc8, od8, .func (PySem.W.fnOf "_law_check_of" "_law_check_of" (defArgs (top 12)) (defBody (top 12)) (defScope (top 12)) .none kV8 dc8 pm8 an8 cd8 ct8), sl8⟩)
    (c8 : PySem.W.codeIn K cd8 "_law_check_of" = true)
    (k8 : PySem.W.keepIn K (.ref f8) = true)
    (a9 : PySem.W.nsIn K mainGlobals "_law_record" = some (some (.ref f9)))
    (l9 : K.lookup f9 = some ⟨oc9, od9, .func (PySem.W.fnOf "_law_record" "_law_record" (defArgs (top 13)) (defBody (top 13)) (defScope (top 13)) .none kV9 dc9 pm9 an9 cd9 ct9), sl9⟩)
    (c9 : PySem.W.codeIn K cd9 "_law_record" = true)
    (k9 : PySem.W.keepIn K (.ref f9) = true)
    (a10 : PySem.W.nsIn K mainGlobals "_law_journal" = some (some (.ref f10)))
    (l10 : K.lookup f10 = some ⟨oc10, od10, .func (PySem.W.fnOf "_law_journal" "_law_journal" (defArgs (top 14)) (defBody (top 14)) (defScope (top 14)) .none kV10 dc10 pm10 an10 cd10 ct10), sl10⟩)
    (c10 : PySem.W.codeIn K cd10 "_law_journal" = true)
    (k10 : PySem.W.keepIn K (.ref f10) = true)
    (a11 : PySem.W.nsIn K mainGlobals "_law_records" = some (some (.ref f11)))
    (l11 : K.lookup f11 = some ⟨oc11, od11, .func (PySem.W.fnOf "_law_records" "_law_records" (defArgs (top 15)) (defBody (top 15)) (defScope (top 15)) .none kV11 dc11 pm11 an11 cd11 ct11), sl11⟩)
    (c11 : PySem.W.codeIn K cd11 "_law_records" = true)
    (k11 : PySem.W.keepIn K (.ref f11) = true)
    (a12 : PySem.W.nsIn K mainGlobals "_law_signs_drawn" = some (some (.ref f12)))
    (l12 : K.lookup f12 = some ⟨oc12, od12, .func (PySem.W.fnOf "_law_signs_drawn" "_law_signs_drawn" (defArgs (top 16)) (defBody (top 16)) (defScope (top 16)) .none kV12 dc12 pm12 an12 cd12 ct12), sl12⟩)
    (c12 : PySem.W.codeIn K cd12 "_law_signs_drawn" = true)
    (k12 : PySem.W.keepIn K (.ref f12) = true)
    (a13 : PySem.W.nsIn K mainGlobals "_law_bent_string" = some (some (.ref f13)))
    (l13 : K.lookup f13 = some ⟨oc13, od13, .func (PySem.W.fnOf "_law_bent_string" "_law_bent_string" (defArgs (top 17)) (defBody (top 17)) (defScope (top 17)) .none kV13 dc13 pm13 an13 cd13 ct13), sl13⟩)
    (c13 : PySem.W.codeIn K cd13 "_law_bent_string" = true)
    (k13 : PySem.W.keepIn K (.ref f13) = true)
    (a14 : PySem.W.nsIn K mainGlobals "_law_spoilt" = some (some (.ref f14)))
    (l14 : K.lookup f14 = some ⟨oc14, od14, .func (PySem.W.fnOf "_law_spoilt" "_law_spoilt" (defArgs (top 18)) (defBody (top 18)) (defScope (top 18)) .none kV14 dc14 pm14 an14 cd14 ct14), sl14⟩)
    (c14 : PySem.W.codeIn K cd14 "_law_spoilt" = true)
    (k14 : PySem.W.keepIn K (.ref f14) = true)
    (a15 : PySem.W.nsIn K mainGlobals "_law_texts" = some (some (.ref f15)))
    (l15 : K.lookup f15 = some ⟨oc15, od15, .func (PySem.W.fnOf "_law_texts" "_law_texts" (defArgs (top 19)) (defBody (top 19)) (defScope (top 19)) .none kV15 dc15 pm15 an15 cd15 ct15), sl15⟩)
    (c15 : PySem.W.codeIn K cd15 "_law_texts" = true)
    (k15 : PySem.W.keepIn K (.ref f15) = true)
    (a16 : PySem.W.nsIn K mainGlobals "law" = some (some (.ref f16)))
    (l16 : K.lookup f16 = some ⟨oc16, od16, .func (PySem.W.fnOf "law" "law" (defArgs (top 20)) (defBody (top 20)) (defScope (top 20)) .none kV16 dc16 pm16 an16 cd16 ct16), sl16⟩)
    (c16 : PySem.W.codeIn K cd16 "law" = true)
    (k16 : PySem.W.keepIn K (.ref f16) = true)
    (gl0 : PySem.W.nsIn K mainGlobals "MODULUS" = some (some (.int 971 tk0)))
    (gl1 : PySem.W.nsIn K mainGlobals "MOST_SIGNS" = some (some (.int 4100 tk1)))
    (z0 : PySem.W.nsIn K mainGlobals "len" = some none)
    (z1 : PySem.W.nsIn K mainGlobals "int" = some none)
    (z2 : PySem.W.nsIn K mainGlobals "str" = some none)
    (z3 : PySem.W.nsIn K mainGlobals "ord" = some none)
    (z4 : PySem.W.nsIn K mainGlobals "sum" = some none)
    (z5 : PySem.W.nsIn K mainGlobals "all" = some none)
    (z6 : PySem.W.nsIn K mainGlobals "any" = some none)
    (z7 : PySem.W.nsIn K mainGlobals "max" = some none)
    (z8 : PySem.W.nsIn K mainGlobals "min" = some none)
    (z9 : PySem.W.nsIn K mainGlobals "list" = some none)
    (z10 : PySem.W.nsIn K mainGlobals "tuple" = some none)
    (z11 : PySem.W.nsIn K mainGlobals "bool" = some none)
    (z12 : PySem.W.nsIn K mainGlobals "isinstance" = some none)
    (z13 : PySem.W.nsIn K mainGlobals "range" = some none)
    (z14 : PySem.W.nsIn K mainGlobals "enumerate" = some none) :
    ∃ fd : FuncData, (∀ (s : Shared) (v : Value), BindsTo s fd ⟨[v], []⟩ [("script", v)]) ∧ ∀ base : Heap, K.In base → base.Ns mainGlobals mg → FnOk l.prog w K mg base CX0 9 fa fd ["script"] (Pd.spLaw K) := by
  have e := hfa.symm.trans (PySem.W.mg_of X G a16)
  cases e
  have fa : Facts K mg B Pr fs := {
    names := rfl
    code := fun k => by show codes[k]? = _; rw [show codes = fs.map (·.fn) from rfl, List.getElem?_map]
    fn := AllFn.mem (show AllFn K mg fs from ⟨
      fn_mk (c := ⟨"check_of", top 3, ["line", "k", "sign"], c_check_of⟩) X G a0 l0 c0 k0 (fun _ _ _ _ _ _ us hl => match us, hl with | [_], _ => rfl),
      fn_mk (c := ⟨"record", top 4, ["number", "line"], c_record⟩) X G a1 l1 c1 k1 (fun _ _ _ _ _ _ us hl => match us, hl with | [_, _], _ => rfl),
      fn_mk (c := ⟨"journal_of", top 5, ["lines", "k", "line"], c_journal_of⟩) X G a2 l2 c2 k2 (fun _ _ _ _ _ _ us hl => match us, hl with | [_], _ => rfl),
      fn_mk (c := ⟨"line_in", top 6, ["number", "row", "line", "sign"], c_line_in⟩) X G a3 l3 c3 k3 (fun _ _ _ _ _ _ us hl => match us, hl with | [_, _], _ => rfl),
      fn_mk (c := ⟨"lines_in", top 7, ["string", "found", "row", "line"], c_lines_in⟩) X G a4 l4 c4 k4 (fun _ _ _ _ _ _ us hl => match us, hl with | [_], _ => rfl),
      fn_mk (c := ⟨"_law_cell", top 9, ["script", "k"], c__law_cell⟩) X G a5 l5 c5 k5 (fun _ _ _ _ _ _ us hl => match us, hl with | [_, _], _ => rfl),
      fn_mk (c := ⟨"_law_numbers", top 10, ["cell", "count", "limit", "found", "k", "mixed"], c__law_numbers⟩) X G a6 l6 c6 k6 (fun _ _ _ _ _ _ us hl => match us, hl with | [_, _, _], _ => rfl),
      fn_mk (c := ⟨"_law_same", top 11, ["told", "due", "k"], c__law_same⟩) X G a7 l7 c7 k7 (fun _ _ _ _ _ _ us hl => match us, hl with | [_, _], _ => rfl),
      fn_mk (c := ⟨"_law_check_of", top 12, ["line", "total", "k"], c__law_check_of⟩) X G a8 l8 c8 k8 (fun _ _ _ _ _ _ us hl => match us, hl with | [_], _ => rfl),
      fn_mk (c := ⟨"_law_record", top 13, ["number", "line"], c__law_record⟩) X G a9 l9 c9 k9 (fun _ _ _ _ _ _ us hl => match us, hl with | [_, _], _ => rfl),
      fn_mk (c := ⟨"_law_journal", top 14, ["lines", "k"], c__law_journal⟩) X G a10 l10 c10 k10 (fun _ _ _ _ _ _ us hl => match us, hl with | [_], _ => rfl),
      fn_mk (c := ⟨"_law_records", top 15, ["text", "found", "row", "words", "line", "bad", "sign"], c__law_records⟩) X G a11 l11 c11 k11 (fun _ _ _ _ _ _ us hl => match us, hl with | [_], _ => rfl),
      fn_mk (c := ⟨"_law_signs_drawn", top 16, ["draw", "count", "known", "number"], c__law_signs_drawn⟩) X G a12 l12 c12 k12 (fun _ _ _ _ _ _ us hl => match us, hl with | [_, _], _ => rfl),
      fn_mk (c := ⟨"_law_bent_string", top 17, ["text", "draws", "at", "signs", "spot", "sign", "kind"], c__law_bent_string⟩) X G a13 l13 c13 k13 (fun _ _ _ _ _ _ us hl => match us, hl with | [_, _, _], _ => rfl),
      fn_mk (c := ⟨"_law_spoilt", top 18, ["lines", "draws", "text", "k", "line", "spot", "before", "row", "rest", "head", "sign"], c__law_spoilt⟩) X G a14 l14 c14 k14 (fun _ _ _ _ _ _ us hl => match us, hl with | [_, _], _ => rfl),
      fn_mk (c := ⟨"_law_texts", top 19, ["lines", "draws", "text", "at", "rest", "rows", "found", "row"], c__law_texts⟩) X G a15 l15 c15 k15 (fun _ _ _ _ _ _ us hl => match us, hl with | [_, _], _ => rfl),
      fn_mk (c := ⟨"law", top 20, ["script", "more", "lines", "kept", "line", "text", "turn", "told", "k"], c_law⟩) X G a16 l16 c16 k16 (fun _ _ _ _ _ _ us hl => match us, hl with | [_], _ => rfl),
      trivial⟩)
    free := fun x hx => by
      have hx : x = "len" ∨ x = "int" ∨ x = "str" ∨ x = "ord" ∨ x = "sum" ∨ x = "all" ∨ x = "any" ∨ x = "max" ∨ x = "min" ∨ x = "list" ∨ x = "tuple" ∨ x = "bool" ∨ x = "isinstance" ∨ x = "range" ∨ x = "enumerate" := by simpa [Pd.free] using hx
      rcases hx with rfl | rfl | rfl | rfl | rfl | rfl | rfl | rfl | rfl | rfl | rfl | rfl | rfl | rfl | rfl
      · exact PySem.W.mg_none_of X G z0
      · exact PySem.W.mg_none_of X G z1
      · exact PySem.W.mg_none_of X G z2
      · exact PySem.W.mg_none_of X G z3
      · exact PySem.W.mg_none_of X G z4
      · exact PySem.W.mg_none_of X G z5
      · exact PySem.W.mg_none_of X G z6
      · exact PySem.W.mg_none_of X G z7
      · exact PySem.W.mg_none_of X G z8
      · exact PySem.W.mg_none_of X G z9
      · exact PySem.W.mg_none_of X G z10
      · exact PySem.W.mg_none_of X G z11
      · exact PySem.W.mg_none_of X G z12
      · exact PySem.W.mg_none_of X G z13
      · exact PySem.W.mg_none_of X G z14
    glo := fun k x d h1 h2 => match k, h1, h2 with
      | 0, h1, h2 => by cases h1; cases h2; exact ⟨_, _, PySem.W.mg_of X G gl0, (show RelV (.int 971) _ from ⟨_, rfl⟩), fun _ _ => .int _⟩
      | 1, h1, h2 => by cases h1; cases h2; exact ⟨_, _, PySem.W.mg_of X G gl1, (show RelV (.int 4100) _ from ⟨_, rfl⟩), fun _ _ => .int _⟩
      | k + 2, h1, h2 => by simp [B] at h1 }
  have F := fun_mk (st := top 20) l16 c16 k16
  exact ⟨_, fun s v => .of_eq rfl, fun base _ _ => law_ok fa ckAll (k := 8) (f := 16) (st := top 20) (N := ["more", "lines", "kept", "line", "text", "turn", "told", "k"]) (fn := c_law) rfl rfl lawful F base⟩
theorem walk {l : PySem.W.OpenLaw} {q : Program} {loose : List Str} {XP : (Str → Option Value) → Heap → Prop} {YP : World → Heap → Prop} {d : DefRec} {K : Params → PySem.W.Frag} (hn : l.most = some 63) (hdf : d.params.defaults = [])
    (hY : ∀ (w : World) (h : Heap), YP w h → (K w.params).In h)
    (F : ∀ (w : World) (mg : Str → Option Value) (fa : Addr) (h : Heap), (K w.params).In h → h.Ns mainGlobals mg → mg d.name = some (.ref fa) →
      ∃ fd : FuncData, (∀ (s : Shared) (u : Value), BindsTo s fd ⟨[u], []⟩ [("script", u)]) ∧ ∀ base : Heap, (K w.params).In base → base.Ns mainGlobals mg → FnOk l.prog w (K w.params) mg base CX0 9 fa fd ["script"] (Pd.spLaw (K w.params))) :
    PySem.W.WalkO q loose XP YP l.row.toRowW d [] (fun f vs => PySem.call f vs) :=
  L2.walk_of (n := 63) (k := 9) (x := "script") (CX := fun _ => CX0) (sp := fun w => Pd.spLaw (K w.params)) hn (by decide) hdf ⟨rfl, by decide, by decide⟩ hY F (fun _ _ a ns hl _ hS => ⟨a, ns, rfl, hS, hl, fun _ => rfl⟩) fun _ _ _ _ _ z => z
end K67
open PySem PySem.W PyProof.Rows in
set_option maxRecDepth 100000 in
set_option maxHeartbeats 0 in
theorem PySem.Challenge.cw_plainproofs_k67_whole_journals_and_their_holds : PySem.Challenge.rw_plainproofs_k67_whole_journals_and_their.Holds := by
  w_on; o_law; k_head; (case hw => w_witness2)
  k_fill
  refine K67.walk (l := PySem.Challenge.rw_plainproofs_k67_whole_journals_and_their) rfl rfl (fun w h Y => PySem.W.kIn_of Y) ?F
  case F =>
    intro w mg fa h KX G hmg
    refine' K67.all_mk KX G hmg ?a0 ?l0 ?c0 ?k0 ?a1 ?l1 ?c1 ?k1 ?a2 ?l2 ?c2 ?k2 ?a3 ?l3 ?c3 ?k3 ?a4 ?l4 ?c4 ?k4 ?a5 ?l5 ?c5 ?k5 ?a6 ?l6 ?c6 ?k6 ?a7 ?l7 ?c7 ?k7 ?a8 ?l8 ?c8 ?k8 ?a9 ?l9 ?c9 ?k9 ?a10 ?l10 ?c10 ?k10 ?a11 ?l11 ?c11 ?k11 ?a12 ?l12 ?c12 ?k12 ?a13 ?l13 ?c13 ?k13 ?a14 ?l14 ?c14 ?k14 ?a15 ?l15 ?c15 ?k15 ?a16 ?l16 ?c16 ?k16 ?gl0 ?gl1 ?z0 ?z1 ?z2 ?z3 ?z4 ?z5 ?z6 ?z7 ?z8 ?z9 ?z10 ?z11 ?z12 ?z13 ?z14
    (case a0 => k_is)
    (case l0 => k_is)
    (case c0 => k_is)
    (case k0 => k_is)
    (case a1 => k_is)
    (case l1 => k_is)
    (case c1 => k_is)
    (case k1 => k_is)
    (case a2 => k_is)
    (case l2 => k_is)
    (case c2 => k_is)
    (case k2 => k_is)
    (case a3 => k_is)
    (case l3 => k_is)
    (case c3 => k_is)
    (case k3 => k_is)
    (case a4 => k_is)
    (case l4 => k_is)
    (case c4 => k_is)
    (case k4 => k_is)
    (case a5 => k_is)
    (case l5 => k_is)
    (case c5 => k_is)
    (case k5 => k_is)
    (case a6 => k_is)
    (case l6 => k_is)
    (case c6 => k_is)
    (case k6 => k_is)
    (case a7 => k_is)
    (case l7 => k_is)
    (case c7 => k_is)
    (case k7 => k_is)
    (case a8 => k_is)
    (case l8 => k_is)
    (case c8 => k_is)
    (case k8 => k_is)
    (case a9 => k_is)
    (case l9 => k_is)
    (case c9 => k_is)
    (case k9 => k_is)
    (case a10 => k_is)
    (case l10 => k_is)
    (case c10 => k_is)
    (case k10 => k_is)
    (case a11 => k_is)
    (case l11 => k_is)
    (case c11 => k_is)
    (case k11 => k_is)
    (case a12 => k_is)
    (case l12 => k_is)
    (case c12 => k_is)
    (case k12 => k_is)
    (case a13 => k_is)
    (case l13 => k_is)
    (case c13 => k_is)
    (case k13 => k_is)
    (case a14 => k_is)
    (case l14 => k_is)
    (case c14 => k_is)
    (case k14 => k_is)
    (case a15 => k_is)
    (case l15 => k_is)
    (case c15 => k_is)
    (case k15 => k_is)
    (case a16 => k_is)
    (case l16 => k_is)
    (case c16 => k_is)
    (case k16 => k_is)
    (case gl0 => k_is)
    (case gl1 => k_is)
    (case z0 => k_is)
    (case z1 => k_is)
    (case z2 => k_is)
    (case z3 => k_is)
    (case z4 => k_is)
    (case z5 => k_is)
    (case z6 => k_is)
    (case z7 => k_is)
    (case z8 => k_is)
    (case z9 => k_is)
    (case z10 => k_is)
    (case z11 => k_is)
    (case z12 => k_is)
    (case z13 => k_is)
    (case z14 => k_is)
