import PyProof.Rows.All
import Wide.All
import OpenK.AllK
import Wide.FinOn
import HandS.ForMost
import HandS.Wide
import HandS.TupAny
import HandS.Deep
import HandS.IsInst
import HandS.CallLocal
import HandS.Flow
import HandS.More
import HandS.Strs
import HandS.Iter
import HandS.CallRecv
import KE.KDictKeyed
import KE.KDictLaw
import HandS.TupMul
import HandS.TupLen
import PySem.Challenge.RW_foretask_k46_the_first_wrong_reading
set_option linter.all false
set_option exponentiation.threshold 10000
section
set_option maxRecDepth 100000
set_option maxHeartbeats 4000000
/-! Fk0: a small language of values, expressions and statements, and what they compute. -/
namespace FK

/-- data: texts by their signs' numbers; tuples by value; `ref a`: the mutable object number a; `fn x`: the def x; `kd x`: the constant dict x -/
inductive D where
  | non | bl (b : Bool) | int (i : Int) | str (s : List Nat) | tup (xs : List D) | ref (a : Nat) | fn (x : Nat) | kd (x : Nat)
  deriving Inhabited

inductive LO where
  | lst (xs : List D) | scr (ns : List Int) | dic (kvs : List (D × D)) | dlk (kvs : List (D × D)) | ins (C : Nat) (fs : List (Nat × D))
  deriving Inhabited

abbrev LH := List LO
abbrev Lc := List (Option D)

inductive Bop where
  | add | sub | mul | fdiv | mod | pow
  deriving DecidableEq
/-- what a name of a scope is -/
inductive NK where
  | loc | cel | fre | glo
  deriving DecidableEq
abbrev Scp := List (Nat × NK)
/-- built-in functions, methods, types -/
inductive Bf where
  | len | int | tuple | list | str | sum | any | all | min | max | sorted | ord
  deriving DecidableEq
inductive Bm where
  | append | extend | pop | insert | get | index | join | split | strip | replace | isdigit
  deriving DecidableEq
inductive Ty where
  | bool | int | str | tuple | list | dict
  deriving DecidableEq
inductive Cop where
  | eq | ne | lt | le | gt | ge | is | isnot | isin | notin
  deriving DecidableEq

mutual
inductive Tg where
  | nm (i : Nat) | tp (ts : Tgs)
inductive Tgs where
  | nil | cons (t : Tg) (ts : Tgs)
end

mutual
inductive Ex where
  | non | bl (b : Bool) | int (i : Int) | str (s : List Nat)
  | lv (i : Nat) | gv (x : Nat)
  | tup (es : Exs) | lst (es : Exs)
  | bop (o : Bop) (a b : Ex) | neg (a : Ex) | not (a : Ex)
  | cmp (o : Cop) (a b : Ex) | cmp2 (o o' : Cop) (a b c : Ex)
  | and (es : Exs) | or (es : Exs)
  | ix (a i : Ex) | sl (a lo hi : Ex)
  | call (f : Nat) (es : Exs) | mk (C : Nat) (es : Exs) | dnew | blt (f : Bf) (es : Exs) | calv (i : Nat) (es : Exs)
  | isi (a : Ex) (T : Ty)
  | bm (o : Ex) (m : Bm) (es : Exs) | cm (o : Ex) (m : Nat) (es : Exs)
  | fld (o : Ex) (f : Nat)
  | lc (sc : Scp) (e : Ex) (t : Tg) (s : Is) (ts : Exs)
  | lcb (f : Bf) (sc : Scp) (e : Ex) (t : Tg) (s : Is) (ts : Exs)
inductive Exs where
  | nil | cons (e : Ex) (es : Exs)
inductive Is where
  | ex (e : Ex) | rng (es : Exs) | zip (a b : Ex) | rev (a : Ex)
end

mutual
inductive Sm where
  | asg (t : Tg) (e : Ex) | asl (i : Nat) (e : Ex) | six (o i e : Ex) | sfl (o : Ex) (f : Nat) (e : Ex)
  | aug (i : Nat) (o : Bop) (e : Ex) | augf (o : Ex) (f : Nat) (p : Bop) (e : Ex)
  | exp (e : Ex) | ret (e : Ex) | brk | pas
  | ife (c : Ex) (a b : Sms) | whl (c : Ex) (b : Sms) | fr (t : Tg) (s : Is) (b : Sms)
  | del (o i : Ex)
  | lck (i : Nat) (s : Sm)
  | stk
inductive Sms where
  | nil | cons (s : Sm) (ss : Sms)
end

def isNonE : Ex → Bool
  | .non => true
  | _ => false

/-- a def: its slots' names (the parameters first), how many parameters, its body -/
structure Fn where
  nm : List Nat
  np : Nat
  sc : Scp
  dfs : List D := []
  body : Sms

/-- a class: its __init__, the fields that its instances may have, its methods -/
structure Cl where
  ini : Nat
  flds : List Nat
  mts : List (Nat × Nat)
structure Pr where
  fn : Nat → Option Fn
  cls : Nat → Option Cl := fun _ => none
  gv : Nat → Option D
  kd : Nat → Option (List (List Nat × D))

/-! ### data -/
def b2i (b : Bool) : Int := if b then 1 else 0

mutual
/-- Python's == of data without objects -/
def pyeq : D → D → Bool
  | .non, .non => true
  | .bl a, .bl b => a == b
  | .int i, .int j => i == j
  | .bl a, .int j => b2i a == j
  | .int i, .bl b => i == b2i b
  | .str s, .str t => s == t
  | .tup xs, .tup ys => pyeqs xs ys
  | _, _ => false
def pyeqs : List D → List D → Bool
  | [], [] => true
  | x :: xs, y :: ys => pyeq x y && pyeqs xs ys
  | _, _ => false
end

mutual
/-- no object within -/
def pur : D → Bool
  | .tup xs => purs xs
  | .str s => s.all fun c => decide (c < 1114112)
  | .ref _ => false
  | .fn _ => false
  | .kd _ => false
  | _ => true
def purs : List D → Bool
  | [] => true
  | x :: xs => pur x && purs xs
end

mutual
/-- how deep tuples stand within one another -/
def dep : D → Nat
  | .tup xs => deps xs + 1
  | _ => 0
def deps : List D → Nat
  | [] => 0
  | x :: xs => max (dep x) (deps xs)
end
mutual
/-- may be a dict's key: whole numbers, and tuples of such -/
def keyL : D → Bool
  | .int _ => true
  | .tup xs => keyLs xs
  | _ => false
def keyLs : List D → Bool
  | [] => true
  | x :: xs => keyL x && keyLs xs
end
def keyOk : D → Bool
  | .tup xs => keyLs xs && decide (deps xs ≤ 6)
  | _ => false
def dLook (kvs : List (D × D)) (k : D) : Option D := (kvs.find? fun p => pyeq p.1 k).map (·.2)
def dPut (kvs : List (D × D)) (k v : D) : List (D × D) := if kvs.any fun p => pyeq p.1 k then kvs.map fun p => if pyeq p.1 k then (p.1, v) else p else kvs ++ [(k, v)]
def dDel (kvs : List (D × D)) (k : D) : List (D × D) := kvs.filter fun p => !pyeq p.1 k
/-- may be compared -/
def shp (d : D) : Bool := pur d && decide (dep d ≤ 60)
def flat : D → Bool
  | .non => true
  | .bl _ => true
  | .int _ => true
  | .str _ => true
  | _ => false
def SZ : Nat := 16777216

def ixN (n : Nat) (i : Int) : Option Nat := if 0 ≤ i then (if i < n then some i.toNat else none) else if -(n : Int) ≤ i then some (i + n).toNat else none
def atI {α : Type} (xs : List α) (i : Int) : Option α := (ixN xs.length i).bind fun j => xs[j]?
def sIx (n d : Nat) : Option Int → Nat
  | none => d
  | some v => if v < 0 then (v + n).toNat else min v.toNat n
def cut {α : Type} (xs : List α) (lo hi : Option Int) : List α := (xs.drop (sIx xs.length 0 lo)).take (sIx xs.length xs.length hi - sIx xs.length 0 lo)

def mulOk (i j : Int) : Bool := (decide (i.natAbs < 2 ^ 64) || decide (j.natAbs < 2 ^ 64)) || (decide (i.natAbs < 2 ^ 4000) && decide (j.natAbs < 2 ^ 4000))
def divOk (j : Int) : Bool := j != 0 && decide (j.natAbs < 2 ^ 9000)

def alloc (h : LH) (o : LO) : Option (D × LH) := some (.ref h.length, h ++ [o])

/-- the items of a list, the script, a tuple -/
def seqOf (d : D) (h : LH) : Option (List D) :=
  match d with
  | .tup xs => some xs
  | .ref a => match h[a]? with
    | some (.lst xs) => some xs
    | some (.scr ns) => some (ns.map D.int)
    | _ => none
  | _ => none

def binop (o : Bop) (a b : D) (h : LH) : Option (D × LH) :=
  match o, a, b with
  | .add, .int i, .int j => some (.int (i + j), h)
  | .add, .str s, .str t => if s.length + t.length ≤ SZ then some (.str (s ++ t), h) else none
  | .add, .tup xs, .tup ys => if xs.length + ys.length ≤ SZ then some (.tup (xs ++ ys), h) else none
  | .add, .ref p, .ref q => match h[p]?, h[q]? with
    | some (.lst xs), some (.lst ys) => if xs.length + ys.length ≤ SZ then alloc h (.lst (xs ++ ys)) else none
    | _, _ => none
  | .sub, .int i, .int j => some (.int (i - j), h)
  | .mul, .int i, .int j => if mulOk i j then some (.int (i * j), h) else none
  | .mul, .str s, .int j => if -(2 ^ 63) ≤ j ∧ j ≤ SZ ∧ s.length * j.toNat ≤ SZ then some (.str (List.replicate j.toNat s).flatten, h) else none
  | .mul, .tup xs, .int j => if (xs.length ≠ 0 ∧ xs.length ≤ 1000) ∧ 2 ≤ j ∧ j ≤ 1000 then some (.tup (List.replicate j.toNat xs).flatten, h) else none
  | .mul, .ref p, .int j => match h[p]? with
    | some (.lst xs) => if (0 ≤ j ∧ j ≤ 1000000) ∧ xs.length * j.toNat ≤ SZ then alloc h (.lst (List.replicate j.toNat xs).flatten) else none
    | _ => none
  | .fdiv, .int i, .int j => if divOk j then some (.int (i.fdiv j), h) else none
  | .mod, .int i, .int j => if j = 0 then none else some (.int (i.fmod j), h)
  | .pow, .int i, .int j => if 0 ≤ j ∧ j ≤ 1000000 ∧ i.natAbs < 2 ^ 64 then some (.int (i ^ j.toNat), h) else none
  | _, _, _ => none

def isNon : D → Bool
  | .non => true
  | _ => false

variable (P : Pr)

def inop (x c : D) (h : LH) : Option Bool :=
  match c with
  | .str t => match x with
    | .str s => match s with
      | [ch] => some (t.contains ch)
      | _ => none
    | _ => none
  | .kd n => match x with
    | .str s => (P.kd n).map fun kvs => (kvs.lookup s).isSome
    | _ => none
  | .ref a => match h[a]? with
    | some (.lst xs) => if shp x && xs.all shp then some (xs.any fun y => pyeq y x) else none
    | some (.dic kvs) => if keyOk x then some (dLook kvs x).isSome else none
    | some (.dlk kvs) => if keyOk x then some (dLook kvs x).isSome else none
    | _ => none
  | .tup xs => if shp x && xs.all shp then some (xs.any fun y => pyeq y x) else none
  | _ => none

def isB : D → D → Option Bool
  | .bl x, .bl y => some (x == y)
  | _, _ => none
def cmpop (o : Cop) (a b : D) (h : LH) : Option Bool :=
  match o with
  | .eq => if shp a && shp b then some (pyeq a b) else none
  | .ne => if shp a && shp b then some (!pyeq a b) else none
  | .lt => match a, b with
    | .int i, .int j => some (decide (i < j))
    | _, _ => none
  | .le => match a, b with
    | .int i, .int j => some (decide (i ≤ j))
    | _, _ => none
  | .gt => match a, b with
    | .int i, .int j => some (decide (j < i))
    | _, _ => none
  | .ge => match a, b with
    | .int i, .int j => some (decide (j ≤ i))
    | _, _ => none
  | .is => if isNon b then some (isNon a) else isB a b
  | .isnot => if isNon b then some (!isNon a) else (isB a b).map (!·)
  | .isin => inop P a b h
  | .notin => (inop P a b h).map (!·)

def truth (d : D) (h : LH) : Option Bool :=
  match d with
  | .non => some false
  | .bl b => some b
  | .int i => some (i != 0)
  | .str s => if s.length ≤ SZ then some (s.length != 0) else none
  | .tup xs => some (!xs.isEmpty)
  | .ref a => match h[a]? with
    | some (.lst xs) => some (!xs.isEmpty)
    | some (.scr ns) => some (!ns.isEmpty)
    | _ => none
  | _ => none

def chr1 (c : Nat) : D := .str [c]

def getix (a i : D) (h : LH) : Option D :=
  match a, i with
  | .tup xs, .int i => atI xs i
  | .str s, .int i => if s.length ≤ SZ then (atI s i).map chr1 else none
  | .ref p, i => match h[p]? with
    | some (.lst xs) => match i with
      | .int i => atI xs i
      | _ => none
    | some (.scr ns) => match i with
      | .int i => (atI ns i).map D.int
      | _ => none
    | some (.dic kvs) => if keyOk i then dLook kvs i else none
    | some (.dlk kvs) => if keyOk i then dLook kvs i else none
    | _ => none
  | .kd n, .str k => (P.kd n).bind fun kvs => kvs.lookup k
  | _, _ => none

/-- a slice's end (b: it is left out) -/
def ptI (b : Bool) (d : D) : Option (Option Int) := if b then some none else match d with
  | .int i => some (some i)
  | _ => none

def slice (a : D) (l u : Option Int) (h : LH) : Option (D × LH) :=
  match a with
  | .tup xs => some (.tup (cut xs l u), h)
  | .str s => if s.length ≤ SZ then some (.str (cut s l u), h) else none
  | .ref p => match h[p]? with
    | some (.lst xs) => alloc h (.lst (cut xs l u))
    | _ => none
  | _ => none

def lenOf (d : D) (h : LH) : Option Nat :=
  match d with
  | .str s => if s.length ≤ SZ then some s.length else none
  | .tup xs => some xs.length
  | .ref a => match h[a]? with
    | some (.lst xs) => some xs.length
    | some (.scr ns) => some ns.length
    | some (.dic kvs) => some kvs.length
    | some (.dlk kvs) => some kvs.length
    | _ => none
  | _ => none

def isTy (d : D) (T : Ty) (h : LH) : Option Bool :=
  match d with
  | .non => some false
  | .bl _ => some (T == .bool || T == .int)
  | .int _ => some (T == .int)
  | .str _ => some (T == .str)
  | .tup _ => some (T == .tuple)
  | .ref a => match h[a]? with
    | some (.lst _) => some (T == .list)
    | some (.dic _) => some (T == .dict)
    | some (.dlk _) => some (T == .dict)
    | _ => none
  | _ => none

/-- a number's text -/
def numL (i : Int) : List Nat := (toString i).toList.map Char.toNat

/-- a built-in by its name -/
def bltin (f : Bf) (vs : List D) (h : LH) : Option (D × LH) :=
  match f, vs with
  | .len, [d] => (lenOf d h).map fun n => (.int n, h)
  | .int, [.int i] => some (.int i, h)
  | .int, [.bl b] => some (.int (b2i b), h)
  | .tuple, [d] => (seqOf d h).map fun xs => (.tup xs, h)
  | .list, [d] => (seqOf d h).bind fun xs => alloc h (.lst xs)
  | .str, [.int i] => if i.natAbs.log2 < 1920 then some (.str (numL i), h) else none
  | _, _ => none

def setLst (h : LH) (a : Nat) (xs : List D) : LH := h.set a (.lst xs)

def setDic (h : LH) (a : Nat) (kvs : List (D × D)) : LH := h.set a (.dic kvs)
def setIns (h : LH) (a : Nat) (C : Nat) (fs : List (Nat × D)) : LH := h.set a (.ins C fs)
def putL (f : Nat) (d : D) : List (Nat × D) → List (Nat × D)
  | [] => [(f, d)]
  | p :: r => if p.1 = f then (f, d) :: r else p :: putL f d r
/-- the dict, walked or not -/
def dOf : Option LO → Option (List (D × D))
  | some (.dic kvs) => some kvs
  | some (.dlk kvs) => some kvs
  | _ => none
/-- the built-in type of a value that has methods -/
def tyOf (d : D) (h : LH) : Option Ty :=
  match d with
  | .str _ => some .str
  | .tup _ => some .tuple
  | .ref a => match h[a]? with
    | some (.lst _) => some .list
    | some (.dic _) => some .dict
    | some (.dlk _) => some .dict
    | _ => none
  | _ => none
/-- texts alone -/
def strsL : List D → Option (List (List Nat))
  | [] => some []
  | .str s :: r => (strsL r).map (s :: ·)
  | _ :: _ => none
def joinL (sep : List Nat) : List (List Nat) → List Nat
  | [] => []
  | [s] => s
  | s :: r => s ++ sep ++ joinL sep r
/-- the first place of s -/
def idxL (s : List Nat) : List (List Nat) → Option Nat
  | [] => none
  | t :: r => if t = s then some 0 else (idxL s r).map (· + 1)
/-- a method of a built-in value -/
def method (T : Ty) (d : D) (m : Bm) (vs : List D) (h : LH) : Option (D × LH) :=
  match T, m with
  | .list, .append => match d, vs with
    | .ref a, [v] => match h[a]? with
      | some (.lst xs) => if xs.length < SZ then some (.non, setLst h a (xs ++ [v])) else none
      | _ => none
    | _, _ => none
  | .list, .extend => match d, vs with
    | .ref a, [.ref b] => match h[a]?, h[b]? with
      | some (.lst xs), some (.lst ys) => if xs.length + ys.length ≤ SZ ∧ a ≠ b then some (.non, setLst h a (xs ++ ys)) else none
      | _, _ => none
    | _, _ => none
  | .list, .insert => match d, vs with
    | .ref a, [.int i, v] => match h[a]? with
      | some (.lst xs) => if xs.length < SZ ∧ 0 ≤ i ∧ i ≤ xs.length then some (.non, setLst h a (xs.take i.toNat ++ [v] ++ xs.drop i.toNat)) else none
      | _ => none
    | _, _ => none
  | .list, .pop => match d, vs with
    | .ref a, [.int i] => match h[a]? with
      | some (.lst xs) => match xs with
        | x :: r => if i = 0 then some (x, setLst h a r) else none
        | [] => none
      | _ => none
    | _, _ => none
  | .tuple, .index => match d, vs with
    | .tup xs, [.str s] => (strsL xs).bind fun ss => (idxL s ss).map fun (j : Nat) => (D.int (j : Int), h)
    | _, _ => none
  | .dict, .get => match d, vs with
    | .ref a, [k, v] => match h[a]? with
      | some (.dic kvs) => if keyOk k then some ((dLook kvs k).getD v, h) else none
      | some (.dlk kvs) => if keyOk k then some ((dLook kvs k).getD v, h) else none
      | _ => none
    | _, _ => none
  | .dict, .pop => match d, vs with
    | .ref a, [k] => match h[a]? with
      | some (.dic kvs) => if keyOk k then (dLook kvs k).map fun v => (v, setDic h a (dDel kvs k)) else none
      | _ => none
    | _, _ => none
  | .str, .join => match d, vs with
    | .str s, [.ref a] => match h[a]? with
      | some (.lst xs) => (strsL xs).bind fun ss => if (ss.map List.length).sum + ss.length * s.length ≤ SZ then some (.str (joinL s ss), h) else none
      | _ => none
    | .str s, [.tup xs] => (strsL xs).bind fun ss => if (ss.map List.length).sum + ss.length * s.length ≤ SZ then some (.str (joinL s ss), h) else none
    | _, _ => none
  | _, _ => none
def bls : List D → Option (List Bool)
  | [] => some []
  | .bl b :: r => (bls r).map (b :: ·)
  | _ :: _ => none
def nums : List D → Option (List Int)
  | [] => some []
  | .int i :: r => (nums r).map (i :: ·)
  | _ :: _ => none
/-- a built-in of a list of its own -/
def lcbF (f : Bf) (xs : List D) : Option D :=
  match f with
  | .tuple => some (.tup xs)
  | .len => some (.int xs.length)
  | .any => (bls xs).map fun bs => .bl (bs.any id)
  | .all => (bls xs).map fun bs => .bl (bs.all id)
  | .sum => (nums xs).map fun ns => .int ns.sum
  | _ => none

/-! ### loops -/
/-- how a statement ends -/
inductive Fl where
  | nx | bk | rt (d : D)

/-- a list that is walked stays as it is -/
def stays (g : Option Nat) (xs : List D) (h : LH) : Prop := match g with
  | none => True
  | some a => seqOf (.ref a) h = some xs

open Classical in
noncomputable def forL (asg : D → Lc → Option Lc) (body : Lc → LH → Option (Fl × Lc × LH)) (g : Option Nat) (all : List D) : List D → Lc → LH → Option (Fl × Lc × LH)
  | [], σ, h => some (.nx, σ, h)
  | x :: r, σ, h => (asg x σ).bind fun σ1 => (body σ1 h).bind fun p => match p with
    | (.nx, σ2, h2) => if stays g all h2 then forL asg body g all r σ2 h2 else none
    | (.bk, σ2, h2) => some (.nx, σ2, h2)
    | (.rt d, σ2, h2) => some (.rt d, σ2, h2)

open Classical in
/-- a comprehension: the items so far, the items to come -/
noncomputable def lcL (asg : D → Lc → Option Lc) (test : Lc → LH → Option (Bool × LH)) (elt : Lc → LH → Option (D × LH)) (g : Option Nat) (all : List D) (σ : Lc) : List D → List D → LH → Option (List D × LH)
  | acc, [], h => some (acc, h)
  | acc, x :: r, h => (asg x σ).bind fun σ1 => (test σ1 h).bind fun p =>
    if p.1 then (elt σ1 p.2).bind fun q => if stays g all q.2 ∧ acc.length < SZ then lcL asg test elt g all σ (acc ++ [q.1]) r q.2 else none
    else if stays g all p.2 then lcL asg test elt g all σ acc r p.2 else none

/-- n turns at most -/
def iterN {S B : Type} (f : S → Option (S ⊕ B)) : Nat → S → Option B
  | 0, _ => none
  | n + 1, s => match f s with
    | none => none
    | some (.inl s') => iterN f n s'
    | some (.inr b) => some b
open Classical in
noncomputable def iter {S B : Type} (f : S → Option (S ⊕ B)) (s : S) : Option B :=
  if h : ∃ n b, iterN f n s = some b then some (choose (choose_spec h)) else none

theorem iterN_det {S B : Type} {f : S → Option (S ⊕ B)} : ∀ {n m : Nat} {s : S} {b c : B}, iterN f n s = some b → iterN f m s = some c → b = c
  | 0, _, _, _, _, h, _ => by simp [iterN] at h
  | _ + 1, 0, _, _, _, _, h => by simp [iterN] at h
  | n + 1, m + 1, s, b, c, h1, h2 => by
    unfold iterN at h1 h2
    cases e : f s with
    | none => rw [e] at h1; cases h1
    | some r =>
      rw [e] at h1 h2
      cases r with
      | inl s' => exact iterN_det (n := n) (m := m) h1 h2
      | inr d => cases h1; cases h2; rfl
theorem iter_some {S B : Type} {f : S → Option (S ⊕ B)} {s : S} {b : B} : iter f s = some b ↔ ∃ n, iterN f n s = some b := by
  unfold iter
  split
  · rename_i h
    have e := Classical.choose_spec (Classical.choose_spec h)
    constructor
    · intro q
      cases q
      exact ⟨_, e⟩
    · rintro ⟨n, q⟩
      rw [iterN_det e q]
  · rename_i h
    constructor
    · intro q; cases q
    · rintro ⟨n, q⟩; exact (h ⟨n, b, q⟩).elim
theorem iter_none {S B : Type} {f : S → Option (S ⊕ B)} {s : S} (e : f s = none) : iter f s = none := by
  cases q : iter f s with
  | none => rfl
  | some b =>
    obtain ⟨n, h⟩ := iter_some.mp q
    cases n with
    | zero => simp [iterN] at h
    | succ n => unfold iterN at h; rw [e] at h; cases h
theorem iter_inr {S B : Type} {f : S → Option (S ⊕ B)} {s : S} {b : B} (e : f s = some (.inr b)) : iter f s = some b :=
  iter_some.mpr ⟨1, by unfold iterN; rw [e]⟩
theorem iter_inl {S B : Type} {f : S → Option (S ⊕ B)} {s s' : S} (e : f s = some (.inl s')) : iter f s = iter f s' := by
  have key : ∀ b, iter f s = some b ↔ iter f s' = some b := by
    intro b
    rw [iter_some, iter_some]
    constructor
    · rintro ⟨n, h⟩
      cases n with
      | zero => simp [iterN] at h
      | succ n => unfold iterN at h; rw [e] at h; exact ⟨n, h⟩
    · rintro ⟨n, h⟩
      exact ⟨n + 1, by unfold iterN; rw [e]; exact h⟩
  cases q : iter f s' with
  | none =>
    cases r : iter f s with
    | none => rfl
    | some b => rw [(key b).mp r] at q; cases q
  | some b => exact (key b).mpr q

/-! ### targets -/
def setSl (i : Nat) (d : D) (σ : Lc) : Option Lc := if i < σ.length then some (σ.set i (some d)) else none
mutual
def tgA : Tg → D → Lc → Option Lc
  | .nm i, d, σ => setSl i d σ
  | .tp ts, d, σ => match d with
    | .tup xs => tgsA ts xs σ
    | _ => none
def tgsA : Tgs → List D → Lc → Option Lc
  | .nil, xs, σ => if xs.isEmpty then some σ else none
  | .cons t ts, xs, σ => match xs with
    | x :: r => (tgA t x σ).bind fun σ1 => tgsA ts r σ1
    | [] => none
end
mutual
def tgSl : Tg → List Nat
  | .nm i => [i]
  | .tp ts => tgsSl ts
def tgsSl : Tgs → List Nat
  | .nil => []
  | .cons t ts => tgSl t ++ tgsSl ts
end
/-- the slots vs hold nothing -/
def wipe (σ : Lc) : List Nat → Lc
  | [] => σ
  | v :: vs => (wipe σ vs).set v none

/-- `if` that the kernel cannot open -/
noncomputable def cIf {α : Type} (c : Prop) (a b : α) : α := @ite α c (Classical.propDecidable c) a b
theorem cIf_pos {α : Type} {c : Prop} {a b : α} (h : c) : cIf c a b = a := if_pos h
theorem cIf_some {α : Type} {c : Prop} {a : Option α} {x : α} (h : cIf c a none = some x) : c ∧ a = some x := by
  unfold cIf at h
  split at h
  · exact ⟨by assumption, h⟩
  · cases h
noncomputable def rngOf : List D → Option (List D)
  | [.int n] => cIf (-(2 ^ 62) ≤ n ∧ n < 2 ^ 62) (some ((List.range n.toNat).map fun (k : Nat) => D.int k)) none
  | [.int a, .int b] => cIf ((-(2 ^ 62) ≤ a ∧ a < 2 ^ 62) ∧ -(2 ^ 62) ≤ b ∧ b < 2 ^ 62) (some ((List.range (b - a).toNat).map fun (k : Nat) => D.int (a + k))) none
  | _ => none

/-- what is walked: its items, the object that must stay -/
def walkOf (d : D) (h : LH) : Option (List D × Option Nat) :=
  match d with
  | .tup xs => some (xs, none)
  | .ref a => match h[a]? with
    | some (.dlk kvs) => some (kvs.map (·.1), none)
    | _ => (seqOf (.ref a) h).map fun xs => (xs, some a)
  | .str s => if s.length ≤ SZ then some (s.map chr1, none) else none
  | _ => none

/-- the class's instances may have the field -/
def fldOk (C f : Nat) : Bool := match P.cls C with
  | some c => c.flds.contains f
  | none => false
def litOk (n : Nat) : Bool := decide (n ≤ 1000)

variable (cl : Nat → List D → LH → Option (D × LH))

mutual
noncomputable def evE : Ex → Lc → LH → Option (D × LH)
  | .non, _, h => some (.non, h)
  | .bl b, _, h => some (.bl b, h)
  | .int i, _, h => some (.int i, h)
  | .str s, _, h => some (.str s, h)
  | .lv i, σ, h => match σ[i]? with
    | some (some d) => some (d, h)
    | _ => none
  | .gv x, _, h => (P.gv x).map fun d => (d, h)
  | .tup es, σ, h => (evEs es σ h).bind fun p => if p.1.length ≤ SZ then some (.tup p.1, p.2) else none
  | .lst es, σ, h => (evEs es σ h).bind fun p => if p.1.length ≤ SZ then alloc p.2 (.lst p.1) else none
  | .dnew, _, h => alloc h (.dic [])
  | .mk C es, σ, h => (P.cls C).bind fun c => (evEs es σ h).bind fun p => (alloc p.2 (.ins C [])).bind fun q => (cl c.ini (q.1 :: p.1) q.2).bind fun r => if isNon r.1 then some (q.1, r.2) else none
  | .bop o a b, σ, h => (evE a σ h).bind fun p => (evE b σ p.2).bind fun q => binop o p.1 q.1 q.2
  | .neg a, σ, h => (evE a σ h).bind fun p => match p.1 with
    | .int i => some (.int (-i), p.2)
    | _ => none
  | .not a, σ, h => (evE a σ h).bind fun p => (truth p.1 p.2).map fun b => (.bl (!b), p.2)
  | .cmp o a b, σ, h => (evE a σ h).bind fun p => (evE b σ p.2).bind fun q => (cmpop P o p.1 q.1 q.2).map fun c => (.bl c, q.2)
  | .cmp2 o o' a b c, σ, h => (evE a σ h).bind fun p => (evE b σ p.2).bind fun q => (cmpop P o p.1 q.1 q.2).bind fun k =>
      if k then (evE c σ q.2).bind fun r => (cmpop P o' q.1 r.1 r.2).map fun k' => (.bl k', r.2) else some (.bl false, q.2)
  | .and es, σ, h => evAnd es σ h
  | .or es, σ, h => evOr es σ h
  | .ix a i, σ, h => (evE a σ h).bind fun p => (evE i σ p.2).bind fun q => (getix P p.1 q.1 q.2).map fun d => (d, q.2)
  | .sl a lo hi, σ, h => (evE a σ h).bind fun p => (evE lo σ p.2).bind fun q => (evE hi σ q.2).bind fun r => (ptI (isNonE lo) q.1).bind fun l => (ptI (isNonE hi) r.1).bind fun u => slice p.1 l u r.2
  | .call f es, σ, h => (evEs es σ h).bind fun p => cl f p.1 p.2
  | .blt f es, σ, h => (evEs es σ h).bind fun p => bltin f p.1 p.2
  | .calv i es, σ, h => match σ[i]? with
    | some (some (.fn f)) => (evEs es σ h).bind fun p => cl f p.1 p.2
    | _ => none
  | .isi a T, σ, h => (evE a σ h).bind fun p => (isTy p.1 T p.2).map fun b => (.bl b, p.2)
  | .bm o m es, σ, h => (evE o σ h).bind fun p => (tyOf p.1 p.2).bind fun T => (evEs es σ p.2).bind fun q => method T p.1 m q.1 q.2
  | .cm o m es, σ, h => (evE o σ h).bind fun p => match p.1 with
    | .ref a => match p.2[a]? with
      | some (.ins C _) => ((P.cls C).bind fun c => c.mts.lookup m).bind fun f => (evEs es σ p.2).bind fun q => cl f (.ref a :: q.1) q.2
      | _ => none
    | _ => none
  | .fld o f, σ, h => (evE o σ h).bind fun p => match p.1 with
    | .ref a => match p.2[a]? with
      | some (.ins _ fs) => (fs.lookup f).map fun d => (d, p.2)
      | _ => none
    | _ => none
  | .lc _ e t s ts, σ, h => (evIs s σ h).bind fun p => (lcL (tgA t) (evTs ts) (evE e) p.2.1 p.1 (wipe σ (tgSl t)) [] p.1 p.2.2).bind fun q => alloc q.2 (.lst q.1)
  | .lcb f _ e t s ts, σ, h => (evIs s σ h).bind fun p => (lcL (tgA t) (evTs ts) (evE e) p.2.1 p.1 (wipe σ (tgSl t)) [] p.1 p.2.2).bind fun q => (lcbF f q.1).map fun d => (d, q.2)
noncomputable def evEs : Exs → Lc → LH → Option (List D × LH)
  | .nil, _, h => some ([], h)
  | .cons e es, σ, h => (evE e σ h).bind fun p => (evEs es σ p.2).bind fun q => some (p.1 :: q.1, q.2)
noncomputable def evAnd : Exs → Lc → LH → Option (D × LH)
  | .nil, _, _ => none
  | .cons e .nil, σ, h => evE e σ h
  | .cons e es, σ, h => (evE e σ h).bind fun p => (truth p.1 p.2).bind fun b => if b then evAnd es σ p.2 else some p
noncomputable def evOr : Exs → Lc → LH → Option (D × LH)
  | .nil, _, _ => none
  | .cons e .nil, σ, h => evE e σ h
  | .cons e es, σ, h => (evE e σ h).bind fun p => (truth p.1 p.2).bind fun b => if b then some p else evOr es σ p.2
/-- the tests of a comprehension -/
noncomputable def evTs : Exs → Lc → LH → Option (Bool × LH)
  | .nil, _, h => some (true, h)
  | .cons e es, σ, h => (evE e σ h).bind fun p => (truth p.1 p.2).bind fun b => if b then evTs es σ p.2 else some (false, p.2)
noncomputable def evIs : Is → Lc → LH → Option (List D × Option Nat × LH)
  | .ex e, σ, h => (evE e σ h).bind fun p => (walkOf p.1 p.2).map fun w => (w.1, w.2, p.2)
  | .rng es, σ, h => (evEs es σ h).bind fun p => (rngOf p.1).map fun xs => (xs, none, p.2)
  | .zip _ _, _, _ => none
  | .rev _, _, _ => none
end

def whlF (test : Lc → LH → Option (Bool × LH)) (body : Lc → LH → Option (Fl × Lc × LH)) (s : Lc × LH) : Option ((Lc × LH) ⊕ (Fl × Lc × LH)) :=
  (test s.1 s.2).bind fun p => if p.1 then (body s.1 p.2).bind fun q => match q with
    | (.nx, σ2, h2) => some (.inl (σ2, h2))
    | (.bk, σ2, h2) => some (.inr (.nx, σ2, h2))
    | (.rt d, σ2, h2) => some (.inr (.rt d, σ2, h2))
  else some (.inr (.nx, s.1, p.2))

noncomputable def tsE (e : Ex) (σ : Lc) (h : LH) : Option (Bool × LH) := (evE P cl e σ h).bind fun p => (truth p.1 p.2).map fun b => (b, p.2)

mutual
noncomputable def evS : Sm → Lc → LH → Option (Fl × Lc × LH)
  | .asg t e, σ, h => (evE P cl e σ h).bind fun p => (tgA t p.1 σ).map fun σ1 => (.nx, σ1, p.2)
  | .six o i e, σ, h => (evE P cl e σ h).bind fun p => (evE P cl o σ p.2).bind fun q => (evE P cl i σ q.2).bind fun r =>
      match q.1 with
      | .ref a => match r.2[a]? with
        | some (.lst xs) => match r.1 with
          | .int k => (ixN xs.length k).map fun j => (.nx, σ, setLst r.2 a (xs.set j p.1))
          | _ => none
        | some (.dic kvs) => if keyOk r.1 ∧ kvs.length < SZ then some (.nx, σ, setDic r.2 a (dPut kvs r.1 p.1)) else none
        | _ => none
      | _ => none
  | .asl i e, σ, h => (evE P cl e σ h).bind fun p => (setSl i p.1 σ).map fun σ1 => (.nx, σ1, p.2)
  | .sfl o f e, σ, h => (evE P cl e σ h).bind fun p => (evE P cl o σ p.2).bind fun q =>
      match q.1 with
      | .ref a => match q.2[a]? with
        | some (.ins C fs) => if fldOk P C f ∧ fs.length < 100 then some (.nx, σ, setIns q.2 a C (putL f p.1 fs)) else none
        | _ => none
      | _ => none
  | .aug i o e, σ, h => match σ[i]? with
    | some (some d) => (evE P cl e σ h).bind fun p => match d, p.1 with
      | .int x, .int y => (binop o (.int x) (.int y) p.2).bind fun q => (setSl i q.1 σ).map fun σ1 => (.nx, σ1, q.2)
      | _, _ => none
    | _ => none
  | .augf o f b e, σ, h => (evE P cl o σ h).bind fun q =>
      match q.1 with
      | .ref a => match q.2[a]? with
        | some (.ins C fs) => (fs.lookup f).bind fun d => (evE P cl e σ q.2).bind fun p => match d, p.1 with
          | .int x, .int y => (binop b (.int x) (.int y) p.2).bind fun z => match z.2[a]? with
            | some (.ins C' fs') => if C' = C ∧ fldOk P C f ∧ fs'.length < 100 then some (.nx, σ, setIns z.2 a C (putL f z.1 fs')) else none
            | _ => none
          | _, _ => none
        | _ => none
      | _ => none
  | .exp e, σ, h => (evE P cl e σ h).map fun p => (.nx, σ, p.2)
  | .ret e, σ, h => (evE P cl e σ h).map fun p => (.rt p.1, σ, p.2)
  | .brk, σ, h => some (.bk, σ, h)
  | .pas, σ, h => some (.nx, σ, h)
  | .ife c a b, σ, h => (tsE P cl c σ h).bind fun p => if p.1 then evSs a σ p.2 else evSs b σ p.2
  | .whl c b, σ, h => iter (whlF (tsE P cl c) (evSs b)) (σ, h)
  | .fr t s b, σ, h => (evIs P cl s σ h).bind fun p => forL (tgA t) (evSs b) p.2.1 p.1 p.1 σ p.2.2
  | .del o i, σ, h => (evE P cl o σ h).bind fun q => (evE P cl i σ q.2).bind fun r =>
      match q.1 with
      | .ref a => match r.2[a]? with
        | some (.dic kvs) => if keyOk r.1 then (dLook kvs r.1).map fun _ => (.nx, σ, setDic r.2 a (dDel kvs r.1)) else none
        | _ => none
      | _ => none
  | .lck i s, σ, h => match σ[i]? with
    | some (some (.ref a)) => match h[a]? with
      | some (.dic kvs) => (evS s σ (h.set a (.dlk kvs))).bind fun r => match r.2.2[a]? with
        | some (.dlk _) => some (r.1, r.2.1, setDic r.2.2 a kvs)
        | _ => none
      | _ => none
    | _ => none
  | .stk, _, _ => none
noncomputable def evSs : Sms → Lc → LH → Option (Fl × Lc × LH)
  | .nil, σ, h => some (.nx, σ, h)
  | .cons s ss, σ, h => (evS s σ h).bind fun p => match p with
    | (.nx, σ1, h1) => evSs ss σ1 h1
    | (.bk, σ1, h1) => some (.bk, σ1, h1)
    | (.rt d, σ1, h1) => some (.rt d, σ1, h1)
end

def start (F : Fn) (vs : List D) : Lc := vs.map some ++ List.replicate (F.nm.length - vs.length) none
/-- the arguments, filled up by the defaults -/
def fill (F : Fn) (vs : List D) : Option (List D) := if vs.length ≤ F.np ∧ F.np - vs.length ≤ F.dfs.length then some (vs ++ F.dfs.drop (F.dfs.length - (F.np - vs.length))) else none

/-- a call, k calls deep -/
noncomputable def callN : Nat → Nat → List D → LH → Option (D × LH)
  | 0, _, _, _ => none
  | k + 1, f, vs, h => (P.fn f).bind fun F => (fill F vs).bind fun vs' => (evSs P (callN k) F.body (start F vs') h).bind fun p => match p with
    | (.nx, _, h') => some (.non, h')
    | (.rt d, _, h') => some (d, h')
    | (.bk, _, _) => none

end FK

end
section
set_option maxRecDepth 100000
set_option maxHeartbeats 4000000
/-! Fk1: how the small language stands for the program's text, and what its values are in the machine. -/
namespace FK
open PySem PySem.Spec PyProof.Rows L2

/-! ### names and texts -/
/-- a name is its signs' numbers, read to the base 128 -/
def dig : Nat → Nat → List Nat → List Nat
  | 0, _, acc => acc
  | f + 1, n, acc => if n = 0 then acc else dig f (n / 128) (n % 128 :: acc)
def txS (l : List Nat) : Str := Str.ofString (String.ofList (l.map Char.ofNat))
def nmS (n : Nat) : Str := txS (dig 64 n [])
def ascii (l : List Nat) : Bool := l.all fun c => decide (c < 128)

theorem txS_eq {l : List Nat} (h : ascii l = true) : txS l = ⟨l.toArray⟩ := by
  unfold txS
  rw [Str.ofString_eq_toList, String.toList_ofList, List.map_map]
  have e : l.map (Char.toNat ∘ Char.ofNat) = l := by
    have h' : ∀ c ∈ l, c < 128 := fun c hc => of_decide_eq_true (List.all_eq_true.mp h c hc)
    clear h
    induction l with
    | nil => rfl
    | cons a r ih =>
      rw [List.map_cons, ih fun c hc => h' c (List.mem_cons_of_mem _ hc)]
      have ha := h' a List.mem_cons_self
      have : (Char.ofNat a).toNat = a := by
        have hv : a.isValidChar := Or.inl (by omega)
        simp [Char.ofNat, hv, Char.toNat, Char.ofNatAux]
      rw [Function.comp_apply, this]
  rw [e]

theorem dig_lt : ∀ (f n : Nat) (acc : List Nat), (∀ c ∈ acc, c < 128) → ∀ c ∈ dig f n acc, c < 128
  | 0, _, _, h => h
  | f + 1, n, acc, h => by
    unfold dig
    split
    · exact h
    · exact dig_lt f _ _ fun c hc => by
        rcases List.mem_cons.mp hc with rfl | hc
        · exact Nat.mod_lt _ (by decide)
        · exact h c hc
theorem dig_ascii (n : Nat) : ascii (dig 64 n []) = true := List.all_eq_true.mpr fun c hc => decide_eq_true (dig_lt 64 n [] (by simp) c hc)
/-- reading back -/
def undig (l : List Nat) (a : Nat) : Nat := l.foldl (fun a c => a * 128 + c) a
theorem undig_dig : ∀ (f n : Nat) (acc : List Nat), n < 128 ^ f → undig (dig f n acc) 0 = undig acc n
  | 0, n, acc, h => by
    have : n = 0 := by simpa using h
    subst this
    rfl
  | f + 1, n, acc, h => by
    unfold dig
    split
    · rename_i e; subst e; rfl
    · rw [undig_dig f _ _ (by rw [Nat.pow_succ] at h; omega)]
      show undig acc (n / 128 * 128 + n % 128) = undig acc n
      rw [Nat.div_add_mod']
theorem nmS_inj {a b : Nat} (ha : a < 128 ^ 64) (hb : b < 128 ^ 64) (e : nmS a = nmS b) : a = b := by
  unfold nmS at e
  rw [txS_eq (dig_ascii a), txS_eq (dig_ascii b)] at e
  have e1 : dig 64 a [] = dig 64 b [] := by
    have := congrArg (fun s => s.cps.toList) e
    simpa using this
  have h1 := undig_dig 64 a [] ha
  have h2 := undig_dig 64 b [] hb
  rw [e1, h2] at h1
  exact h1.symm

/-! ### the text that an expression stands for: the positions are those of the text -/
def bopO : Bop → Operator
  | .add => .Add | .sub => .Sub | .mul => .Mult | .fdiv => .FloorDiv | .mod => .Mod | .pow => .Pow
def copO : Cop → CmpOp
  | .eq => .Eq | .ne => .NotEq | .lt => .Lt | .le => .LtE | .gt => .Gt | .ge => .GtE | .is => .Is | .isnot => .IsNot | .isin => .In | .notin => .NotIn
def bfS : Bf → Str
  | .len => "len" | .int => "int" | .tuple => "tuple" | .list => "list" | .str => "str" | .sum => "sum" | .any => "any" | .all => "all" | .min => "min" | .max => "max" | .sorted => "sorted" | .ord => "ord"
def bmS : Bm → Str
  | .append => "append" | .extend => "extend" | .pop => "pop" | .insert => "insert" | .get => "get" | .index => "index" | .join => "join" | .split => "split" | .strip => "strip" | .replace => "replace" | .isdigit => "isdigit"
def tyS : Ty → Str
  | .bool => "bool" | .int => "int" | .str => "str" | .tuple => "tuple" | .list => "list" | .dict => "dict"
def nkK : NK → NameKind
  | .loc => .local | .cel => .cell | .fre => .free | .glo => .globalImplicit
def scN (sc : Scp) : List (Str × NameKind) := sc.map fun p => (nmS p.1, nkK p.2)

def P0 : Pos := ⟨0, 0, 0, 0⟩
/-- another expression than e -/
def bad : Expr → Expr
  | .Constant _ _ _ => .Name "" P0
  | _ => .Constant .ellipsis 0 P0
theorem bad_ne (e : Expr) : bad e ≠ e := by
  cases e <;> (intro h; cases h)

mutual
def reT (N : List Nat) : Tg → Expr → Expr
  | .nm i, .Name _ p => .Name (nmS (N.getD i 0)) p
  | .tp ts, .Tuple l k p => .Tuple (reTs N ts l) k p
  | _, e => bad e
def reTs (N : List Nat) : Tgs → List Expr → List Expr
  | .nil, _ => []
  | .cons t ts, e :: es => reT N t e :: reTs N ts es
  | .cons _ _, [] => [.Name "" P0]
end

/-- a part that may be left out (b: it is) -/
def opE (b : Bool) (f : Expr → Expr) : Option Expr → Option Expr
  | none => if b then none else some (.Name "" P0)
  | some e => if b then none else some (f e)
mutual
def reE (N : List Nat) : Ex → Expr → Expr
  | .non, .Constant _ k p => .Constant .none k p
  | .bl b, .Constant _ k p => .Constant (.bool b) k p
  | .int i, .Constant _ k p => .Constant (.int i) k p
  | .str s, .Constant _ k p => .Constant (.str (txS s)) k p
  | .lv i, .Name _ p => .Name (nmS (N.getD i 0)) p
  | .gv x, .Name _ p => .Name (nmS x) p
  | .tup es, .Tuple l k p => .Tuple (reEs N es l) k p
  | .lst es, .List l p => .List (reEs N es l) p
  | .bop o a b, .BinOp l _ r p => .BinOp (reE N a l) (bopO o) (reE N b r) p
  | .neg a, .UnaryOp _ x p => .UnaryOp .USub (reE N a x) p
  | .not a, .UnaryOp _ x p => .UnaryOp .Not (reE N a x) p
  | .cmp o a b, .Compare l _ (r :: _) p => .Compare (reE N a l) [copO o] [reE N b r] p
  | .cmp2 o o' a b c, .Compare l _ (r :: r' :: _) p => .Compare (reE N a l) [copO o, copO o'] [reE N b r, reE N c r'] p
  | .and es, .BoolOp _ l p => .BoolOp .And (reEs N es l) p
  | .or es, .BoolOp _ l p => .BoolOp .Or (reEs N es l) p
  | .ix a i, .Subscript v s p => .Subscript (reE N a v) (reE N i s) p
  | .sl a lo hi, .Subscript v (.Slice l h _ p2) p => .Subscript (reE N a v) (.Slice (opE (isNonE lo) (reE N lo) l) (opE (isNonE hi) (reE N hi) h) none p2) p
  | .call f es, .Call (.Name _ p1) l _ p => .Call (.Name (nmS f) p1) (reEs N es l) [] p
  | .mk f es, .Call (.Name _ p1) l _ p => .Call (.Name (nmS f) p1) (reEs N es l) [] p
  | .dnew, .Dict _ _ p => .Dict [] [] p
  | .blt f es, .Call (.Name _ p1) l _ p => .Call (.Name (bfS f) p1) (reEs N es l) [] p
  | .calv i es, .Call (.Name _ p1) l _ p => .Call (.Name (nmS (N.getD i 0)) p1) (reEs N es l) [] p
  | .isi a T, .Call (.Name _ p1) (x :: .Name _ p2 :: _) _ p => .Call (.Name "isinstance" p1) [reE N a x, .Name (tyS T) p2] [] p
  | .bm o m es, .Call (.Attribute v _ p1) l _ p => if (p1.endLine == p.line) = true then .Call (.Attribute (reE N o v) (bmS m) p1) (reEs N es l) [] p else .Constant .ellipsis 0 P0
  | .cm o m es, .Call (.Attribute v _ p1) l _ p => if (p1.endLine == p.line) = true then .Call (.Attribute (reE N o v) (nmS m) p1) (reEs N es l) [] p else .Constant .ellipsis 0 P0
  | .fld o f, .Attribute v _ p => .Attribute (reE N o v) (nmS f) p
  | .lc sc e t s ts, .ListComp x (⟨tg, it, ifs, _⟩ :: _) scope p => .ListComp (reE N e x) [⟨reT N t tg, reI N s it, reEs N ts ifs, 0⟩] { scope with kind := .function, names := scN sc } p
  | .lcb f sc e t s ts, .Call (.Name _ p1) (.ListComp x (⟨tg, it, ifs, _⟩ :: _) scope p2 :: _) _ p =>
      .Call (.Name (bfS f) p1) [.ListComp (reE N e x) [⟨reT N t tg, reI N s it, reEs N ts ifs, 0⟩] { scope with kind := .function, names := scN sc } p2] [] p
  | _, e => bad e
def reEs (N : List Nat) : Exs → List Expr → List Expr
  | .nil, _ => []
  | .cons e' es', e :: es => reE N e' e :: reEs N es' es
  | .cons _ _, [] => [.Name "" P0]
def reI (N : List Nat) : Is → Expr → Expr
  | .ex e', e => reE N e' e
  | .rng es, .Call (.Name _ p1) l _ p => .Call (.Name "range" p1) (reEs N es l) [] p
  | _, e => bad e
end

def reR (N : List Nat) : Ex → Option Expr → Option Expr
  | e', some e => some (reE N e' e)
  | .non, none => none
  | _, none => some (.Name "" P0)

def badS : Stmt → Stmt
  | .Pass _ => .Break P0
  | _ => .Pass P0
theorem badS_ne (e : Stmt) : badS e ≠ e := by
  cases e <;> (intro h; cases h)
mutual
def reS (N : List Nat) : Sm → Stmt → Stmt
  | .asg t e, .Assign (tg :: _) v p => .Assign [reT N t tg] (reE N e v) p
  | .six o i e, .Assign (.Subscript a b p1 :: _) v p => .Assign [.Subscript (reE N o a) (reE N i b) p1] (reE N e v) p
  | .asl i e, .Assign (.Name _ p1 :: _) v p => if (p1.line == v.pos.line) = true then .Assign [.Name (nmS (N.getD i 0)) p1] (reE N e v) p else .Pass P0
  | .sfl o f e, .Assign (.Attribute a _ p1 :: _) v p => .Assign [.Attribute (reE N o a) (nmS f) p1] (reE N e v) p
  | .augf o f b e, .AugAssign (.Attribute a _ p1) _ v p => .AugAssign (.Attribute (reE N o a) (nmS f) p1) (bopO b) (reE N e v) p
  | .del o i, .Delete (.Subscript a b p1 :: _) p => .Delete [.Subscript (reE N o a) (reE N i b) p1] p
  | .aug i o e, .AugAssign (.Name _ p1) _ v p => .AugAssign (.Name (nmS (N.getD i 0)) p1) (bopO o) (reE N e v) p
  | .exp e, .Expr v p => .Expr (reE N e v) p
  | .ret e, .Return v p => .Return (reR N e v) p
  | .brk, .Break p => .Break p
  | .pas, .Pass p => .Pass p
  | .ife c a b, .If t x y p => .If (reE N c t) (reSs N a x) (reSs N b y) p
  | .whl c b, .While t x _ p => .While (reE N c t) (reSs N b x) [] p
  | .fr t s b, .For tg it x _ p => .For (reT N t tg) (reI N s it) (reSs N b x) [] p
  | .lck _ s', s => reS N s' s
  | .stk, s => s
  | _, s => badS s
def reSs (N : List Nat) : Sms → List Stmt → List Stmt
  | .nil, _ => []
  | .cons s' ss', s :: ss => reS N s' s :: reSs N ss' ss
  | .cons _ _, [] => [.Pass P0]
end

/-! ### data in the machine -/
abbrev MM := Nat → Option Addr
/-- a tuple stands at p, with no dict of its own -/
def TupS (K : PySem.W.Frag) (H : Hp) (p : Addr) (vs : List V) : Prop :=
  (∃ o, H p = some (.frz o (.tup vs)) ∧ o.dict = none) ∨
    ∃ (o : Obj) (its : Array Value) (n : Nat), K.lookup p = some o ∧ o.cls = .type "tuple" ∧ o.dict = none ∧ o.data = .seq its n ∧ its.size ≤ sizeLine ∧ Vals vs its.toList
theorem TupS.sq {K : PySem.W.Frag} {H : Hp} {p : Addr} {vs : List V} (h : TupS K H p vs) : SqT K H p vs := by
  rcases h with ⟨o, h, _⟩ | ⟨o, its, n, h1, h2, h3, h4, h5, h6⟩
  · exact .inl (.inr ⟨o, h⟩)
  · exact .inr ⟨o, its, n, h1, h2, h4, h5, h6⟩
mutual
/-- the value v stands for the data -/
def RelD (K : PySem.W.Frag) (mg : Str → Option Value) (m : MM) (H : Hp) : D → V → Prop
  | .non, v => v = .non
  | .bl b, v => v = .bl b
  | .int i, v => v = .int i
  | .str s, v => v = .str ⟨s.toArray⟩
  | .tup xs, v => ∃ p vs, v = .ref p ∧ TupS K H p vs ∧ RelDs K mg m H xs vs
  | .ref a, v => ∃ p, v = .ref p ∧ m a = some p
  | .fn x, v => ∃ p, v = .ref p ∧ mg (nmS x) = some (.ref p) ∧ x < 128 ^ 64
  | .kd x, v => ∃ p, v = .ref p ∧ mg (nmS x) = some (.ref p)
def RelDs (K : PySem.W.Frag) (mg : Str → Option Value) (m : MM) (H : Hp) : List D → List V → Prop
  | [], vs => vs = []
  | x :: xs, vs => ∃ v r, vs = v :: r ∧ RelD K mg m H x v ∧ RelDs K mg m H xs r
end
variable {K : PySem.W.Frag} {mg : Str → Option Value}

theorem RelDs.len {m : MM} {H : Hp} : ∀ {xs : List D} {vs : List V}, RelDs K mg m H xs vs → xs.length = vs.length
  | [], _, h => by have h : _ = [] := h; subst h; rfl
  | x :: xs, _, h => by
    obtain ⟨v, r, rfl, _, h2⟩ := h
    simp [RelDs.len h2]
theorem RelDs.get {m : MM} {H : Hp} : ∀ {xs : List D} {vs : List V} {i : Nat} {x : D}, RelDs K mg m H xs vs → xs[i]? = some x → ∃ v, vs[i]? = some v ∧ RelD K mg m H x v
  | [], _, _, _, _, e => by simp at e
  | x :: xs, _, 0, y, h, e => by
    obtain ⟨v, r, rfl, h1, _⟩ := h
    simp at e; subst e
    exact ⟨v, rfl, h1⟩
  | x :: xs, _, i + 1, y, h, e => by
    obtain ⟨v, r, rfl, _, h2⟩ := h
    have e : xs[i]? = some y := by simpa using e
    obtain ⟨w, h3, h4⟩ := RelDs.get h2 e
    exact ⟨w, by simpa using h3, h4⟩
theorem RelDs.append {m : MM} {H : Hp} : ∀ {xs ys : List D} {vs ws : List V}, RelDs K mg m H xs vs → RelDs K mg m H ys ws → RelDs K mg m H (xs ++ ys) (vs ++ ws)
  | [], _, _, _, h, q => by have h : _ = [] := h; subst h; exact q
  | x :: xs, _, _, _, h, q => by
    obtain ⟨v, r, rfl, h1, h2⟩ := h
    exact ⟨v, _, rfl, h1, RelDs.append h2 q⟩
theorem RelDs.one {m : MM} {H : Hp} {x : D} {v : V} (h : RelD K mg m H x v) : RelDs K mg m H [x] [v] := ⟨v, [], rfl, h, rfl⟩
theorem RelDs.drop {m : MM} {H : Hp} : ∀ {xs : List D} {vs : List V} (n : Nat), RelDs K mg m H xs vs → RelDs K mg m H (xs.drop n) (vs.drop n)
  | _, _, 0, h => h
  | [], _, n + 1, h => by have h : _ = [] := h; subst h; exact (rfl : ([] : List V) = [])
  | x :: xs, _, n + 1, h => by
    obtain ⟨v, r, rfl, _, h2⟩ := h
    exact RelDs.drop n h2
theorem RelDs.take {m : MM} {H : Hp} : ∀ {xs : List D} {vs : List V} (n : Nat), RelDs K mg m H xs vs → RelDs K mg m H (xs.take n) (vs.take n)
  | _, _, 0, h => (rfl : ([] : List V) = [])
  | [], _, n + 1, h => by have h : _ = [] := h; subst h; exact (rfl : ([] : List V) = [])
  | x :: xs, _, n + 1, h => by
    obtain ⟨v, r, rfl, h1, h2⟩ := h
    exact ⟨v, _, rfl, h1, RelDs.take n h2⟩
theorem RelDs.set {m : MM} {H : Hp} {d : D} {w : V} (hd : RelD K mg m H d w) : ∀ {xs : List D} {vs : List V} (n : Nat), RelDs K mg m H xs vs → RelDs K mg m H (xs.set n d) (vs.set n w)
  | [], _, _, h => by have h : _ = [] := h; subst h; exact (rfl : ([] : List V) = [])
  | x :: xs, _, 0, h => by
    obtain ⟨v, r, rfl, h1, h2⟩ := h
    exact ⟨w, r, rfl, hd, h2⟩
  | x :: xs, _, n + 1, h => by
    obtain ⟨v, r, rfl, h1, h2⟩ := h
    exact ⟨v, _, rfl, h1, RelDs.set hd n h2⟩
theorem RelDs.ints {m : MM} {H : Hp} : ∀ (ns : List Int), RelDs K mg m H (ns.map D.int) (ns.map V.int)
  | [] => rfl
  | n :: ns => ⟨_, _, rfl, rfl, RelDs.ints ns⟩

/-- tuples stay -/
def TK (K : PySem.W.Frag) (H H' : Hp) : Prop := ∀ p vs, TupS K H p vs → TupS K H' p vs
def MLe (m m' : MM) : Prop := ∀ a p, m a = some p → m' a = some p
mutual
theorem RelD.mono {m m' : MM} {H H' : Hp} (t : TK K H H') (l : MLe m m') : ∀ {d : D} {v : V}, RelD K mg m H d v → RelD K mg m' H' d v
  | .non, _, h => h
  | .bl _, _, h => h
  | .int _, _, h => h
  | .str _, _, h => h
  | .tup xs, _, h => by
    obtain ⟨p, vs, e, h1, h2⟩ := h
    exact ⟨p, vs, e, t p vs h1, RelDs.mono t l h2⟩
  | .ref a, _, h => by
    obtain ⟨p, e, h⟩ := h
    exact ⟨p, e, l a p h⟩
  | .fn _, _, h => h
  | .kd _, _, h => h
theorem RelDs.mono {m m' : MM} {H H' : Hp} (t : TK K H H') (l : MLe m m') : ∀ {xs : List D} {vs : List V}, RelDs K mg m H xs vs → RelDs K mg m' H' xs vs
  | [], _, h => h
  | x :: xs, _, h => by
    obtain ⟨v, r, e, h1, h2⟩ := h
    exact ⟨v, r, e, RelD.mono t l h1, RelDs.mono t l h2⟩
end

/-- the script at p: known to the object, or of the written part -/
def ScrAt (K : PySem.W.Frag) (H : Hp) (p : Addr) (xs : List V) : Prop :=
  (∃ o, H p = some (.frz o (.lst xs))) ∨
    ∃ (o : Obj) (its : Array Value) (n : Nat), K.lookup p = some o ∧ o.cls = .type "list" ∧ o.dict = none ∧ o.data = .seq its n ∧ its.size ≤ sizeLine ∧ Vals xs its.toList
theorem ScrAt.sq {H : Hp} {p : Addr} {xs : List V} (h : ScrAt K H p xs) : SqL K H p xs := by
  rcases h with ⟨o, e⟩ | h
  · exact .inl (.inr ⟨o, e⟩)
  · exact .inr h
theorem ScrAt.mono {H H' : Hp} {p : Addr} {xs : List V} (h : ScrAt K H p xs) (k : ∀ o u, H p = some (.frz o u) → H' p = some (.frz o u)) : ScrAt K H' p xs := by
  rcases h with ⟨o, e⟩ | h
  · exact .inl ⟨o, k _ _ e⟩
  · exact .inr h
/-- an instance's fields -/
def RelF (K : PySem.W.Frag) (mg : Str → Option Value) (m : MM) (H : Hp) : List (Nat × D) → List (Str × V) → Prop
  | [], vs => vs = []
  | p :: r, vs => ∃ v s, vs = (nmS p.1, v) :: s ∧ RelD K mg m H p.2 v ∧ RelF K mg m H r s
mutual
/-- the key of a dict -/
def keyN : D → NestedKey
  | .int i => .num i
  | .tup xs => .tup (keyNs xs)
  | _ => .none
def keyNs : List D → List NestedKey
  | [] => []
  | x :: xs => keyN x :: keyNs xs
end
/-- a dict's entries -/
def RelK (K : PySem.W.Frag) (mg : Str → Option Value) (m : MM) (H : Hp) : List (D × D) → List (NestedKey × Addr × Value) → Prop
  | [], xs => xs = []
  | p :: r, xs => ∃ ka u v s, xs = (keyN p.1, ka, u) :: s ∧ keyOk p.1 = true ∧ RelD K mg m H p.1 (.ref ka) ∧ RelV v u ∧ RelD K mg m H p.2 v ∧ RelK K mg m H r s
theorem RelF.mono {m m' : MM} {H H' : Hp} (t : TK K H H') (l : MLe m m') : ∀ {fs : List (Nat × D)} {vs : List (Str × V)}, RelF K mg m H fs vs → RelF K mg m' H' fs vs
  | [], _, h => h
  | p :: r, _, h => by
    obtain ⟨v, s, e, h1, h2⟩ := h
    exact ⟨v, s, e, RelD.mono t l h1, RelF.mono t l h2⟩
theorem RelK.mono {m m' : MM} {H H' : Hp} (t : TK K H H') (l : MLe m m') : ∀ {fs : List (D × D)} {vs : List (NestedKey × Addr × Value)}, RelK K mg m H fs vs → RelK K mg m' H' fs vs
  | [], _, h => h
  | p :: r, _, h => by
    obtain ⟨ka, u, v, s, e, h1, h2, h3, h4, h5⟩ := h
    exact ⟨ka, u, v, s, e, h1, RelD.mono t l h2, h3, RelD.mono t l h4, RelK.mono t l h5⟩
/-- the dict that stands at p -/
def DAt (p : Addr) (xs : List (NestedKey × Addr × Value)) : Heap → Prop := fun h =>
  ∃ o es ep, h.get? p = some o ∧ o.ExactDict ∧ o.data = .dict es ep ∧ ∀ (prog : Program) (w : World), es.toList = xs.map (entryOfKey (nestedKind prog w))
/-- the object at p -/
def RepO (K : PySem.W.Frag) (mg : Str → Option Value) (m : MM) (H : Hp) (p : Addr) : LO → Prop
  | .lst xs => ∃ vs, H p = some (.lst vs) ∧ RelDs K mg m H xs vs
  | .scr ns => ScrAt K H p (ns.map V.int)
  | .dic kvs => ∃ xs, H p = some (.ext (DAt p xs)) ∧ (p == sysModules) = false ∧ RelK K mg m H kvs xs ∧ (kvs.map fun q => keyN q.1).Nodup ∧ kvs.length ≤ SZ
  | .dlk kvs => ∃ xs o, H p = some (.frz o (.ext (DAt p xs))) ∧ (p == sysModules) = false ∧ RelK K mg m H kvs xs ∧ (kvs.map fun q => keyN q.1).Nodup ∧ kvs.length ≤ SZ
  | .ins C fs => ∃ Ca dx fv, H p = some (.ins Ca dx fv) ∧ mg (nmS C) = some (.ref Ca) ∧ Cls K Ca ∧ RelF K mg m H fs fv ∧ ∀ q ∈ fs, q.1 < 128 ^ 64 ∧ NoAttr K Ca (nmS q.1)
def muO : LO → Bool
  | .scr _ => false
  | .dlk _ => false
  | _ => true
/-- stands alone at its address -/
def unq : LO → Bool
  | .scr _ => false
  | _ => true
theorem unq_of {o : LO} (h : muO o = true) : unq o = true := by cases o <;> first | rfl | cases h
/-- may change -/
def mutH : HO → Bool
  | .lst _ => true
  | .ins _ _ _ => true
  | .ext _ => true
  | _ => false
structure Rep (K : PySem.W.Frag) (mg : Str → Option Value) (m : MM) (h : LH) (H : Hp) : Prop where
  obj : ∀ a o, h[a]? = some o → ∃ p, m a = some p ∧ RepO K mg m H p o
  dom : ∀ a p, m a = some p → a < h.length
  inj : ∀ a b p o u, m a = some p → m b = some p → h[a]? = some o → h[b]? = some u → unq o = true → unq u = true → a = b
/-- b is the address of an object that may change -/
def Own (m : MM) (h : LH) (b : Addr) : Prop := ∃ a o, m a = some b ∧ h[a]? = some o ∧ muO o = true
/-- what a run may do -/
structure Go (m : MM) (h : LH) (H : Hp) (m' : MM) (h' : LH) (H' : Hp) : Prop where
  le : MLe m m'
  new : ∀ b, Own m' h' b → Own m h b ∨ H b = none
  keep : ∀ b o, H b = some o → ¬ Own m h b → H' b = some o

theorem RepO.mutable {m : MM} {H : Hp} {p : Addr} {o : LO} (h : RepO K mg m H p o) (hm : muO o = true) : ∃ u, H p = some u ∧ mutH u = true := by
  cases o with
  | lst xs => obtain ⟨vs, e, _⟩ := h; exact ⟨_, e, rfl⟩
  | scr ns => cases hm
  | dlk _ => cases hm
  | dic _ => obtain ⟨vs, e, _⟩ := h; exact ⟨_, e, rfl⟩
  | ins _ _ => obtain ⟨_, _, _, e, _⟩ := h; exact ⟨_, e, rfl⟩
/-- what stands at p stands there still -/
theorem RepO.mono {m m' : MM} {H H' : Hp} {p : Addr} {o : LO} (h : RepO K mg m H p o) (t : TK K H H') (l : MLe m m') (k : ∀ u, H p = some u → H' p = some u) : RepO K mg m' H' p o := by
  cases o with
  | lst xs => obtain ⟨vs, e, r⟩ := h; exact ⟨vs, k _ e, RelDs.mono t l r⟩
  | scr ns => exact ScrAt.mono h fun o u e => k _ e
  | dlk _ => obtain ⟨xs, o, e, h1, r, h2⟩ := h; exact ⟨xs, o, k _ e, h1, RelK.mono t l r, h2⟩
  | dic _ => obtain ⟨xs, e, h1, r, h2⟩ := h; exact ⟨xs, k _ e, h1, RelK.mono t l r, h2⟩
  | ins _ _ => obtain ⟨Ca, dx, fv, e, h1, h2, r, h3⟩ := h; exact ⟨Ca, dx, fv, k _ e, h1, h2, RelF.mono t l r, h3⟩
theorem Rep.own {m : MM} {h : LH} {H : Hp} (R : Rep K mg m h H) {b : Addr} (o : Own m h b) : ∃ u, H b = some u ∧ mutH u = true := by
  obtain ⟨a, o, h1, h2, h3⟩ := o
  obtain ⟨p, e, q⟩ := R.obj a o h2
  rw [h1] at e; cases e
  exact q.mutable h3
theorem Rep.nown {m : MM} {h : LH} {H : Hp} (R : Rep K mg m h H) {b : Addr} {u : HO} (e : H b = some u) (hu : mutH u = false) : ¬ Own m h b := fun o => by
  obtain ⟨v, e1, e2⟩ := R.own o
  rw [e] at e1; cases e1
  rw [hu] at e2; cases e2
theorem Go.refl {m : MM} {h : LH} {H : Hp} : Go m h H m h H := ⟨fun _ _ e => e, fun _ o => .inl o, fun _ _ e _ => e⟩
theorem Go.trans {m m1 m2 : MM} {h h1 h2 : LH} {H H1 H2 : Hp} (a : Go m h H m1 h1 H1) (b : Go m1 h1 H1 m2 h2 H2) : Go m h H m2 h2 H2 where
  le := fun x p e => b.le x p (a.le x p e)
  new := fun c o => by
    rcases b.new c o with o | n
    · exact a.new c o
    · cases q : H c with
      | none => exact .inr rfl
      | some u =>
        by_cases ow : Own m h c
        · exact .inl ow
        · rw [a.keep c u q ow] at n; cases n
  keep := fun c u e no => b.keep c u (a.keep c u e no) fun o => by
    rcases a.new c o with o | n
    · exact no o
    · rw [n] at e; cases e
/-- tuples stay where all that may not change stays -/
theorem tk_of {H H' : Hp} (k : ∀ b u, H b = some u → mutH u = false → H' b = some u) : TK K H H' := fun p vs s => by
  rcases s with ⟨o, s, d⟩ | s
  · exact .inl ⟨o, k p _ s rfl, d⟩
  · exact .inr s
theorem Go.tk {m m' : MM} {h h' : LH} {H H' : Hp} (R : Rep K mg m h H) (g : Go m h H m' h' H') : TK K H H' := tk_of fun b u e hu => g.keep b u e (R.nown e hu)
theorem Go.rel {m m' : MM} {h h' : LH} {H H' : Hp} (R : Rep K mg m h H) (g : Go m h H m' h' H') {d : D} {v : V} (r : RelD K mg m H d v) : RelD K mg m' H' d v := r.mono (g.tk R) g.le
theorem Go.rels {m m' : MM} {h h' : LH} {H H' : Hp} (R : Rep K mg m h H) (g : Go m h H m' h' H') {d : List D} {v : List V} (r : RelDs K mg m H d v) : RelDs K mg m' H' d v := RelDs.mono (g.tk R) g.le r

/-- a new object that is none of the language's -/
theorem go_fresh {m : MM} {h : LH} {H : Hp} (R : Rep K mg m h H) {p : Addr} (n : H p = none) (u : HO) : Go m h H m h (upd H p u) ∧ Rep K mg m h (upd H p u) := by
  have g : Go m h H m h (upd H p u) := ⟨fun _ _ e => e, fun _ o => .inl o, fun b o e _ => by rw [upd_ne (ne_of_none e n)]; exact e⟩
  refine ⟨g, ⟨fun a o e => ?_, R.dom, R.inj⟩⟩
  obtain ⟨q, e1, r⟩ := R.obj a o e
  exact ⟨q, e1, r.mono (g.tk R) (fun _ _ e => e) fun u e => by rw [upd_ne (ne_of_none e n)]; exact e⟩

/-- an object that the language hasn't told yet becomes its own -/
theorem go_adopt {m m0 : MM} {h h0 : LH} {H H0 : Hp} (R : Rep K mg m h H) (g : Go m0 h0 H0 m h H) {p : Addr} (n : H0 p = none) (np : ¬ Own m h p) {o : LO} (mo : muO o = true) (r : ∀ m', MLe m m' → RepO K mg m' H p o) :
    ∃ m', Go m0 h0 H0 m' (h ++ [o]) H ∧ Rep K mg m' (h ++ [o]) H ∧ m' h.length = some p ∧ MLe m m' := by
  have old : ∀ a q, m a = some q → a ≠ h.length := fun a q e => Nat.ne_of_lt (R.dom a q e)
  let m' : MM := fun a => if a = h.length then some p else m a
  have hle : MLe m m' := fun a q e => by show (if a = h.length then some p else m a) = _; rw [if_neg (old a q e)]; exact e
  have hnew : m' h.length = some p := if_pos rfl
  have hold : ∀ a, a ≠ h.length → m' a = m a := fun a e => if_neg e
  have inv : ∀ a u, (h ++ [o])[a]? = some u → a ≠ h.length → h[a]? = some u := fun a u e ha => by
    have hlt : a < h.length := by
      have := (List.getElem?_eq_some_iff.mp e).1
      rw [List.length_append, List.length_singleton] at this
      omega
    rwa [List.getElem?_append_left hlt] at e
  have nop : ∀ a u, (h ++ [o])[a]? = some u → unq u = true → m' a = some p → a = h.length := fun a u e hm e1 => by
    by_cases ha : a = h.length
    · exact ha
    · rw [hold a ha] at e1
      by_cases hm2 : muO u = true
      · exact (np ⟨a, u, e1, inv a u e ha, hm2⟩).elim
      · cases u with
        | dlk ks =>
          obtain ⟨q, f1, xs, ob, f2, _⟩ := R.obj a _ (inv a _ e ha)
          rw [e1] at f1; cases f1
          obtain ⟨w, f3, f4⟩ := (r m' hle).mutable mo
          rw [f2] at f3; cases f3; cases f4
        | scr _ => cases hm
        | _ => exact absurd rfl hm2
  refine ⟨m', ⟨fun a q e => hle a q (g.le a q e), fun b ⟨a, u, e1, e2, e3⟩ => ?_, fun b u e no => g.keep b u e no⟩, ⟨fun a u e => ?_, fun a q e => ?_, fun a b q u u' e1 e2 e3 e4 e5 e6 => ?_⟩, hnew, hle⟩
  · by_cases ha : a = h.length
    · subst ha
      rw [hnew] at e1; cases e1
      exact .inr n
    · rw [hold a ha] at e1
      exact g.new b ⟨a, u, e1, inv a u e2 ha, e3⟩
  · by_cases ha : a = h.length
    · subst ha
      rw [List.getElem?_append_right (Nat.le_refl _), Nat.sub_self] at e
      have e : o = u := by simpa using e
      subst e
      exact ⟨p, hnew, r m' hle⟩
    · obtain ⟨q, e1, r1⟩ := R.obj a u (inv a u e ha)
      exact ⟨q, hle a q e1, r1.mono (fun _ _ s => s) hle fun u e => e⟩
  · by_cases ha : a = h.length
    · subst ha; simp
    · rw [hold a ha] at e
      have := R.dom a q e
      simp; omega
  · by_cases ha : a = h.length
    · subst ha
      rw [hnew] at e1; cases e1
      exact (nop b u' e4 e6 e2).symm
    · by_cases hb : b = h.length
      · subst hb
        rw [hnew] at e2; cases e2
        exact nop a u e3 e5 e1
      · rw [hold a ha] at e1
        rw [hold b hb] at e2
        exact R.inj a b q u u' e1 e2 (inv a u e3 ha) (inv b u' e4 hb) e5 e6
/-- a new object of the language's -/
theorem go_new {m : MM} {h : LH} {H : Hp} (R : Rep K mg m h H) {p : Addr} (n : H p = none) {o : LO} {u : HO} (mo : muO o = true) (r : ∀ m', MLe m m' → TK K H (upd H p u) → RepO K mg m' (upd H p u) p o) :
    ∃ m' : MM, Go m h H m' (h ++ [o]) (upd H p u) ∧ Rep K mg m' (h ++ [o]) (upd H p u) ∧ m' h.length = some p := by
  obtain ⟨g, R1⟩ := go_fresh R n u
  have np : ¬ Own m h p := fun ow => by obtain ⟨v, e, _⟩ := R.own ow; rw [n] at e; cases e
  obtain ⟨m', g1, R2, e, _⟩ := go_adopt R1 g n np mo fun m' l => r m' l (g.tk R)
  exact ⟨m', g1, R2, e⟩
/-- a new list of the language's -/
theorem go_alloc {m : MM} {h : LH} {H : Hp} (R : Rep K mg m h H) {p : Addr} (n : H p = none) {xs : List D} {vs : List V} (r : RelDs K mg m H xs vs) :
    ∃ m' : MM, Go m h H m' (h ++ [.lst xs]) (upd H p (.lst vs)) ∧ Rep K mg m' (h ++ [.lst xs]) (upd H p (.lst vs)) ∧ m' h.length = some p :=
  go_new R n rfl fun m' l t => ⟨vs, upd_same, RelDs.mono t l r⟩

/-- an object of the language's is changed -/
theorem go_put {m : MM} {h : LH} {H : Hp} (R : Rep K mg m h H) {a : Nat} {p : Addr} {o0 o : LO} {u : HO} (ea : h[a]? = some o0) (m0 : muO o0 = true) (em : m a = some p) (r : TK K H (upd H p u) → RepO K mg m (upd H p u) p o) :
    Go m h H m (h.set a o) (upd H p u) ∧ Rep K mg m (h.set a o) (upd H p u) := by
  have hlt : a < h.length := (List.getElem?_eq_some_iff.mp ea).1
  have own : Own m h p := ⟨a, _, em, ea, m0⟩
  obtain ⟨u0, hu0, hm0⟩ := R.own own
  have at_ : ∀ b v, (h.set a o)[b]? = some v → (b = a ∧ v = o) ∨ (b ≠ a ∧ h[b]? = some v) := fun b v e => by
    by_cases hb : b = a
    · subst hb
      rw [List.getElem?_set_self hlt] at e
      exact .inl ⟨rfl, (Option.some.inj e).symm⟩
    · rw [List.getElem?_set_ne (Ne.symm hb)] at e
      exact .inr ⟨hb, e⟩
  have g : Go m h H m (h.set a o) (upd H p u) := by
    refine ⟨fun _ _ e => e, fun b ⟨c, v, e1, e2, e3⟩ => ?_, fun b v e no => ?_⟩
    · rcases at_ c v e2 with ⟨rfl, _⟩ | ⟨_, e2⟩
      · exact .inl ⟨c, _, e1, ea, m0⟩
      · exact .inl ⟨c, v, e1, e2, e3⟩
    · rw [upd_ne]
      · exact e
      · rintro rfl; exact no own
  have t := g.tk R
  refine ⟨g, ⟨fun b v e => ?_, fun b q e => ?_, fun b c q v v' e1 e2 e3 e4 e5 e6 => ?_⟩⟩
  · rcases at_ b v e with ⟨rfl, rfl⟩ | ⟨hb, e⟩
    · exact ⟨p, em, r t⟩
    · obtain ⟨q, e1, r1⟩ := R.obj b v e
      refine ⟨q, e1, ?_⟩
      by_cases hm : muO v = true
      · refine r1.mono t (fun _ _ e => e) fun u e2 => ?_
        rw [upd_ne]
        · exact e2
        · rintro rfl
          exact hb (R.inj b a q v _ e1 em e ea (unq_of hm) (unq_of m0))
      · cases v with
        | scr ns =>
          exact ScrAt.mono r1 fun ob u e2 => by
            rw [upd_ne]
            · exact e2
            · rintro rfl; rw [hu0] at e2; cases e2; cases hm0
        | dlk _ =>
          obtain ⟨xs, ob, e2, h1, r, h2⟩ := r1
          refine ⟨xs, ob, ?_, h1, RelK.mono t (fun _ _ e => e) r, h2⟩
          rw [upd_ne]
          · exact e2
          · rintro rfl; rw [hu0] at e2; cases e2; cases hm0
        | lst _ => exact absurd rfl hm
        | dic _ => exact absurd rfl hm
        | ins _ _ => exact absurd rfl hm
  · have := R.dom b q e
    simpa using this
  · have fnd : ∀ b v, (h.set a o)[b]? = some v → unq v = true → ∃ o', h[b]? = some o' ∧ unq o' = true := fun b v e hm => by
      rcases at_ b v e with ⟨rfl, _⟩ | ⟨_, e⟩
      · exact ⟨_, ea, unq_of m0⟩
      · exact ⟨v, e, hm⟩
    obtain ⟨o', f1, f2⟩ := fnd b v e3 e5
    obtain ⟨u', f3, f4⟩ := fnd c v' e4 e6
    exact R.inj b c q o' u' e1 e2 f1 f3 f2 f4
/-- a list of the language's is changed -/
theorem go_set {m : MM} {h : LH} {H : Hp} (R : Rep K mg m h H) {a : Nat} {p : Addr} {xs ys : List D} {ws : List V} (ea : h[a]? = some (.lst xs)) (em : m a = some p) (r : RelDs K mg m H ys ws) :
    Go m h H m (setLst h a ys) (upd H p (.lst ws)) ∧ Rep K mg m (setLst h a ys) (upd H p (.lst ws)) :=
  go_put R ea rfl em fun t => ⟨ws, upd_same, RelDs.mono t (fun _ _ e => e) r⟩
/-- a list that is none of the language's is changed -/
theorem go_loose {m m0 : MM} {h h0 : LH} {H H0 : Hp} (R : Rep K mg m h H) (g : Go m0 h0 H0 m h H) {p : Addr} (n : H0 p = none) (np : ¬ Own m h p) {u0 u : HO} (e0 : H p = some u0) (hu : mutH u0 = true) :
    Go m0 h0 H0 m h (upd H p u) ∧ Rep K mg m h (upd H p u) ∧ TK K H (upd H p u) := by
  have t : TK K H (upd H p u) := tk_of fun b v e hv => by
    rw [upd_ne]
    · exact e
    · rintro rfl; rw [e0] at e; cases e; rw [hu] at hv; cases hv
  refine ⟨⟨g.le, g.new, fun b v e no => by rw [upd_ne (ne_of_none e n)]; exact g.keep b v e no⟩, ⟨fun a v e => ?_, R.dom, R.inj⟩, t⟩
  obtain ⟨q, e1, r1⟩ := R.obj a v e
  refine ⟨q, e1, ?_⟩
  by_cases hm : muO v = true
  · refine r1.mono t (fun _ _ e => e) fun w e2 => ?_
    rw [upd_ne]
    · exact e2
    · rintro rfl; exact np ⟨a, v, e1, e, hm⟩
  · cases v with
    | scr ns =>
      exact ScrAt.mono r1 fun ob w e2 => by
        rw [upd_ne]
        · exact e2
        · rintro rfl; rw [e0] at e2; cases e2; cases hu
    | dlk _ =>
      obtain ⟨xs, ob, e2, h1, r, h2⟩ := r1
      refine ⟨xs, ob, ?_, h1, RelK.mono t (fun _ _ e => e) r, h2⟩
      rw [upd_ne]
      · exact e2
      · rintro rfl; rw [e0] at e2; cases e2; cases hu
    | lst _ => exact absurd rfl hm
    | dic _ => exact absurd rfl hm
    | ins _ _ => exact absurd rfl hm
end FK

end
section
set_option maxRecDepth 100000
set_option maxHeartbeats 4000000
/-! Fk2d: dicts whose keys are tuples of whole numbers, within one another. -/
namespace FK
open PySem PySem.Spec PyProof.Rows L2

theorem SZ_line : sizeLine = SZ := by rw [sizeLine_eq]; rfl
mutual
theorem keyN_eq : ∀ {x y : D}, keyL x = true → keyL y = true → pyeq x y = NestedKey.beq (keyN x) (keyN y)
  | .int a, .int b, _, _ => by
    simp only [pyeq, keyN, NestedKey.beq]
    by_cases h : a = b <;> simp [h]
  | .int a, .tup b, _, _ => by simp [pyeq, keyN, NestedKey.beq]
  | .tup a, .int b, _, _ => by simp [pyeq, keyN, NestedKey.beq]
  | .tup a, .tup b, h1, h2 => by
    simp only [pyeq, keyN, NestedKey.beq]
    exact keyNs_eq (by simpa [keyL] using h1) (by simpa [keyL] using h2)
  | .non, _, h, _ => by cases h
  | .bl _, _, h, _ => by cases h
  | .str _, _, h, _ => by cases h
  | .ref _, _, h, _ => by cases h
  | .fn _, _, h, _ => by cases h
  | .kd _, _, h, _ => by cases h
  | .int _, .non, _, h => by cases h
  | .int _, .bl _, _, h => by cases h
  | .int _, .str _, _, h => by cases h
  | .int _, .ref _, _, h => by cases h
  | .int _, .fn _, _, h => by cases h
  | .int _, .kd _, _, h => by cases h
  | .tup _, .non, _, h => by cases h
  | .tup _, .bl _, _, h => by cases h
  | .tup _, .str _, _, h => by cases h
  | .tup _, .ref _, _, h => by cases h
  | .tup _, .fn _, _, h => by cases h
  | .tup _, .kd _, _, h => by cases h
theorem keyNs_eq : ∀ {x y : List D}, keyLs x = true → keyLs y = true → pyeqs x y = NestedKey.beqAll (keyNs x) (keyNs y)
  | [], [], _, _ => by simp [pyeqs, keyNs, NestedKey.beqAll]
  | [], _ :: _, _, _ => by simp [pyeqs, keyNs, NestedKey.beqAll]
  | _ :: _, [], _, _ => by simp [pyeqs, keyNs, NestedKey.beqAll]
  | a :: x, b :: y, h1, h2 => by
    have h1' : keyL a = true ∧ keyLs x = true := by simpa [keyLs] using h1
    have h2' : keyL b = true ∧ keyLs y = true := by simpa [keyLs] using h2
    simp only [pyeqs, keyNs, NestedKey.beqAll]
    rw [keyN_eq h1'.1 h2'.1, keyNs_eq h1'.2 h2'.2]
end
mutual
theorem keyN_dep : ∀ (x : D), keyL x = true → (keyN x).depth = dep x
  | .int a, _ => by simp [keyN, NestedKey.depth, dep]
  | .tup a, h => by simp only [keyN, NestedKey.depth, dep]; rw [keyNs_dep a (by simpa [keyL] using h)]
  | .non, h => by cases h
  | .bl _, h => by cases h
  | .str _, h => by cases h
  | .ref _, h => by cases h
  | .fn _, h => by cases h
  | .kd _, h => by cases h
theorem keyNs_dep : ∀ (x : List D), keyLs x = true → NestedKey.depthAll (keyNs x) = deps x
  | [], _ => by simp [keyNs, NestedKey.depthAll, deps]
  | a :: x, h => by
    have h' : keyL a = true ∧ keyLs x = true := by simpa [keyLs] using h
    simp only [keyNs, NestedKey.depthAll, deps]
    rw [keyN_dep a h'.1, keyNs_dep x h'.2]
end
theorem keyOk_L {k : D} (h : keyOk k = true) : keyL k = true ∧ (keyN k).depth ≤ 8 := by
  cases k with
  | tup xs =>
    have h' : keyLs xs = true ∧ deps xs ≤ 6 := by simpa [keyOk] using h
    refine ⟨by simpa [keyL] using h'.1, ?_⟩
    rw [keyN_dep (.tup xs) (by simpa [keyL] using h'.1)]
    simp only [dep]; omega
  | _ => cases h
theorem keyOk_eq {x y : D} (h1 : keyOk x = true) (h2 : keyOk y = true) : pyeq x y = decide (keyN x = keyN y) := by
  rw [NestedKey.decide_eq, keyN_eq (keyOk_L h1).1 (keyOk_L h2).1]

section
variable {X : Cx} {pins : List (Addr × Obj)} {σ : L2.St} {H : Hp} {s : Shared} {m : MM} {h : LH}
mutual
/-- the key stands in the heap -/
theorem nested_of (I : L2.Inv X pins σ H s) : ∀ {d : D} {v : V} {u : Value}, keyL d = true → RelD X.K X.mg m H d v → RelV v u → NestedIs s.heap (keyN d) u
  | .int i, v, u, _, r, rv => by
    cases (r : _ = _)
    obtain ⟨t, rfl⟩ := (show ∃ t, u = Value.int i t from rv)
    exact .int i t
  | .tup xs, v, u, k, r, rv => by
    obtain ⟨p, vs, rfl, h1, h2⟩ := r
    obtain rfl : u = Value.ref p := rv
    obtain ⟨its, r1, ⟨o, e1, e2, n, e3⟩, _⟩ := I.tuple h1.sq
    exact .tup e1 e2 e3 (nesteds_of I (by simpa [keyL] using k) h2 r1)
  | .non, _, _, h, _, _ => by cases h
  | .bl _, _, _, h, _, _ => by cases h
  | .str _, _, _, h, _, _ => by cases h
  | .ref _, _, _, h, _, _ => by cases h
  | .fn _, _, _, h, _, _ => by cases h
  | .kd _, _, _, h, _, _ => by cases h
theorem nesteds_of (I : L2.Inv X pins σ H s) : ∀ {ds : List D} {vs : List V} {us : List Value}, keyLs ds = true → RelDs X.K X.mg m H ds vs → Vals vs us → NestedAll s.heap (keyNs ds) us
  | [], vs, us, _, r, rv => by
    cases (r : _ = _)
    cases rv
    exact .nil
  | d :: ds, vs, us, k, r, rv => by
    obtain ⟨v, vr, rfl, r1, r2⟩ := r
    have k' : keyL d = true ∧ keyLs ds = true := by simpa [keyLs] using k
    cases rv with
    | cons q t => exact .cons (nested_of I k'.1 r1 q) (nesteds_of I k'.2 r2 t)
end
theorem relk_keys {K : PySem.W.Frag} {mg : Str → Option Value} : ∀ {kvs : List (D × D)} {xs : List (NestedKey × Addr × Value)}, RelK K mg m H kvs xs → xs.map (·.1) = kvs.map fun q => keyN q.1
  | [], _, r => by cases (r : _ = _); rfl
  | p :: kvs, _, r => by
    obtain ⟨ka, u, v, s, rfl, _, _, _, _, r⟩ := r
    simp [relk_keys r]
theorem relk_look {K : PySem.W.Frag} {mg : Str → Option Value} {k : D} (hk : keyOk k = true) : ∀ {kvs : List (D × D)} {xs : List (NestedKey × Addr × Value)}, RelK K mg m H kvs xs →
    (∀ d, dLook kvs k = some d → ∃ ka u v, atKey xs (keyN k) = some (ka, u) ∧ RelV v u ∧ RelD K mg m H d v) ∧ (dLook kvs k = none → atKey xs (keyN k) = none)
  | [], _, r => by
    cases (r : _ = _)
    exact ⟨fun d e => (nomatch (e : (none : Option D) = some d)), fun _ => rfl⟩
  | p :: kvs, _, r => by
    obtain ⟨ka, u, v, s, rfl, r1, r2, r3, r4, r5⟩ := r
    obtain ⟨i1, i2⟩ := relk_look hk r5
    have e := keyOk_eq r1 hk
    by_cases q : keyN p.1 = keyN k
    · have e1 : pyeq p.1 k = true := by rw [e]; exact decide_eq_true q
      have e2 : dLook (p :: kvs) k = some p.2 := by simp [dLook, List.find?, e1]
      have e3 : atKey ((keyN p.1, ka, u) :: s) (keyN k) = some (ka, u) := by simp [atKey, List.find?, q]
      refine ⟨fun d z => ?_, fun z => ?_⟩
      · rw [e2] at z; cases z; exact ⟨ka, u, v, e3, r3, r4⟩
      · rw [e2] at z; cases z
    · have e1 : pyeq p.1 k = false := by rw [e]; exact decide_eq_false q
      have e2 : dLook (p :: kvs) k = dLook kvs k := by simp [dLook, List.find?, e1]
      have e3 : atKey ((keyN p.1, ka, u) :: s) (keyN k) = atKey s (keyN k) := by simp [atKey, List.find?, q]
      rw [e2, e3]
      exact ⟨i1, i2⟩
theorem relk_app {K : PySem.W.Frag} {mg : Str → Option Value} : ∀ {kvs ks : List (D × D)} {xs ys : List (NestedKey × Addr × Value)}, RelK K mg m H kvs xs → RelK K mg m H ks ys → RelK K mg m H (kvs ++ ks) (xs ++ ys)
  | [], _, _, _, r, q => by cases (r : _ = _); exact q
  | p :: kvs, _, _, _, r, q => by
    obtain ⟨ka, u, v, s, rfl, r1, r2, r3, r4, r5⟩ := r
    exact ⟨ka, u, v, _, rfl, r1, r2, r3, r4, relk_app r5 q⟩
theorem relk_map {K : PySem.W.Frag} {mg : Str → Option Value} {k d : D} {v : V} {u : Value} (hk : keyOk k = true) (rv : RelV v u) (rd : RelD K mg m H d v) : ∀ {kvs : List (D × D)} {xs : List (NestedKey × Addr × Value)}, RelK K mg m H kvs xs →
    RelK K mg m H (kvs.map fun p => if pyeq p.1 k then (p.1, d) else p) (xs.map (putAt (keyN k) u))
  | [], _, r => by cases (r : _ = _); exact (rfl : ([] : List _) = [])
  | p :: kvs, _, r => by
    obtain ⟨ka, u', v', s, rfl, r1, r2, r3, r4, r5⟩ := r
    have e := keyOk_eq r1 hk
    have i := relk_map hk rv rd r5
    by_cases q : keyN p.1 = keyN k
    · have e1 : pyeq p.1 k = true := by rw [e]; exact decide_eq_true q
      refine ⟨ka, u, v, _, ?_, ?_, ?_, rv, ?_, i⟩
      · simp [putAt, q, e1]
      · simpa [e1] using r1
      · simpa [e1] using r2
      · simpa [e1] using rd
    · have e1 : pyeq p.1 k = false := by rw [e]; exact decide_eq_false q
      refine ⟨ka, u', v', _, ?_, ?_, ?_, r3, ?_, i⟩
      · simp [putAt, q, e1]
      · simpa [e1] using r1
      · simpa [e1] using r2
      · simpa [e1] using r4
theorem relk_any {K : PySem.W.Frag} {mg : Str → Option Value} {k : D} (hk : keyOk k = true) {kvs : List (D × D)} {xs : List (NestedKey × Addr × Value)} (r : RelK K mg m H kvs xs) : (kvs.any fun p => pyeq p.1 k) = (atKey xs (keyN k)).isSome := by
  have e0 : (kvs.any fun p => pyeq p.1 k) = (dLook kvs k).isSome := by
    unfold dLook
    rw [Option.isSome_map, List.isSome_find?]
  rw [e0]
  obtain ⟨i1, i2⟩ := relk_look hk r
  cases q : dLook kvs k with
  | none => rw [i2 q]; rfl
  | some d => obtain ⟨ka, u, v, e, _⟩ := i1 d q; rw [e]; rfl
theorem relk_put {K : PySem.W.Frag} {mg : Str → Option Value} {k d : D} {v : V} {u : Value} {ka : Addr} (hk : keyOk k = true) (rk : RelD K mg m H k (.ref ka)) (rv : RelV v u) (rd : RelD K mg m H d v) {kvs : List (D × D)} {xs : List (NestedKey × Addr × Value)} (r : RelK K mg m H kvs xs) :
    RelK K mg m H (dPut kvs k d) (storedH xs (keyN k) ka u) := by
  unfold dPut storedH
  rw [relk_any hk r]
  split
  · exact relk_map hk rv rd r
  · exact relk_app r ⟨ka, u, v, [], rfl, hk, rk, rv, rd, rfl⟩
theorem relk_del {K : PySem.W.Frag} {mg : Str → Option Value} {k : D} (hk : keyOk k = true) : ∀ {kvs : List (D × D)} {xs : List (NestedKey × Addr × Value)}, RelK K mg m H kvs xs → RelK K mg m H (dDel kvs k) (withoutH xs (keyN k))
  | [], _, r => by cases (r : _ = _); exact (rfl : ([] : List _) = [])
  | p :: kvs, _, r => by
    obtain ⟨ka, u, v, s, rfl, r1, r2, r3, r4, r5⟩ := r
    have e := keyOk_eq r1 hk
    have i := relk_del hk r5
    by_cases q : keyN p.1 = keyN k
    · have e1 : pyeq p.1 k = true := by rw [e]; exact decide_eq_true q
      have e2 : dDel (p :: kvs) k = dDel kvs k := by simp [dDel, e1]
      have e3 : withoutH ((keyN p.1, ka, u) :: s) (keyN k) = withoutH s (keyN k) := by simp [withoutH, q]
      rw [e2, e3]; exact i
    · have e1 : pyeq p.1 k = false := by rw [e]; exact decide_eq_false q
      have e2 : dDel (p :: kvs) k = p :: dDel kvs k := by simp [dDel, e1]
      have e3 : withoutH ((keyN p.1, ka, u) :: s) (keyN k) = (keyN p.1, ka, u) :: withoutH s (keyN k) := by simp [withoutH, q]
      rw [e2, e3]; exact ⟨ka, u, v, _, rfl, r1, r2, r3, r4, i⟩
theorem relk_is {I : L2.Inv X pins σ H s} : ∀ {kvs : List (D × D)} {xs : List (NestedKey × Addr × Value)}, RelK X.K X.mg m H kvs xs → ∀ x ∈ xs, (nestedKind X.prog X.w).is s.heap x.1 x.2.1
  | [], _, r, x, hx => by cases (r : _ = _); cases hx
  | p :: kvs, _, r, x, hx => by
    obtain ⟨ka, u, v, t, rfl, r1, r2, r3, r4, r5⟩ := r
    rcases List.mem_cons.mp hx with rfl | hx
    · obtain ⟨k1, k2⟩ := keyOk_L r1
      exact ⟨nested_of I k1 r2 rfl, k2⟩
    · exact relk_is (I := I) r5 x hx
theorem relk_len {K : PySem.W.Frag} {mg : Str → Option Value} {kvs : List (D × D)} {xs : List (NestedKey × Addr × Value)} (r : RelK K mg m H kvs xs) : xs.length = kvs.length := by
  have := congrArg List.length (relk_keys r)
  simpa using this
theorem dat_hash {k : NestedKey} : True := trivial
mutual
theorem hash_w (w w' : World) : ∀ {d : D}, keyL d = true → (keyN d).hash w = (keyN d).hash w'
  | .int i, _ => by simp [keyN, NestedKey.hash]
  | .tup xs, h => by simp only [keyN, NestedKey.hash]; rw [hashes_w w w' (by simpa [keyL] using h)]
  | .non, h => by cases h
  | .bl _, h => by cases h
  | .str _, h => by cases h
  | .ref _, h => by cases h
  | .fn _, h => by cases h
  | .kd _, h => by cases h
theorem hashes_w (w w' : World) : ∀ {ds : List D}, keyLs ds = true → NestedKey.hashes w (keyNs ds) = NestedKey.hashes w' (keyNs ds)
  | [], _ => by simp [keyNs, NestedKey.hashes]
  | d :: ds, h => by
    have h' : keyL d = true ∧ keyLs ds = true := by simpa [keyLs] using h
    simp only [keyNs, NestedKey.hashes]
    rw [hash_w w w' h'.1, hashes_w w w' h'.2]
end
theorem relk_ent {K : PySem.W.Frag} {mg : Str → Option Value} (P P' : Program) (w w' : World) : ∀ {kvs : List (D × D)} {xs : List (NestedKey × Addr × Value)}, RelK K mg m H kvs xs → xs.map (entryOfKey (nestedKind P w)) = xs.map (entryOfKey (nestedKind P' w'))
  | [], _, r => by cases (r : _ = _); rfl
  | p :: kvs, _, r => by
    obtain ⟨ka, u, v, t, rfl, r1, r2, r3, r4, r5⟩ := r
    rw [List.map_cons, List.map_cons, relk_ent P P' w w' r5]
    congr 1
    show DictEntry.mk ((keyN p.1).hash w) _ _ = DictEntry.mk ((keyN p.1).hash w') _ _
    rw [hash_w w w' (keyOk_L r1).1]

/-- the dict, read -/
theorem rep_dic {K : PySem.W.Frag} {mg : Str → Option Value} (R : Rep K mg m h H) {a : Nat} {kvs : List (D × D)} {v : V} (e : h[a]? = some (.dic kvs)) (r : RelD K mg m H (.ref a) v) :
    ∃ p xs, v = .ref p ∧ m a = some p ∧ H p = some (.ext (DAt p xs)) ∧ (p == sysModules) = false ∧ RelK K mg m H kvs xs ∧ (kvs.map fun q => keyN q.1).Nodup ∧ kvs.length ≤ SZ := by
  obtain ⟨p, rfl, em⟩ := r
  obtain ⟨q, eq, xs, e1, e2⟩ := R.obj a _ e
  rw [em] at eq; cases eq
  exact ⟨p, xs, rfl, em, e1, e2⟩
theorem dat_of (I : L2.Inv X pins σ H s) {p : Addr} {kvs : List (D × D)} {xs : List (NestedKey × Addr × Value)} (e : H p = some (.ext (DAt p xs))) (r : RelK X.K X.mg m H kvs xs) (nd : (kvs.map fun q => keyN q.1).Nodup) : s.heap.DictOfH (nestedKind X.prog X.w) p xs := by
  obtain ⟨⟨o, es, ep, h1, h2, h3, h4⟩, _⟩ := I.hok p _ e
  exact ⟨o, es, ep, h1, h2, h3, h4 _ _, relk_is (I := I) r, by rw [relk_keys r]; exact nd⟩
theorem dat_stay {p : Addr} {xs : List (NestedKey × Addr × Value)} {h1 h2 : Heap} (d : DAt p xs h1) (k : ∀ o, h1.get? p = some o → h2.get? p = some o) : DAt p xs h2 := by
  obtain ⟨o, es, ep, e1, e2⟩ := d
  exact ⟨o, es, ep, k o e1, e2⟩
theorem dat_ok {H' : Hp} {p : Addr} {xs : List (NestedKey × Addr × Value)} {h' : Heap} (d : DAt p xs h') : ObjOk X.prog X.w H' h' p (.ext (DAt p xs)) := by
  obtain ⟨o, es, ep, e1, e2⟩ := d
  exact ⟨⟨o, es, ep, e1, e2⟩, ⟨o, e1⟩, fun h1 h2 d k => dat_stay d k⟩
theorem dat_new {kvs : List (D × D)} {p : Addr} {xs : List (NestedKey × Addr × Value)} {h' : Heap} (d : h'.DictOfH (nestedKind X.prog X.w) p xs) (r : RelK X.K X.mg m H kvs xs) : DAt p xs h' ∧ (kvs.map fun q => keyN q.1).Nodup := by
  obtain ⟨o, es, ep, e1, e2, e3, e4, _, e5⟩ := d
  exact ⟨⟨o, es, ep, e1, e2, e3, fun P w => by rw [e4]; exact relk_ent _ _ _ _ r⟩, by rw [← relk_keys r]; exact e5⟩
/-- the dict, read, walked or not -/
theorem rep_dR (I : L2.Inv X pins σ H s) (R : Rep X.K X.mg m h H) {a : Nat} {kvs : List (D × D)} {v : V} (e : dOf h[a]? = some kvs) (r : RelD X.K X.mg m H (.ref a) v) :
    ∃ p xs, v = .ref p ∧ s.heap.DictOfH (nestedKind X.prog X.w) p xs ∧ (p == sysModules) = false ∧ RelK X.K X.mg m H kvs xs ∧ kvs.length ≤ SZ := by
  obtain ⟨p, rfl, em⟩ := r
  cases q : h[a]? with
  | none => rw [q] at e; cases e
  | some o =>
    rw [q] at e
    obtain ⟨p', ep, ro⟩ := R.obj a _ q
    rw [em] at ep; cases ep
    cases o with
    | lst _ => cases e
    | scr _ => cases e
    | ins _ _ => cases e
    | dic ks =>
      cases e
      obtain ⟨xs, e1, e2, r, nd, hl⟩ := ro
      exact ⟨p, xs, rfl, dat_of I e1 r nd, e2, r, hl⟩
    | dlk ks =>
      cases e
      obtain ⟨xs, ob, e1, e2, r, nd, hl⟩ := ro
      obtain ⟨_, ⟨o, es, ep, h1, h2, h3, h4⟩, _⟩ := I.hok p _ e1
      exact ⟨p, xs, rfl, ⟨o, es, ep, h1, h2, h3, h4 _ _, relk_is (I := I) r, by rw [relk_keys r]; exact nd⟩, e2, r, hl⟩
end

/-! ### the operations -/
section
variable {X : Cx} {pins : List (Addr × Obj)} {σ : L2.St} {H : Hp} {s : Shared} {m : MM} {h : LH}
theorem kroom (hu : X.A.units + 65 < cLine) : (nestedKind X.prog X.w).room X.A.in1 := by
  show X.A.units + 1 + 8 < cLine
  omega
theorem key_ref {K : PySem.W.Frag} {mg : Str → Option Value} {k : D} {v : V} {u : Value} (hk : keyOk k = true) (r : RelD K mg m H k v) (rv : RelV v u) : ∃ ka, v = .ref ka ∧ u = .ref ka := by
  cases k with
  | tup xs =>
    obtain ⟨p, vs, rfl, _⟩ := r
    exact ⟨p, rfl, rv⟩
  | _ => cases hk
theorem key_is (I : L2.Inv X pins σ H s) {k : D} {ka : Addr} (hk : keyOk k = true) (r : RelD X.K X.mg m H k (.ref ka)) : (nestedKind X.prog X.w).is s.heap (keyN k) ka :=
  let ⟨k1, k2⟩ := keyOk_L hk
  ⟨nested_of I k1 r rfl, k2⟩
/-- {} -/
theorem pe_dnewE {pos : Pos} : PE X (.Dict [] [] pos) (fun _ H Q => ∀ p, H p = none → (p == sysModules) = false → Q (.ref p) (upd H p (.ext (DAt p [])))) := ⟨fun pins s σ H Q I h =>
  wpAny_Dict_empty ⟨.ref s.heap.objs.size, _, I.laid (a := s.heap.objs.size) (o := .ext (DAt s.heap.objs.size [])) (t' := s.toks) (fun _ _ q => Heap.get?_push_of_some _ q) (Nat.le_refl _)
    (dat_ok ⟨_, #[], 0, Heap.get?_push_size _ rfl, ⟨rfl, rfl, rfl⟩, rfl, fun _ _ => rfl⟩), rfl,
    h _ (I.hok.fresh (Nat.le_refl _)) (beq_eq_false_iff_ne.mpr (Ne.symm (Nat.ne_of_lt I.big)))⟩⟩
/-- what is in the dict -/
theorem d_in (hu : X.A.units + 65 < cLine) (neg : Bool) {x y : V} {v u : Value} {a : Nat} {kvs : List (D × D)} {k : D} {Q : VK} (I : L2.Inv X pins σ H s) (rx : RelV x v) (ry : RelV y u) (R : Rep X.K X.mg m h H) (ea : dOf h[a]? = some kvs) (ra : RelD X.K X.mg m H (.ref a) y)
    (hk : keyOk k = true) (rk : RelD X.K X.mg m H k x) (q : Q (.bl (if neg then !(dLook kvs k).isSome else (dLook kvs k).isSome)) H) : wpAny (model X.prog X.w) X.A (compareOp (if neg then .NotIn else .In) v u) (EP X pins σ Q) X.xe s := by
  obtain ⟨p, xs, rfl, D, e2, r, _⟩ := rep_dR I R ea ra
  obtain ⟨ka, rfl, rfl⟩ := key_ref hk rk rx
  obtain rfl : u = Value.ref p := ry
  have ke := key_is I hk rk
  have hb : (dLook kvs k).isSome = (atKey xs (keyN k)).isSome := by
    rw [← relk_any hk r]
    unfold dLook
    rw [Option.isSome_map, List.isSome_find?]
  cases neg
  · exact wpAny_in_heap (kroom hu) ke e2 D ⟨.bl _, H, I.tok _, rfl, by rw [← hb]; exact q⟩
  · show wpAny _ _ (do return Value.bool (!(← contains (.ref p) (.ref ka)))) _ _ _
    exact wpAny_bind (wpAny_contains_heap (kroom hu) ke e2 D (wpAny_pure ⟨.bl _, H, I.tok _, rfl, by rw [← hb]; exact q⟩))
theorem ix_dic (hu : X.A.units + 65 < cLine) : IxR X (fun x y H Q => ∃ m h a kvs k d, Rep X.K X.mg m h H ∧ RelD X.K X.mg m H (.ref a) x ∧ RelD X.K X.mg m H k y ∧ dOf h[a]? = some kvs ∧ keyOk k = true ∧ dLook kvs k = some d ∧ ∀ v, RelD X.K X.mg m H d v → Q v H) := by
  intro value slice pins s σ H x y v u Q I rx ry ⟨m, h, a, kvs, k, d, R, ra, rk, ea, hk, hd, q⟩ hs
  obtain ⟨p, xs, rfl, D, e2, r, _⟩ := rep_dR I R ea ra
  obtain ⟨ka, rfl, rfl⟩ := key_ref hk rk ry
  obtain rfl : v = Value.ref p := rx
  obtain ⟨kb, w, vv, b1, b2, b3⟩ := (relk_look hk r).1 d hd
  exact tail_any D.typeIs slot_dict_getitem.lookup (wpAny_getItem_heap (kroom hu) (key_is I hk rk) D b1 ⟨vv, H, I.tok _, b2, q _ b3⟩) hs
/-- behind a change -/
theorem d_changed (I : L2.Inv X pins σ H s) {p : Addr} {xs ys : List (NestedKey × Addr × Value)} {h' : Heap} {t' : Nat} (e : H p = some (.ext (DAt p xs))) (d : DAt p ys h') (hs : Heap.SameBut p s.heap h') :
    L2.Inv X pins σ (upd H p (.ext (DAt p ys))) { s with heap := h', toks := t' } := by
  have he : ∃ q, h'.get? p = some q := let ⟨o, _, _, e, _⟩ := d; ⟨o, e⟩
  exact d_write I (by rw [e]; exact True.intro) hs he (dat_ok d)
theorem go_dic {mg : Str → Option Value} {K : PySem.W.Frag} (R : Rep K mg m h H) {a : Nat} {p : Addr} {o0 : LO} {ys : List (NestedKey × Addr × Value)} {kvs : List (D × D)} (ea : h[a]? = some o0) (m0 : muO o0 = true) (em : m a = some p) (e2 : (p == sysModules) = false)
    (r : RelK K mg m H kvs ys) (nd : (kvs.map fun q => keyN q.1).Nodup) (hz : kvs.length ≤ SZ) : Go m h H m (setDic h a kvs) (upd H p (.ext (DAt p ys))) ∧ Rep K mg m (setDic h a kvs) (upd H p (.ext (DAt p ys))) :=
  go_put R ea m0 em fun t => ⟨ys, upd_same, e2, r.mono t (fun _ _ e => e), nd, hz⟩
theorem dPut_len (kvs : List (D × D)) (k v : D) : (dPut kvs k v).length ≤ kvs.length + 1 := by
  unfold dPut
  split
  · rw [List.length_map]; omega
  · simp
theorem dDel_len (kvs : List (D × D)) (k : D) : (dDel kvs k).length ≤ kvs.length := List.length_filter_le _ _
/-- d[k] = v -/
theorem set_dic (hu : X.A.units + 65 < cLine) : PSet X (fun x y z H Q => ∃ m h a kvs k d, Rep X.K X.mg m h H ∧ RelD X.K X.mg m H (.ref a) x ∧ RelD X.K X.mg m H k y ∧ RelD X.K X.mg m H d z ∧ h[a]? = some (.dic kvs) ∧ keyOk k = true ∧ kvs.length < SZ ∧
    ∀ H', Go m h H m (setDic h a (dPut kvs k d)) H' → Rep X.K X.mg m (setDic h a (dPut kvs k d)) H' → Q H') := by
  intro pins s σ H x y z v u w Q I rx ry rz ⟨m, h, a, kvs, k, d, R, ra, rk, rd, ea, hk, hz, q⟩
  obtain ⟨p, xs, rfl, em, e1, e2, r, nd, hl⟩ := rep_dic R ea ra
  obtain ⟨ka, rfl, rfl⟩ := key_ref hk rk ry
  obtain rfl : v = Value.ref p := rx
  have D := dat_of I e1 r nd
  refine wpAny_setItem_heap (hsz := by rw [relk_len r, SZ_line]; exact hl) (kroom hu) (key_is I hk rk) D fun h' D' hs => ?_
  have r' := relk_put hk rk rz rd r
  obtain ⟨dd, nd'⟩ := dat_new D' r'
  have l' := dPut_len kvs k d
  obtain ⟨g, R'⟩ := go_dic R ea rfl em e2 r' nd' (by omega)
  exact ⟨_, d_changed I e1 dd hs, q _ g R'⟩
/-- d.get(k, x) -/
theorem mt_dget (hu : X.A.units + 65 < cLine) : MtR X "dict.get" (fun x ys H Q => ∃ m h a kvs k d, Rep X.K X.mg m h H ∧ RelD X.K X.mg m H (.ref a) x ∧ RelDs X.K X.mg m H [k, d] ys ∧ dOf h[a]? = some kvs ∧ keyOk k = true ∧ ∀ v, RelD X.K X.mg m H ((dLook kvs k).getD d) v → Q v H) := by
  intro pins s σ H x ys v us Q I rx rs ⟨m, h, a, kvs, k, d, R, ra, rks, ea, hk, q⟩
  obtain ⟨p, xs, rfl, D, e2, r, hl⟩ := rep_dR I R ea ra
  obtain ⟨y, _, rfl, rk, z, _, rfl, rz, rn⟩ := rks
  cases (rn : _ = _)
  obtain ⟨w1, w2, rfl, q1, q2⟩ := Vals.two rs
  obtain ⟨ka, rfl, rfl⟩ := key_ref hk rk q1
  obtain rfl : v = Value.ref p := rx
  refine call_meetsIn PySem.F.slot_dict_get D.typeIs PySem.F.entry_dict_get (PySem.F.args_dict_get_3 _ _ _) (meetsH_dict_get_default (nestedKind X.prog X.w) p ka e2 w2) ⟨kroom hu, keyN k, xs, key_is I hk rk, D, ?_⟩
  obtain ⟨i1, i2⟩ := relk_look hk r
  cases e : dLook kvs k with
  | none => rw [i2 e]; rw [e] at q; exact ⟨z, H, I.tok _, q2, q _ rz⟩
  | some dd =>
    obtain ⟨kb, w, vv, b1, b2, b3⟩ := i1 dd e
    rw [b1]; rw [e] at q
    exact ⟨vv, H, I.tok _, b2, q _ b3⟩
/-- d.pop(k), there -/
theorem mt_dpop (hu : X.A.units + 65 < cLine) : MtR X "dict.pop" (fun x ys H Q => ∃ m h a kvs k d, Rep X.K X.mg m h H ∧ RelD X.K X.mg m H (.ref a) x ∧ RelDs X.K X.mg m H [k] ys ∧ h[a]? = some (.dic kvs) ∧ keyOk k = true ∧ dLook kvs k = some d ∧
    ∀ v H', Go m h H m (setDic h a (dDel kvs k)) H' → Rep X.K X.mg m (setDic h a (dDel kvs k)) H' → RelD X.K X.mg m H' d v → Q v H') := by
  intro pins s σ H x ys v us Q I rx rs ⟨m, h, a, kvs, k, d, R, ra, rks, ea, hk, hd, q⟩
  obtain ⟨p, xs, rfl, em, e1, e2, r, nd, hl⟩ := rep_dic R ea ra
  obtain ⟨y, _, rfl, rk, rn⟩ := rks
  cases (rn : _ = _)
  obtain ⟨w1, rfl, q1⟩ := Vals.one rs
  obtain ⟨ka, rfl, rfl⟩ := key_ref hk rk q1
  obtain rfl : v = Value.ref p := rx
  have D := dat_of I e1 r nd
  obtain ⟨kb, w, vv, b1, b2, b3⟩ := (relk_look hk r).1 d hd
  refine call_pop_heap (more := []) (hsz := by rw [relk_len r, SZ_line]; exact hl) (.inl rfl) (PySem.F.args_dict_pop_2 _ _) (kroom hu) (key_is I hk rk) e2 D b1 fun h' D' hs => ?_
  have r' := relk_del hk r
  obtain ⟨dd, nd'⟩ := dat_new D' r'
  have l' := dDel_len kvs k
  obtain ⟨g, R'⟩ := go_dic R ea rfl em e2 r' nd' (by omega)
  exact ⟨vv, _, d_changed I e1 dd hs, b2, q _ _ g R' (g.rel R b3)⟩
/-- del d[k] -/
theorem ps_ddelE (hu : X.A.units + 65 < cLine) {o i : Expr} {td ty : TE} {tpos pos : Pos} (ho : PE X o td) (hi : PE X i ty) : PS X (.Delete [.Subscript o i tpos] pos) (fun E σ H => td σ H fun x H1 => ty σ H1 fun y H2 =>
    ∃ m h a kvs k d, Rep X.K X.mg m h H2 ∧ RelD X.K X.mg m H2 (.ref a) x ∧ RelD X.K X.mg m H2 k y ∧ h[a]? = some (.dic kvs) ∧ keyOk k = true ∧ dLook kvs k = some d ∧
    ∀ H', Go m h H2 m (setDic h a (dDel kvs k)) H' → Rep X.K X.mg m (setDic h a (dDel kvs k)) H' → E.nx σ H') := by
  refine ⟨fun pins s σ H D I h => ?_⟩
  refine wpAny_Delete (wpAny_deleteEach_cons (wpAny_delete_Subscript (thn (ho.run pins s σ H _ I h) fun u s1 ⟨x, H1, I1, rx, q1⟩ => thn (hi.run pins s1 σ H1 _ I1 q1) fun iv s2 ⟨y, H2, I2, ry, m, h, a, kvs, k, d, R, ra, rk, ea, hk, hd, q⟩ => ?_)))
  obtain ⟨p, xs, rfl, em, e1, e2, r, nd, hl⟩ := rep_dic R ea ra
  obtain ⟨ka, rfl, rfl⟩ := key_ref hk rk ry
  obtain rfl : u = Value.ref p := rx
  have D := dat_of I2 e1 r nd
  obtain ⟨kb, w, vv, b1, b2, b3⟩ := (relk_look hk r).1 d hd
  refine wpAny_delItem_heap (hsz := by rw [relk_len r, SZ_line]; exact hl) (kroom hu) (key_is I2 hk rk) e2 D b1 fun h' D' hs => ?_
  have r' := relk_del hk r
  obtain ⟨dd, nd'⟩ := dat_new D' r'
  have l' := dDel_len kvs k
  obtain ⟨g, R'⟩ := go_dic R ea rfl em e2 r' nd' (by omega)
  exact wpAny_deleteEach_nil ⟨σ, _, d_changed I2 e1 dd hs, q _ g R'⟩
/-- a dict is locked .. -/
theorem lock_in {K : PySem.W.Frag} {mg : Str → Option Value} {m : MM} {h : LH} {H : Hp} (R : Rep K mg m h H) {a : Nat} {p : Addr} {kvs : List (D × D)} {xs : List (NestedKey × Addr × Value)} (od : Obj) (ea : h[a]? = some (.dic kvs)) (em : m a = some p)
    (hs : (p == sysModules) = false) (rk : RelK K mg m H kvs xs) (nd : (kvs.map fun q => keyN q.1).Nodup) (hl : kvs.length ≤ SZ) :
    Go m h H m (h.set a (.dlk kvs)) (upd H p (.frz od (.ext (DAt p xs)))) ∧ Rep K mg m (h.set a (.dlk kvs)) (upd H p (.frz od (.ext (DAt p xs)))) :=
  go_put R ea rfl em fun t => ⟨xs, od, upd_same, hs, rk.mono t (fun _ _ e => e), nd, hl⟩
/-- .. and freed -/
theorem lock_out {K : PySem.W.Frag} {mg : Str → Option Value} {m : MM} {h : LH} {H : Hp} (R : Rep K mg m h H) {a : Nat} {p : Addr} {kvs : List (D × D)} {xs : List (NestedKey × Addr × Value)} (od : Obj) (ea : h[a]? = some (.dic kvs)) (em : m a = some p)
    (hs : (p == sysModules) = false) (rk : RelK K mg m H kvs xs) (nd : (kvs.map fun q => keyN q.1).Nodup) (hl : kvs.length ≤ SZ)
    {m' : MM} {h' : LH} {H' : Hp} (g : Go m (h.set a (.dlk kvs)) (upd H p (.frz od (.ext (DAt p xs)))) m' h' H') (R' : Rep K mg m' h' H') {ks : List (D × D)} (ha : h'[a]? = some (.dlk ks)) :
    H' p = some (.frz od (.ext (DAt p xs))) ∧ TK K H' (upd H' p (.ext (DAt p xs))) ∧ Go m h H m' (setDic h' a kvs) (upd H' p (.ext (DAt p xs))) ∧ Rep K mg m' (setDic h' a kvs) (upd H' p (.ext (DAt p xs))) := by
  obtain ⟨g1, R1⟩ := lock_in R od ea em hs rk nd hl
  have hlt : a < h.length := (List.getElem?_eq_some_iff.mp ea).1
  have hlt' : a < h'.length := (List.getElem?_eq_some_iff.mp ha).1
  have hp1 : upd H p (.frz od (.ext (DAt p xs))) p = some (.frz od (.ext (DAt p xs))) := upd_same
  have hp' : H' p = some (.frz od (.ext (DAt p xs))) := g.keep p _ hp1 (R1.nown hp1 rfl)
  have em' : m' a = some p := g.le a p em
  have tk : TK K H' (upd H' p (.ext (DAt p xs))) := fun q vs t => by
    rcases t with ⟨o, e, z⟩ | t
    · refine .inl ⟨o, ?_, z⟩
      rw [upd_ne]
      · exact e
      · rintro rfl; rw [hp'] at e; cases e
    · exact .inr t
  have at_ : ∀ b v, (setDic h' a kvs)[b]? = some v → (b = a ∧ v = .dic kvs) ∨ (b ≠ a ∧ h'[b]? = some v) := fun b v e => by
    unfold setDic at e
    by_cases hb : b = a
    · subst hb
      rw [List.getElem?_set_self hlt'] at e
      exact .inl ⟨rfl, (Option.some.inj e).symm⟩
    · rw [List.getElem?_set_ne (Ne.symm hb)] at e
      exact .inr ⟨hb, e⟩
  have own1 : ∀ b, Own m (h.set a (.dlk kvs)) b → Own m h b := fun b ⟨c, v, e1, e2, e3⟩ => by
    by_cases hc : c = a
    · subst hc
      rw [List.getElem?_set_self hlt] at e2
      cases e2; cases e3
    · rw [List.getElem?_set_ne (Ne.symm hc)] at e2
      exact ⟨c, v, e1, e2, e3⟩
  have ownp : Own m h p := ⟨a, _, em, ea, rfl⟩
  refine ⟨hp', tk, ⟨fun b q e => g.le b q e, fun b ⟨c, v, e1, e2, e3⟩ => ?_, fun b v e no => ?_⟩, ⟨fun b v e => ?_, fun b q e => ?_, fun b c q v v' e1 e2 e3 e4 e5 e6 => ?_⟩⟩
  · rcases at_ c v e2 with ⟨rfl, _⟩ | ⟨_, e2⟩
    · rw [em'] at e1; cases e1
      exact .inl ownp
    · rcases g.new b ⟨c, v, e1, e2, e3⟩ with o | n
      · exact .inl (own1 b o)
      · by_cases hb : b = p
        · subst hb; rw [hp1] at n; cases n
        · rw [upd_ne hb] at n; exact .inr n
  · have hb : b ≠ p := by rintro rfl; exact no ownp
    rw [upd_ne hb]
    exact g.keep b v (by rw [upd_ne hb]; exact e) fun o => no (own1 b o)
  · rcases at_ b v e with ⟨rfl, rfl⟩ | ⟨hb, e⟩
    · exact ⟨p, em', xs, upd_same, hs, (rk.mono (g1.tk R) (fun _ _ e => e)).mono (fun q vs t => tk q vs (g.tk R1 q vs t)) g.le, nd, hl⟩
    · obtain ⟨q, e1, r1⟩ := R'.obj b v e
      refine ⟨q, e1, ?_⟩
      by_cases hm : unq v = true
      · refine r1.mono tk (fun _ _ e => e) fun u e2 => ?_
        rw [upd_ne]
        · exact e2
        · rintro rfl
          exact hb (R'.inj b a q v _ e1 em' e ha hm rfl)
      · cases v with
        | scr ns =>
          rcases r1 with ⟨o, r1⟩ | r1
          · refine .inl ⟨o, ?_⟩
            rw [upd_ne]
            · exact r1
            · rintro rfl; rw [hp'] at r1; cases r1
          · exact .inr r1
        | _ => exact absurd rfl hm
  · have := R'.dom b q e
    simpa [setDic] using this
  · have fnd : ∀ b v, (setDic h' a kvs)[b]? = some v → unq v = true → ∃ o', h'[b]? = some o' ∧ unq o' = true := fun b v e hm => by
      rcases at_ b v e with ⟨rfl, _⟩ | ⟨_, e⟩
      · exact ⟨_, ha, rfl⟩
      · exact ⟨v, e, hm⟩
    obtain ⟨o', f1, f2⟩ := fnd b v e3 e5
    obtain ⟨u', f3, f4⟩ := fnd c v' e4 e6
    exact R'.inj b c q o' u' e1 e2 f1 f3 f2 f4
/-- o.m(..), o a dict -/
theorem pe_bmD {o e : Expr} {es : List Expr} {to : TE} {t : TA} {name : Str} {apos cpos : Pos} {id : String} {r : V → List V → Hp → VK → Prop} (slot : Slot "dict" name id) (hty : typeOf (.builtin id) = pure (.type "method_descriptor")) (hm : MtR X id r) (ho : PE X o to) (ha : PA X (e :: es) t)
    (hbase : attributeBase o name X.env (eval o X.env) = eval o X.env)
    (hfew : ((backTo cpos (starEach (e :: es) X.env)).all (fun x => !x.1) && (backToKw cpos (keywordEach [] X.env)).all (fun x => x.1.isSome)
      && decide ((e :: es).length + ([] : List Keyword).length + (if ([] : List Keyword).isEmpty then 0 else 1) < 30)) = true)
    (hline : (apos.endLine == cpos.line) = true) (hs : starEach (e :: es) X.env = (false, eval e X.env) :: starEach es X.env) (hplain : (backTo cpos (starEach es X.env)).any (·.1) = false) :
    PE X (.Call (.Attribute o name apos) (e :: es) [] cpos) (fun σ H Q => to σ H fun x H1 => (∃ p xs, x = .ref p ∧ (H1 p = some (.ext (DAt p xs)) ∨ ∃ o, H1 p = some (.frz o (.ext (DAt p xs))))) ∧ t σ H1 fun xs H2 => r x xs H2 Q) := by
  refine ⟨fun pins s σ H Q I h => ?_⟩
  refine wpAny_Call_method_late hbase hfew hline rfl (thn (ho.run pins s σ H _ I h) fun v s1 ⟨x, H1, I1, r1, ⟨p, xs, ex, ep⟩, q1⟩ => ?_)
  subst ex
  obtain rfl : v = Value.ref p := r1
  have hD : DAt p xs s1.heap := by
    rcases ep with ep | ⟨o, ep⟩
    · exact (I1.hok p _ ep).1
    · exact (I1.hok p _ ep).2.1
  obtain ⟨ob, es', epp, h1, h2, h3, h4⟩ := hD
  refine ⟨"dict", id, PySem.F.plainAttrs_dict, slot, hty, ⟨ob, h1, h2.1⟩, fun a ea => ?_, ?_⟩
  · cases ea; exact ⟨ob, h1, h2.2.1⟩
  have hA := ha.run cpos pins s1 σ H1 _ I1 q1
  rw [hs] at hA ⊢
  refine Calls.callWith_builtin (by show (false || (backTo cpos (starEach es X.env)).any (·.1)) = false; rw [hplain] <;> rfl) (Calls.evalArgs_plain ?_)
  exact thn hA fun us s2 ⟨vs, H2, I2, r2, q2⟩ => hm pins s2 σ H2 (.ref p) vs (.ref p) us Q I2 rfl r2 q2
end
end FK

end
section
set_option maxRecDepth 100000
set_option maxHeartbeats 4000000
/-! Fk2t: tuples that are known to have no dict of their own. -/
namespace FK
open PySem PySem.Spec PyProof.Rows L2

/-- a new tuple -/
def tupO (us : List Value) : Obj := { cls := .type "tuple", data := .seq us.toArray }
section
variable {X : Cx} {pins : List (Addr × Obj)} {σ : L2.St} {H : Hp} {s : Shared}
/-- a new tuple is laid: known to have no dict -/
theorem laid_tup {h0 : Heap} {t' : Nat} {us : List Value} {vs : List V} (I : L2.Inv X pins σ H s) (k : ∀ b o, s.heap.get? b = some o → h0.get? b = some o) (r : Vals vs us) (z : vs.length ≤ sizeLine) :
    L2.Inv X pins σ (upd H h0.objs.size (.frz (tupO us) (.tup vs))) { s with heap := h0.push (tupO us), toks := t' } ∧ H h0.objs.size = none := by
  have I1 : L2.Inv X pins σ H { s with heap := h0 } := I.kept (t' := s.toks) k
  refine ⟨I1.laid (t' := t') (fun b o e => Heap.get?_push_of_some _ e) (Nat.le_refl _) ?_, I1.hok.fresh (Nat.le_refl _)⟩
  exact ⟨Heap.get?_push_size _ rfl, z, us, r, IsTup.new _ _⟩
theorem upd_tupS {K : PySem.W.Frag} {p : Addr} {us : List Value} {vs : List V} : TupS K (upd H p (.frz (tupO us) (.tup vs))) p vs := .inl ⟨_, upd_same, rfl⟩
/-- what follows a new tuple -/
def NewT (K : PySem.W.Frag) (vs : List V) (H : Hp) (Q : VK) : Prop := ∀ p us, H p = none → Q (.ref p) (upd H p (.frz (tupO us) (.tup vs)))
theorem pe_tupF {es : List Expr} {t : TA} {x1 pos} (h : PA X es t) : PE X (.Tuple es x1 pos) (fun σ H Q => t σ H fun xs H1 => xs.length ≤ sizeLine ∧ NewT X.K xs H1 Q) := by
  refine ⟨fun pins s σ H Q I hq => ?_⟩
  refine wpAny_Tuple_spliced (thn (h.run pos pins s σ H _ I hq) fun us s1 ⟨xs, H1, I1, r, z, q⟩ => ⟨by rw [← r.length]; exact z, ?_⟩)
  obtain ⟨I2, hn⟩ := laid_tup (t' := s1.toks) I1 (fun _ _ e => e) r z
  exact ⟨.ref s1.heap.objs.size, _, I2, rfl, q _ us hn⟩
/-- t + u -/
def rCatF (K : PySem.W.Frag) : R2 := fun x y H Q => ∃ a b xs ys, x = .ref a ∧ y = .ref b ∧ SqT K H a xs ∧ SqT K H b ys ∧ xs.length + ys.length ≤ sizeLine ∧
  (xs = [] → Q (.ref b) H) ∧ (xs ≠ [] → ys = [] → Q (.ref a) H) ∧ (xs ≠ [] → ys ≠ [] → NewT K (xs ++ ys) H Q)
theorem op_catF : OpR X (binaryOp .Add) (rCatF X.K) := by
  intro pins s σ H x y v u Q I rx ry h
  obtain ⟨a, b, xs, ys, rfl, rfl, ha, hb, hz, q0, q1, q2⟩ := h
  cases rx
  cases ry
  obtain ⟨its, r1, p1, _⟩ := I.tuple ha
  obtain ⟨its2, r2, p2, _⟩ := I.tuple hb
  by_cases hx : xs = []
  · subst hx
    cases r1
    exact cat_tup0 p1 p2 ⟨.ref b, H, I, rfl, q0 rfl⟩
  · refine HT.cat_tup p1 p2 (fun z => hx (r1.nil_iff.mp z)) (fun z => ⟨.ref a, H, I, rfl, q1 hx (r2.nil_iff.mp z)⟩) (fun z => ?_) (by rw [← r1.length, ← r2.length]; exact hz)
    obtain ⟨I2, hn⟩ := laid_tup (t' := s.toks) I (fun _ _ e => e) (r1.append r2) (by rw [List.length_append]; exact hz)
    exact ⟨.ref s.heap.objs.size, _, I2, rfl, q2 hx (fun w => z (r2.nil_iff.mpr w)) _ _ hn⟩
/-- t[lo:hi]: the whole of it is t itself -/
def rSlF (K : PySem.W.Frag) : V → Option Int → Option Int → Hp → VK → Prop := fun x lo hi H Q => ∃ a xs, x = .ref a ∧ SqT K H a xs ∧
  (HT.sIx xs.length 0 lo = 0 ∧ HT.sIx xs.length xs.length hi = xs.length → Q (.ref a) H) ∧ (¬ (HT.sIx xs.length 0 lo = 0 ∧ HT.sIx xs.length xs.length hi = xs.length) → NewT K (cutV xs lo hi) H Q)
theorem sl_tupF : SlR X (rSlF X.K) := by
  intro pins s σ H x v vl vu lo hi sl Q I rx hs pl pu h
  obtain ⟨a, xs, rfl, hx, q1, q2⟩ := h
  cases rx
  obtain ⟨its, r, ht, hz⟩ := I.tuple hx
  have hlen : its.toArray.size = xs.length := by rw [List.size_toArray]; exact r.length.symm
  refine ⟨"tuple", _, PyProof.Rows.slot_tuple_getitem.lookup, ht.typeIs, ?_⟩
  by_cases hw : HT.sIx xs.length 0 lo = 0 ∧ HT.sIx xs.length xs.length hi = xs.length
  · exact getItem_tuple_whole ht hs pl pu (by rw [hlen]; exact hw) ⟨.ref a, H, I, rfl, q1 hw⟩
  · refine HT.getItem_tuple_cut ht hs pl pu (by rw [hlen]; exact hw) ?_ (by rw [hlen]; exact hz)
    rw [hlen]
    obtain ⟨I2, hn⟩ := laid_tup (t' := s.toks) I (fun _ _ e => e) ((r.drop (HT.sIx xs.length 0 lo)).take (HT.sIx xs.length xs.length hi - HT.sIx xs.length 0 lo)) (Nat.le_trans (cutV_length xs lo hi) hz)
    exact ⟨.ref s.heap.objs.size, _, I2, rfl, q2 hw _ _ hn⟩
theorem call_tupleF : CallR X (.type "tuple") (fun xs H Q => ∃ p ys, xs = [.ref p] ∧ ((SqL X.K H p ys ∧ NewT X.K ys H Q) ∨ (SqT X.K H p ys ∧ Q (.ref p) H))) := by
  intro pins s σ H xs us Q I r h
  obtain ⟨p, ys, rfl, h⟩ := h
  obtain ⟨u, rfl, rx⟩ := vals1 r
  cases rx
  rcases h with ⟨hq, q⟩ | ⟨hq, q⟩
  · obtain ⟨its, r', pl, hz⟩ := I.list hq
    have hlen := r'.length
    refine call_tuple_list pl.isList (fun h' kp => ?_) (by simp only [List.size_toArray] <;> omega)
    obtain ⟨I2, hn⟩ := laid_tup (t' := s.toks) I kp r' hz
    exact ⟨.ref h'.objs.size, _, I2, rfl, q _ _ hn⟩
  · obtain ⟨its, r', pl, hz⟩ := I.tuple hq
    exact call_tuple_same pl ⟨.ref p, H, I, rfl, q⟩
/-- o.m(..), o a tuple -/
theorem pe_bmT {o e : Expr} {es : List Expr} {to : TE} {t : TA} {name : Str} {apos cpos : Pos} {id : String} {r : V → List V → Hp → VK → Prop} (slot : Slot "tuple" name id) (hty : typeOf (.builtin id) = pure (.type "method_descriptor")) (hm : MtR X id r) (ho : PE X o to) (ha : PA X (e :: es) t)
    (hbase : attributeBase o name X.env (eval o X.env) = eval o X.env)
    (hfew : ((backTo cpos (starEach (e :: es) X.env)).all (fun x => !x.1) && (backToKw cpos (keywordEach [] X.env)).all (fun x => x.1.isSome)
      && decide ((e :: es).length + ([] : List Keyword).length + (if ([] : List Keyword).isEmpty then 0 else 1) < 30)) = true)
    (hline : (apos.endLine == cpos.line) = true) (hs : starEach (e :: es) X.env = (false, eval e X.env) :: starEach es X.env) (hplain : (backTo cpos (starEach es X.env)).any (·.1) = false) :
    PE X (.Call (.Attribute o name apos) (e :: es) [] cpos) (fun σ H Q => to σ H fun x H1 => (∃ p vs, x = .ref p ∧ TupS X.K H1 p vs) ∧ t σ H1 fun xs H2 => r x xs H2 Q) := by
  refine ⟨fun pins s σ H Q I h => ?_⟩
  refine wpAny_Call_method_late hbase hfew hline rfl (thn (ho.run pins s σ H _ I h) fun v s1 ⟨x, H1, I1, r1, ⟨p, xs, ex, ep⟩, q1⟩ => ?_)
  subst ex
  obtain rfl : v = Value.ref p := r1
  obtain ⟨ob, h1, h2, h3⟩ : ∃ ob, s1.heap.get? p = some ob ∧ ob.cls = .type "tuple" ∧ ob.dict = none := by
    rcases ep with ⟨ob, e1, e2⟩ | ⟨ob, its, n, e1, e2, e3, _⟩
    · obtain ⟨k1, _, its, _, ob', k2, k3, _⟩ := I1.hok p _ e1
      rw [k1] at k2; cases k2
      exact ⟨ob, k1, k3, e2⟩
    · exact ⟨ob, I1.kIn p ob e1, e2, e3⟩
  refine ⟨"tuple", id, PySem.F.plainAttrs_tuple, slot, hty, ⟨ob, h1, h2⟩, fun a ea => ?_, ?_⟩
  · cases ea; exact ⟨ob, h1, h3⟩
  have hA := ha.run cpos pins s1 σ H1 _ I1 q1
  rw [hs] at hA ⊢
  refine Calls.callWith_builtin (by show (false || (backTo cpos (starEach es X.env)).any (·.1)) = false; rw [hplain] <;> rfl) (Calls.evalArgs_plain ?_)
  exact thn hA fun us s2 ⟨vs, H2, I2, r2, q2⟩ => hm pins s2 σ H2 (.ref p) vs (.ref p) us Q I2 rfl r2 q2
theorem op_repF : OpR X (binaryOp .Mult) (fun x y H Q => ∃ l k xs, x = .ref l ∧ y = .int k ∧ SqT X.K H l xs ∧ xs ≠ [] ∧ 2 ≤ k ∧ k ≤ 1000 ∧ xs.length ≤ 1000 ∧ NewT X.K (List.replicate k.toNat xs).flatten H Q) := by
  intro pins s σ H x y v u Q I rx ry h
  obtain ⟨l, k, xs, rfl, rfl, hT, hne, h1, h2, hz, q⟩ := h
  cases rx
  obtain ⟨t, rfl⟩ := ry
  obtain ⟨its, r, ⟨⟨cls, dd, data, sl⟩, ho, hc, n, hd⟩, hs⟩ := I.tuple hT
  simp only at hc hd
  subst hc hd
  have hle : its.length = xs.length := r.length.symm
  have hn : its ≠ [] := fun e => hne (by
    rw [e] at hle
    exact List.eq_nil_of_length_eq_zero hle.symm)
  have hi : its.toArray.isEmpty = false := by
    cases its with
    | nil => exact absurd rfl hn
    | cons a b => rfl
  have hsz0 : its.toArray.size = xs.length := by rw [List.size_toArray, hle]
  have hm : ((its.toArray.size : Nat) : Int) * k ≤ 1000000 := by
    rw [hsz0]
    have a1 : ((xs.length : Nat) : Int) * k ≤ 1000 * k := Int.mul_le_mul_of_nonneg_right (by omega) (by omega)
    omega
  have flen : (List.replicate k.toNat its).flatten.length ≤ sizeLine := by
    rw [PyProof.Rows.lm_len_rep_flat, hle, sizeLine_eq]
    have a1 : k.toNat * xs.length ≤ 1000 * 1000 := Nat.mul_le_mul (by omega) hz
    omega
  have c0 : (decide (k < -(2 ^ 63)) || decide (k ≥ 2 ^ 63)) = false := by
    rw [decide_eq_false (by omega), decide_eq_false (by omega)] <;> rfl
  have c1 : (its.toArray.isEmpty || k == 1) = false := by
    rw [hi, Bool.false_or]
    exact beq_eq_false_iff_ne.mpr (by omega)
  have c2 : (decide (k ≤ 0) || its.toArray.isEmpty) = false := by
    rw [hi, Bool.or_false]
    exact decide_eq_false (by omega)
  have c4 : Builtin.Tuple.tupleTooMany (((its.toArray.size : Nat) : Int) * k) = false := by
    unfold Builtin.Tuple.tupleTooMany
    rw [sizeLine_eq]
    exact decide_eq_false (by omega)
  refine wpAny_binaryOp_repeat_ref (T := "tuple") (U := "int") (by decide) ⟨_, ho, rfl⟩ (fun s' => typeIs_int s' k t) noFill_tuple_mul F.fills_int_mul F.slot_int_rmul repeat_tuple F.slot_int_index.lookup
    (call_meets F.slot_int_rmul (typeIs_int s k t) F.entry_int_rmul (F.args_int_rmul_2 _ _) (int_rmul_tuple k t l its.toArray n dd sl)
      ⟨ho, rfl, ⟨_, ho, rfl⟩, call_meets F.slot_tuple_mul ⟨_, ho, rfl⟩ F.entry_tuple_mul (F.args_tuple_mul_2 _ _) (tuple_mulW l its.toArray n dd sl k t c0 c1 c2 (by omega) c4 (by rw [size_rep, List.size_toArray]; exact flen)) ⟨ho, ?_⟩⟩)
  rw [size_rep]
  obtain ⟨I2, hn2⟩ := laid_tup (t' := s.toks) I (fun _ _ e => e) (r.rep k.toNat) (by rw [PyProof.Rows.lm_len_rep_flat, sizeLine_eq]; have a1 : k.toNat * xs.length ≤ 1000 * 1000 := Nat.mul_le_mul (by omega) hz; omega)
  exact ⟨.ref s.heap.objs.size, _, I2, rfl, q _ _ hn2⟩
end
end FK

end
section
set_option maxRecDepth 100000
set_option maxHeartbeats 4000000
/-! Fk2: what the operators compute. -/
namespace FK
open PySem PySem.Spec PyProof.Rows L2

theorem str_len (s : List Nat) : (⟨s.toArray⟩ : Str).length = s.length := by show s.toArray.size = _; simp
theorem str_app (s t : List Nat) : (⟨s.toArray⟩ : Str) ++ (⟨t.toArray⟩ : Str) = ⟨(s ++ t).toArray⟩ := by
  show Str.append _ _ = _
  unfold Str.append
  simp
theorem str_beq (s t : List Nat) : ((⟨s.toArray⟩ : Str) == ⟨t.toArray⟩) = (s == t) := by
  rw [Bool.eq_iff_iff]
  simp

section
variable {K : PySem.W.Frag} {mg : Str → Option Value} {m : MM} {h : LH} {H : Hp}
/-- what an end is good for -/
def GoE (K : PySem.W.Frag) (mg : Str → Option Value) (m : MM) (h : LH) (H : Hp) (r : Option (D × LH)) (Q : VK) : Prop :=
  ∃ d h', r = some (d, h') ∧ ∀ m' v H', Go m h H m' h' H' → Rep K mg m' h' H' → RelD K mg m' H' d v → Q v H'

theorem goe_keep {Q : VK} (R : Rep K mg m h H) {r : Option (D × LH)} {d : D} {v : V} (g : GoE K mg m h H r Q) (e : r = some (d, h)) (rd : RelD K mg m H d v) : Q v H := by
  obtain ⟨d', h', e', q⟩ := g
  rw [e] at e'; cases e'
  exact q m v H Go.refl R rd
theorem goe_tup {Q : VK} (R : Rep K mg m h H) {r : Option (D × LH)} {xs : List D} {vs : List V} (g : GoE K mg m h H r Q) (e : r = some (.tup xs, h)) (rd : RelDs K mg m H xs vs) : NewT K vs H Q := by
  obtain ⟨d', h', e', q⟩ := g
  rw [e] at e'; cases e'
  intro p us n
  obtain ⟨g1, R1⟩ := go_fresh R n (.frz (tupO us) (.tup vs))
  exact q m _ _ g1 R1 ⟨p, vs, rfl, upd_tupS, Go.rels R g1 rd⟩
theorem goe_lst {Q : VK} (R : Rep K mg m h H) {r : Option (D × LH)} {xs : List D} {vs : List V} (g : GoE K mg m h H r Q) (e : r = alloc h (.lst xs)) (rd : RelDs K mg m H xs vs) : ∀ p, H p = none → Q (.ref p) (upd H p (.lst vs)) := by
  obtain ⟨d', h', e', q⟩ := g
  rw [e] at e'; cases e'
  intro p n
  obtain ⟨m', g1, R1, em⟩ := go_alloc R n rd
  exact q m' _ _ g1 R1 ⟨p, rfl, em⟩
theorem rep_lst (R : Rep K mg m h H) {a : Nat} {xs : List D} {v : V} (e : h[a]? = some (.lst xs)) (r : RelD K mg m H (.ref a) v) : ∃ p vs, v = .ref p ∧ m a = some p ∧ H p = some (.lst vs) ∧ RelDs K mg m H xs vs := by
  obtain ⟨p, rfl, em⟩ := r
  obtain ⟨q, eq, vs, e1, e2⟩ := R.obj a _ e
  rw [em] at eq; cases eq
  exact ⟨p, vs, rfl, em, e1, e2⟩
theorem rep_scr (R : Rep K mg m h H) {a : Nat} {ns : List Int} {v : V} (e : h[a]? = some (.scr ns)) (r : RelD K mg m H (.ref a) v) : ∃ p, v = .ref p ∧ SqL K H p (ns.map V.int) := by
  obtain ⟨p, rfl, em⟩ := r
  obtain ⟨q, eq, e1⟩ := R.obj a _ e
  rw [em] at eq; cases eq
  exact ⟨p, rfl, ScrAt.sq e1⟩
/-- a list or the script, read -/
theorem rep_seq (R : Rep K mg m h H) {a : Nat} {xs : List D} {v : V} (e : seqOf (.ref a) h = some xs) (r : RelD K mg m H (.ref a) v) : ∃ p vs, v = .ref p ∧ m a = some p ∧ SqL K H p vs ∧ RelDs K mg m H xs vs := by
  unfold seqOf at e
  have r' := r
  obtain ⟨p, rfl, em⟩ := r
  cases q : h[a]? with
  | none => simp [q] at e
  | some o =>
    cases o with
    | lst ys =>
      simp [q] at e; subst e
      obtain ⟨p', vs, e1, _, e2, e3⟩ := rep_lst R q r'
      cases e1
      exact ⟨p, vs, rfl, em, SqL.of e2, e3⟩
    | scr ns =>
      simp [q] at e; subst e
      obtain ⟨p', e1, e2⟩ := rep_scr R q r'
      cases e1
      exact ⟨p, _, rfl, em, e2, RelDs.ints ns⟩
    | dic _ => simp [q] at e
    | dlk _ => simp [q] at e
    | ins _ _ => simp [q] at e

theorem RelDs.rep {xs : List D} {vs : List V} (r : RelDs K mg m H xs vs) : ∀ k : Nat, RelDs K mg m H (List.replicate k xs).flatten (List.replicate k vs).flatten
  | 0 => rfl
  | k + 1 => by
    rw [List.replicate_succ, List.flatten_cons, List.replicate_succ, List.flatten_cons]
    exact r.append (RelDs.rep r k)
end
mutual
/-- the library's data -/
def pd : D → PyData
  | .non => .none
  | .bl b => .bool b
  | .int i => .int i
  | .str s => .str ⟨s.toArray⟩
  | .tup xs => .tuple (pds xs)
  | _ => .none
def pds : List D → List PyData
  | [] => []
  | x :: xs => pd x :: pds xs
end
section
variable {K : PySem.W.Frag} {mg : Str → Option Value} {m : MM} {h : LH} {H : Hp}
mutual
theorem rel_dp : ∀ {d : D} {v : V}, pur d = true → RelD K mg m H d v → Dp K H v (pd d) ∧ (pd d).canLay0 = true ∧ (pd d).depth = dep d
  | .non, _, _, r => by cases (r : _ = _); exact ⟨.non, by simp [pd, PyData.canLay0], by simp [pd, PyData.depth, dep]⟩
  | .bl b, _, _, r => by cases (r : _ = _); exact ⟨.bl b, by simp [pd, PyData.canLay0], by simp [pd, PyData.depth, dep]⟩
  | .int b, _, _, r => by cases (r : _ = _); exact ⟨.int b, by simp [pd, PyData.canLay0], by simp [pd, PyData.depth, dep]⟩
  | .str s, _, p, r => by
    cases (r : _ = _)
    refine ⟨.str _, ?_, by simp [pd, PyData.depth, dep]⟩
    simp only [pd, PyData.canLay0, PyData.strOk]
    simpa [pur] using p
  | .tup xs, _, p, r => by
    obtain ⟨q, vs, rfl, h1, h2⟩ := r
    obtain ⟨e1, e2, e3⟩ := rel_dps (xs := xs) (by simpa [pur] using p) h2
    exact ⟨.tup h1.sq e1, by simpa [pd, PyData.canLay0] using e2, by simp [pd, PyData.depth, dep, e3]⟩
  | .ref _, _, p, _ => by simp [pur] at p
  | .fn _, _, p, _ => by simp [pur] at p
  | .kd _, _, p, _ => by simp [pur] at p
theorem rel_dps : ∀ {xs : List D} {vs : List V}, purs xs = true → RelDs K mg m H xs vs → DpAll K H vs (pds xs) ∧ PyData.canLayAll0 (pds xs) = true ∧ PyData.depthAll (pds xs) = deps xs
  | [], _, _, r => by cases (r : _ = _); exact ⟨.nil, by simp [pds, PyData.canLayAll0], by simp [pds, PyData.depthAll, deps]⟩
  | x :: xs, _, p, r => by
    obtain ⟨v, vs, rfl, h1, h2⟩ := r
    have p' : pur x = true ∧ purs xs = true := by simpa [purs] using p
    obtain ⟨a1, a2, a3⟩ := rel_dp p'.1 h1
    obtain ⟨b1, b2, b3⟩ := rel_dps p'.2 h2
    exact ⟨.cons a1 b1, by simp [pds, PyData.canLayAll0, a2, b2], by simp [pds, PyData.depthAll, deps, a3, b3]⟩
end
theorem purs_all : ∀ {xs : List D}, xs.all shp = true → purs xs = true ∧ deps xs ≤ 60
  | [], _ => ⟨rfl, by simp [deps]⟩
  | x :: xs, h => by
    have h' : shp x = true ∧ xs.all shp = true := by simpa using h
    have h1 : pur x = true ∧ dep x ≤ 60 := by simpa [shp] using h'.1
    obtain ⟨a, b⟩ := purs_all h'.2
    exact ⟨by simp [purs, h1.1, a], by simp only [deps]; omega⟩
theorem shp_dp {d : D} {v : V} (p : shp d = true) (r : RelD K mg m H d v) : Dp K H v (pd d) ∧ SeqAt.shaped (pd d) = true := by
  have h1 : pur d = true ∧ dep d ≤ 60 := by simpa [shp] using p
  obtain ⟨a1, a2, a3⟩ := rel_dp h1.1 r
  exact ⟨a1, by simp [SeqAt.shaped, a2, a3]; omega⟩
end

/-! ### == -/
mutual
theorem eqv_pd : ∀ {a b : D}, pur a = true → pur b = true → PyData.eqv (pd a) (pd b) = pyeq a b
  | .non, b, _, q => by cases b <;> first | (simp [pur] at q; done) | simp [pd, PyData.eqv, pyeq]
  | .bl _, b, _, q => by cases b <;> first | (simp [pur] at q; done) | simp [pd, PyData.eqv, pyeq, b2i]
  | .int _, b, _, q => by cases b <;> first | (simp [pur] at q; done) | simp [pd, PyData.eqv, pyeq, b2i]
  | .str _, b, _, q => by cases b <;> first | (simp [pur] at q; done) | simp [pd, PyData.eqv, pyeq, str_beq]
  | .tup xs, b, p, q => by
    cases b with
    | tup ys => simp only [pd, PyData.eqv, pyeq]; exact eqv_pds (by simpa [pur] using p) (by simpa [pur] using q)
    | _ => first | (simp [pur] at q; done) | simp [pd, PyData.eqv, pyeq]
  | .ref _, _, p, _ => by simp [pur] at p
  | .fn _, _, p, _ => by simp [pur] at p
  | .kd _, _, p, _ => by simp [pur] at p
theorem eqv_pds : ∀ {xs ys : List D}, purs xs = true → purs ys = true → PyData.eqvAll (pds xs) (pds ys) = pyeqs xs ys
  | [], [], _, _ => by simp [pds, PyData.eqvAll, pyeqs]
  | [], _ :: _, _, _ => by simp [pds, PyData.eqvAll, pyeqs]
  | _ :: _, [], _, _ => by simp [pds, PyData.eqvAll, pyeqs]
  | x :: xs, y :: ys, p, q => by
    have p' : pur x = true ∧ purs xs = true := by simpa [purs] using p
    have q' : pur y = true ∧ purs ys = true := by simpa [purs] using q
    simp only [pds, PyData.eqvAll, pyeqs]
    rw [eqv_pd p'.1 q'.1, eqv_pds p'.2 q'.2]
end
theorem any_pds {x : D} (p : pur x = true) : ∀ {xs : List D}, purs xs = true → ((pds xs).any fun z => PyData.eqv z (pd x)) = xs.any fun y => pyeq y x
  | [], _ => rfl
  | y :: ys, q => by
    have q' : pur y = true ∧ purs ys = true := by simpa [purs] using q
    simp only [pds, List.any_cons]
    rw [eqv_pd q'.1 p, any_pds p q'.2]

/-! ### operators -/
section
variable {X : Cx}
/-- what a rule of two values says of the language -/
abbrev rD2 (X : Cx) (f : D → D → LH → Option (D × LH)) : R2 := fun x y H Q => ∃ m h a b, Rep X.K X.mg m h H ∧ RelD X.K X.mg m H a x ∧ RelD X.K X.mg m H b y ∧ GoE X.K X.mg m h H (f a b h) Q

theorem op_bin (o : Bop) : OpR X (binaryOp (bopO o)) (rD2 X (binop o)) := by
  intro pins s σ H x y v u Q I rx ry ⟨m, h, a, b, R, ra, rb, g⟩
  have g' := g
  obtain ⟨d, h', e, q⟩ := g
  unfold binop at e
  split at e
  · -- int + int
    cases (ra : _ = _); cases (rb : _ = _)
    exact op_add pins s σ H _ _ v u Q I rx ry ⟨_, _, rfl, rfl, goe_keep R g' rfl rfl⟩
  · rename_i s' t'
    split at e
    · rename_i hz
      cases (ra : _ = _); cases (rb : _ = _)
      refine op_add_str pins s σ H _ _ v u Q I rx ry ⟨_, _, rfl, rfl, by rw [str_len, str_len, SZ_line]; exact hz, goe_keep R g' (by simp [binop, hz]; rfl) ?_⟩
      exact congrArg V.str (str_app s' t')
    · cases e
  · rename_i xs ys
    split at e
    · rename_i hz
      obtain ⟨p, vs, rfl, h1, h2⟩ := ra
      obtain ⟨p', vs', rfl, h1', h2'⟩ := rb
      have l1 := h2.len
      have l2 := h2'.len
      have er : binop .add (.tup xs) (.tup ys) h = some (.tup (xs ++ ys), h) := by simp [binop, hz]
      refine op_catF pins s σ H _ _ v u Q I rx ry ⟨p, p', vs, vs', rfl, rfl, h1.sq, h1'.sq, by rw [SZ_line]; omega, fun e1 => ?_, fun _ e1 => ?_, fun _ _ => goe_tup R g' er (h2.append h2')⟩
      · subst e1
        have : xs = [] := List.length_eq_zero_iff.mp (by simpa using l1)
        subst this
        exact goe_keep R g' er ⟨p', vs', rfl, h1', h2'⟩
      · subst e1
        have : ys = [] := List.length_eq_zero_iff.mp (by simpa using l2)
        subst this
        exact goe_keep R g' er ⟨p, vs, rfl, h1, by simpa using h2⟩
    · cases e
  · rename_i p q
    split at e
    · rename_i xs ys e1 e2
      split at e
      · rename_i hz
        obtain ⟨pa, vs, rfl, _, k1, k2⟩ := rep_lst R e1 ra
        obtain ⟨pb, ws, rfl, _, k3, k4⟩ := rep_lst R e2 rb
        have l1 := k2.len
        have l2 := k4.len
        exact op_cat pins s σ H _ _ v u Q I rx ry ⟨pa, pb, vs, ws, rfl, rfl, k1, k3, by rw [SZ_line]; omega, goe_lst R g' (by simp [binop, e1, e2, hz]) (k2.append k4)⟩
      · cases e
    · cases e
  · cases (ra : _ = _); cases (rb : _ = _)
    exact op_sub pins s σ H _ _ v u Q I rx ry ⟨_, _, rfl, rfl, goe_keep R g' rfl rfl⟩
  · rename_i i j
    split at e
    · rename_i hm
      cases (ra : _ = _); cases (rb : _ = _)
      have fin := goe_keep R g' (d := .int (i * j)) (by simp [binop, hm]) rfl
      unfold mulOk at hm
      simp only [Bool.or_eq_true, Bool.and_eq_true, decide_eq_true_eq] at hm
      rcases hm with (hm | hm) | ⟨h1, h2⟩
      · exact op_mul pins s σ H _ _ v u Q I rx ry ⟨_, _, rfl, rfl, .inl (by omega), fin⟩
      · exact op_mul pins s σ H _ _ v u Q I rx ry ⟨_, _, rfl, rfl, .inr (by omega), fin⟩
      · exact op_mulW pins s σ H _ _ v u Q I rx ry ⟨_, _, rfl, rfl, wide_mul h1 h2 (by decide) (by decide) (by decide), fin⟩
    · cases e
  · rename_i t j
    split at e
    · rename_i hz
      cases (ra : _ = _); cases (rb : _ = _)
      obtain ⟨tk, rfl⟩ := rx
      obtain ⟨tk', rfl⟩ := ry
      have fin := goe_keep R g' (d := .str (List.replicate j.toNat t).flatten) (if_pos hz) rfl
      have hS : (SZ : Int) = 16777216 := rfl
      have hS2 : SZ = 16777216 := rfl
      obtain ⟨z0, z1, z2⟩ := hz
      have fold : ∀ (k : Nat) (acc : Array Nat), (List.replicate k t.toArray).foldl (· ++ ·) acc = acc ++ (List.replicate k t).flatten.toArray := by
        intro k
        induction k with
        | zero => intro acc; simp
        | succ k ih => intro acc; rw [List.replicate_succ, List.foldl_cons, ih, List.replicate_succ, List.flatten_cons]; simp
      refine PySem.P.mul_str (by simp only [Bool.or_eq_false_iff, decide_eq_false_iff_not]; omega) (fun h1 h2 => ?_) (fun h1 h2 => ?_) ?_
      · simp only [Bool.or_eq_false_iff, beq_eq_false_iff_ne] at h2
        rw [str_len]
        have : (t.length : Int) * j ≤ SZ := by
          have e1 : ((t.length * j.toNat : Nat) : Int) = (t.length : Int) * j := by
            rw [Int.natCast_mul, Int.toNat_of_nonneg (by omega)]
          rw [← e1]; omega
        have h3 : (t.length : Int) ≤ (2 ^ 63 - 1) / j := by
          rw [Int.le_ediv_iff_mul_le (by omega)]
          omega
        omega
      · unfold Builtin.Str.tooLong
        rw [str_len]
        simp only [decide_eq_false_iff_not]
        show ¬ (sizeLine < _)
        rw [SZ_line]
        omega
      · split
        · rename_i h1
          have h0 : j.toNat = 0 := by omega
          rw [h0] at fin
          exact ⟨by decide, .str ⟨#[]⟩, H, I.tok _, ⟨_, rfl⟩, by simpa using fin⟩
        · rename_i h1
          split
          · rename_i h2
            simp only [Bool.or_eq_true, beq_iff_eq] at h2
            refine ⟨.str ⟨t.toArray⟩, H, I, ⟨_, rfl⟩, ?_⟩
            rcases h2 with h2 | h2
            · have h0 : j.toNat = 1 := by omega
              rw [h0] at fin
              simpa using fin
            · rw [str_len] at h2
              have : t = [] := List.length_eq_zero_iff.mp h2
              subst this
              have e1 : (List.replicate j.toNat ([] : List Nat)).flatten = [] := by simp
              rw [e1] at fin
              exact fin
          · have e2 : (⟨(List.replicate j.toNat (⟨t.toArray⟩ : Str).cps).foldl (· ++ ·) #[]⟩ : Str) = ⟨(List.replicate j.toNat t).flatten.toArray⟩ := by
              show Str.mk _ = Str.mk _
              rw [fold j.toNat #[]]
              simp
            rw [e2]
            refine ⟨?_, .str ⟨(List.replicate j.toNat t).flatten.toArray⟩, H, I.tok _, ⟨_, rfl⟩, fin⟩
            rw [str_len, SZ_line]
            have : (List.replicate j.toNat t).flatten.length = j.toNat * t.length := by simp
            rw [this, Nat.mul_comm]
            exact z2
    · cases e
  · rename_i ys j
    split at e
    · rename_i hz
      cases (rb : _ = _)
      obtain ⟨p, vs, rfl, h1, h2⟩ := ra
      have l1 := h2.len
      have er : binop .mul (.tup ys) (.int j) h = some (.tup (List.replicate j.toNat ys).flatten, h) := if_pos hz
      obtain ⟨⟨z1, z2⟩, z3, z4⟩ := hz
      refine op_repF pins s σ H _ _ v u Q I rx ry ⟨p, j, vs, rfl, rfl, h1.sq, ?_, z3, z4, by omega, goe_tup R g' er (RelDs.rep h2 j.toNat)⟩
      rintro rfl
      exact z1 (by simpa using l1)
    · cases e
  · rename_i p j
    split at e
    · rename_i ys e1
      split at e
      · rename_i hz
        cases (rb : _ = _)
        obtain ⟨pa, vs, rfl, _, k1, k2⟩ := rep_lst R e1 ra
        exact op_rep pins s σ H _ _ v u Q I rx ry ⟨pa, j, vs, rfl, rfl, k1, by omega, by omega, by rw [← k2.len, SZ_line]; exact hz.2, goe_lst R g' (by simp [binop, e1, hz]) (RelDs.rep k2 j.toNat)⟩
      · cases e
    · cases e
  · rename_i i j
    split at e
    · rename_i hm
      cases (ra : _ = _); cases (rb : _ = _)
      have fin := goe_keep R g' (d := .int (i.fdiv j)) (by simp [binop, hm]) rfl
      unfold divOk at hm
      simp only [Bool.and_eq_true, bne_iff_ne, ne_eq, decide_eq_true_eq] at hm
      obtain ⟨tk, rfl⟩ := rx
      obtain ⟨tk', rfl⟩ := ry
      exact floordiv_int hm.1 ⟨.int _, H, I.tok _, ⟨_, rfl⟩, fin⟩ (.inl (PyProof.noPylong_of_log2 (PySem.Flt.log2_lt_of (by decide) hm.2)))
    · cases e
  · rename_i i j
    split at e
    · cases e
    · rename_i hm
      cases (ra : _ = _); cases (rb : _ = _)
      exact op_modN pins s σ H _ _ v u Q I rx ry ⟨_, _, rfl, rfl, hm, goe_keep R g' (d := .int (i.fmod j)) (by simp [binop, hm]) rfl⟩
  · rename_i i j
    split at e
    · rename_i hm
      cases (ra : _ = _); cases (rb : _ = _)
      exact op_pow pins s σ H _ _ v u Q I rx ry ⟨_, _, rfl, rfl, hm, goe_keep R g' (d := .int (i ^ j.toNat)) (by simp [binop, hm]) rfl⟩
    · cases e
  · cases e
/-! ### comparisons -/
abbrev rC2 (X : Cx) (f : D → D → LH → Option Bool) : R2 := fun x y H Q => ∃ m h a b c, Rep X.K X.mg m h H ∧ RelD X.K X.mg m H a x ∧ RelD X.K X.mg m H b y ∧ f a b h = some c ∧ Q (.bl c) H
end

/-- the constant dicts of the module: their entries -/
def KEnt (K : PySem.W.Frag) (mg : Str → Option Value) (p : Params) : List DictEntry → List (List Nat × D) → Prop
  | [], [] => True
  | e :: es, q :: qs => (∃ t, e.key = .str (txS q.1) t) ∧ e.hash = PyData.keyHash p (txS q.1) ∧ ascii q.1 = true ∧ (∃ v, RelV v e.val ∧ ∀ m H, RelD K mg m H q.2 v) ∧ KEnt K mg p es qs
  | _, _ => False
def KDOk (K : PySem.W.Frag) (mg : Str → Option Value) (w : World) (n : Nat) (kvs : List (List Nat × D)) : Prop :=
  ∃ p es nn, mg (nmS n) = some (.ref p) ∧ K.lookup p = some ⟨.type "dict", none, .dict es nn, #[]⟩ ∧ (p == sysModules) = false ∧ KEnt K mg w.params es.toList kvs

theorem kent_lit {K : PySem.W.Frag} {mg : Str → Option Value} {p : Params} : ∀ {es : List DictEntry} {kvs : List (List Nat × D)}, KEnt K mg p es kvs → PySem.W.KeysLit p es
  | [], [], _ => trivial
  | e :: es, q :: qs, h => by
    obtain ⟨⟨t, h1⟩, h2, _, _, h5⟩ := h
    exact ⟨⟨_, t, h1, h2⟩, kent_lit h5⟩
  | [], _ :: _, h => h.elim
  | _ :: _, [], h => h.elim
theorem kent_find {K : PySem.W.Frag} {mg : Str → Option Value} {p : Params} (s : List Nat) : ∀ {es : List DictEntry} {kvs : List (List Nat × D)}, KEnt K mg p es kvs →
    (kvs.lookup s = none ∧ es.find? (fun e => e.key.isStr ⟨s.toArray⟩) = none ∧ es.any (fun e => e.refKey) = false) ∨
    ∃ d e v, kvs.lookup s = some d ∧ es.find? (fun e => e.key.isStr ⟨s.toArray⟩) = some e ∧ RelV v e.val ∧ ∀ m H, RelD K mg m H d v
  | [], [], _ => .inl ⟨rfl, rfl, rfl⟩
  | e :: es, q :: qs, h => by
    obtain ⟨⟨t, h1⟩, h2, h3, ⟨v, h4, h4'⟩, h5⟩ := h
    obtain ⟨k, d⟩ := q
    have key : e.key.isStr ⟨s.toArray⟩ = (s == k) := by
      rw [h1, txS_eq h3]
      show (_ == _) = _
      rw [Bool.eq_iff_iff]
      simp
      exact ⟨fun e => e.symm, fun e => e.symm⟩
    have nr : e.refKey = false := by
      unfold DictEntry.refKey
      rw [h1]
    by_cases hk : s = k
    · subst hk
      exact .inr ⟨d, e, v, by simp [List.lookup], by simp [List.find?, key], h4, h4'⟩
    · have hk' : (s == k) = false := by simpa using hk
      rcases kent_find s h5 with ⟨a1, a2, a3⟩ | ⟨d', e', v', a1, a2, a3, a4⟩
      · exact .inl ⟨by simp only [List.lookup, hk']; exact a1, by simp only [List.find?, key, hk']; exact a2, by simp only [List.any_cons, nr, a3]; rfl⟩
      · exact .inr ⟨d', e', v', by simp only [List.lookup, hk']; exact a1, by simp only [List.find?, key, hk']; exact a2, a3, a4⟩
  | [], _ :: _, h => h.elim
  | _ :: _, [], h => h.elim
theorem kd_ns {K : PySem.W.Frag} {mg : Str → Option Value} {p : Params} {es : Array DictEntry} {n : Nat} {a : Addr} {kvs : List (List Nat × D)} (l : K.lookup a = some ⟨.type "dict", none, .dict es n, #[]⟩) (h : KEnt K mg p es.toList kvs) (s : List Nat) :
    (kvs.lookup s = none ∧ PySem.W.nsIn K a ⟨s.toArray⟩ = some none) ∨ ∃ d u v, kvs.lookup s = some d ∧ PySem.W.nsIn K a ⟨s.toArray⟩ = some (some u) ∧ RelV v u ∧ ∀ m H, RelD K mg m H d v := by
  unfold PySem.W.nsIn
  rw [show List.lookup a K = K.lookup a from rfl, l]
  rcases kent_find s h with ⟨a1, a2, a3⟩ | ⟨d, e, v, a1, a2, a3, a4⟩
  · exact .inl ⟨a1, by simp only [a2, a3]; rfl⟩
  · exact .inr ⟨d, e.val, v, a1, by simp only [a2], a3, a4⟩

structure GOk (P : Pr) (K : PySem.W.Frag) (mg : Str → Option Value) (w : World) : Prop where
  gv : ∀ x d, P.gv x = some d → ∃ u v, mg (nmS x) = some u ∧ RelV v u ∧ ∀ m H, RelD K mg m H d v
  kd : ∀ x kvs, P.kd x = some kvs → KDOk K mg w x kvs
  blt : ∀ f, mg (bfS f) = none
  blt2 : mg "range" = none ∧ mg "isinstance" = none ∧ (∀ T, mg (tyS T) = none)

section
variable {X : Cx} {P : Pr}
theorem in_data (hu : X.A.units + 65 < cLine) {pins : List (Addr × Obj)} {s : Shared} {σ : L2.St} {H : Hp} {x y : V} {v u : Value} {m : MM} {h : LH} {d : D} {xs : List D} {vs : List V} {p : Addr} {Q : Value → Shared → Prop} (I : L2.Inv X pins σ H s) (rx : RelV x v) (ry : RelV y u)
    (e : y = .ref p) (hs : SqL X.K H p vs ∨ SqT X.K H p vs) (sx : (shp d && xs.all shp) = true) (rd : RelD X.K X.mg m H d x) (rs : RelDs X.K X.mg m H xs vs) (q : Q (.bool (xs.any fun y => pyeq y d)) s) :
    wpAny (model X.prog X.w) X.A (compareOp .In v u) Q X.xe s := by
  subst e
  have s1 : shp d = true ∧ xs.all shp = true := by simpa using sx
  obtain ⟨d1, d2⟩ := shp_dp s1.1 rd
  obtain ⟨p1, p2⟩ := purs_all s1.2
  obtain ⟨l1, l2, l3⟩ := rel_dps p1 rs
  have pd1 : pur d = true := by have : pur d = true ∧ dep d ≤ 60 := by simpa [shp] using s1.1
                                exact this.1
  rw [← any_pds pd1 p1] at q
  obtain ⟨as, r1⟩ := Dp.reads I (pd d) x v d1 rx
  have room : X.A.units + 1 + min (PyData.depthAll (pds xs)) (pd d).depth < cLine := by rw [l3]; omega
  rcases hs with hs | hs
  · obtain ⟨bs, r2⟩ := Dp.reads I (.list (pds xs)) _ u (.lst hs l1) ry
    exact SeqAt.in_list_reads r2 r1 l2 (SeqAt.canLay_of_shaped d2) room q
  · obtain ⟨bs, r2⟩ := Dp.reads I (.tuple (pds xs)) _ u (.tup hs l1) ry
    exact SeqAt.in_tuple_reads r2 r1 l2 (SeqAt.canLay_of_shaped d2) room q
theorem notIn_data (hu : X.A.units + 65 < cLine) {pins : List (Addr × Obj)} {s : Shared} {σ : L2.St} {H : Hp} {x y : V} {v u : Value} {m : MM} {h : LH} {d : D} {xs : List D} {vs : List V} {p : Addr} {Q : Value → Shared → Prop} (I : L2.Inv X pins σ H s) (rx : RelV x v) (ry : RelV y u)
    (e : y = .ref p) (hs : SqL X.K H p vs ∨ SqT X.K H p vs) (sx : (shp d && xs.all shp) = true) (rd : RelD X.K X.mg m H d x) (rs : RelDs X.K X.mg m H xs vs) (q : Q (.bool (!xs.any fun y => pyeq y d)) s) :
    wpAny (model X.prog X.w) X.A (compareOp .NotIn v u) Q X.xe s := by
  subst e
  have s1 : shp d = true ∧ xs.all shp = true := by simpa using sx
  obtain ⟨d1, d2⟩ := shp_dp s1.1 rd
  obtain ⟨p1, p2⟩ := purs_all s1.2
  obtain ⟨l1, l2, l3⟩ := rel_dps p1 rs
  have pd1 : pur d = true := by have : pur d = true ∧ dep d ≤ 60 := by simpa [shp] using s1.1
                                exact this.1
  rw [← any_pds pd1 p1] at q
  obtain ⟨as, r1⟩ := Dp.reads I (pd d) x v d1 rx
  have room : X.A.units + 1 + min (PyData.depthAll (pds xs)) (pd d).depth < cLine := by rw [l3]; omega
  rcases hs with hs | hs
  · obtain ⟨bs, r2⟩ := Dp.reads I (.list (pds xs)) _ u (.lst hs l1) ry
    exact SeqAt.notIn_list_reads r2 r1 l2 (SeqAt.canLay_of_shaped d2) room q
  · obtain ⟨bs, r2⟩ := Dp.reads I (.tuple (pds xs)) _ u (.tup hs l1) ry
    exact SeqAt.notIn_tuple_reads r2 r1 l2 (SeqAt.canLay_of_shaped d2) room q

/-- in, not in -/
theorem op_in (G : GOk P X.K X.mg X.w) (hu : X.A.units + 65 < cLine) (neg : Bool) {pins : List (Addr × Obj)} {s : Shared} {σ : L2.St} {H : Hp} {x y : V} {v u : Value} {m : MM} {h : LH} {a b : D} {c : Bool} {Q : VK} (I : L2.Inv X pins σ H s) (rx : RelV x v) (ry : RelV y u)
    (R : Rep X.K X.mg m h H) (ra : RelD X.K X.mg m H a x) (rb : RelD X.K X.mg m H b y) (e : inop P a b h = some c) (q : Q (.bl (if neg then !c else c)) H) :
    wpAny (model X.prog X.w) X.A (compareOp (if neg then .NotIn else .In) v u) (EP X pins σ Q) X.xe s := by
  unfold inop at e
  split at e
  · rename_i t
    split at e
    · rename_i s'
      cases (ra : _ = _); cases (rb : _ = _)
      split at e
      · rename_i ch
        cases e
        cases neg
        · exact op_in_sign pins s σ H _ _ v u Q I rx ry ⟨ch, _, rfl, rfl, by simpa [List.contains_iff_mem] using q⟩
        · exact op_notIn_sign pins s σ H _ _ v u Q I rx ry ⟨ch, _, rfl, rfl, by simpa [List.contains_iff_mem] using q⟩
      · cases e
    · cases e
  · rename_i n
    split at e
    · rename_i s'
      cases e1 : P.kd n with
      | none => rw [e1] at e; cases e
      | some kvs =>
        rw [e1] at e
        have e : (kvs.lookup s').isSome = c := by simpa using e
        obtain ⟨p, es, nn, k1, k2, k3, k4⟩ := G.kd n kvs e1
        cases (ra : _ = _)
        obtain ⟨p', rfl, k5⟩ := rb
        rw [k1] at k5; cases k5
        have D : KDict X.K X.w p es nn := ⟨k2, kent_lit k4, k3⟩
        rcases kd_ns k2 k4 s' with ⟨a1, a2⟩ | ⟨d, u', v', a1, a2, _⟩
        · rw [a1] at e; subst e
          cases neg
          · exact op_in_kd D pins s σ H _ _ v u Q I rx ry ⟨_, _, rfl, rfl, a2, q⟩
          · exact op_notIn_kd D pins s σ H _ _ v u Q I rx ry ⟨_, _, rfl, rfl, a2, q⟩
        · rw [a1] at e; subst e
          cases neg
          · exact op_in_kd D pins s σ H _ _ v u Q I rx ry ⟨_, _, rfl, rfl, a2, q⟩
          · exact op_notIn_kd D pins s σ H _ _ v u Q I rx ry ⟨_, _, rfl, rfl, a2, q⟩
    · cases e
  · rename_i a'
    split at e
    · rename_i xs e1
      split at e
      · rename_i sx
        cases e
        obtain ⟨p, vs, rfl, _, k1, k2⟩ := rep_lst R e1 rb
        cases neg
        · exact in_data (h := h) hu I rx ry rfl (.inl (SqL.of k1)) sx ra k2 ⟨.bl _, H, I, rfl, q⟩
        · exact notIn_data (h := h) hu I rx ry rfl (.inl (SqL.of k1)) sx ra k2 ⟨.bl _, H, I, rfl, q⟩
      · cases e
    · rename_i kvs e1
      split at e
      · rename_i hk
        cases e
        exact d_in hu neg I rx ry R (by rw [e1]; rfl) rb hk ra q
      · cases e
    · rename_i kvs e1
      split at e
      · rename_i hk
        cases e
        exact d_in hu neg I rx ry R (by rw [e1]; rfl) rb hk ra q
      · cases e
    · cases e
  · rename_i xs
    split at e
    · rename_i sx
      cases e
      obtain ⟨p, vs, rfl, k1, k2⟩ := rb
      cases neg
      · exact in_data (h := h) hu I rx ry rfl (.inr k1.sq) sx ra k2 ⟨.bl _, H, I, rfl, q⟩
      · exact notIn_data (h := h) hu I rx ry rfl (.inr k1.sq) sx ra k2 ⟨.bl _, H, I, rfl, q⟩
    · cases e
  · cases e
theorem isNon_iff {m : MM} {H : Hp} {d : D} {v : V} (r : RelD X.K X.mg m H d v) : decide (v = .non) = isNon d := by
  cases d with
  | non => cases (r : _ = _); rfl
  | bl _ => cases (r : _ = _); rfl
  | int _ => cases (r : _ = _); rfl
  | str _ => cases (r : _ = _); rfl
  | tup xs => obtain ⟨p, vs, rfl, _⟩ := r; rfl
  | ref _ => obtain ⟨p, rfl, _⟩ := r; rfl
  | fn _ => obtain ⟨p, rfl, _⟩ := r; rfl
  | kd _ => obtain ⟨p, rfl, _⟩ := r; rfl
theorem isNon_eq {m : MM} {H : Hp} {d : D} {v : V} (r : RelD X.K X.mg m H d v) (h : isNon d = true) : v = .non := by
  cases d <;> first | (cases h; done) | exact r

theorem isB_inv {a b : D} {c : Bool} (e : isB a b = some c) : ∃ x y, a = .bl x ∧ b = .bl y ∧ c = (x == y) := by
  cases a <;> cases b <;> first | (cases e; done) | (cases e; exact ⟨_, _, rfl, rfl, rfl⟩)
theorem op_isBB : OpR X (compareOp .Is) (fun x y H Q => ∃ m n, x = .bl m ∧ y = .bl n ∧ Q (.bl (m == n)) H) := by
  intro pins s σ H x y v u Q I rx ry h
  obtain ⟨m, n, rfl, rfl, q⟩ := h
  cases (show v = Value.bool m from rx)
  cases (show u = Value.bool n from ry)
  by_cases e : m = n
  · subst e
    exact wpAny_is_self rfl ⟨.bl true, H, I, rfl, by simpa using q⟩
  · exact wpAny_is_other rfl (fun z => e (Value.bool.inj z)) ⟨.bl false, H, I, rfl, by rw [beq_eq_false_iff_ne.mpr e] at q; exact q⟩
theorem op_notBB : OpR X (compareOp .IsNot) (fun x y H Q => ∃ m n, x = .bl m ∧ y = .bl n ∧ Q (.bl (!(m == n))) H) := by
  intro pins s σ H x y v u Q I rx ry h
  obtain ⟨m, n, rfl, rfl, q⟩ := h
  cases (show v = Value.bool m from rx)
  cases (show u = Value.bool n from ry)
  by_cases e : m = n
  · subst e
    exact wpAny_isNot_self rfl ⟨.bl false, H, I, rfl, by simpa using q⟩
  · exact wpAny_isNot_other rfl (fun z => e (Value.bool.inj z)) ⟨.bl true, H, I, rfl, by rw [beq_eq_false_iff_ne.mpr e] at q; exact q⟩
theorem op_cmp (G : GOk P X.K X.mg X.w) (hu : X.A.units + 65 < cLine) (o : Cop) : OpR X (compareOp (copO o)) (rC2 X (cmpop P o)) := by
  intro pins s σ H x y v u Q I rx ry ⟨m, h, a, b, c, R, ra, rb, e, q⟩
  have hu' : X.A.units + 64 < cLine := by omega
  cases o <;> simp only [cmpop] at e
  case eq =>
    split at e
    · rename_i hs
      cases e
      have s1 : shp a = true ∧ shp b = true := by simpa using hs
      obtain ⟨d1, d2⟩ := shp_dp s1.1 ra
      obtain ⟨d3, d4⟩ := shp_dp s1.2 rb
      have pa : pur a = true ∧ dep a ≤ 60 := by simpa [shp] using s1.1
      have pb : pur b = true ∧ dep b ≤ 60 := by simpa [shp] using s1.2
      exact op_eqD hu' pins s σ H _ _ v u Q I rx ry ⟨_, _, d1, d3, d2, d4, by rw [eqv_pd pa.1 pb.1]; exact q⟩
    · cases e
  case ne =>
    split at e
    · rename_i hs
      cases e
      have s1 : shp a = true ∧ shp b = true := by simpa using hs
      obtain ⟨d1, d2⟩ := shp_dp s1.1 ra
      obtain ⟨d3, d4⟩ := shp_dp s1.2 rb
      have pa : pur a = true ∧ dep a ≤ 60 := by simpa [shp] using s1.1
      have pb : pur b = true ∧ dep b ≤ 60 := by simpa [shp] using s1.2
      exact op_neD hu' pins s σ H _ _ v u Q I rx ry ⟨_, _, d1, d3, d2, d4, by rw [eqv_pd pa.1 pb.1]; exact q⟩
    · cases e
  case lt =>
    split at e
    · cases e; cases (ra : _ = _); cases (rb : _ = _)
      exact op_lt pins s σ H _ _ v u Q I rx ry ⟨_, _, rfl, rfl, q⟩
    · cases e
  case le =>
    split at e
    · cases e; cases (ra : _ = _); cases (rb : _ = _)
      exact op_le pins s σ H _ _ v u Q I rx ry ⟨_, _, rfl, rfl, q⟩
    · cases e
  case gt =>
    split at e
    · cases e; cases (ra : _ = _); cases (rb : _ = _)
      exact op_gt pins s σ H _ _ v u Q I rx ry ⟨_, _, rfl, rfl, q⟩
    · cases e
  case ge =>
    split at e
    · cases e; cases (ra : _ = _); cases (rb : _ = _)
      exact op_ge pins s σ H _ _ v u Q I rx ry ⟨_, _, rfl, rfl, q⟩
    · cases e
  case is =>
    split at e
    · rename_i hn
      cases e
      exact op_isN pins s σ H _ _ v u Q I rx ry ⟨isNon_eq rb hn, by rw [isNon_iff ra]; exact q⟩
    · obtain ⟨x, y, rfl, rfl, rfl⟩ := isB_inv e
      cases (ra : _ = _); cases (rb : _ = _)
      exact op_isBB pins s σ H _ _ v u Q I rx ry ⟨x, y, rfl, rfl, q⟩
  case isnot =>
    split at e
    · rename_i hn
      cases e
      exact op_notN pins s σ H _ _ v u Q I rx ry ⟨isNon_eq rb hn, by rw [isNon_iff ra]; exact q⟩
    · cases e1 : isB a b with
      | none => rw [e1] at e; cases e
      | some c' =>
        rw [e1] at e; cases e
        obtain ⟨x, y, rfl, rfl, rfl⟩ := isB_inv e1
        cases (ra : _ = _); cases (rb : _ = _)
        exact op_notBB pins s σ H _ _ v u Q I rx ry ⟨x, y, rfl, rfl, q⟩
  case isin =>
    exact op_in G hu false I rx ry R ra rb e q
  case notin =>
    cases e1 : inop P a b h with
    | none => rw [e1] at e; cases e
    | some c' =>
      rw [e1] at e; cases e
      exact op_in G hu true I rx ry R ra rb e1 q
end
end FK

end
section
set_option maxRecDepth 100000
set_option maxHeartbeats 4000000
/-! Fk3: truth, items, slices, built-ins, methods. -/
namespace FK
open PySem PySem.Spec PyProof.Rows L2

section
variable {K : PySem.W.Frag} {mg : Str → Option Value} {m : MM} {h : LH} {H : Hp}
theorem isEmpty_len {α β : Type} {xs : List α} {vs : List β} (e : xs.length = vs.length) : xs.isEmpty = vs.isEmpty := by
  cases xs <;> cases vs <;> simp_all
theorem tru_d (R : Rep K mg m h H) {d : D} {v : V} (r : RelD K mg m H d v) {b : Bool} (e : truth d h = some b) : TruV K v H b := by
  unfold truth at e
  split at e
  · cases (r : _ = _); cases e; rfl
  · cases (r : _ = _); cases e; rfl
  · cases (r : _ = _); cases e; rfl
  · rename_i s
    split at e
    · rename_i hz
      cases (r : _ = _); cases e
      refine ⟨by rw [str_len, SZ_line]; exact hz, ?_⟩
      rw [str_len, Bool.eq_iff_iff]
      simp
    · cases e
  · cases e
    obtain ⟨p, vs, rfl, h1, h2⟩ := r
    exact .inr (.inl ⟨vs, h1.sq, by rw [isEmpty_len h2.len]⟩)
  · rename_i a
    split at e
    · rename_i xs e1
      cases e
      obtain ⟨p, vs, rfl, _, k1, k2⟩ := rep_lst R e1 r
      exact .inl ⟨vs, SqL.of k1, by rw [isEmpty_len k2.len]⟩
    · rename_i ns e1
      cases e
      obtain ⟨p, rfl, k1⟩ := rep_scr R e1 r
      exact .inl ⟨_, k1, by simp⟩
    · cases e
  · cases e

theorem at_d {xs : List D} {vs : List V} {i : Int} {d : D} (r : RelDs K mg m H xs vs) (e : atI xs i = some d) : ∃ v, L2.atI vs i = some v ∧ RelD K mg m H d v := by
  unfold atI at e
  cases q : ixN xs.length i with
  | none => rw [q] at e; cases e
  | some j =>
    rw [q] at e
    obtain ⟨v, h1, h2⟩ := r.get (i := j) (x := d) (by simpa using e)
    refine ⟨v, ?_, h2⟩
    unfold L2.atI
    have q' : L2.ixN vs.length i = some j := by rw [← r.len]; exact q
    rw [q']
    exact h1
theorem atI_map {α β : Type} (f : α → β) (xs : List α) (i : Int) : atI (xs.map f) i = (atI xs i).map f := by
  unfold atI
  rw [List.length_map]
  cases ixN xs.length i <;> simp
theorem cut_d {xs : List D} {vs : List V} (r : RelDs K mg m H xs vs) (lo hi : Option Int) : RelDs K mg m H (cut xs lo hi) (cutV vs lo hi) := by
  unfold cut cutV
  rw [← r.len]
  exact (r.drop _).take _
end

section
variable {X : Cx} {P : Pr}
theorem op_ix (G : GOk P X.K X.mg X.w) (hu : X.A.units + 65 < cLine) : IxR X (fun x y H Q => ∃ m h a b d, Rep X.K X.mg m h H ∧ RelD X.K X.mg m H a x ∧ RelD X.K X.mg m H b y ∧ getix P a b h = some d ∧ ∀ v, RelD X.K X.mg m H d v → Q v H) := by
  intro value slice pins s σ H x y v u Q I rx ry ⟨m, h, a, b, d, R, ra, rb, e, q⟩ hs
  unfold getix at e
  split at e
  · rename_i xs i
    cases (rb : _ = _)
    obtain ⟨p, vs, rfl, h1, h2⟩ := ra
    obtain ⟨w, a1, a2⟩ := at_d h2 e
    exact ix_tup value slice pins s σ H _ _ v u Q I rx ry ⟨p, vs, i, w, rfl, rfl, h1.sq, a1, q _ a2⟩ hs
  · rename_i t i
    split at e
    · rename_i hz
      cases (ra : _ = _); cases (rb : _ = _)
      cases q1 : atI t i with
      | none => rw [q1] at e; cases e
      | some c =>
        rw [q1] at e
        have e : chr1 c = d := by simpa using e
        subst e
        refine ix_str value slice pins s σ H _ _ v u Q I rx ry ⟨_, i, c, rfl, rfl, by rw [str_len, SZ_line]; exact hz, ?_, q _ rfl⟩ hs
        show L2.atI t.toArray.toList i = some c
        simpa using (show L2.atI t i = some c from q1)
    · cases e
  · rename_i p i
    split at e
    · rename_i xs e1
      split at e
      · rename_i j
        cases (rb : _ = _)
        obtain ⟨p', vs, rfl, _, k1, k2⟩ := rep_lst R e1 ra
        obtain ⟨w, a1, a2⟩ := at_d k2 e
        exact ix_list value slice pins s σ H _ _ v u Q I rx ry ⟨p', vs, j, w, rfl, rfl, SqL.of k1, a1, q _ a2⟩ hs
      · cases e
    · rename_i ns e1
      split at e
      · rename_i j
        cases (rb : _ = _)
        obtain ⟨p', rfl, k1⟩ := rep_scr R e1 ra
        have e' : atI (ns.map D.int) j = some d := by rw [atI_map]; exact e
        obtain ⟨w, a1, a2⟩ := at_d (K := X.K) (mg := X.mg) (m := m) (H := H) (RelDs.ints ns) e'
        exact ix_list value slice pins s σ H _ _ v u Q I rx ry ⟨p', _, j, w, rfl, rfl, k1, a1, q _ a2⟩ hs
      · cases e
    · rename_i kvs e1
      split at e
      · rename_i hk
        exact ix_dic hu value slice pins s σ H _ _ v u Q I rx ry ⟨m, h, _, kvs, _, d, R, ra, rb, by rw [e1]; rfl, hk, e, q⟩ hs
      · cases e
    · rename_i kvs e1
      split at e
      · rename_i hk
        exact ix_dic hu value slice pins s σ H _ _ v u Q I rx ry ⟨m, h, _, kvs, _, d, R, ra, rb, by rw [e1]; rfl, hk, e, q⟩ hs
      · cases e
    · cases e
  · rename_i n k
    cases e1 : P.kd n with
    | none => rw [e1] at e; cases e
    | some kvs =>
      rw [e1] at e
      have e : kvs.lookup k = some d := by simpa using e
      obtain ⟨p, es, nn, k1, k2, k3, k4⟩ := G.kd n kvs e1
      cases (rb : _ = _)
      obtain ⟨p', rfl, k5⟩ := ra
      rw [k1] at k5; cases k5
      rcases kd_ns k2 k4 k with ⟨a1, _⟩ | ⟨d', u', v', a1, a2, a3, a4⟩
      · rw [a1] at e; cases e
      · rw [a1] at e; cases e
        exact ix_kdict value slice pins s σ H _ _ v u Q I rx ry ⟨p, _, v', rfl, rfl, ⟨es, nn, u', k2, kent_lit k4, a2, a3⟩, q _ (a4 m H)⟩ hs
  · cases e

/-- a slice -/
theorem op_sl : SlR X (fun x lo hi H Q => ∃ m h a, Rep X.K X.mg m h H ∧ RelD X.K X.mg m H a x ∧ GoE X.K X.mg m h H (slice a lo hi h) Q) := by
  intro pins s σ H x v vl vu lo hi sl Q I rx hs pl pu ⟨m, h, a, R, ra, g⟩
  have g' := g
  obtain ⟨d, h', e, q⟩ := g
  unfold slice at e
  split at e
  · rename_i xs
    obtain ⟨p, vs, rfl, h1, h2⟩ := ra
    have er : slice (.tup xs) lo hi h = some (.tup (cut xs lo hi), h) := rfl
    refine sl_tupF pins s σ H _ v vl vu lo hi sl Q I rx hs pl pu ⟨p, vs, rfl, h1.sq, fun hw => ?_, fun _ => goe_tup R g' er (cut_d h2 lo hi)⟩
    have ec : cut xs lo hi = xs := by
      unfold cut
      have h3 : FK.sIx xs.length 0 lo = 0 := by rw [h2.len]; exact hw.1
      have h4 : FK.sIx xs.length xs.length hi = xs.length := by rw [h2.len]; exact hw.2
      rw [h3, h4]
      simp
    rw [ec] at er
    exact goe_keep R g' er ⟨p, vs, rfl, h1, h2⟩
  · rename_i t
    split at e
    · rename_i hz
      cases (ra : _ = _)
      have er : slice (.str t) lo hi h = some (.str (cut t lo hi), h) := if_pos hz
      refine sl_str pins s σ H _ v vl vu lo hi sl Q I rx hs pl pu ⟨_, rfl, by rw [str_len, SZ_line]; exact hz, goe_keep R g' er ?_⟩
      show V.str _ = V.str _
      unfold cutS cut
      rw [str_len]
      simp
      rfl
    · cases e
  · rename_i p
    split at e
    · rename_i xs e1
      obtain ⟨p', vs, rfl, _, k1, k2⟩ := rep_lst R e1 ra
      have er : slice (.ref p) lo hi h = alloc h (.lst (cut xs lo hi)) := by unfold slice; simp [e1]
      exact sl_list pins s σ H _ v vl vu lo hi sl Q I rx hs pl pu ⟨p', vs, rfl, SqL.of k1, goe_lst R g' er (cut_d k2 lo hi)⟩
    · cases e
  · cases e

/-! ### built-ins -/
def bfV : Bf → Value
  | .len => .builtin "len" | .int => .type "int" | .tuple => .type "tuple" | .list => .type "list" | .str => .type "str" | .sum => .builtin "sum" | .any => .builtin "any" | .all => .builtin "all" | .min => .builtin "min"
  | .max => .builtin "max" | .sorted => .builtin "sorted" | .ord => .builtin "ord"
theorem bf_boot (f : Bf) : bootBuiltins (bfS f) = some (bfV f) := by cases f <;> decide +kernel
theorem bf_name (f : Bf) : bfS f ≠ "__name__" := by cases f <;> decide +kernel
theorem bf_dbg (f : Bf) : (bfS f == ("__debug__" : Str)) = false := by cases f <;> decide +kernel

theorem rels1 {K : PySem.W.Frag} {mg : Str → Option Value} {m : MM} {H : Hp} {d : D} {vs : List V} (r : RelDs K mg m H [d] vs) : ∃ v, vs = [v] ∧ RelD K mg m H d v := by
  obtain ⟨v, w, rfl, h1, h2⟩ := r
  cases (h2 : _ = _)
  exact ⟨v, rfl, h1⟩
/-- what a list or tuple holds -/
theorem seq_d {K : PySem.W.Frag} {mg : Str → Option Value} {m : MM} {h : LH} {H : Hp} (R : Rep K mg m h H) {d : D} {v : V} {xs : List D} (r : RelD K mg m H d v) (e : seqOf d h = some xs) : ∃ p vs, v = .ref p ∧ RelDs K mg m H xs vs ∧ ((SqL K H p vs ∧ ∃ a, d = .ref a) ∨ (TupS K H p vs ∧ d = .tup xs)) := by
  cases d with
  | tup ys =>
    cases e
    obtain ⟨p, vs, rfl, h1, h2⟩ := r
    exact ⟨p, vs, rfl, h2, .inr ⟨h1, rfl⟩⟩
  | ref a =>
    obtain ⟨p, vs, rfl, _, k1, k2⟩ := rep_seq R e r
    exact ⟨p, vs, rfl, k2, .inl ⟨k1, a, rfl⟩⟩
  | _ => cases e

/-- what has a len: a dict, or what the hand layer knows -/
theorem len_d {K : PySem.W.Frag} {mg : Str → Option Value} {m : MM} {h : LH} {H : Hp} (R : Rep K mg m h H) {d : D} {v : V} {n : Nat} (r : RelD K mg m H d v) (e : lenOf d h = some n) : LenV K v H n ∨ ∃ a kvs, d = .ref a ∧ dOf h[a]? = some kvs ∧ n = kvs.length := by
  unfold lenOf at e
  split at e
  · split at e
    · rename_i hz
      cases (r : _ = _); cases e
      exact .inl ⟨by rw [str_len, SZ_line]; exact hz, by rw [str_len]⟩
    · cases e
  · cases e
    obtain ⟨p, vs, rfl, h1, h2⟩ := r
    exact .inl (.inr ⟨vs, h1.sq, h2.len⟩)
  · split at e
    · rename_i xs e1
      cases e
      obtain ⟨p, vs, rfl, _, k1, k2⟩ := rep_lst R e1 r
      exact .inl (.inl ⟨vs, SqL.of k1, k2.len⟩)
    · rename_i ns e1
      cases e
      obtain ⟨p, rfl, k1⟩ := rep_scr R e1 r
      exact .inl (.inl ⟨_, k1, by simp⟩)
    · rename_i kvs e1
      cases e
      exact .inr ⟨_, kvs, rfl, by rw [e1]; rfl, rfl⟩
    · rename_i kvs e1
      cases e
      exact .inr ⟨_, kvs, rfl, by rw [e1]; rfl, rfl⟩
    · cases e
  · cases e

/-- len of a dict -/
theorem call_lenD : CallR X (.builtin "len") (fun xs H Q => ∃ m h a kvs x, Rep X.K X.mg m h H ∧ RelD X.K X.mg m H (.ref a) x ∧ dOf h[a]? = some kvs ∧ xs = [x] ∧ Q (.int ((kvs.length : Nat) : Int)) H) := by
  intro pins s σ H xs us Q I r ⟨m, h, a, kvs, x, R, ra, ea, e, q⟩
  subst e
  obtain ⟨u, rfl, rx⟩ := vals1 r
  obtain ⟨p, ys, rfl, D, e2, rk, hl⟩ := rep_dR I R ea ra
  obtain rfl : u = .ref p := rx
  refine call_len_dictH e2 D (by rw [relk_len rk]; have : SZ = 16777216 := rfl; omega) ?_
  rw [relk_len rk]
  exact ⟨.int ((kvs.length : Nat) : Int), H, I.tok _, ⟨_, rfl⟩, q⟩
abbrev rBl (X : Cx) (f : List D → LH → Option (D × LH)) : List V → Hp → VK → Prop := fun vs H Q => ∃ m h ds, Rep X.K X.mg m h H ∧ RelDs X.K X.mg m H ds vs ∧ GoE X.K X.mg m h H (f ds h) Q
theorem op_blt (f : Bf) : CallR X (bfV f) (rBl X (bltin f)) := by
  intro pins s σ H vs us Q I rs ⟨m, h, ds, R, rd, g⟩
  have g' := g
  obtain ⟨d, h', e, q⟩ := g
  unfold bltin at e
  split at e
  · rename_i d'
    obtain ⟨v, rfl, rv⟩ := rels1 rd
    cases e1 : lenOf d' h with
    | none => rw [e1] at e; cases e
    | some n =>
      rcases len_d R rv e1 with hl | ⟨a, kvs, rfl, ea, rfl⟩
      · exact call_len pins s σ H _ us Q I rs ⟨v, n, rfl, hl, goe_keep R g' (d := .int n) (by simp [bltin, e1]) rfl⟩
      · exact call_lenD pins s σ H _ us Q I rs ⟨m, h, a, kvs, v, R, rv, ea, rfl, goe_keep R g' (d := .int kvs.length) (by simp [bltin, e1]) rfl⟩
  · obtain ⟨v, rfl, rv⟩ := rels1 rd
    cases (rv : _ = _)
    exact call_int1 pins s σ H _ us Q I rs (.inl ⟨_, rfl, goe_keep R g' rfl rfl⟩)
  · rename_i b
    obtain ⟨v, rfl, rv⟩ := rels1 rd
    cases (rv : _ = _)
    exact call_int1 pins s σ H _ us Q I rs (.inr ⟨_, rfl, goe_keep R g' (d := .int (b2i b)) rfl rfl⟩)
  · rename_i d'
    obtain ⟨v, rfl, rv⟩ := rels1 rd
    cases e1 : seqOf d' h with
    | none => rw [e1] at e; cases e
    | some xs =>
      have er : bltin .tuple [d'] h = some (.tup xs, h) := by simp [bltin, e1]
      obtain ⟨p, ws, rfl, k1, k2⟩ := seq_d R rv e1
      refine call_tupleF pins s σ H _ us Q I rs ⟨p, ws, rfl, ?_⟩
      rcases k2 with ⟨k2, a, rfl⟩ | ⟨k2, rfl⟩
      · exact .inl ⟨k2, goe_tup R g' er k1⟩
      · exact .inr ⟨k2.sq, goe_keep R g' er rv⟩
  · rename_i d'
    obtain ⟨v, rfl, rv⟩ := rels1 rd
    cases e1 : seqOf d' h with
    | none => rw [e1] at e; cases e
    | some xs =>
      have er : bltin .list [d'] h = alloc h (.lst xs) := by simp [bltin, e1]
      obtain ⟨p, ws, rfl, k1, k2⟩ := seq_d R rv e1
      refine call_list_of pins s σ H _ us Q I rs ⟨p, ws, rfl, ?_, goe_lst R g' er k1⟩
      rcases k2 with ⟨k2, _⟩ | ⟨k2, _⟩
      · exact .inl k2
      · exact .inr k2.sq
  · rename_i i
    split at e
    · rename_i hz
      obtain ⟨v, rfl, rv⟩ := rels1 rd
      cases (rv : _ = _)
      refine call_str_int pins s σ H _ us Q I rs ⟨i, rfl, hz, ?_⟩
      refine goe_keep R g' (d := .str (numL i)) (if_pos hz) ?_
      show V.str _ = V.str _
      rw [Str.ofString_eq_toList]
      rfl
    · cases e
  · cases e
theorem mt_app : MtR X "list.append" (fun x vs H Q => ∃ m h d ds, Rep X.K X.mg m h H ∧ RelD X.K X.mg m H d x ∧ RelDs X.K X.mg m H ds vs ∧ GoE X.K X.mg m h H (method .list d .append ds h) Q) := by
  intro pins s σ H x xs v us Q I rx rs ⟨m, h, d, ds, R, rd, rds, g⟩
  obtain ⟨d', h', e, q⟩ := g
  simp only [method] at e
  split at e
  · rename_i a y
    split at e
    · rename_i ys e1
      split at e
      · rename_i hz
        cases e
        obtain ⟨p, vs, rfl, em, k1, k2⟩ := rep_lst R e1 rd
        obtain ⟨w, rfl, rw'⟩ := rels1 rds
        obtain ⟨g1, R1⟩ := go_set R e1 em (k2.append (RelDs.one rw'))
        exact mt_append pins s σ H _ _ v us Q I rx rs ⟨p, vs, w, rfl, rfl, k1, by rw [← k2.len, SZ_line]; exact hz, q m _ _ g1 R1 rfl⟩
      · cases e
    · cases e
  · cases e
theorem ty_list {m : MM} {h : LH} {H : Hp} (R : Rep X.K X.mg m h H) {d : D} {v : V} (r : RelD X.K X.mg m H d v) (e : tyOf d h = some .list) : tyV X.K "list" v H := by
  unfold tyOf at e
  split at e <;> first | (cases e; done) | skip
  split at e <;> first | (cases e; done) | skip
  rename_i xs e1
  obtain ⟨p, vs, rfl, _, k1, k2⟩ := rep_lst R e1 r
  exact .inl ⟨rfl, vs, SqL.of k1⟩
/-- the built-in types, as isinstance asks -/
def tyN : Ty → String
  | .bool => "bool" | .int => "int" | .str => "str" | .tuple => "tuple" | .list => "list" | .dict => "dict"
theorem ty_boot (T : Ty) : bootBuiltins (tyS T) = some (.type (tyN T)) := by cases T <;> decide +kernel
theorem ty_name (f : Ty) : tyS f ≠ "__name__" := by cases f <;> decide +kernel
theorem ty_dbg (f : Ty) : (tyS f == ("__debug__" : Str)) = false := by cases f <;> decide +kernel
theorem isty_d {m : MM} {h : LH} {H : Hp} (R : Rep X.K X.mg m h H) {d : D} {v : V} {T : Ty} {b : Bool} (r : RelD X.K X.mg m H d v) (e : isTy d T h = some b) : (∃ t, TyX X.K H v t ∧ PySem.W.kitOne X.K t (.type (tyN T)) = some b) ∨ ∃ a kvs, d = .ref a ∧ dOf h[a]? = some kvs ∧ b = (T == .dict) := by
  unfold isTy at e
  split at e
  · cases (r : _ = _); cases e
    exact .inl ⟨_, .base .non, by cases T <;> exact kit_ty (by decide +kernel)⟩
  · cases (r : _ = _); cases e
    exact .inl ⟨_, .base (.bl _), by cases T <;> exact kit_ty (by decide +kernel)⟩
  · cases (r : _ = _); cases e
    exact .inl ⟨_, .base (.int _), by cases T <;> exact kit_ty (by decide +kernel)⟩
  · cases (r : _ = _); cases e
    exact .inl ⟨_, .base (.str _), by cases T <;> exact kit_ty (by decide +kernel)⟩
  · obtain ⟨p, vs, rfl, h1, h2⟩ := r
    cases e
    refine .inl ⟨.type "tuple", ?_, by cases T <;> exact kit_ty (by decide +kernel)⟩
    rcases h1 with ⟨o, h1, _⟩ | ⟨o, its, n, h1, h3, _⟩
    · exact .fTuple h1
    · exact .kTuple h1 h3
  · split at e
    · rename_i xs e1
      cases e
      obtain ⟨p, vs, rfl, _, k1, k2⟩ := rep_lst R e1 r
      exact .inl ⟨.type "list", .base (.lst k1), by cases T <;> exact kit_ty (by decide +kernel)⟩
    · rename_i kvs e1
      cases e
      exact .inr ⟨_, kvs, rfl, by rw [e1]; rfl, rfl⟩
    · rename_i kvs e1
      cases e
      exact .inr ⟨_, kvs, rfl, by rw [e1]; rfl, rfl⟩
    · cases e
  · cases e

/-- isinstance, of a dict too -/
theorem call_isiX : CallR X (.builtin "isinstance") (fun xs H Q => ∃ (x : V) (T : Ty) (b : Bool), xs = [x, .ty (tyN T)] ∧ ((∃ t, TyX X.K H x t ∧ PySem.W.kitOne X.K t (.type (tyN T)) = some b) ∨ ∃ m h a kvs, Rep X.K X.mg m h H ∧ RelD X.K X.mg m H (.ref a) x ∧ dOf h[a]? = some kvs ∧ b = (T == .dict)) ∧ Q (.bl b) H) := by
  intro pins s σ H xs us Q I r ⟨x, T, b, e0, hh, q⟩
  subst e0
  rcases hh with ⟨t, t1, t2⟩ | ⟨m, h, a, kvs, R, ra, ea, rfl⟩
  · exact call_isi pins s σ H _ us Q I r ⟨x, _, t, _, b, rfl, .ty _, t1, t2, q⟩
  · obtain ⟨u1, u2, rfl, r1, r2⟩ := vals2 r
    cases (show u2 = Value.type (tyN T) from r2)
    obtain ⟨p, ys, rfl, ⟨o, es, ep, h1, h2, _⟩, e2, rk, hl⟩ := rep_dR I R ea ra
    cases (show u1 = Value.ref p from r1)
    exact PySem.W.kia_one PySem.W.kitx_dict I.kIn ⟨o, h1, h2.1⟩ (show PySem.W.kitOne X.K (.type "dict") (.type (tyN T)) = some (T == .dict) by cases T <;> exact kit_ty (by decide +kernel)) (fun z => nomatch z) fun tk => ⟨.bl _, H, I.tok tk, rfl, q⟩

/-! ### methods -/
abbrev rM (X : Cx) (T : Ty) (mm : Bm) : V → List V → Hp → VK → Prop := fun x vs H Q => ∃ m h d ds, Rep X.K X.mg m h H ∧ RelD X.K X.mg m H d x ∧ RelDs X.K X.mg m H ds vs ∧ GoE X.K X.mg m h H (method T d mm ds h) Q
theorem rels2 {K : PySem.W.Frag} {mg : Str → Option Value} {m : MM} {H : Hp} {d e : D} {vs : List V} (r : RelDs K mg m H [d, e] vs) : ∃ v w, vs = [v, w] ∧ RelD K mg m H d v ∧ RelD K mg m H e w := by
  obtain ⟨v, w', rfl, h1, h2⟩ := r
  obtain ⟨w, e1, h3⟩ := rels1 h2
  subst e1
  exact ⟨v, w, rfl, h1, h3⟩
theorem mt_ext : MtR X "list.extend" (rM X .list .extend) := by
  intro pins s σ H x xs v us Q I rx rs ⟨m, h, d, ds, R, rd, rds, g⟩
  obtain ⟨d', h', e, q⟩ := g
  simp only [method] at e
  split at e
  · rename_i a b
    split at e
    · rename_i ys zs e1 e2
      split at e
      · rename_i hz
        cases e
        obtain ⟨p, vs, rfl, em, k1, k2⟩ := rep_lst R e1 rd
        obtain ⟨w, rfl, rw'⟩ := rels1 rds
        obtain ⟨p2, vs2, rfl, em2, k3, k4⟩ := rep_lst R e2 rw'
        obtain ⟨g1, R1⟩ := go_set R e1 em (k2.append k4)
        exact mt_extend pins s σ H _ _ v us Q I rx rs ⟨p, p2, vs, vs2, rfl, rfl, k1, k3, by rw [← k2.len, ← k4.len, SZ_line]; exact hz.1, q m _ _ g1 R1 rfl⟩
      · cases e
    · cases e
  · cases e
theorem mt_ins : MtR X "list.insert" (rM X .list .insert) := by
  intro pins s σ H x xs v us Q I rx rs ⟨m, h, d, ds, R, rd, rds, g⟩
  obtain ⟨d', h', e, q⟩ := g
  simp only [method] at e
  split at e
  · rename_i a i y
    split at e
    · rename_i ys e1
      split at e
      · rename_i hz
        cases e
        obtain ⟨p, vs, rfl, em, k1, k2⟩ := rep_lst R e1 rd
        obtain ⟨w1, w2, rfl, q1, q2⟩ := rels2 rds
        cases (q1 : _ = _)
        obtain ⟨g1, R1⟩ := go_set R e1 em ((((k2.take i.toNat)).append (RelDs.one q2)).append (k2.drop i.toNat))
        refine mt_insert pins s σ H _ _ v us Q I rx rs ⟨p, vs, i, w2, rfl, rfl, k1, by rw [← k2.len, SZ_line]; exact hz.1, hz.2.1, ?_, q m _ _ g1 R1 rfl⟩
        have h1 := hz.1
        have h2 := hz.2.2
        unfold SZ at h1
        omega
      · cases e
    · cases e
  · cases e
theorem mt_pop0 : MtR X "list.pop" (rM X .list .pop) := by
  intro pins s σ H x xs v us Q I rx rs ⟨m, h, d, ds, R, rd, rds, g⟩
  obtain ⟨d', h', e, q⟩ := g
  simp only [method] at e
  split at e
  · rename_i a i
    split at e
    · rename_i ys e1
      split at e
      · rename_i y r
        split at e
        · rename_i hi
          subst hi
          cases e
          obtain ⟨p, vs, rfl, em, k1, k2⟩ := rep_lst R e1 rd
          obtain ⟨w1, rfl, q1⟩ := rels1 rds
          cases (q1 : _ = _)
          obtain ⟨vy, vr, rfl, k3, k4⟩ := k2
          obtain ⟨g1, R1⟩ := go_set R e1 em k4
          refine mt_popAt pins s σ H _ _ v us Q I rx rs ⟨p, vy :: vr, 0, 0, vy, rfl, rfl, k1, by decide, by decide, ?_, rfl, q m _ _ g1 R1 (g1.rel R k3)⟩
          unfold seqIndex?
          simp
        · cases e
      · cases e
    · cases e
  · cases e
theorem strs_rel {K : PySem.W.Frag} {mg : Str → Option Value} {m : MM} {H : Hp} : ∀ {xs : List D} {vs : List V} {ss : List (List Nat)}, RelDs K mg m H xs vs → strsL xs = some ss → vs = (ss.map fun s => (⟨s.toArray⟩ : Str)).map V.str
  | [], vs, ss, r, e => by cases (r : _ = _); cases e; rfl
  | d :: xs, vs, ss, r, e => by
    obtain ⟨v, vr, rfl, r1, r2⟩ := r
    cases d with
    | str s =>
      have e : (strsL xs).map (s :: ·) = some ss := e
      cases q : strsL xs with
      | none => rw [q] at e; cases e
      | some t =>
        rw [q] at e
        cases e
        cases (r1 : _ = _)
        rw [strs_rel r2 q]; rfl
    | _ => cases e
theorem idxL_at {s : List Nat} : ∀ {ss : List (List Nat)} {j : Nat}, idxL s ss = some j → ss[j]? = some s ∧ ∀ k, k < j → ss[k]? ≠ some s
  | [], j, e => by cases e
  | t :: r, j, e => by
    unfold idxL at e
    split at e
    · rename_i h
      cases e
      exact ⟨by simp [h], fun k hk => absurd hk (Nat.not_lt_zero _)⟩
    · rename_i h
      cases q : idxL s r with
      | none => rw [q] at e; cases e
      | some i =>
        rw [q] at e
        obtain ⟨a, b⟩ := idxL_at q
        have e' : i + 1 = j := Option.some.inj e
        subst e'
        refine ⟨by simpa using a, fun k hk => ?_⟩
        cases k with
        | zero => simpa using h
        | succ k => simpa using b k (by omega)
theorem str_inj {s t : List Nat} (e : (⟨s.toArray⟩ : Str) = ⟨t.toArray⟩) : s = t := by
  have := congrArg (fun z => z.cps.toList) e
  simpa using this
theorem mt_tidx : MtR X "tuple.index" (rM X .tuple .index) := by
  intro pins s σ H x xs v us Q I rx rs ⟨m, h, d, ds, R, rd, rds, g⟩
  have g' := g
  obtain ⟨d', h', e, q⟩ := g
  simp only [method] at e
  split at e
  · rename_i ys t
    obtain ⟨p, vs, rfl, k1, k2⟩ := rd
    obtain ⟨w, rfl, rw'⟩ := rels1 rds
    cases (rw' : _ = _)
    cases q1 : strsL ys with
    | none => rw [q1] at e; cases e
    | some ss =>
      rw [q1] at e
      simp only [Option.bind_some] at e
      cases q2 : idxL t ss with
      | none => rw [q2] at e; cases e
      | some j =>
        rw [q2] at e
        cases e
        have ev := strs_rel k2 q1
        subst ev
        obtain ⟨a, b⟩ := idxL_at q2
        refine mt_tup_index pins s σ H _ _ v us Q I rx rs ⟨p, ss.map fun s => (⟨s.toArray⟩ : Str), ⟨t.toArray⟩, j, rfl, rfl, k1.sq, by simp [a], fun k hk e => ?_, q m _ _ Go.refl R rfl⟩
        rw [List.getElem?_map] at e
        cases q3 : ss[k]? with
        | none => rw [q3] at e; cases e
        | some z =>
          rw [q3] at e
          exact b k hk (by rw [q3, str_inj (Option.some.inj e)])
  · cases e
theorem mt_dg (hu : X.A.units + 65 < cLine) : MtR X "dict.get" (rM X .dict .get) := by
  intro pins s σ H x xs v us Q I rx rs ⟨m, h, d, ds, R, rd, rds, g⟩
  obtain ⟨d', h', e, q⟩ := g
  simp only [method] at e
  split at e
  · rename_i a k y
    split at e
    · rename_i kvs e1
      split at e
      · rename_i hk
        cases e
        exact mt_dget hu pins s σ H _ _ v us Q I rx rs ⟨m, h, a, kvs, k, y, R, rd, rds, by rw [e1]; rfl, hk, fun w rw' => q m w H Go.refl R rw'⟩
      · cases e
    · rename_i kvs e1
      split at e
      · rename_i hk
        cases e
        exact mt_dget hu pins s σ H _ _ v us Q I rx rs ⟨m, h, a, kvs, k, y, R, rd, rds, by rw [e1]; rfl, hk, fun w rw' => q m w H Go.refl R rw'⟩
      · cases e
    · cases e
  · cases e
theorem mt_dp (hu : X.A.units + 65 < cLine) : MtR X "dict.pop" (rM X .dict .pop) := by
  intro pins s σ H x xs v us Q I rx rs ⟨m, h, d, ds, R, rd, rds, g⟩
  obtain ⟨d', h', e, q⟩ := g
  simp only [method] at e
  split at e
  · rename_i a k
    split at e
    · rename_i kvs e1
      split at e
      · rename_i hk
        cases q1 : dLook kvs k with
        | none => rw [q1] at e; cases e
        | some y =>
          rw [q1] at e
          cases e
          exact mt_dpop hu pins s σ H _ _ v us Q I rx rs ⟨m, h, a, kvs, k, _, R, rd, rds, e1, hk, q1, fun w H' g1 R1 rw' => q m w H' g1 R1 rw'⟩
      · cases e
    · cases e
  · cases e
theorem join_str (s : List Nat) : ∀ ss : List (List Nat), Txt.join ⟨s.toArray⟩ (ss.map fun t => (⟨t.toArray⟩ : Str)) = ⟨(FK.joinL s ss).toArray⟩ := by
  intro ss
  rw [TL.join_eq]
  induction ss with
  | nil => rfl
  | cons a r ih =>
    cases r with
    | nil => rfl
    | cons b r =>
      show (⟨a.toArray⟩ : Str) ++ ⟨s.toArray⟩ ++ Str.join ⟨s.toArray⟩ ((b :: r).map fun t => (⟨t.toArray⟩ : Str)) = _
      rw [ih, str_app, str_app]
      rfl
theorem mt_jn : MtR X "str.join" (rM X .str .join) := by
  intro pins s σ H x xs v us Q I rx rs ⟨m, h, d, ds, R, rd, rds, g⟩
  obtain ⟨d', h', e, q⟩ := g
  have key : ∀ {t : List Nat} {ys : List D} {p : Addr} {vs : List V}, x = .str ⟨t.toArray⟩ → xs = [.ref p] → RelDs X.K X.mg m H ys vs → (SqL X.K H p vs ∨ SqT X.K H p vs) →
      ((strsL ys).bind fun ss => if (ss.map List.length).sum + ss.length * t.length ≤ SZ then some (D.str (FK.joinL t ss), h) else none) = some (d', h') → wpAny (model X.prog X.w) X.A (call (.builtin "str.join") (v :: us)) (EP X pins σ Q) X.xe s := by
    intro t ys p vs ex exs k2 k1 e
    subst ex exs
    cases q1 : strsL ys with
    | none => rw [q1] at e; cases e
    | some ss =>
      rw [q1] at e
      simp only [Option.bind_some] at e
      split at e
      · rename_i hz
        cases e
        have ev := strs_rel k2 q1
        subst ev
        refine mt_join pins s σ H _ _ v us Q I rx rs ⟨_, p, ss.map fun s => (⟨s.toArray⟩ : Str), rfl, rfl, k1, ?_, ?_⟩
        · rw [List.map_map, List.length_map, str_len]
          have : (fun (s : List Nat) => (⟨s.toArray⟩ : Str).length) = List.length := by funext s; exact str_len s
          show (List.map (fun (s : List Nat) => (⟨s.toArray⟩ : Str).length) ss).sum + _ ≤ _
          rw [this]
          exact hz
        · rw [join_str]
          exact q m _ _ Go.refl R rfl
      · cases e
  simp only [method] at e
  split at e
  · rename_i t a
    split at e
    · rename_i ys e1
      obtain ⟨w, rfl, rw'⟩ := rels1 rds
      obtain ⟨p, vs, rfl, em, k1, k2⟩ := rep_lst R e1 rw'
      exact key rd rfl k2 (.inl (SqL.of k1)) e
    · cases e
  · rename_i t ys
    obtain ⟨w, rfl, rw'⟩ := rels1 rds
    obtain ⟨p, vs, rfl, k1, k2⟩ := rw'
    exact key rd rfl k2 (.inr k1.sq) e
  · cases e
end
end FK

end
section
set_option maxRecDepth 100000
set_option maxHeartbeats 4000000
/-! Fk4: expressions. -/
namespace FK
open PySem PySem.Spec PyProof.Rows L2

/-! ### slots -/
def SRel (K : PySem.W.Frag) (mg : Str → Option Value) (m : MM) (H : Hp) : Lc → L2.St → Prop
  | [], [] => True
  | a :: l, b :: r => (∀ d, a = some d → ∃ v, b = some v ∧ RelD K mg m H d v) ∧ SRel K mg m H l r
  | _, _ => False
section
variable {K : PySem.W.Frag} {mg : Str → Option Value} {m m' : MM} {h h' : LH} {H H' : Hp}
theorem SRel.get : ∀ {l : Lc} {σ : L2.St} {i : Nat} {d : D}, SRel K mg m H l σ → l[i]? = some (some d) → ∃ v, σ[i]? = some (some v) ∧ RelD K mg m H d v
  | [], _, _, _, _, e => by simp at e
  | _ :: _, [], _, _, s, _ => s.elim
  | a :: l, b :: r, 0, d, s, e => by
    obtain ⟨v, h1, h2⟩ := s.1 d (by simpa using e)
    exact ⟨v, by simp [h1], h2⟩
  | a :: l, b :: r, i + 1, d, s, e => by
    obtain ⟨v, h1, h2⟩ := SRel.get (i := i) s.2 (by simpa using e)
    exact ⟨v, by simpa using h1, h2⟩
theorem SRel.len : ∀ {l : Lc} {σ : L2.St}, SRel K mg m H l σ → l.length = σ.length
  | [], [], _ => rfl
  | [], _ :: _, s => s.elim
  | _ :: _, [], s => s.elim
  | _ :: _, _ :: _, s => by simp [SRel.len s.2]
theorem SRel.mono (t : TK K H H') (l : MLe m m') : ∀ {σl : Lc} {σ : L2.St}, SRel K mg m H σl σ → SRel K mg m' H' σl σ
  | [], [], _ => trivial
  | [], _ :: _, s => s.elim
  | _ :: _, [], s => s.elim
  | _ :: _, _ :: _, s => ⟨fun d e => let ⟨v, h1, h2⟩ := s.1 d e; ⟨v, h1, RelD.mono t l h2⟩, SRel.mono t l s.2⟩
theorem SRel.set {d : D} {v : V} (r : RelD K mg m H d v) : ∀ {σl : Lc} {σ : L2.St} (i : Nat), SRel K mg m H σl σ → SRel K mg m H (σl.set i (some d)) (σ.set i (some v))
  | [], [], _, _ => trivial
  | [], _ :: _, _, s => s.elim
  | _ :: _, [], _, s => s.elim
  | _ :: _, _ :: _, 0, s => ⟨fun e h => by cases h; exact ⟨v, rfl, r⟩, s.2⟩
  | _ :: _, _ :: _, i + 1, s => ⟨s.1, SRel.set r i s.2⟩
theorem SRel.unset : ∀ {σl : Lc} {σ : L2.St} (i : Nat), SRel K mg m H σl σ → SRel K mg m H (σl.set i none) (σ.set i none)
  | [], [], _, _ => trivial
  | [], _ :: _, _, s => s.elim
  | _ :: _, [], _, s => s.elim
  | _ :: _, _ :: _, 0, s => ⟨fun _ h => (nomatch h), s.2⟩
  | _ :: _, _ :: _, i + 1, s => ⟨s.1, SRel.unset i s.2⟩
theorem SRel.wipe {σl : Lc} {σ : L2.St} (s : SRel K mg m H σl σ) : ∀ vs : List Nat, SRel K mg m H (FK.wipe σl vs) (L2.wipe σ vs)
  | [] => s
  | v :: vs => SRel.unset v (SRel.wipe s vs)
theorem Go.slots {σl : Lc} {σ : L2.St} (R : Rep K mg m h H) (g : Go m h H m' h' H') (s : SRel K mg m H σl σ) : SRel K mg m' H' σl σ := s.mono (g.tk R) g.le

theorem GoE.bind {r : Option (D × LH)} {f : D × LH → Option (D × LH)} {Q : VK} (g : GoE K mg m h H (r.bind f) Q) : ∃ d1 h1, r = some (d1, h1) ∧ ∀ m1 H1, Go m h H m1 h1 H1 → GoE K mg m1 h1 H1 (f (d1, h1)) Q := by
  obtain ⟨d, h', e, q⟩ := g
  cases r with
  | none => cases e
  | some p =>
    obtain ⟨d1, h1⟩ := p
    exact ⟨d1, h1, rfl, fun m1 H1 g1 => ⟨d, h', e, fun m' v H' g2 R2 r2 => q m' v H' (g1.trans g2) R2 r2⟩⟩
theorem GoE.binds {r : Option (List D × LH)} {f : List D × LH → Option (D × LH)} {Q : VK} (g : GoE K mg m h H (r.bind f) Q) : ∃ d1 h1, r = some (d1, h1) ∧ ∀ m1 H1, Go m h H m1 h1 H1 → GoE K mg m1 h1 H1 (f (d1, h1)) Q := by
  obtain ⟨d, h', e, q⟩ := g
  cases r with
  | none => cases e
  | some p =>
    obtain ⟨d1, h1⟩ := p
    exact ⟨d1, h1, rfl, fun m1 H1 g1 => ⟨d, h', e, fun m' v H' g2 R2 r2 => q m' v H' (g1.trans g2) R2 r2⟩⟩
theorem GoE.mono {r : Option (D × LH)} {Q Q' : VK} (g : GoE K mg m h H r Q) (k : ∀ v H', Q v H' → Q' v H') : GoE K mg m h H r Q' := by
  obtain ⟨d, h', e, q⟩ := g
  exact ⟨d, h', e, fun m' v H' g R r => k _ _ (q m' v H' g R r)⟩
end

/-! ### readings -/
section
variable (P : Pr) (cl : Nat → List D → LH → Option (D × LH)) (K : PySem.W.Frag) (mg : Str → Option Value)
def tI (e : Ex) : TE := fun σ H Q => ∃ m σl h, Rep K mg m h H ∧ SRel K mg m H σl σ ∧ GoE K mg m h H (evE P cl e σl h) Q
def tAndI (es : Exs) : TE := fun σ H Q => ∃ m σl h, Rep K mg m h H ∧ SRel K mg m H σl σ ∧ GoE K mg m h H (evAnd P cl es σl h) Q
def tOrI (es : Exs) : TE := fun σ H Q => ∃ m σl h, Rep K mg m h H ∧ SRel K mg m H σl σ ∧ GoE K mg m h H (evOr P cl es σl h) Q
/-- a test's end -/
def GoB (m : MM) (h : LH) (H : Hp) (r : Option (D × LH)) (Q : Bool → Hp → Prop) : Prop :=
  ∃ d h' b, r = some (d, h') ∧ truth d h' = some b ∧ ∀ m' H', Go m h H m' h' H' → Rep K mg m' h' H' → Q b H'
def tT (e : Ex) : TT := fun σ H Q => ∃ m σl h, Rep K mg m h H ∧ SRel K mg m H σl σ ∧ GoB K mg m h H (evE P cl e σl h) Q
def tAndT' (es : Exs) : TT := fun σ H Q => ∃ m σl h, Rep K mg m h H ∧ SRel K mg m H σl σ ∧ GoB K mg m h H (evAnd P cl es σl h) Q
def tOrT' (es : Exs) : TT := fun σ H Q => ∃ m σl h, Rep K mg m h H ∧ SRel K mg m H σl σ ∧ GoB K mg m h H (evOr P cl es σl h) Q
def tIs (es : Exs) : TA := fun σ H Q => ∃ m σl h ds h', Rep K mg m h H ∧ SRel K mg m H σl σ ∧ evEs P cl es σl h = some (ds, h') ∧ ∀ m' vs H', Go m h H m' h' H' → Rep K mg m' h' H' → RelDs K mg m' H' ds vs → Q vs H'
/-- a def's promise -/
def spI (f : Nat) : Sp := fun vs H Q _ => ∃ m h ds, Rep K mg m h H ∧ RelDs K mg m H ds vs ∧ (∃ F, P.fn f = some F ∧ ds.length = F.np) ∧ GoE K mg m h H (cl f ds h) Q
end

/-- what is known of the classes: AD tells where a def stands -/
structure COk (P : Pr) (AD : Nat → Option Addr) (K : PySem.W.Frag) (mg : Str → Option Value) : Prop where
  cls : ∀ C c, P.cls C = some c → ∃ Ca, mg (nmS C) = some (.ref Ca) ∧ Cls K Ca ∧ (∀ f ∈ c.flds, f < 128 ^ 64 ∧ NoAttr K Ca (nmS f)) ∧ (∀ x f, c.mts.lookup x = some f → ∃ p, AD f = some p ∧ Meth K Ca (nmS x) p) ∧ ∃ p, AD c.ini = some p ∧ Mk K Ca p
/-- what is known of a def -/
structure FnG (P : Pr) (AD : Nat → Option Addr) (cl : Nat → List D → LH → Option (D × LH)) (X : Cx) (f : Nat) (F : Fn) (k : Nat) (p : Addr) (fd : FuncData) (ps : List Str) : Prop where
  at_ : AD f = some p
  ok : FnOk X.prog X.w X.K X.mg X.base CX0 k p fd ps (spI P cl X.K X.mg f)
  room : Room (k + 1) X.A
  glo : f < 128 ^ 64 → X.mg (nmS f) = some (.ref p) ∧ PySem.W.keepIn X.K (.ref p) = true
  bnd : ∀ j, j ≤ F.dfs.length → ∃ dvs ds, Vals dvs ds ∧ Binds X.K fd ps ds ∧ ∀ m H, RelDs X.K X.mg m H (F.dfs.drop j) dvs
/-- what a context knows -/
structure XG (P : Pr) (AD : Nat → Option Addr) (cl : Nat → List D → LH → Option (D × LH)) (N : List Nat) (X : Cx) : Prop where
  N : X.N = N.map nmS
  nd : X.N.Nodup
  calm : X.calm = true
  G : GOk P X.K X.mg X.w
  hu : X.A.units + 65 < cLine
  C : COk P AD X.K X.mg
  dom : ∀ f vs h r, cl f vs h = some r → ∃ F vs', P.fn f = some F ∧ fill F vs = some vs' ∧ vs'.length = F.np ∧ cl f vs' h = some r
  fns : ∀ f F, P.fn f = some F → ∃ k p fd ps, FnG P AD cl X f F k p fd ps

/-- a scope's names, by their kinds -/
def ScOk (sc : Scp) (X : Cx) : Prop := ∀ x k, sc.lookup x = some k → (X.env.scope.names.lookup (nmS x) = some (nkK k) ∨ (k = .fre ∧ X.env.scope.names.lookup (nmS x) = some .cell)) ∧ (k = .cel → X.fn (nmS x) = true)
theorem ScOk.glo {sc : Scp} {X : Cx} (S : ScOk sc X) {x : Nat} (e : sc.lookup x = some .glo) : Gl X (nmS x) := by
  rcases (S x .glo e).1 with z | ⟨z, _⟩
  · exact z
  · cases z
theorem ScOk.vis {sc : Scp} {X : Cx} (S : ScOk sc X) {x : Nat} {k : NK} (e : sc.lookup x = some k) (hk : k ≠ .glo) : Vis X.env.scope (nmS x) := by
  rcases (S x k e).1 with z | ⟨_, z⟩
  · cases k with
    | glo => exact absurd rfl hk
    | loc => exact .inl z
    | cel => exact .inr (.inl z)
    | fre => exact .inr (.inr z)
  · exact .inr (.inl z)
theorem ScOk.loc {sc : Scp} {X : Cx} (S : ScOk sc X) {x : Nat} {k : NK} (e : sc.lookup x = some k) (hk : k = .loc ∨ k = .cel) : Loc X.env.scope (nmS x) ∧ (X.fn (nmS x) = true ∨ X.env.scope.names.lookup (nmS x) = some .local) := by
  obtain ⟨z, f⟩ := S x k e
  rcases hk with rfl | rfl
  · rcases z with z | ⟨z, _⟩
    · exact ⟨.inl z, .inr z⟩
    · cases z
  · rcases z with z | ⟨z, _⟩
    · exact ⟨.inr z, .inl (f rfl)⟩
    · cases z
theorem lookup_mem {α : Type} {sc : List (Nat × α)} {x : Nat} {k : α} (h : sc.lookup x = some k) : (x, k) ∈ sc := by
  induction sc with
  | nil => cases h
  | cons p r ih =>
    obtain ⟨y, k'⟩ := p
    by_cases e : x = y
    · subst e
      simp [List.lookup] at h
      subst h
      exact List.mem_cons_self
    · have e1 : (x == y) = false := by simpa using e
      simp only [List.lookup, e1] at h
      exact List.mem_cons_of_mem _ (ih h)
theorem lookup_nodup {α : Type} {sc : List (Nat × α)} (nd : (sc.map (·.1)).Nodup) {p : Nat × α} (h : p ∈ sc) : sc.lookup p.1 = some p.2 := by
  induction sc with
  | nil => cases h
  | cons q r ih =>
    rw [List.map_cons, List.nodup_cons] at nd
    rcases List.mem_cons.mp h with e | h'
    · subst e
      obtain ⟨a, b⟩ := p
      simp [List.lookup]
    · have ne : (p.1 == q.1) = false := by
        rw [beq_eq_false_iff_ne]
        intro e
        exact nd.1 (List.mem_map.mpr ⟨p, h', e⟩)
      obtain ⟨a, b⟩ := q
      have i := ih nd.2 h'
      simp only [List.lookup, ne]
      exact i
theorem lookup_scN' {sc : Scp} (h : ∀ p ∈ sc, p.1 < 128 ^ 64) {x : Nat} (hx : x < 128 ^ 64) : (scN sc).lookup (nmS x) = (sc.lookup x).map nkK := by
  induction sc with
  | nil => rfl
  | cons p r ih =>
    obtain ⟨y, k⟩ := p
    have hy := h (y, k) List.mem_cons_self
    have ih := ih fun p hp => h p (List.mem_cons_of_mem _ hp)
    show List.lookup (nmS x) ((nmS y, nkK k) :: scN r) = _
    by_cases e : x = y
    · subst e; simp [List.lookup]
    · have e1 : (x == y) = false := by simpa using e
      have e2 : (nmS x == nmS y) = false := by
        rw [beq_eq_false_iff_ne]
        exact fun z => e (nmS_inj hx hy z)
      simp only [List.lookup, e1, e2]
      exact ih

/-! ### names that may be used -/
def cBf : Bf → Nat
  | .len => 1782510 | .int => 1734516 | .tuple => 31385728613 | .list => 228227572 | .str => 1899122 | .sum => 1899245 | .any => 1603449 | .all => 1603180 | .min => 1799406 | .max => 1798392 | .sorted => 3981407236836 | .ord => 1833316
def cTy : Ty → Nat
  | .bool => 207353836 | .int => 1734516 | .str => 1899122 | .tuple => 31385728613 | .list => 228227572 | .dict => 211448308
theorem bf_nm (f : Bf) : bfS f = nmS (cBf f) := by cases f <;> kernel_rfl
theorem ty_nm (f : Ty) : tyS f = nmS (cTy f) := by cases f <;> kernel_rfl
theorem n_debug : ("__debug__" : Str) = nmS 6899394980716605407 := by kernel_rfl
theorem n_cdict : ("__classdict__" : Str) = nmS 1852041121671626177078177759 := by kernel_rfl
theorem n_name : ("__name__" : Str) = nmS 53901865833295839 := by kernel_rfl
theorem n_super : ("super" : Str) = nmS 31117292274 := by kernel_rfl
theorem n_range : ("range" : Str) = nmS 30806881253 := by kernel_rfl
theorem n_isi : ("isinstance" : Str) = nmS 976800284697052295653 := by kernel_rfl
def okN (x : Nat) : Bool := decide (x < 128 ^ 64) && decide (x ≠ 6899394980716605407) && decide (x ≠ 1852041121671626177078177759) && decide (x ≠ 53901865833295839) && decide (x ≠ 31117292274)
theorem okN_ne {x y : Nat} (h : okN x = true) (hy : y < 128 ^ 64) (ne : x ≠ y) : nmS x ≠ nmS y := fun e => by
  simp only [okN, Bool.and_eq_true, decide_eq_true_eq] at h
  exact ne (nmS_inj h.1.1.1.1 hy e)
theorem okN_debug {x : Nat} (h : okN x = true) : (nmS x == ("__debug__" : Str)) = false := by
  rw [n_debug, beq_eq_false_iff_ne]
  have h' := h
  simp only [okN, Bool.and_eq_true, decide_eq_true_eq] at h'
  exact okN_ne h (by decide) h'.1.1.1.2
theorem okN_cdict {x : Nat} (h : okN x = true) : (nmS x == ("__classdict__" : Str)) = false := by
  rw [n_cdict, beq_eq_false_iff_ne]
  have h' := h
  simp only [okN, Bool.and_eq_true, decide_eq_true_eq] at h'
  exact okN_ne h (by decide) h'.1.1.2
theorem okN_name {x : Nat} (h : okN x = true) : nmS x ≠ ("__name__" : Str) := by
  rw [n_name]
  have h' := h
  simp only [okN, Bool.and_eq_true, decide_eq_true_eq] at h'
  exact okN_ne h (by decide) h'.1.2
theorem okN_super {x : Nat} (h : okN x = true) : nmS x ≠ ("super" : Str) := by
  rw [n_super]
  have h' := h
  simp only [okN, Bool.and_eq_true, decide_eq_true_eq] at h'
  exact okN_ne h (by decide) h'.2

def isGlo (sc : Scp) (x : Nat) : Bool := match sc.lookup x with
  | some .glo => true
  | _ => false
def isVis (sc : Scp) (N : List Nat) (i : Nat) : Bool := match N[i]? with
  | some x => okN x && match sc.lookup x with
    | some .glo => false
    | none => false
    | _ => true
  | none => false
def isLoc (sc : Scp) (N : List Nat) (i : Nat) : Bool := match N[i]? with
  | some x => match sc.lookup x with
    | some .loc => true
    | some .cel => true
    | _ => false
  | none => false
def exsLen : Exs → Nat
  | .nil => 0
  | .cons _ es => exsLen es + 1

mutual
def okT (sc : Scp) (N : List Nat) : Tg → Bool
  | .nm i => isLoc sc N i
  | .tp ts => okTs sc N ts
def okTs (sc : Scp) (N : List Nat) : Tgs → Bool
  | .nil => true
  | .cons t ts => okT sc N t && okTs sc N ts
end
/-- a comprehension's own scope -/
def okLc (sc : Scp) (N : List Nat) (sc' : Scp) (t : Tg) : Bool :=
  okT sc' N t && (sc'.all fun q => decide (q.1 < 128 ^ 64)) && decide (sc'.map (·.1)).Nodup && (N.all fun x => decide (x < 128 ^ 64)) && (sc.all fun q => decide (q.1 < 128 ^ 64)) && ((tgSl t).all fun i => decide (i < N.length)) &&
    sc'.all fun q => match q.2 with
      | .fre => match sc.lookup q.1 with
        | some .cel => true
        | some .fre => true
        | _ => false
      | .loc => ((tgSl t).any fun i => N.getD i 0 == q.1) || !N.contains q.1
      | .cel => ((tgSl t).any fun i => N.getD i 0 == q.1) || !N.contains q.1
      | .glo => true
mutual
def okE (sc : Scp) (N : List Nat) : Ex → Bool
  | .non => true
  | .bl _ => true
  | .int _ => true
  | .str s => ascii s
  | .lv i => isVis sc N i
  | .gv x => okN x && isGlo sc x
  | .tup es => okEs sc N es
  | .lst es => okEs sc N es
  | .dnew => true
  | .mk C es => okN C && isGlo sc C && okEs sc N es
  | .bop _ a b => okE sc N a && okE sc N b
  | .neg a => okE sc N a
  | .not a => okE sc N a
  | .cmp _ a b => okE sc N a && okE sc N b
  | .cmp2 _ _ a b c => okE sc N a && okE sc N b && okE sc N c
  | .and es => okEs sc N es
  | .or es => okEs sc N es
  | .ix a i => okE sc N a && okE sc N i
  | .sl a lo hi => okE sc N a && okE sc N lo && okE sc N hi
  | .call f es => okN f && isGlo sc f && okEs sc N es
  | .blt f es => isGlo sc (cBf f) && okEs sc N es && decide (0 < exsLen es)
  | .calv i es => isVis sc N i && okEs sc N es && decide (0 < exsLen es)
  | .isi a T => isGlo sc 976800284697052295653 && isGlo sc (cTy T) && okE sc N a
  | .bm o m es => okE sc N o && okEs sc N es && match m with
    | .append => decide (exsLen es = 1)
    | .extend => decide (exsLen es = 1)
    | .insert => decide (exsLen es = 2)
    | .pop => decide (exsLen es = 1)
    | .index => decide (exsLen es = 1)
    | .get => decide (exsLen es = 2)
    | .join => decide (exsLen es = 1)
    | _ => false
  | .cm o m es => okE sc N o && okEs sc N es && decide (exsLen es < 20)
  | .fld o f => okE sc N o
  | .lc sc' e t s ts => okI sc N s && okLc sc N sc' t && okE sc' N e && okEs sc' N ts && decide (exsLen ts < 2)
  | .lcb f sc' e t s ts => isGlo sc (cBf f) && okI sc N s && okLc sc N sc' t && okE sc' N e && okEs sc' N ts && decide (exsLen ts < 2) && match f with
    | .tuple => true
    | .len => true
    | .any => true
    | .all => true
    | .sum => true
    | _ => false
def okEs (sc : Scp) (N : List Nat) : Exs → Bool
  | .nil => true
  | .cons e es => okE sc N e && okEs sc N es
def okI (sc : Scp) (N : List Nat) : Is → Bool
  | .ex e => okE sc N e
  | .rng es => isGlo sc 30806881253 && okEs sc N es
  | _ => false
end

/-! ### the text's forms -/
structure Pln (e : Expr) : Prop where
  star : ∀ es env, starEach (e :: es) env = (false, eval e env) :: starEach es env
  ix : PlainIx e
  fold : ∀ env x, foldedSetIterable e env x = pure x
  mark : ∀ op, behindInMarks op e = false
theorem pln_of {N : List Nat} {e' : Ex} {e : Expr} (h : reE N e' e = e) : Pln e := by
  cases e with
  | Starred v p => cases e' <;> cases h
  | Set l k p => cases e' <;> cases h
  | Slice l u s p => cases e' <;> cases h
  | _ => exact ⟨fun _ _ => rfl, fun _ _ => rfl, fun _ _ => rfl, fun _ => rfl⟩

section
variable {N : List Nat} {e : Expr}
theorem inv_non (h : reE N .non e = e) : ∃ k p, e = .Constant .none k p := by
  cases e with
  | Constant c k p => exact ⟨k, p, h.symm⟩
  | _ => cases h
theorem inv_bl {b} (h : reE N (.bl b) e = e) : ∃ k p, e = .Constant (.bool b) k p := by
  cases e with
  | Constant c k p => exact ⟨k, p, h.symm⟩
  | _ => cases h
theorem inv_int {i} (h : reE N (.int i) e = e) : ∃ k p, e = .Constant (.int i) k p := by
  cases e with
  | Constant c k p => exact ⟨k, p, h.symm⟩
  | _ => cases h
theorem inv_str {s} (h : reE N (.str s) e = e) : ∃ k p, e = .Constant (.str (txS s)) k p := by
  cases e with
  | Constant c k p => exact ⟨k, p, h.symm⟩
  | _ => cases h
theorem inv_lv {i} (h : reE N (.lv i) e = e) : ∃ p, e = .Name (nmS (N.getD i 0)) p := by
  cases e with
  | Name x p => exact ⟨p, h.symm⟩
  | _ => cases h
theorem inv_gv {x} (h : reE N (.gv x) e = e) : ∃ p, e = .Name (nmS x) p := by
  cases e with
  | Name x p => exact ⟨p, h.symm⟩
  | _ => cases h
theorem inv_tup {es} (h : reE N (.tup es) e = e) : ∃ l k p, e = .Tuple l k p ∧ reEs N es l = l := by
  cases e with
  | Tuple l k p => injection h with h1; exact ⟨l, k, p, rfl, h1⟩
  | _ => cases h
theorem inv_lst {es} (h : reE N (.lst es) e = e) : ∃ l p, e = .List l p ∧ reEs N es l = l := by
  cases e with
  | List l p => injection h with h1; exact ⟨l, p, rfl, h1⟩
  | _ => cases h
theorem inv_bop {o a b} (h : reE N (.bop o a b) e = e) : ∃ l r p, e = .BinOp l (bopO o) r p ∧ reE N a l = l ∧ reE N b r = r := by
  cases e with
  | BinOp l o' r p => injection h with h1 h2 h3; exact ⟨l, r, p, by rw [← h2], h1, h3⟩
  | _ => cases h
theorem inv_neg {a} (h : reE N (.neg a) e = e) : ∃ x p, e = .UnaryOp .USub x p ∧ reE N a x = x := by
  cases e with
  | UnaryOp o x p => injection h with h1 h2; exact ⟨x, p, by rw [← h1], h2⟩
  | _ => cases h
theorem inv_not {a} (h : reE N (.not a) e = e) : ∃ x p, e = .UnaryOp .Not x p ∧ reE N a x = x := by
  cases e with
  | UnaryOp o x p => injection h with h1 h2; exact ⟨x, p, by rw [← h1], h2⟩
  | _ => cases h
theorem inv_cmp {o a b} (h : reE N (.cmp o a b) e = e) : ∃ l r p, e = .Compare l [copO o] [r] p ∧ reE N a l = l ∧ reE N b r = r := by
  cases e with
  | Compare l os rs p =>
    cases rs with
    | nil => cases h
    | cons r rs =>
      injection h with h1 h2 h3
      injection h3 with h3 h4
      exact ⟨l, r, p, by rw [← h2, ← h4], h1, h3⟩
  | _ => cases h
theorem inv_cmp2 {o o' a b c} (h : reE N (.cmp2 o o' a b c) e = e) : ∃ l r r' p, e = .Compare l [copO o, copO o'] [r, r'] p ∧ reE N a l = l ∧ reE N b r = r ∧ reE N c r' = r' := by
  cases e with
  | Compare l os rs p =>
    cases rs with
    | nil => cases h
    | cons r rs =>
      cases rs with
      | nil => cases h
      | cons r' rs =>
        injection h with h1 h2 h3
        injection h3 with h3 h4
        injection h4 with h4 h5
        exact ⟨l, r, r', p, by rw [← h2, ← h5], h1, h3, h4⟩
  | _ => cases h
theorem inv_and {es} (h : reE N (.and es) e = e) : ∃ l p, e = .BoolOp .And l p ∧ reEs N es l = l := by
  cases e with
  | BoolOp o l p => injection h with h1 h2; exact ⟨l, p, by rw [← h1], h2⟩
  | _ => cases h
theorem inv_or {es} (h : reE N (.or es) e = e) : ∃ l p, e = .BoolOp .Or l p ∧ reEs N es l = l := by
  cases e with
  | BoolOp o l p => injection h with h1 h2; exact ⟨l, p, by rw [← h1], h2⟩
  | _ => cases h
theorem inv_ix {a i} (h : reE N (.ix a i) e = e) : ∃ v s p, e = .Subscript v s p ∧ reE N a v = v ∧ reE N i s = s := by
  cases e with
  | Subscript v s p => injection h with h1 h2; exact ⟨v, s, p, rfl, h1, h2⟩
  | _ => cases h
theorem inv_sl {a lo hi} (h : reE N (.sl a lo hi) e = e) : ∃ v l u p2 p, e = .Subscript v (.Slice l u none p2) p ∧ reE N a v = v ∧ opE (isNonE lo) (reE N lo) l = l ∧ opE (isNonE hi) (reE N hi) u = u := by
  cases e with
  | Subscript v s p =>
    cases s with
    | Slice l u st p2 =>
      injection h with h1 h2
      injection h2 with h2 h3 h4
      exact ⟨v, l, u, p2, p, by rw [← h4], h1, h2, h3⟩
    | _ => cases h
  | _ => cases h
theorem inv_call {f es} (h : reE N (.call f es) e = e) : ∃ p1 l p, e = .Call (.Name (nmS f) p1) l [] p ∧ reEs N es l = l := by
  cases e with
  | Call g l ks p =>
    cases g with
    | Name x p1 =>
      injection h with h1 h2 h3
      exact ⟨p1, l, p, by rw [← h1, ← h3], h2⟩
    | _ => cases h
  | _ => cases h
theorem inv_blt {f es} (h : reE N (.blt f es) e = e) : ∃ p1 l p, e = .Call (.Name (bfS f) p1) l [] p ∧ reEs N es l = l := by
  cases e with
  | Call g l ks p =>
    cases g with
    | Name x p1 =>
      injection h with h1 h2 h3
      exact ⟨p1, l, p, by rw [← h1, ← h3], h2⟩
    | _ => cases h
  | _ => cases h
theorem inv_calv {i es} (h : reE N (.calv i es) e = e) : ∃ p1 l p, e = .Call (.Name (nmS (N.getD i 0)) p1) l [] p ∧ reEs N es l = l := by
  cases e with
  | Call g l ks p =>
    cases g with
    | Name x p1 =>
      injection h with h1 h2 h3
      exact ⟨p1, l, p, by rw [← h1, ← h3], h2⟩
    | _ => cases h
  | _ => cases h
theorem inv_isi {a T} (h : reE N (.isi a T) e = e) : ∃ p1 x p2 p, e = .Call (.Name "isinstance" p1) [x, .Name (tyS T) p2] [] p ∧ reE N a x = x := by
  cases e with
  | Call g l ks p =>
    cases g with
    | Name y p1 =>
      cases l with
      | nil => cases h
      | cons x l =>
        cases l with
        | nil => cases h
        | cons t l =>
          cases t with
          | Name z p2 =>
            injection h with h1 h2 h3
            injection h2 with h2 h4
            exact ⟨p1, x, p2, p, by rw [← h1, ← h3, ← h4], h2⟩
          | _ => cases h
    | _ => cases h
  | _ => cases h
theorem inv_bm {o m es} (h : reE N (.bm o m es) e = e) : ∃ v p1 l p, e = .Call (.Attribute v (bmS m) p1) l [] p ∧ (p1.endLine == p.line) = true ∧ reE N o v = v ∧ reEs N es l = l := by
  cases e with
  | Call g l ks p =>
    cases g with
    | Attribute v x p1 =>
      have h' : (if (p1.endLine == p.line) = true then Expr.Call (.Attribute (reE N o v) (bmS m) p1) (reEs N es l) [] p else .Constant .ellipsis 0 P0) = .Call (.Attribute v x p1) l ks p := h
      by_cases hl : (p1.endLine == p.line) = true
      · rw [if_pos hl] at h'
        injection h' with h1 h2 h3
        injection h1 with h1 h4
        exact ⟨v, p1, l, p, by rw [← h4, ← h3], hl, h1, h2⟩
      · rw [if_neg hl] at h'; cases h'
    | _ => cases h
  | _ => cases h
theorem inv_mk {f es} (h : reE N (.mk f es) e = e) : ∃ p1 l p, e = .Call (.Name (nmS f) p1) l [] p ∧ reEs N es l = l := by
  cases e with
  | Call g l ks p =>
    cases g with
    | Name x p1 =>
      injection h with h1 h2 h3
      exact ⟨p1, l, p, by rw [← h1, ← h3], h2⟩
    | _ => cases h
  | _ => cases h
theorem inv_dnew (h : reE N .dnew e = e) : ∃ p, e = .Dict [] [] p := by
  cases e with
  | Dict a b p => exact ⟨p, h.symm⟩
  | _ => cases h
theorem inv_fld {o f} (h : reE N (.fld o f) e = e) : ∃ v p, e = .Attribute v (nmS f) p ∧ reE N o v = v := by
  cases e with
  | Attribute v x p => injection h with h1 h2; exact ⟨v, p, by rw [← h2], h1⟩
  | _ => cases h
theorem inv_cm {o m es} (h : reE N (.cm o m es) e = e) : ∃ v p1 l p, e = .Call (.Attribute v (nmS m) p1) l [] p ∧ (p1.endLine == p.line) = true ∧ reE N o v = v ∧ reEs N es l = l := by
  cases e with
  | Call g l ks p =>
    cases g with
    | Attribute v x p1 =>
      have h' : (if (p1.endLine == p.line) = true then Expr.Call (.Attribute (reE N o v) (nmS m) p1) (reEs N es l) [] p else .Constant .ellipsis 0 P0) = .Call (.Attribute v x p1) l ks p := h
      by_cases hl : (p1.endLine == p.line) = true
      · rw [if_pos hl] at h'
        injection h' with h1 h2 h3
        injection h1 with h1 h4
        exact ⟨v, p1, l, p, by rw [← h4, ← h3], hl, h1, h2⟩
      · rw [if_neg hl] at h'; cases h'
    | _ => cases h
  | _ => cases h
/-- a comprehension's text -/
structure LcAt (N : List Nat) (sc : Scp) (e : Ex) (t : Tg) (s : Is) (ts : Exs) (x tg it : Expr) (ifs : List Expr) (scope : Scope) : Prop where
  e : reE N e x = x
  t : reT N t tg = tg
  s : reI N s it = it
  ts : reEs N ts ifs = ifs
  kind : scope.kind = .function
  names : scope.names = scN sc
theorem inv_lc {sc e' t s ts} (h : reE N (.lc sc e' t s ts) e = e) : ∃ x tg it ifs scope p, e = .ListComp x [⟨tg, it, ifs, 0⟩] scope p ∧ LcAt N sc e' t s ts x tg it ifs scope := by
  cases e with
  | ListComp x gs scope p =>
    cases gs with
    | nil => cases h
    | cons g gs =>
      obtain ⟨tg, it, ifs, as⟩ := g
      injection h with h1 h2 h3
      injection h2 with h2 h4
      injection h2 with h5 h6 h7 h8
      refine ⟨x, tg, it, ifs, scope, p, by rw [← h4, ← h8], h1, h5, h6, h7, ?_, ?_⟩
      · rw [← h3]
      · rw [← h3]
  | _ => cases h
theorem inv_lcb {f sc e' t s ts} (h : reE N (.lcb f sc e' t s ts) e = e) : ∃ p1 x tg it ifs scope p2 p, e = .Call (.Name (bfS f) p1) [.ListComp x [⟨tg, it, ifs, 0⟩] scope p2] [] p ∧ LcAt N sc e' t s ts x tg it ifs scope := by
  cases e with
  | Call g l ks p =>
    cases g with
    | Name y p1 =>
      cases l with
      | nil => cases h
      | cons a l =>
        cases a with
        | ListComp x gs scope p2 =>
          cases gs with
          | nil => cases h
          | cons g gs =>
            obtain ⟨tg, it, ifs, as⟩ := g
            injection h with h1 h2 h3
            injection h2 with h2 h4
            injection h2 with h5 h6 h7 h8
            injection h6 with h6 h9
            injection h6 with ha hb hc hd
            refine ⟨p1, x, tg, it, ifs, scope, p2, p, by rw [← h1, ← h3, ← h4, ← h9, ← hd], h5, ha, hb, hc, ?_, ?_⟩
            · rw [← h7]
            · rw [← h7]
        | _ => cases h
    | _ => cases h
  | _ => cases h
theorem inv_nil {l : List Expr} (h : reEs N .nil l = l) : l = [] := h.symm
theorem inv_cons {e' es'} {l : List Expr} (h : reEs N (.cons e' es') l = l) : ∃ x xs, l = x :: xs ∧ reE N e' x = x ∧ reEs N es' xs = xs := by
  cases l with
  | nil => cases h
  | cons x xs => injection h with h1 h2; exact ⟨x, xs, rfl, h1, h2⟩
end
end FK

end
section
set_option maxRecDepth 100000
set_option maxHeartbeats 4000000
/-! Fk4b: targets; what is walked. -/
namespace FK
open PySem PySem.Spec PyProof.Rows L2

theorem wipe_get (σ : L2.St) : ∀ (vs : List Nat) (j : Nat), (L2.wipe σ vs)[j]? = if j ∈ vs then (if j < σ.length then some none else none) else σ[j]?
  | [], j => by simp [L2.wipe]
  | v :: vs, j => by
    unfold L2.wipe
    by_cases h : j = v
    · subst h
      by_cases hl : j < σ.length
      · rw [List.getElem?_set_self (by rw [L2.wipe_length]; exact hl)]; simp [hl]
      · rw [List.getElem?_eq_none (by rw [List.length_set, L2.wipe_length]; omega)]; simp [hl]
    · rw [List.getElem?_set_ne (Ne.symm h), wipe_get σ vs j]
      simp [h]
theorem wipe_set {σ : L2.St} {vs : List Nat} {i : Nat} {x : Option V} (h : i ∈ vs) : L2.wipe (σ.set i x) vs = L2.wipe σ vs := by
  apply List.ext_getElem?
  intro j
  rw [wipe_get, wipe_get]
  by_cases hj : j ∈ vs
  · simp [hj]
  · rw [if_neg hj, if_neg hj, List.getElem?_set_ne]
    rintro rfl; exact hj h

section
variable (P : Pr) (cl : Nat → List D → LH → Option (D × LH)) (K : PySem.W.Frag) (mg : Str → Option Value)
def gI (vs : List Nat) (t : Tg) : TG := fun v σ H Q => ∃ m h σl d σl', Rep K mg m h H ∧ SRel K mg m H σl σ ∧ RelD K mg m H d v ∧ tgA t d σl = some σl' ∧ ∀ σ', SRel K mg m H σl' σ' → L2.wipe σ' vs = L2.wipe σ vs → Q σ' H
def gsI (ws : List Nat) (ts : Tgs) : TGs := fun vs σ H Q => ∃ m h σl ds σl', Rep K mg m h H ∧ SRel K mg m H σl σ ∧ RelDs K mg m H ds vs ∧ tgsA ts ds σl = some σl' ∧ ∀ σ', SRel K mg m H σl' σ' → L2.wipe σ' ws = L2.wipe σ ws → Q σ' H
/-- what walks a dict's keys -/
def ItD (p : Addr) (o : Obj) (ys : List (NestedKey × Addr × Value)) : It :=
  ⟨fun i H => H p = some (.frz o (.ext (DAt p ys))) ∧ i < ys.length, fun i H x H' => H' = H ∧ ∃ k, ys[i]? = some k ∧ x = .ref k.2.1, fun i H => H p = some (.frz o (.ext (DAt p ys))) ∧ ys.length ≤ i⟩
/-- what walks the items -/
def JRel (m : MM) (H : Hp) (xs : List D) (g : Option Nat) (J : It) : Prop :=
  (∃ a vs, J = Itt K a ∧ TupS K H a vs ∧ RelDs K mg m H xs vs ∧ g = none) ∨ (∃ b a, J = Itl K a ∧ g = some b ∧ m b = some a) ∨ (∃ (lo : Int) (n : Nat), J = Itr lo n ∧ xs = (List.range n).map (fun (k : Nat) => D.int (lo + k)) ∧ g = none) ∨
    (∃ s : List Nat, J = Its ⟨s.toArray⟩ ∧ xs = s.map chr1 ∧ g = none) ∨
    ∃ p o ys kvs, J = ItD p o ys ∧ H p = some (.frz o (.ext (DAt p ys))) ∧ RelK K mg m H kvs ys ∧ xs = kvs.map (·.1) ∧ g = none
def iI (s : Is) : TI := fun σ H R => ∃ m σl h xs g h', Rep K mg m h H ∧ SRel K mg m H σl σ ∧ evIs P cl s σl h = some (xs, g, h') ∧ ∀ m' H' J, Go m h H m' h' H' → Rep K mg m' h' H' → JRel K mg m' H' xs g J → R J H'
end
section
variable {K : PySem.W.Frag} {mg : Str → Option Value}
theorem tgs_len : ∀ {ts : Tgs} {ds : List D} {σ σ' : Lc}, tgsA ts ds σ = some σ' → ∀ {N : List Nat} {es : List Expr}, reTs N ts es = es → ds.length = es.length
  | .nil, ds, σ, σ', h, N, es, e => by
    have : es = [] := e.symm
    subst this
    unfold tgsA at h
    cases ds with
    | nil => rfl
    | cons a b => simp at h
  | .cons t ts, ds, σ, σ', h, N, es, e => by
    cases es with
    | nil => cases e
    | cons x xs =>
      injection e with e1 e2
      cases ds with
      | nil => unfold tgsA at h; cases h
      | cons d ds =>
        unfold tgsA at h
        simp only at h
        cases q : tgA t d σ with
        | none => rw [q] at h; cases h
        | some σ1 =>
          rw [q] at h
          have := tgs_len (ts := ts) (ds := ds) h e2
          simp [this]
end

section
variable {P : Pr} {AD : Nat → Option Addr} {cl : Nat → List D → LH → Option (D × LH)} {N : List Nat} {X : Cx} {sc : Scp}
theorem loc_name (G : XG P AD cl N X) (S : ScOk sc X) {i : Nat} (h : isLoc sc N i = true) : ∃ x, N.getD i 0 = x ∧ X.N[i]? = some (nmS x) ∧ Loc X.env.scope (nmS x) ∧ (X.fn (nmS x) = true ∨ X.env.scope.names.lookup (nmS x) = some .local) := by
  unfold isLoc at h
  cases e : N[i]? with
  | none => rw [e] at h; cases h
  | some x =>
    rw [e] at h
    simp only at h
    refine ⟨x, by simp [List.getD, e], by rw [G.N, List.getElem?_map, e]; rfl, ?_⟩
    cases q : sc.lookup x with
    | none => rw [q] at h; cases h
    | some k =>
      rw [q] at h
      exact S.loc q (by cases k <;> first | (cases h; done) | simp)
theorem assign_each : ∀ {ts : Tgs} {es : List Expr} {env : Env}, reTs N ts es = es → (assignEach es env).length = es.length ∧ (assignEach es env).findIdx? (·.1) = none ∧
    ∀ e es', es = e :: es' → (assignEach (e :: es') env).map (·.2) = assign e env :: (assignEach es' env).map (·.2)
  | .nil, es, env, h => by
    have : es = [] := h.symm
    subst this
    exact ⟨rfl, rfl, fun _ _ z => nomatch z⟩
  | .cons t ts, es, env, h => by
    cases es with
    | nil => cases h
    | cons e es =>
      injection h with h1 h2
      obtain ⟨i1, i2, _⟩ := assign_each (ts := ts) (env := env) h2
      have key : assignEach (e :: es) env = (false, assign e env) :: assignEach es env := by
        cases t with
        | nm i => cases e <;> first | rfl | cases h1
        | tp ts => cases e <;> first | rfl | cases h1
      refine ⟨by rw [key]; simp [i1], by rw [key]; simp [List.findIdx?_cons, i2], fun e' es' z => ?_⟩
      cases z
      rw [key]; rfl
mutual
theorem pg_of : ∀ (t : Tg) {sc : Scp} {X : Cx} {e : Expr} {ws : List Nat}, XG P AD cl N X → ScOk sc X → okT sc N t = true → reT N t e = e → (∀ i ∈ tgSl t, i ∈ ws) → PG X e (gI X.K X.mg ws t)
  | .nm i, sc, X, e, ws, G, S, ok, h, hw => by
    obtain ⟨p, rfl⟩ : ∃ p, e = .Name (nmS (N.getD i 0)) p := by
      cases e with
      | Name x p => exact ⟨p, h.symm⟩
      | _ => cases h
    obtain ⟨x, n1, n2, n3, n4⟩ := loc_name G S ok
    rw [n1]
    refine ⟨fun pins s σ H v u Q I r ⟨m, h, σl, d, σl', R, Sl, rd, e, k⟩ => (pg_name (i := i) G.nd n2 n3 n4).run pins s σ H v u Q I r ?_⟩
    have e : (if i < σl.length then some (σl.set i (some d)) else none) = some σl' := e
    split at e
    · cases e; exact k _ (Sl.set rd i) (wipe_set (hw i (by simp [tgSl])))
    · cases e
  | .tp ts, sc, X, e, ws, G, S, ok, h, hw => by
    obtain ⟨l, kk, p, rfl, h1⟩ : ∃ l k p, e = .Tuple l k p ∧ reTs N ts l = l := by
      cases e with
      | Tuple l k p => injection h with h1; exact ⟨l, k, p, rfl, h1⟩
      | _ => cases h
    have ih := pgs_of ts G S ok h1 (ws := ws) hw
    obtain ⟨a1, a2, _⟩ := assign_each (N := N) (ts := ts) (env := X.env) h1
    refine ⟨fun pins s σ H v u Q I r ⟨m, h, σl, d, σl', R, Sl, rd, e, k⟩ => (pg_tup (n := l.length) G.calm ih a1 a2).run pins s σ H v u Q I r ?_⟩
    cases d with
    | tup xs =>
      obtain ⟨q, vs, rfl, k1, k2⟩ := rd
      have e : tgsA ts xs σl = some σl' := e
      exact ⟨q, vs, rfl, k1.sq, by rw [← k2.len]; exact tgs_len e h1, m, h, σl, xs, σl', R, Sl, k2, e, k⟩
    | _ => cases e
theorem pgs_of : ∀ (t : Tgs) {sc : Scp} {X : Cx} {es : List Expr} {ws : List Nat}, XG P AD cl N X → ScOk sc X → okTs sc N t = true → reTs N t es = es → (∀ i ∈ tgsSl t, i ∈ ws) → PGs X es (gsI X.K X.mg ws t)
  | .nil, sc, X, es, ws, G, S, ok, h, hw => by
    have : es = [] := h.symm
    subst this
    refine ⟨fun pins s σ H vs us Q I r ⟨m, h, σl, ds, σl', R, Sl, rd, e, k⟩ => pgs_nil.run pins s σ H vs us Q I r ?_⟩
    have e : (if ds.isEmpty then some σl else none) = some σl' := e
    split at e
    · rename_i he
      cases e
      have : ds = [] := by simpa using he
      subst this
      exact ⟨rd, k _ Sl rfl⟩
    · cases e
  | .cons t ts, sc, X, es, ws, G, S, ok, h, hw => by
    cases es with
    | nil => cases h
    | cons e es =>
      injection h with h1 h2
      have ok' : okT sc N t = true ∧ okTs sc N ts = true := by simpa [okTs] using ok
      have i1 := pg_of t G S ok'.1 h1 (ws := ws) fun i hi => hw i (by simp [tgsSl, hi])
      have i2 := pgs_of ts G S ok'.2 h2 (ws := ws) fun i hi => hw i (by simp [tgsSl, hi])
      obtain ⟨_, _, a3⟩ := assign_each (N := N) (ts := .cons t ts) (es := e :: es) (env := X.env) (by show reT N t e :: reTs N ts es = _; rw [h1, h2])
      refine ⟨fun pins s σ H vs us Q I r ⟨m, h, σl, ds, σl', R, Sl, rd, e', k⟩ => (pgs_cons i1 i2 (a3 _ _ rfl)).run pins s σ H vs us Q I r ?_⟩
      cases ds with
      | nil => cases e'
      | cons d ds =>
        obtain ⟨v, vr, rfl, r1, r2⟩ := rd
        have e' : ((tgA t d σl).bind fun σ1 => tgsA ts ds σ1) = some σl' := e'
        cases q : tgA t d σl with
        | none => rw [q] at e'; cases e'
        | some σ1 =>
          rw [q] at e'
          exact ⟨v, vr, rfl, m, h, σl, d, σ1, R, Sl, r1, q, fun σ' Sl' w1 => ⟨m, h, σ1, ds, σl', R, Sl', r2, e', fun σ2 S2 w2 => k σ2 S2 (w2.trans w1)⟩⟩
end

theorem relk_at {K : PySem.W.Frag} {mg : Str → Option Value} {m : MM} {H : Hp} : ∀ {kvs : List (D × D)} {ys : List (NestedKey × Addr × Value)}, RelK K mg m H kvs ys → ∀ {i : Nat} {kv : D × D}, kvs[i]? = some kv → ∃ ka u, ys[i]? = some (keyN kv.1, ka, u) ∧ RelD K mg m H kv.1 (.ref ka)
  | [], _, _, i, kv, e => by simp at e
  | p :: kvs, _, r, i, kv, e => by
    obtain ⟨ka, u, v, s, rfl, _, r2, _, _, r5⟩ := r
    cases i with
    | zero => simp at e; subst e; exact ⟨ka, u, rfl, r2⟩
    | succ i =>
      obtain ⟨ka', u', e1, e2⟩ := relk_at r5 (i := i) (by simpa using e)
      exact ⟨ka', u', by simpa using e1, e2⟩
section
variable {X : Cx}
/-- a dict's keys, one by one -/
theorem turn_D {P : Program} {w : World} {K : PySem.W.Frag} {tg : Expr} {d : Addr} {o : Obj} {es : Array DictEntry} {ep : Nat} {ys : List (NestedKey × Addr × Value)} (it : Addr) (hod : o.data = .dict es ep) (hsz0 : es.size = ys.length) : Turn P w K tg (ItD d o ys) [it] it (fun i h => h.IsKeyIter it d i ys.length ep) where
  mem := by simp
  obj := fun i h st b hb => by
    have e : b = it := by simpa using hb
    subst e
    obtain ⟨oi, e, c, dd⟩ := st
    exact ⟨oi, e, fun v z => by rw [dd] at z; cases z⟩
  keep := fun i h h' st k => st.at fun oi e => k it (by simp) oi e
  item := by
    intro X hP hw hK hc i pins s σ H E I hf st hg
    subst hP hw hK
    obtain ⟨hd, hi⟩ := hg
    obtain ⟨f0, f1, f2, f3, f4, f5⟩ := hf it (by simp)
    obtain ⟨hgd, ⟨o', es', ep', h1, hx, hdt, ent⟩, _⟩ := I.hok d _ hd
    rw [hgd] at h1; cases h1
    obtain ⟨rfl, rfl⟩ := dict_ep hod hdt
    obtain ⟨kv, hkv⟩ : ∃ p, ys[i]? = some p := ⟨ys[i], List.getElem?_eq_getElem hi⟩
    have hen : es'[i]? = some (entryOfKey (nestedKind X.prog X.w) kv) := by
      rw [← Array.getElem?_toList, ent X.prog X.w, List.getElem?_map, hkv]; rfl
    refine next_key_item st hgd hdt hsz0 hen fun h' st' sb => ?_
    have I1 : L2.Inv X pins σ H { s with heap := h' } := I.turned (t' := s.toks) (fun b ob hb e => (sb.2 b hb).trans e) f0 f1 f3 f4 f5
    obtain ⟨oi, e, c, dd⟩ := id st'
    exact ⟨_, rfl, go_of (s := { s with heap := h' }) e c dd (by decide) ⟨.ref kv.2.1, H, I1, rfl, ⟨rfl, kv, hkv, rfl⟩, st', fun b hb => (hf b hb).1⟩⟩
  done := by
    intro X hP hw hK hc i pins s σ H E I hf st hg
    subst hP hw hK
    obtain ⟨hd, hi⟩ := hg
    obtain ⟨f0, f1, f2, f3, f4, f5⟩ := hf it (by simp)
    obtain ⟨hgd, ⟨o', es', ep', h1, hx, hdt, ent⟩, _⟩ := I.hok d _ hd
    rw [hgd] at h1; cases h1
    obtain ⟨rfl, rfl⟩ := dict_ep hod hdt
    exact next_key_end (I.ok.hd hc) st hgd hdt hsz0 hi fun h' eb => ⟨rfl, I.turned (t' := s.toks) (fun b ob hb e => eb b ob hb e) f0 f1 f3 f4 f5⟩
  self := fun A i s Q E st h => by
    refine wpAny_pyIter_slot st.typeIs F.slot_dict_keyiterator_iter (wpAny_call_entry F.slot_dict_keyiterator_iter st.typeIs F.entry_dict_keyiterator_iter ?_ (F.args_dict_keyiterator_iter_1 _))
    show wpAny _ _ (ret (.ref it)) _ _ s
    exact wpAny_pure ⟨_, rfl, "dict_keyiterator", _, st.typeIs, F.slot_dict_keyiterator_next.lookup, h⟩
/-- for k in d, d being walked -/
theorem pi_D {tg e : Expr} {td : TE} (he : PE X e td) : PI X tg e (fun σ H R => td σ H fun x H1 => ∃ p o ys, x = .ref p ∧ H1 p = some (.frz o (.ext (DAt p ys))) ∧ (p == sysModules) = false ∧ R (ItD p o ys) H1) := by
  refine ⟨fun pins s σ H R I h => ?_⟩
  refine thn (he.run pins s σ H _ I h) fun u s1 ⟨x, H1, I1, rx, p, o, ys, ex, hd, hs, q⟩ => ?_
  subst ex
  obtain rfl : u = Value.ref p := rx
  obtain ⟨hgd, ⟨o', es, ep, h1, hx, hdt, ent⟩, _⟩ := I1.hok p _ hd
  rw [hgd] at h1; cases h1
  have hsz : es.size = ys.length := by
    have := congrArg List.length (ent X.prog X.w)
    simpa using this
  refine iter_keys hs hgd hx hdt (pi_one (tk := s1.toks) I1 _ (turn_D _ hdt hsz) ⟨_, Heap.get?_push_size _ rfl, rfl, ?_⟩ q)
  rw [hsz] <;> rfl
end
/-- the i-th item comes -/
theorem jrel_go {m m' : MM} {h h' : LH} {H H' : Hp} {xs : List D} {g : Option Nat} {J : It} (R : Rep X.K X.mg m h H) (R' : Rep X.K X.mg m' h' H') (go : Go m h H m' h' H') (j : JRel X.K X.mg m H xs g J) (st : stays g xs h') {i : Nat} {x : D} (e : xs[i]? = some x) :
    J.go i H' ∧ ∀ v H'', J.yld i H' v H'' → H'' = H' ∧ RelD X.K X.mg m' H' x v := by
  rcases j with ⟨a, vs, rfl, k1, k2, rfl⟩ | ⟨b, a, rfl, rfl, em⟩ | ⟨lo, n, rfl, rfl, rfl⟩ | ⟨z, rfl, rfl, rfl⟩ | ⟨p, o, ys, kvs, rfl, hp, rk, rfl, rfl⟩
  · have k1' := (go.tk R a vs k1).sq
    obtain ⟨v, e1, e2⟩ := (go.rels R k2).get e
    exact ⟨⟨vs, v, k1', e1⟩, fun w H'' y => ⟨y.1, by have := (y.2 vs k1').symm.trans e1; cases this; exact e2⟩⟩
  · have em' := go.le b a em
    obtain ⟨a', vs, q1, q2, k1, k2⟩ := rep_seq R' (v := .ref a) st ⟨a, rfl, em'⟩
    cases q1
    obtain ⟨v, e1, e2⟩ := k2.get e
    exact ⟨⟨vs, v, k1, e1⟩, fun w H'' y => ⟨y.1, by have := (y.2 vs k1).symm.trans e1; cases this; exact e2⟩⟩
  · rw [List.getElem?_map] at e
    cases q : (List.range n)[i]? with
    | none => rw [q] at e; cases e
    | some k =>
      rw [q] at e
      have hi : i < n := by have := (List.getElem?_eq_some_iff.mp q).1; simpa using this
      have : k = i := by rw [List.getElem?_range hi] at q; exact (Option.some.inj q).symm
      subst this
      have e : D.int (lo + k) = x := by simpa using e
      subst e
      exact ⟨hi, fun w H'' y => ⟨y.1, y.2⟩⟩
  · rw [List.getElem?_map] at e
    cases q : z[i]? with
    | none => rw [q] at e; cases e
    | some c =>
      rw [q] at e
      have hi : i < z.length := (List.getElem?_eq_some_iff.mp q).1
      have e : chr1 c = x := by simpa using e
      subst e
      refine ⟨by show i < z.toArray.size; simpa using hi, fun w H'' y => ⟨y.1, ?_⟩⟩
      obtain ⟨c', q1, q2⟩ := y.2
      have q1 : z.toArray[i]? = some c' := q1
      simp only [List.getElem?_toArray] at q1
      rw [q] at q1; cases q1
      exact q2
  · have hp' : H' p = some (.frz o (.ext (DAt p ys))) := go.keep p _ hp (R.nown hp rfl)
    rw [List.getElem?_map] at e
    cases q : kvs[i]? with
    | none => rw [q] at e; cases e
    | some kv =>
      rw [q] at e
      have e : kv.1 = x := by simpa using e
      subst e
      obtain ⟨ka, u, e1, e2⟩ := relk_at rk q
      refine ⟨⟨hp', by have := (List.getElem?_eq_some_iff.mp e1).1; exact this⟩, fun w H'' y => ⟨y.1, ?_⟩⟩
      obtain ⟨k, y1, y2⟩ := y.2
      rw [e1] at y1; cases y1
      subst y2
      exact go.rel R e2
theorem jrel_stop {m m' : MM} {h h' : LH} {H H' : Hp} {xs : List D} {g : Option Nat} {J : It} (R : Rep X.K X.mg m h H) (R' : Rep X.K X.mg m' h' H') (go : Go m h H m' h' H') (j : JRel X.K X.mg m H xs g J) (st : stays g xs h') : J.stop xs.length H' := by
  rcases j with ⟨a, vs, rfl, k1, k2, rfl⟩ | ⟨b, a, rfl, rfl, em⟩ | ⟨lo, n, rfl, rfl, rfl⟩ | ⟨z, rfl, rfl, rfl⟩ | ⟨p, o, ys, kvs, rfl, hp, rk, rfl, rfl⟩
  · exact ⟨vs, (go.tk R a vs k1).sq, by rw [k2.len]; exact Nat.le_refl _⟩
  · have em' := go.le b a em
    obtain ⟨a', vs, q1, q2, k1, k2⟩ := rep_seq R' (v := .ref a) st ⟨a, rfl, em'⟩
    cases q1
    exact ⟨vs, k1, by rw [k2.len]; exact Nat.le_refl _⟩
  · show n ≤ _
    simp
  · show z.toArray.size ≤ _
    simp
  · exact ⟨go.keep p _ hp (R.nown hp rfl), by rw [relk_len rk]; simp⟩
end
end FK

end
section
set_option maxRecDepth 100000
set_option maxHeartbeats 4000000
/-! Fk5: the evaluator's answers are the machine's: expressions. -/
namespace FK
open PySem PySem.Spec PyProof.Rows L2

section
variable {P : Pr} {AD : Nat → Option Addr} {cl : Nat → List D → LH → Option (D × LH)} {N : List Nat} {X : Cx} {sc : Scp}

theorem vis_name (G : XG P AD cl N X) (S : ScOk sc X) {i : Nat} (h : isVis sc N i = true) : ∃ x, N[i]? = some x ∧ N.getD i 0 = x ∧ okN x = true ∧ X.N[i]? = some (nmS x) ∧ Vis X.env.scope (nmS x) := by
  unfold isVis at h
  cases e : N[i]? with
  | none => rw [e] at h; cases h
  | some x =>
    rw [e] at h
    simp only [Bool.and_eq_true] at h
    refine ⟨x, rfl, by simp [List.getD, e], h.1, by rw [G.N, List.getElem?_map, e]; rfl, ?_⟩
    cases q : sc.lookup x with
    | none => rw [q] at h; cases h.2
    | some k =>
      rw [q] at h
      exact S.vis q (by rintro rfl; cases h.2)
theorem glo_name (S : ScOk sc X) {x : Nat} (h : isGlo sc x = true) : Gl X (nmS x) := by
  unfold isGlo at h
  cases q : sc.lookup x with
  | none => rw [q] at h; cases h
  | some k =>
    rw [q] at h
    cases k with
    | glo => exact S.glo q
    | _ => cases h

/-- a list of arguments, all plain -/
def Plns (es : List Expr) : Prop := ∀ e ∈ es, Pln e
theorem plns_star {es : List Expr} (h : Plns es) (env : Env) : starEach es env = es.map fun e => (false, eval e env) := by
  induction es with
  | nil => rfl
  | cons e es ih => rw [(h e List.mem_cons_self).star, ih fun x hx => h x (List.mem_cons_of_mem _ hx)]; rfl
theorem plns_any {es : List Expr} (h : Plns es) (env : Env) (pos : Pos) : (backTo pos (starEach es env)).any (·.1) = false := by
  rw [plns_star h]
  unfold backTo
  rw [List.map_map, List.any_map]
  simp [List.any_eq_false]
theorem plns_of : ∀ {es' : Exs} {es : List Expr}, reEs N es' es = es → Plns es
  | .nil, _, h => by rw [inv_nil h]; intro e he; cases he
  | .cons e' es', _, h => by
    obtain ⟨x, xs, rfl, h1, h2⟩ := inv_cons h
    intro e he
    rcases List.mem_cons.mp he with rfl | he
    · exact pln_of h1
    · exact plns_of h2 e he

/-- the readings' beginnings -/
theorem tI_op {a b : Ex} {f : D → D → LH → Option (D × LH)} {σ : L2.St} {H : Hp} {Q : VK} {m : MM} {σl : Lc} {h : LH} (R : Rep X.K X.mg m h H) (S : SRel X.K X.mg m H σl σ)
    (g : GoE X.K X.mg m h H ((evE P cl a σl h).bind fun p => (evE P cl b σl p.2).bind fun q => f p.1 q.1 q.2) Q) :
    tOp (rD2 X f) (tI P cl X.K X.mg a) (tI P cl X.K X.mg b) σ H Q := by
  obtain ⟨d1, h1, e1, k1⟩ := g.bind
  refine ⟨m, σl, h, R, S, d1, h1, e1, fun m1 x H1 g1 R1 r1 => ?_⟩
  obtain ⟨d2, h2, e2, k2⟩ := (k1 m1 H1 g1).bind
  exact ⟨m1, σl, h1, R1, g1.slots R S, d2, h2, e2, fun m2 y H2 g2 R2 r2 => ⟨m2, h2, d1, d2, R2, g2.rel R1 r1, r2, k2 m2 H2 g2⟩⟩

theorem evAnd_cons {e e2 : Ex} {es : Exs} {σ : Lc} {h : LH} : evAnd P cl (.cons e (.cons e2 es)) σ h = (evE P cl e σ h).bind fun p => (truth p.1 p.2).bind fun b => if b then evAnd P cl (.cons e2 es) σ p.2 else some p := by rfl
theorem evOr_cons {e e2 : Ex} {es : Exs} {σ : Lc} {h : LH} : evOr P cl (.cons e (.cons e2 es)) σ h = (evE P cl e σ h).bind fun p => (truth p.1 p.2).bind fun b => if b then some p else evOr P cl (.cons e2 es) σ p.2 := by rfl

/-- a test by its truth -/
theorem pt_plain {e' : Ex} {e : Expr} (he : PE X e (tI P cl X.K X.mg e')) (hs : ∀ whole, isTrue e X.env whole = (do let v ← whole; standAt e.pos; holding [v] (truthy v))) : PT X e (tT P cl X.K X.mg e') := by
  refine ⟨fun pins s σ H Q I hq => (pt_truth he hs).run pins s σ H Q I ?_⟩
  obtain ⟨m, σl, h, R, S, d, h', b, e1, e2, k⟩ := hq
  exact ⟨m, σl, h, R, S, d, h', e1, fun m' v H' g R' r' => ⟨b, tru_d R' r' e2, k m' H' g R'⟩⟩

def tO (P : Pr) (cl : Nat → List D → LH → Option (D × LH)) (K : PySem.W.Frag) (mg : Str → Option Value) (lo : Ex) : TO := fun σ H Q => ∃ m σl h d h' o, Rep K mg m h H ∧ SRel K mg m H σl σ ∧ evE P cl lo σl h = some (d, h') ∧ ptI (isNonE lo) d = some o ∧
  ∀ m' H', Go m h H m' h' H' → Rep K mg m' h' H' → Q o H'
theorem po_of {lo : Ex} {l : Option Expr} (h : opE (isNonE lo) (reE N lo) l = l) (hp : ∀ e, reE N lo e = e → PE X e (tI P cl X.K X.mg lo)) : PO X l (tO P cl X.K X.mg lo) := by
  cases l with
  | none =>
    have hb : isNonE lo = true := by
      cases q : isNonE lo with
      | true => rfl
      | false => rw [q] at h; cases h
    have e0 : lo = .non := by cases lo <;> first | rfl | cases hb
    subst e0
    refine ⟨fun pins s σ H Q I ⟨m, σl, h, d, h', o, R, Sl, e1, e2, k⟩ => po_none.run pins s σ H Q I ?_⟩
    cases e1; cases e2
    exact k m H Go.refl R
  | some e =>
    have hb : isNonE lo = false := by
      cases q : isNonE lo with
      | false => rfl
      | true => rw [q] at h; cases h
    rw [hb] at h
    have he : reE N lo e = e := by injection h
    refine ⟨fun pins s σ H Q I ⟨m, σl, h, d, h', o, R, Sl, e1, e2, k⟩ => (po_some (hp e he)).run pins s σ H Q I ?_⟩
    refine ⟨m, σl, h, R, Sl, d, h', e1, fun m1 x H1 g1 R1 r1 => ?_⟩
    rw [hb] at e2
    cases d with
    | int i => cases (r1 : _ = _); cases e2; exact ⟨i, rfl, k m1 H1 g1 R1⟩
    | _ => cases e2

/-- one more operand of and, or -/
theorem bool_of {e' : Ex} {es' : Exs} {x : Expr} {xs : List Expr} {pos : Pos} (h2 : reEs N es' xs = xs) (hE : PE X x (tI P cl X.K X.mg e')) (hT : PT X x (tT P cl X.K X.mg e'))
    (ih : es' ≠ .nil → PE X (.BoolOp .And xs pos) (tAndI P cl X.K X.mg es') ∧ PW X (.BoolOp .And xs pos) (tAndT' P cl X.K X.mg es') ∧ PE X (.BoolOp .Or xs pos) (tOrI P cl X.K X.mg es') ∧ PW X (.BoolOp .Or xs pos) (tOrT' P cl X.K X.mg es')) :
    PE X (.BoolOp .And (x :: xs) pos) (tAndI P cl X.K X.mg (.cons e' es')) ∧ PW X (.BoolOp .And (x :: xs) pos) (tAndT' P cl X.K X.mg (.cons e' es')) ∧
      PE X (.BoolOp .Or (x :: xs) pos) (tOrI P cl X.K X.mg (.cons e' es')) ∧ PW X (.BoolOp .Or (x :: xs) pos) (tOrT' P cl X.K X.mg (.cons e' es')) := by
  cases es' with
  | nil =>
    rw [inv_nil h2]
    exact ⟨pe_one hE, pw_and1 hT, pe_one hE, pw_or1 hT⟩
  | cons e2 es2 =>
    obtain ⟨y, ys, rfl, _, _⟩ := inv_cons h2
    obtain ⟨a1, a2, a3, a4⟩ := ih fun z => nomatch z
    refine ⟨⟨fun pins s σ H Q I ⟨m, σl, h, R, Sl, g⟩ => (pe_andT hE a1).run pins s σ H Q I ?_⟩, ⟨fun wh pins s σ H Q I ⟨m, σl, h, R, Sl, d, h', b, e1, e2, k⟩ => (pw_and hT a2).run wh pins s σ H Q I ?_⟩,
      ⟨fun pins s σ H Q I ⟨m, σl, h, R, Sl, g⟩ => (pe_orT hE a3).run pins s σ H Q I ?_⟩, ⟨fun wh pins s σ H Q I ⟨m, σl, h, R, Sl, d, h', b, e1, e2, k⟩ => (pw_or hT a4).run wh pins s σ H Q I ?_⟩⟩
    · rw [evAnd_cons] at g
      obtain ⟨d1, h1, e1, k1⟩ := g.bind
      refine ⟨m, σl, h, R, Sl, d1, h1, e1, fun m1 x H1 g1 R1 r1 => ?_⟩
      have k2 := k1 m1 H1 g1
      cases q : truth d1 h1 with
      | none => obtain ⟨_, _, z, _⟩ := k2; rw [q] at z; cases z
      | some c =>
        rw [q] at k2
        refine ⟨c, tru_d R1 r1 q, ?_⟩
        cases c with
        | true => exact ⟨m1, σl, h1, R1, g1.slots R Sl, k2⟩
        | false => exact goe_keep R1 k2 rfl r1
    · rw [evAnd_cons] at e1
      cases q1 : evE P cl e' σl h with
      | none => rw [q1] at e1; cases e1
      | some p1 =>
        obtain ⟨d1, h1⟩ := p1
        rw [q1] at e1
        simp only [Option.bind_some] at e1
        cases q : truth d1 h1 with
        | none => rw [q] at e1; cases e1
        | some c =>
          rw [q] at e1
          simp only [Option.bind_some] at e1
          refine ⟨m, σl, h, R, Sl, d1, h1, c, q1, q, fun m1 H1 g1 R1 => ?_⟩
          cases c with
          | true => exact ⟨m1, σl, h1, R1, g1.slots R Sl, d, h', b, e1, e2, fun m2 H2 g2 R2 => k m2 H2 (g1.trans g2) R2⟩
          | false =>
            cases e1
            rw [q] at e2; cases e2
            exact k m1 H1 g1 R1
    · rw [evOr_cons] at g
      obtain ⟨d1, h1, e1, k1⟩ := g.bind
      refine ⟨m, σl, h, R, Sl, d1, h1, e1, fun m1 x H1 g1 R1 r1 => ?_⟩
      have k2 := k1 m1 H1 g1
      cases q : truth d1 h1 with
      | none => obtain ⟨_, _, z, _⟩ := k2; rw [q] at z; cases z
      | some c =>
        rw [q] at k2
        refine ⟨c, tru_d R1 r1 q, ?_⟩
        cases c with
        | false => exact ⟨m1, σl, h1, R1, g1.slots R Sl, k2⟩
        | true => exact goe_keep R1 k2 rfl r1
    · rw [evOr_cons] at e1
      cases q1 : evE P cl e' σl h with
      | none => rw [q1] at e1; cases e1
      | some p1 =>
        obtain ⟨d1, h1⟩ := p1
        rw [q1] at e1
        simp only [Option.bind_some] at e1
        cases q : truth d1 h1 with
        | none => rw [q] at e1; cases e1
        | some c =>
          rw [q] at e1
          simp only [Option.bind_some] at e1
          refine ⟨m, σl, h, R, Sl, d1, h1, c, q1, q, fun m1 H1 g1 R1 => ?_⟩
          cases c with
          | false => exact ⟨m1, σl, h1, R1, g1.slots R Sl, d, h', b, e1, e2, fun m2 H2 g2 R2 => k m2 H2 (g1.trans g2) R2⟩
          | true =>
            cases e1
            rw [q] at e2; cases e2
            exact k m1 H1 g1 R1
/-- o.name: o is no super() -/
theorem attr_base {o : Ex} {v : Expr} {f : Str} (G : XG P AD cl N X) (S : ScOk sc X) (ok : okE sc N o = true) (h : reE N o v = v) : attributeBase v f X.env (eval v X.env) = eval v X.env := by
  cases o with
  | call g es =>
    obtain ⟨p1, l, p, rfl, h1⟩ := inv_call h
    have ok' : (okN g = true ∧ isGlo sc g = true) ∧ okEs sc N es = true := by simpa [okE] using ok
    cases l with
    | cons x xs => rfl
    | nil =>
      unfold attributeBase
      have : (nmS g != ("super" : Str)) = true := by simpa using okN_super ok'.1.1
      simp [this]
  | blt g es =>
    obtain ⟨p1, l, p, rfl, h1⟩ := inv_blt h
    have ok' : (isGlo sc (cBf g) = true ∧ okEs sc N es = true) ∧ 0 < exsLen es := by simpa [okE] using ok
    cases l with
    | cons x xs => rfl
    | nil =>
      cases es with
      | nil => exact absurd ok'.2 (by simp [exsLen])
      | cons a b => cases h1
  | calv i es =>
    obtain ⟨p1, l, p, rfl, h1⟩ := inv_calv h
    have ok' : (isVis sc N i = true ∧ okEs sc N es = true) ∧ 0 < exsLen es := by simpa [okE] using ok
    cases l with
    | cons x xs => rfl
    | nil =>
      cases es with
      | nil => exact absurd ok'.2 (by simp [exsLen])
      | cons a b => cases h1
  | isi a T => obtain ⟨p1, x, p2, p, rfl, h1⟩ := inv_isi h; rfl
  | bm a b c => obtain ⟨v, p1, l, p, rfl, hl, h1, h2⟩ := inv_bm h; rfl
  | cm a b c => obtain ⟨v, p1, l, p, rfl, hl, h1, h2⟩ := inv_cm h; rfl
  | lcb _ _ _ _ _ _ => obtain ⟨p1, x, tg, it, ifs, scope, p2, p, rfl, L⟩ := inv_lcb h; rfl
  | mk g es =>
    obtain ⟨p1, l, p, rfl, h1⟩ := inv_mk h
    have ok' : (okN g = true ∧ isGlo sc g = true) ∧ okEs sc N es = true := by simpa [okE] using ok
    cases l with
    | cons x xs => rfl
    | nil =>
      unfold attributeBase
      have : (nmS g != ("super" : Str)) = true := by simpa using okN_super ok'.1.1
      simp [this]
  | non => obtain ⟨_, _, rfl⟩ := inv_non h; rfl
  | bl _ => obtain ⟨_, _, rfl⟩ := inv_bl h; rfl
  | int _ => obtain ⟨_, _, rfl⟩ := inv_int h; rfl
  | str _ => obtain ⟨_, _, rfl⟩ := inv_str h; rfl
  | lv _ => obtain ⟨_, rfl⟩ := inv_lv h; rfl
  | gv _ => obtain ⟨_, rfl⟩ := inv_gv h; rfl
  | tup _ => obtain ⟨_, _, _, rfl, _⟩ := inv_tup h; rfl
  | lst _ => obtain ⟨_, _, rfl, _⟩ := inv_lst h; rfl
  | dnew => obtain ⟨_, rfl⟩ := inv_dnew h; rfl
  | bop _ _ _ => obtain ⟨_, _, _, rfl, _⟩ := inv_bop h; rfl
  | neg _ => obtain ⟨_, _, rfl, _⟩ := inv_neg h; rfl
  | not _ => obtain ⟨_, _, rfl, _⟩ := inv_not h; rfl
  | cmp _ _ _ => obtain ⟨_, _, _, rfl, _⟩ := inv_cmp h; rfl
  | cmp2 _ _ _ _ _ => obtain ⟨_, _, _, _, rfl, _⟩ := inv_cmp2 h; rfl
  | and _ => obtain ⟨_, _, rfl, _⟩ := inv_and h; rfl
  | or _ => obtain ⟨_, _, rfl, _⟩ := inv_or h; rfl
  | ix _ _ => obtain ⟨_, _, _, rfl, _⟩ := inv_ix h; rfl
  | sl _ _ _ => obtain ⟨_, _, _, _, _, rfl, _⟩ := inv_sl h; rfl
  | fld _ _ => obtain ⟨_, _, rfl, _⟩ := inv_fld h; rfl
  | lc _ _ _ _ _ => obtain ⟨x, tg, it, ifs, scope, p, rfl, L⟩ := inv_lc h; rfl


/-- a call's arguments, filled up -/
theorem call_fill (G : XG P AD cl N X) {f : Nat} {ds : List D} {h : LH} {r : D × LH} (e : cl f ds h = some r) : ∃ F k p fd ps dvs dsV ds', P.fn f = some F ∧ FnG P AD cl X f F k p fd ps ∧ Vals dvs dsV ∧ Binds X.K fd ps dsV ∧
    ds'.length = F.np ∧ cl f ds' h = some r ∧ ∀ m H vs, RelDs X.K X.mg m H ds vs → RelDs X.K X.mg m H ds' (vs ++ dvs) := by
  obtain ⟨F, ds', hF, hf, hl, e'⟩ := G.dom _ _ _ _ e
  obtain ⟨k, p, fd, ps, A⟩ := G.fns f F hF
  unfold fill at hf
  split at hf
  · cases hf
    obtain ⟨dvs, dsV, b1, b2, b3⟩ := A.bnd (F.dfs.length - (F.np - ds.length)) (by omega)
    exact ⟨F, k, p, fd, ps, dvs, dsV, _, hF, A, b1, b2, hl, e', fun m H vs r => r.append (b3 m H)⟩
  · cases hf
theorem goe_some {K : PySem.W.Frag} {mg : Str → Option Value} {m : MM} {h : LH} {H : Hp} {r r' : Option (D × LH)} {Q : VK} (g : GoE K mg m h H r Q) (e : ∀ q, r = some q → r' = some q) : GoE K mg m h H r' Q := by
  obtain ⟨d, h', e1, q⟩ := g
  exact ⟨d, h', e _ e1, q⟩
theorem evEs_len : ∀ {es : Exs} {ds : List D} {σl : Lc} {h h1 : LH}, evEs P cl es σl h = some (ds, h1) → ds.length = exsLen es := by
  intro es
  induction es using Exs.rec (motive_1 := fun _ => True) (motive_3 := fun _ => True) with
  | nil => intro ds σl h h1 e; cases e; rfl
  | cons e es _ ih =>
    intro ds σl h h1 q
    have q : ((evE P cl e σl h).bind fun p => (evEs P cl es σl p.2).bind fun q => some (p.1 :: q.1, q.2)) = some (ds, h1) := q
    cases q1 : evE P cl e σl h with
    | none => rw [q1] at q; cases q
    | some p =>
      rw [q1] at q
      simp only [Option.bind_some] at q
      cases q2 : evEs P cl es σl p.2 with
      | none => rw [q2] at q; cases q
      | some p2 =>
        rw [q2] at q
        cases q
        simp [exsLen, ih (h1 := p2.2) (ds := p2.1) q2]
  | _ => trivial
theorem reEs_len : ∀ {es : Exs} {l : List Expr}, reEs N es l = l → l.length = exsLen es := by
  intro es
  induction es using Exs.rec (motive_1 := fun _ => True) (motive_3 := fun _ => True) with
  | nil => intro l e; rw [inv_nil e]; rfl
  | cons e es _ ih =>
    intro l q
    obtain ⟨x, xs, rfl, _, h2⟩ := inv_cons q
    simp [exsLen, ih h2]
  | _ => trivial
/-- few plain arguments -/
theorem few_of {es : List Expr} (h : Plns es) (hl : es.length < 20) (cpos : Pos) (env : Env) : ((backTo cpos (starEach es env)).all (fun x => !x.1) && (backToKw cpos (keywordEach [] env)).all (fun x => x.1.isSome)
      && decide (es.length + ([] : List Keyword).length + (if ([] : List Keyword).isEmpty then 0 else 1) < 30)) = true := by
  have a : (backTo cpos (starEach es env)).all (fun x => !x.1) = true := by
    rw [plns_star h]
    unfold backTo
    rw [List.map_map, List.all_map]
    simp
  have b : (backToKw cpos (keywordEach [] env)).all (fun x => x.1.isSome) = true := rfl
  have c : (backToKw cpos (keywordEach [] env)).isEmpty = true := rfl
  rw [a, b]
  simp
  omega
/-- the tree of a method's call -/
theorem mcall_tree {o : Expr} {m : Str} {apos pos : Pos} {args : List Expr} {env : Env} (hb : attributeBase o m env (eval o env) = eval o env) (hp : Plns args) (hl : args.length < 20) (hline : (apos.endLine == pos.line) = true) :
    eval (.Call (.Attribute o m apos) args [] pos) env = (do
      let ov ← eval o env
      standAt apos.atName
      let (f, first) ← holding [ov] (getMethod ov m (do return (← importBound o env).getD true))
      callWith pos f first (backTo pos (starEach args env)) (backToKw pos (keywordEach [] env))) := by
  refine mcall_of hb fun ov => ?_
  have hf : methodCallForm (args.length + ([] : List Keyword).length) (backTo pos (starEach args env)) (backToKw pos (keywordEach [] env)) = true := few_of hp hl pos env
  unfold methodCall calleeOf methodCallPos
  rw [hf]
  simp [hline]

/-- a comprehension's scope, within its frame -/
theorem lookup_rel {names : List (Str × NameKind)} {env : Env} {x : Str} {k : NameKind} (e : names.lookup x = some k) : ((names.map fun (n, k) => if (k == .free && env.scope.kind == .function && env.kindOf n == some .cell) then (n, NameKind.cell) else (n, k)).lookup x = some k) ∨ (k = .free ∧ (names.map fun (n, k) => if (k == .free && env.scope.kind == .function && env.kindOf n == some .cell) then (n, NameKind.cell) else (n, k)).lookup x = some .cell) := by
  induction names with
  | nil => cases e
  | cons p r ih =>
    obtain ⟨n, k'⟩ := p
    by_cases hx : x = n
    · subst hx
      have e : some k' = some k := by simpa [List.lookup] using e
      cases e
      simp only [List.map_cons]
      by_cases hc : (k == .free && env.scope.kind == .function && env.kindOf x == some .cell) = true
      · rw [if_pos hc]
        refine .inr ⟨?_, by simp [List.lookup]⟩
        simp only [Bool.and_eq_true] at hc
        exact beq_iff_eq.mp hc.1.1
      · rw [if_neg hc]
        exact .inl (by simp [List.lookup])
    · have hb : (x == n) = false := by simpa using hx
      have e' : r.lookup x = some k := by simpa [List.lookup, hb] using e
      simp only [List.map_cons]
      have key : ∀ q : Str × NameKind, q.1 = n → ∀ l, List.lookup x (q :: l) = List.lookup x l := fun q hq l => by
        obtain ⟨q1, q2⟩ := q
        cases hq
        simp [List.lookup, hb]
      rw [key _ (by split <;> rfl)]
      exact ih e'
/-- the context within a comprehension -/
theorem lc_ctx {sc' : Scp} {t : Tg} {scope : Scope} (G : XG P AD cl N X) (ok : okLc sc N sc' t = true) (hn : scope.names = scN sc') (s : Shared) (H : Hp) (C : Addr) (cl' : List (Str × Addr)) (fp : List Addr) :
    XG P AD cl N (X.blk s H scope (compEnvC scope cl' C X.env) fp) ∧ ScOk sc' (X.blk s H scope (compEnvC scope cl' C X.env) fp) := by
  refine ⟨⟨G.N, G.nd, G.calm, G.G, G.hu, G.C, G.dom, fun f F hf => ?_⟩, fun x k hx => ?_⟩
  · obtain ⟨k, p, fd, ps, A⟩ := G.fns f F hf
    exact ⟨k, p, fd, ps, A.at_, A.ok, A.room, A.glo, A.bnd⟩
  · simp only [okLc, Bool.and_eq_true] at ok
    have big' : ∀ p ∈ sc', p.1 < 128 ^ 64 := fun p hp => of_decide_eq_true (List.all_eq_true.mp ok.1.1.1.1.1.2 p hp)
    have hb : x < 128 ^ 64 := big' _ (lookup_mem hx)
    have e : scope.names.lookup (nmS x) = some (nkK k) := by rw [hn, lookup_scN' big' hb, hx]; rfl
    have rl := lookup_rel (env := X.env) e
    refine ⟨?_, fun z => ?_⟩
    · rcases rl with z | ⟨z, z2⟩
      · exact .inl z
      · refine .inr ⟨?_, z2⟩
        cases k <;> first | rfl | cases z
    · subst z
      show (scope.names.lookup (nmS x) == some .cell) = true
      rw [e]; rfl
theorem lc_blk {sc' : Scp} {t : Tg} {scope : Scope} (G : XG P AD cl N X) (S : ScOk sc X) (ok : okLc sc N sc' t = true) (hk : scope.kind = .function) (hn : scope.names = scN sc') :
    BlkOk X.N X.env.scope scope ((tgSl t).map fun i => (nmS (N.getD i 0), i)) := by
  simp only [okLc, Bool.and_eq_true] at ok
  obtain ⟨⟨⟨⟨⟨⟨_, o2⟩, o3⟩, o4⟩, o5⟩, o6⟩, o7⟩ := ok
  have big' : ∀ p ∈ sc', p.1 < 128 ^ 64 := fun p hp => of_decide_eq_true (List.all_eq_true.mp o2 p hp)
  have bigN : ∀ x ∈ N, x < 128 ^ 64 := fun p hp => of_decide_eq_true (List.all_eq_true.mp o4 p hp)
  have nd : (sc'.map (·.1)).Nodup := of_decide_eq_true o3
  have memx : ∀ y ∈ scope.names, ∃ p ∈ sc', y = (nmS p.1, nkK p.2) := fun y hy => by
    rw [hn] at hy
    obtain ⟨p, hp, rfl⟩ := List.mem_map.mp hy
    exact ⟨p, hp, rfl⟩
  have lk : ∀ p ∈ sc', sc'.lookup p.1 = some p.2 := fun p hp => lookup_nodup nd hp
  have inN : ∀ i, i < N.length → N.getD i 0 ∈ N := fun i hi => by
    have : N.getD i 0 = N[i] := by simp [List.getD, hi]
    rw [this]; exact List.getElem_mem hi
  refine ⟨hk, fun y hy => ?_, fun p hp => ?_, fun y hy e => ?_, fun y hy e => ?_⟩
  · obtain ⟨p, hp, rfl⟩ := memx y hy
    rw [hn, lookup_scN' big' (big' p hp), lk p hp]; rfl
  · obtain ⟨i, hi, rfl⟩ := List.mem_map.mp hp
    have hl : i < N.length := of_decide_eq_true (List.all_eq_true.mp o6 i hi)
    have : N.getD i 0 = N[i] := by simp [List.getD, hl]
    rw [G.N, List.getElem?_map, List.getElem?_eq_getElem hl, this]; rfl
  · obtain ⟨p, hp, rfl⟩ := memx y hy
    have o := List.all_eq_true.mp o7 p hp
    obtain ⟨x, k⟩ := p
    cases k <;> first | (cases e; done) | skip
    simp only at o
    cases q : sc.lookup x with
    | none => rw [q] at o; cases o
    | some k' =>
      rw [q] at o
      have z := (S x k' q).1
      cases k' with
      | cel =>
        rcases z with z | ⟨z, _⟩
        · exact .inl z
        · cases z
      | fre =>
        rcases z with z | ⟨_, z⟩
        · exact .inr z
        · exact .inl z
      | _ => cases o
  · obtain ⟨p, hp, rfl⟩ := memx y hy
    have o := List.all_eq_true.mp o7 p hp
    obtain ⟨x, k⟩ := p
    have key : (((tgSl t).any fun i => N.getD i 0 == x) || !N.contains x) = true → nmS x ∈ ((tgSl t).map fun i => (nmS (N.getD i 0), i)).map (·.1) ∨ nmS x ∉ X.N := fun h => by
      rcases Bool.or_eq_true_iff.mp h with h | h
      · obtain ⟨i, hi, e⟩ := List.any_eq_true.mp h
        have e : N.getD i 0 = x := by simpa using e
        exact .inl (by rw [List.map_map]; exact List.mem_map.mpr ⟨i, hi, by show nmS (N.getD i 0) = _; rw [e]⟩)
      · refine .inr fun hm => ?_
        rw [G.N] at hm
        obtain ⟨z, hz, e2⟩ := List.mem_map.mp hm
        have := nmS_inj (bigN z hz) (big' _ hp) e2
        subst this
        simp [hz] at h
    cases k with
    | loc => exact key o
    | cel => exact key o
    | fre => rcases e with e | e <;> cases e
    | glo => rcases e with e | e <;> cases e

/-- the tests of a comprehension -/
def tTsI (P : Pr) (cl : Nat → List D → LH → Option (D × LH)) (K : PySem.W.Frag) (mg : Str → Option Value) (ts : Exs) : TT := fun σ H Q => ∃ m σl h b h', Rep K mg m h H ∧ SRel K mg m H σl σ ∧ evTs P cl ts σl h = some (b, h') ∧
  ∀ m' H', Go m h H m' h' H' → Rep K mg m' h' H' → Q b H'
theorem lcL_cons {asg : D → Lc → Option Lc} {test : Lc → LH → Option (Bool × LH)} {elt : Lc → LH → Option (D × LH)} {g : Option Nat} {all : List D} {σ : Lc} {acc : List D} {x : D} {r : List D} {h : LH} {ys : List D} {hf : LH}
    (e : lcL asg test elt g all σ acc (x :: r) h = some (ys, hf)) : ∃ σ1 b h1, asg x σ = some σ1 ∧ test σ1 h = some (b, h1) ∧
      ((b = true ∧ ∃ y h2, elt σ1 h1 = some (y, h2) ∧ stays g all h2 ∧ acc.length < SZ ∧ lcL asg test elt g all σ (acc ++ [y]) r h2 = some (ys, hf)) ∨ (b = false ∧ stays g all h1 ∧ lcL asg test elt g all σ acc r h1 = some (ys, hf))) := by
  unfold lcL at e
  cases q : asg x σ with
  | none => rw [q] at e; cases e
  | some σ1 =>
    rw [q] at e
    simp only [Option.bind_some] at e
    cases q2 : test σ1 h with
    | none => rw [q2] at e; cases e
    | some p =>
      obtain ⟨b, h1⟩ := p
      rw [q2] at e
      simp only [Option.bind_some] at e
      refine ⟨σ1, b, h1, rfl, q2, ?_⟩
      cases b with
      | true =>
        simp only [if_true] at e
        cases q3 : elt σ1 h1 with
        | none => rw [q3] at e; cases e
        | some p =>
          obtain ⟨y, h2⟩ := p
          rw [q3] at e
          simp only [Option.bind_some] at e
          split at e
          · rename_i hs
            exact .inl ⟨rfl, y, h2, rfl, hs.1, hs.2, e⟩
          · cases e
      | false =>
        simp only [Bool.false_eq_true, if_false] at e
        split at e
        · rename_i hs
          exact .inr ⟨rfl, hs, e⟩
        · cases e
/-- a comprehension's turns -/
theorem lc_run {t : Tg} {ts : Exs} {e : Ex} {g : Option Nat} {xs : List D} {m1 : MM} {h1 hf : LH} {H1 : Hp} {σl : Lc} {σ : L2.St} {J : It} {ys : List D} {Q : VK}
    (R1 : Rep X.K X.mg m1 h1 H1) (Sl : SRel X.K X.mg m1 H1 σl σ) (j : JRel X.K X.mg m1 H1 xs g J) (st : stays g xs h1) (eq : lcL (tgA t) (evTs P cl ts) (evE P cl e) g xs (FK.wipe σl (tgSl t)) [] xs h1 = some (ys, hf))
    (kont : ∀ D m2 H2 vs, H1 D = none → Go m1 h1 H1 m2 hf H2 → Rep X.K X.mg m2 hf H2 → ¬ Own m2 hf D → H2 D = some (.lst vs) → RelDs X.K X.mg m2 H2 ys vs → Q (.ref D) H2) :
    ∀ D, H1 D = none → ∃ W : Nat → Nat → Hp → Prop, (∃ m, W 0 m (upd H1 D (.lst []))) ∧ ∀ i m H, W i m H →
      (J.stop i H ∧ Q (.ref D) H) ∨ (J.go i H ∧ ∃ Nx : Hp → Prop, (∀ H', Nx H' → ∃ m', m' < m ∧ W (i + 1) m' H') ∧ ∀ x H', J.yld i H x H' → gI X.K X.mg (tgSl t) t x (L2.wipe σ (tgSl t)) H' fun σ2 H2 => L2.wipe σ2 (tgSl t) = L2.wipe σ (tgSl t) ∧ tTsI P cl X.K X.mg ts σ2 H2 fun b H3 =>
        if b = true then tI P cl X.K X.mg e σ2 H3 fun y H4 => ∃ acc, H4 D = some (.lst acc) ∧ acc.length < sizeLine ∧ Nx (upd H4 D (.lst (acc ++ [y]))) else Nx H3) := by
  intro D hD
  obtain ⟨g0, R0⟩ := go_fresh R1 hD (.lst [])
  have nown : ∀ {mm : MM} {hh : LH} {H : Hp}, Rep X.K X.mg mm hh H → Go m1 h1 H1 mm hh H → ¬ Own m1 h1 D := fun R go ow => by
    obtain ⟨u, e, _⟩ := R1.own ow
    rw [hD] at e; cases e
  let WW : Nat → Hp → Prop := fun i H => ∃ mm hh acc vs, i ≤ xs.length ∧ Rep X.K X.mg mm hh H ∧ Go m1 h1 H1 mm hh H ∧ ¬ Own mm hh D ∧ H D = some (.lst vs) ∧ RelDs X.K X.mg mm H acc vs ∧ stays g xs hh ∧
    lcL (tgA t) (evTs P cl ts) (evE P cl e) g xs (FK.wipe σl (tgSl t)) acc (xs.drop i) hh = some (ys, hf)
  refine ⟨fun i n H => n = xs.length - i ∧ WW i H, ⟨xs.length, by simp, m1, h1, [], [], Nat.zero_le _, R0, g0, nown R0 g0, upd_same, rfl, st, by simpa using eq⟩, ?_⟩
  rintro i n H ⟨rfl, mm, hh, acc, vs, hi, R, go, no, eD, racc, st, el⟩
  by_cases hlt : i < xs.length
  · obtain ⟨x, hx⟩ : ∃ x, xs[i]? = some x := ⟨xs[i], by simp [hlt]⟩
    have hd : xs.drop i = x :: xs.drop (i + 1) := by
      have := List.getElem_cons_drop hlt
      rw [← this]
      congr 1
      rw [List.getElem?_eq_getElem hlt] at hx
      exact Option.some.inj hx
    rw [hd] at el
    obtain ⟨σ1, b, h2, e1, e2, e3⟩ := lcL_cons el
    obtain ⟨j1, j2⟩ := jrel_go R1 R go j st hx
    refine .inr ⟨j1, WW (i + 1), fun H' w => ⟨xs.length - (i + 1), by omega, rfl, w⟩, fun v H' y => ?_⟩
    obtain ⟨rfl, rv⟩ := j2 v H' y
    have Sw : SRel X.K X.mg mm H' (FK.wipe σl (tgSl t)) (L2.wipe σ (tgSl t)) := (go.slots R1 Sl).wipe _
    refine ⟨mm, hh, FK.wipe σl (tgSl t), x, σ1, R, Sw, rv, e1, fun σ2 S2 w2 => ⟨?_, mm, σ1, hh, b, h2, R, S2, e2, fun m2 H2 g2 R2 => ?_⟩⟩
    · rw [w2]
      apply List.ext_getElem?
      intro k
      rw [wipe_get, wipe_get, L2.wipe_length]
      by_cases hk : k ∈ tgSl t <;> simp [hk]
    · have eD2 : H2 D = some (.lst vs) := g2.keep D _ eD no
      have no2 : ¬ Own m2 h2 D := fun ow => by
        rcases g2.new D ow with o | o
        · exact no o
        · rw [eD] at o; cases o
      rcases e3 with ⟨rfl, yv, h3, e4, st3, hz, e5⟩ | ⟨rfl, st3, e5⟩
      · show tI P cl X.K X.mg e σ2 H2 _
        refine ⟨m2, σ1, h2, R2, g2.slots R S2, yv, h3, e4, fun m3 w H3 g3 R3 rw' => ?_⟩
        have eD3 : H3 D = some (.lst vs) := g3.keep D _ eD2 no2
        have no3 : ¬ Own m3 h3 D := fun ow => by
          rcases g3.new D ow with o | o
          · exact no2 o
          · rw [eD2] at o; cases o
        have racc3 := g3.rels R2 (g2.rels R racc)
        have go3 := (go.trans g2).trans g3
        obtain ⟨g4, R4, t4⟩ := go_loose R3 go3 hD no3 (u := .lst (vs ++ [w])) eD3 rfl
        refine ⟨vs, eD3, by rw [← racc3.len, SZ_line]; exact hz, m3, h3, acc ++ [yv], vs ++ [w], hlt, R4, g4, no3, upd_same, ?_, st3, e5⟩
        exact RelDs.mono t4 (fun _ _ z => z) (racc3.append (RelDs.one rw'))
      · exact ⟨m2, h2, acc, vs, hlt, R2, go.trans g2, no2, eD2, g2.rels R racc, st3, e5⟩
  · have hi' : i = xs.length := by omega
    subst hi'
    refine .inl ⟨jrel_stop R1 R go j st, ?_⟩
    rw [List.drop_length] at el
    cases el
    exact kont D mm H vs hD go R no eD racc

/-! ### instances -/
theorem rep_ins {K : PySem.W.Frag} {mg : Str → Option Value} {m : MM} {h : LH} {H : Hp} (R : Rep K mg m h H) {a C : Nat} {fs : List (Nat × D)} {v : V} (e : h[a]? = some (.ins C fs)) (r : RelD K mg m H (.ref a) v) :
    ∃ p Ca dx fv, v = .ref p ∧ m a = some p ∧ H p = some (.ins Ca dx fv) ∧ mg (nmS C) = some (.ref Ca) ∧ Cls K Ca ∧ RelF K mg m H fs fv ∧ ∀ q ∈ fs, q.1 < 128 ^ 64 ∧ NoAttr K Ca (nmS q.1) := by
  obtain ⟨p, rfl, em⟩ := r
  obtain ⟨q, eq, Ca, dx, fv, e1⟩ := R.obj a _ e
  rw [em] at eq; cases eq
  exact ⟨p, Ca, dx, fv, rfl, em, e1⟩
theorem relf_look {K : PySem.W.Frag} {mg : Str → Option Value} {m : MM} {H : Hp} {f : Nat} {d : D} : ∀ {fs : List (Nat × D)} {fv : List (Str × V)}, RelF K mg m H fs fv → (∀ q ∈ fs, q.1 < 128 ^ 64) → fs.lookup f = some d →
    f < 128 ^ 64 ∧ ∃ v, fv.lookup (nmS f) = some v ∧ RelD K mg m H d v
  | [], _, _, _, e => by cases e
  | p :: r, _, rf, hb, e => by
    obtain ⟨v, s, rfl, r1, r2⟩ := rf
    obtain ⟨y, d'⟩ := p
    have hy := hb (y, d') List.mem_cons_self
    by_cases h : f = y
    · subst h
      have e : d' = d := by simpa [List.lookup] using e
      subst e
      exact ⟨hy, v, by simp [List.lookup], r1⟩
    · have h1 : (f == y) = false := by simpa using h
      have e : r.lookup f = some d := by simpa [List.lookup, h1] using e
      obtain ⟨i1, w, i2, i3⟩ := relf_look r2 (fun q hq => hb q (List.mem_cons_of_mem _ hq)) e
      have h2 : (nmS f == nmS y) = false := by
        rw [beq_eq_false_iff_ne]
        exact fun z => h (nmS_inj i1 hy z)
      exact ⟨i1, w, by simpa [List.lookup, h2] using i2, i3⟩
theorem lookup_in {d : D} {f : Nat} : ∀ {fs : List (Nat × D)}, fs.lookup f = some d → ∃ q ∈ fs, q.1 = f := fun {fs} e => ⟨(f, d), lookup_mem e, rfl⟩
theorem relf_none {K : PySem.W.Frag} {mg : Str → Option Value} {m : MM} {H : Hp} {Ca p : Addr} {x : Str} (M : Meth K Ca x p) : ∀ {fs : List (Nat × D)} {fv : List (Str × V)}, RelF K mg m H fs fv → (∀ q ∈ fs, NoAttr K Ca (nmS q.1)) → fv.lookup x = none
  | [], _, rf, _ => by cases (rf : _ = _); rfl
  | q :: r, _, rf, hn => by
    obtain ⟨v, s, rfl, r1, r2⟩ := rf
    have ne : (x == nmS q.1) = false := by
      rw [beq_eq_false_iff_ne]
      rintro rfl
      have a := M.at_
      have b : PySem.W.findIn K (.ref Ca) (nmS q.1) = some none := hn q List.mem_cons_self
      rw [b] at a; cases a
    simp only [List.lookup, ne]
    exact relf_none M r2 fun z hz => hn z (List.mem_cons_of_mem _ hz)
theorem relf_put {K : PySem.W.Frag} {mg : Str → Option Value} {m : MM} {H : Hp} {f : Nat} {d : D} {v : V} (hf : f < 128 ^ 64) (rd : RelD K mg m H d v) : ∀ {fs : List (Nat × D)} {fv : List (Str × V)}, RelF K mg m H fs fv → (∀ q ∈ fs, q.1 < 128 ^ 64) →
    RelF K mg m H (putL f d fs) (putF (nmS f) v fv)
  | [], _, rf, _ => by cases (rf : _ = _); exact ⟨v, [], rfl, rd, rfl⟩
  | q :: r, _, rf, hb => by
    obtain ⟨w, s, rfl, r1, r2⟩ := rf
    have hq := hb q List.mem_cons_self
    unfold putL putF
    by_cases h : q.1 = f
    · rw [if_pos h]
      have h2 : (nmS q.1 = nmS f) = True := by rw [h]; simp
      simp only [h2, if_true]
      exact ⟨v, s, by rw [h], rd, r2⟩
    · rw [if_neg h]
      have h2 : ¬ nmS q.1 = nmS f := fun z => h (nmS_inj hq hf z)
      simp only [h2, if_false]
      exact ⟨w, _, rfl, r1, relf_put hf rd r2 fun z hz => hb z (List.mem_cons_of_mem _ hz)⟩
theorem putL_mem {f : Nat} {d : D} {q : Nat × D} : ∀ {fs : List (Nat × D)}, q ∈ putL f d fs → q.1 = f ∨ q ∈ fs
  | [], h => by
    have : q = (f, d) := by simpa [putL] using h
    exact .inl (by rw [this])
  | p :: r, h => by
    unfold putL at h
    split at h
    · rcases List.mem_cons.mp h with rfl | h
      · exact .inl rfl
      · exact .inr (List.mem_cons_of_mem _ h)
    · rcases List.mem_cons.mp h with rfl | h
      · exact .inr List.mem_cons_self
      · rcases putL_mem h with e | e
        · exact .inl e
        · exact .inr (List.mem_cons_of_mem _ e)
theorem relf_len {K : PySem.W.Frag} {mg : Str → Option Value} {m : MM} {H : Hp} : ∀ {fs : List (Nat × D)} {fv : List (Str × V)}, RelF K mg m H fs fv → fv.length = fs.length
  | [], _, r => by cases (r : _ = _); rfl
  | q :: r, _, rf => by
    obtain ⟨w, s, rfl, r1, r2⟩ := rf
    simp [relf_len r2]
/-- a field is stored -/
theorem go_fld {AD : Nat → Option Addr} {K : PySem.W.Frag} {mg : Str → Option Value} (CO : COk P AD K mg) {m : MM} {h : LH} {H : Hp} (R : Rep K mg m h H) {a C f : Nat} {fs : List (Nat × D)} {p : Addr} {d : D} {v : V} (ea : h[a]? = some (.ins C fs)) (ra : RelD K mg m H (.ref a) (.ref p)) (rd : RelD K mg m H d v)
    (hf : fldOk P C f = true) : ∃ Ca dx fv, H p = some (.ins Ca dx fv) ∧ Cls K Ca ∧ NoAttr K Ca (nmS f) ∧ fv.length = fs.length ∧
      Go m h H m (setIns h a C (putL f d fs)) (upd H p (.ins Ca dx (putF (nmS f) v fv))) ∧ Rep K mg m (setIns h a C (putL f d fs)) (upd H p (.ins Ca dx (putF (nmS f) v fv))) := by
  obtain ⟨p', Ca, dx, fv, ep, em, e1, e2, e3, rf, hq⟩ := rep_ins R ea ra
  cases ep
  have hfl : f < 128 ^ 64 ∧ NoAttr K Ca (nmS f) := by
    unfold fldOk at hf
    cases q : P.cls C with
    | none => rw [q] at hf; cases hf
    | some c =>
      rw [q] at hf
      obtain ⟨Ca', c1, _, c3, _⟩ := CO.cls C c q
      rw [e2] at c1; cases c1
      exact c3 f (by simpa using hf)
  obtain ⟨g, R'⟩ := go_put R (o := .ins C (putL f d fs)) (u := .ins Ca dx (putF (nmS f) v fv)) ea rfl em fun t => ⟨Ca, dx, _, upd_same, e2, e3, RelF.mono t (fun _ _ z => z) (relf_put hfl.1 rd rf fun q h => (hq q h).1), fun q h => by
    rcases putL_mem h with e | e
    · rw [e]; exact hfl
    · exact hq q e⟩
  exact ⟨Ca, dx, fv, e1, e3, hfl.2, relf_len rf, g, R'⟩
/-- a built-in's answer about a list of its own -/
abbrev rLb (X : Cx) (f : Bf) : List V → Hp → VK → Prop := fun vs H Q => ∃ m h D xs ws, vs = [.ref D] ∧ H D = some (.lst ws) ∧ Rep X.K X.mg m h H ∧ RelDs X.K X.mg m H xs ws ∧ GoE X.K X.mg m h H ((lcbF f xs).map fun d => (d, h)) Q
theorem bls_rel {K : PySem.W.Frag} {mg : Str → Option Value} {m : MM} {H : Hp} : ∀ {xs : List D} {vs : List V} {bs : List Bool}, RelDs K mg m H xs vs → bls xs = some bs → vs = bs.map V.bl
  | [], vs, ss, r, e => by cases (r : _ = _); cases e; rfl
  | d :: xs, vs, ss, r, e => by
    obtain ⟨v, vr, rfl, r1, r2⟩ := r
    cases d with
    | bl b =>
      have e : (bls xs).map (b :: ·) = some ss := e
      cases q : bls xs with
      | none => rw [q] at e; cases e
      | some t =>
        rw [q] at e; cases e
        cases (r1 : _ = _)
        rw [bls_rel r2 q]; rfl
    | _ => cases e
theorem nums_rel {K : PySem.W.Frag} {mg : Str → Option Value} {m : MM} {H : Hp} : ∀ {xs : List D} {vs : List V} {bs : List Int}, RelDs K mg m H xs vs → nums xs = some bs → vs = bs.map V.int
  | [], vs, ss, r, e => by cases (r : _ = _); cases e; rfl
  | d :: xs, vs, ss, r, e => by
    obtain ⟨v, vr, rfl, r1, r2⟩ := r
    cases d with
    | int b =>
      have e : (nums xs).map (b :: ·) = some ss := e
      cases q : nums xs with
      | none => rw [q] at e; cases e
      | some t =>
        rw [q] at e; cases e
        cases (r1 : _ = _)
        rw [nums_rel r2 q]; rfl
    | _ => cases e
theorem op_lcb (hc : X.calm = true) (f : Bf) : CallR X (bfV f) (rLb X f) := by
  rintro pins s σ H vs us Q I rs ⟨m, h, D, xs, ws, rfl, eD, R, rd, g⟩
  have g' := g
  obtain ⟨d, h', e, q⟩ := g
  cases f with
  | tuple => exact call_tupleF pins s σ H _ us Q I rs ⟨D, ws, rfl, .inl ⟨SqL.of eD, goe_tup R g' rfl rd⟩⟩
  | len => exact call_len pins s σ H _ us Q I rs ⟨.ref D, xs.length, rfl, .inl ⟨ws, SqL.of eD, rd.len⟩, goe_keep R g' (d := .int xs.length) rfl rfl⟩
  | any =>
    cases q1 : bls xs with
    | none => simp [lcbF, q1] at e
    | some bs =>
      have := bls_rel rd q1
      subst this
      exact cr_any hc pins s σ H _ us Q I rs ⟨D, bs, rfl, SqL.of eD, goe_keep R g' (d := .bl (bs.any id)) (by simp [lcbF, q1]) rfl⟩
  | all =>
    cases q1 : bls xs with
    | none => simp [lcbF, q1] at e
    | some bs =>
      have := bls_rel rd q1
      subst this
      exact cr_all hc pins s σ H _ us Q I rs ⟨D, bs, rfl, SqL.of eD, goe_keep R g' (d := .bl (bs.all id)) (by simp [lcbF, q1]) rfl⟩
  | sum =>
    cases q1 : nums xs with
    | none => simp [lcbF, q1] at e
    | some bs =>
      have := nums_rel rd q1
      subst this
      exact cr_sum hc pins s σ H _ us Q I rs ⟨D, bs, rfl, SqL.of eD, goe_keep R g' (d := .int bs.sum) (by simp [lcbF, q1]) rfl⟩
  | _ => simp [lcbF] at e

end
end FK

end
section
set_option maxRecDepth 100000
set_option maxHeartbeats 4000000
namespace FK
open PySem PySem.Spec PyProof.Rows L2
section
variable {P : Pr} {AD : Nat → Option Addr} {cl : Nat → List D → LH → Option (D × LH)} {N : List Nat} {X : Cx} {sc : Scp}
theorem stays_of (it : Is) {σl : Lc} {h h1 : LH} {xs : List D} {g : Option Nat} (q : evIs P cl it σl h = some (xs, g, h1)) : stays g xs h1 := by
  cases it with
  | ex e =>
    have q : ((evE P cl e σl h).bind fun p => (walkOf p.1 p.2).map fun w => (w.1, w.2, p.2)) = some (xs, g, h1) := q
    cases q1 : evE P cl e σl h with
    | none => rw [q1] at q; cases q
    | some p =>
      rw [q1] at q
      simp only [Option.bind_some] at q
      cases q2 : walkOf p.1 p.2 with
      | none => rw [q2] at q; cases q
      | some w =>
        rw [q2] at q
        cases q
        unfold walkOf at q2
        split at q2
        · cases q2; trivial
        · rename_i a _
          split at q2
          · cases q2; trivial
          · cases q3 : seqOf (.ref a) p.2 with
            | none => rw [q3] at q2; cases q2
            | some ys => rw [q3] at q2; cases q2; exact q3
        · split at q2
          · cases q2; trivial
          · cases q2
        · cases q2
  | rng es =>
    have q : ((evEs P cl es σl h).bind fun p => (rngOf p.1).map fun xs => (xs, none, p.2)) = some (xs, g, h1) := q
    cases q1 : evEs P cl es σl h with
    | none => rw [q1] at q; cases q
    | some p =>
      rw [q1] at q
      simp only [Option.bind_some] at q
      cases q2 : rngOf p.1 with
      | none => rw [q2] at q; cases q
      | some w => rw [q2] at q; cases q; trivial
  | zip _ _ => cases q
  | rev _ => cases q

theorem bmS_append : bmS .append = ("append" : Str) := rfl

mutual
theorem pe_of : ∀ (e' : Ex) {sc : Scp} {X : Cx} {e : Expr}, XG P AD cl N X → ScOk sc X → okE sc N e' = true → reE N e' e = e → PE X e (tI P cl X.K X.mg e') ∧ PT X e (tT P cl X.K X.mg e')
  | .non, sc, X, e, G, S, ok, h => by
    obtain ⟨k, p, rfl⟩ := inv_non h
    have hp : PE X (.Constant .none k p) (tI P cl X.K X.mg .non) := ⟨fun pins s σ H Q I ⟨m, σl, h, R, Sl, g⟩ => pe_non.run pins s σ H Q I (goe_keep R g rfl rfl)⟩
    exact ⟨hp, pt_plain hp fun _ => rfl⟩
  | .bl b, sc, X, e, G, S, ok, h => by
    obtain ⟨k, p, rfl⟩ := inv_bl h
    have hp : PE X (.Constant (.bool b) k p) (tI P cl X.K X.mg (.bl b)) := ⟨fun pins s σ H Q I ⟨m, σl, h, R, Sl, g⟩ => pe_bl.run pins s σ H Q I (goe_keep R g rfl rfl)⟩
    exact ⟨hp, pt_plain hp fun _ => rfl⟩
  | .int b, sc, X, e, G, S, ok, h => by
    obtain ⟨k, p, rfl⟩ := inv_int h
    have hp : PE X (.Constant (.int b) k p) (tI P cl X.K X.mg (.int b)) := ⟨fun pins s σ H Q I ⟨m, σl, h, R, Sl, g⟩ => pe_int.run pins s σ H Q I (goe_keep R g rfl rfl)⟩
    exact ⟨hp, pt_plain hp fun _ => rfl⟩
  | .str t, sc, X, e, G, S, ok, h => by
    obtain ⟨k, p, rfl⟩ := inv_str h
    have hp : PE X (.Constant (.str (txS t)) k p) (tI P cl X.K X.mg (.str t)) := ⟨fun pins s σ H Q I ⟨m, σl, h, R, Sl, g⟩ => pe_str.run pins s σ H Q I (goe_keep R g (d := .str t) rfl (by rw [txS_eq ok]; rfl))⟩
    exact ⟨hp, pt_plain hp fun _ => rfl⟩
  | .lv i, sc, X, e, G, S, ok, h => by
    obtain ⟨p, rfl⟩ := inv_lv h
    obtain ⟨x, e1, e2, e3, e4, e5⟩ := vis_name G S ok
    rw [e2]
    have hp : PE X (.Name (nmS x) p) (tI P cl X.K X.mg (.lv i)) := ⟨fun pins s σ H Q I ⟨m, σl, h, R, Sl, g⟩ => (pe_var e4 e5 (okN_debug e3) (okN_cdict e3)).run pins s σ H Q I (by
      have g' := g
      obtain ⟨d, h', ed, q⟩ := g
      have ed : (match σl[i]? with | some (some d) => some (d, h) | _ => none) = some (d, h') := ed
      split at ed
      · rename_i d' ei
        cases ed
        obtain ⟨v, q1, q2⟩ := Sl.get ei
        exact ⟨v, q1, q m v H Go.refl R q2⟩
      · cases ed)⟩
    exact ⟨hp, pt_plain hp fun _ => rfl⟩
  | .gv x, sc, X, e, G, S, ok, h => by
    obtain ⟨p, rfl⟩ := inv_gv h
    have ok' : okN x = true ∧ isGlo sc x = true := by simpa [okE] using ok
    have hp : PE X (.Name (nmS x) p) (tI P cl X.K X.mg (.gv x)) := ⟨fun pins s σ H Q I ⟨m, σl, h, R, Sl, g⟩ => by
      have g' := g
      obtain ⟨d, h', ed, q⟩ := g
      have ed : (P.gv x).map (fun d => (d, h)) = some (d, h') := ed
      cases e1 : P.gv x with
      | none => rw [e1] at ed; cases ed
      | some d' =>
        rw [e1] at ed; cases ed
        obtain ⟨u, v, a1, a2, a3⟩ := G.G.gv x d e1
        exact (pe_glob (glo_name S ok'.2) a1 a2 (okN_debug ok'.1)).run pins s σ H Q I (q m v H Go.refl R (a3 m H))⟩
    exact ⟨hp, pt_plain hp fun _ => rfl⟩
  | .tup es, sc, X, e, G, S, ok, h => by
    obtain ⟨l, k, p, rfl, h1⟩ := inv_tup h
    have ih := pas_of es G S ok h1
    have hp : PE X (.Tuple l k p) (tI P cl X.K X.mg (.tup es)) := ⟨fun pins s σ H Q I ⟨m, σl, h, R, Sl, g⟩ => by
      refine (pe_tupF ih.1).run pins s σ H Q I ?_
      have g : GoE X.K X.mg m h H ((evEs P cl es σl h).bind fun p => if p.1.length ≤ SZ then some (.tup p.1, p.2) else none) Q := g
      obtain ⟨ds, h1, e1, k1⟩ := g.binds
      refine ⟨m, σl, h, ds, h1, R, Sl, e1, fun m1 vs H1 g1 R1 r1 => ?_⟩
      have k2 := k1 m1 H1 g1
      by_cases hz : ds.length ≤ SZ
      · exact ⟨by rw [← r1.len, SZ_line]; exact hz, goe_tup R1 k2 (if_pos hz) r1⟩
      · obtain ⟨_, _, e2, _⟩ := k2
        rw [if_neg hz] at e2; cases e2⟩
    exact ⟨hp, pt_plain hp fun _ => rfl⟩
  | .lst es, sc, X, e, G, S, ok, h => by
    obtain ⟨l, p, rfl, h1⟩ := inv_lst h
    have ih := pas_of es G S ok h1
    have hp : PE X (.List l p) (tI P cl X.K X.mg (.lst es)) := ⟨fun pins s σ H Q I ⟨m, σl, h, R, Sl, g⟩ => by
      refine (pe_lst ih.1).run pins s σ H Q I ?_
      have g : GoE X.K X.mg m h H ((evEs P cl es σl h).bind fun p => if p.1.length ≤ SZ then alloc p.2 (.lst p.1) else none) Q := g
      obtain ⟨ds, h1, e1, k1⟩ := g.binds
      refine ⟨m, σl, h, ds, h1, R, Sl, e1, fun m1 vs H1 g1 R1 r1 => ?_⟩
      have k2 := k1 m1 H1 g1
      by_cases hz : ds.length ≤ SZ
      · exact ⟨by rw [← r1.len, SZ_line]; exact hz, goe_lst R1 k2 (if_pos hz) r1⟩
      · obtain ⟨_, _, e2, _⟩ := k2
        rw [if_neg hz] at e2; cases e2⟩
    exact ⟨hp, pt_plain hp fun _ => rfl⟩
  | .dnew, sc, X, e, G, S, ok, h => by
    obtain ⟨p, rfl⟩ := inv_dnew h
    have hp : PE X (.Dict [] [] p) (tI P cl X.K X.mg .dnew) := ⟨fun pins s σ H Q I ⟨m, σl, h, R, Sl, g⟩ => by
      refine pe_dnewE.run pins s σ H Q I fun q n hq => ?_
      obtain ⟨d, h', e, k⟩ := g
      cases e
      obtain ⟨m', g1, R1, em⟩ := go_new R n (o := .dic []) (u := .ext (DAt q [])) rfl fun m' l t => ⟨[], upd_same, hq, rfl, List.nodup_nil, Nat.zero_le _⟩
      exact k m' _ _ g1 R1 ⟨q, rfl, em⟩⟩
    exact ⟨hp, pt_plain hp fun _ => rfl⟩
  | .bop o a b, sc, X, e, G, S, ok, h => by
    obtain ⟨l, r, p, rfl, h1, h2⟩ := inv_bop h
    have ok' : okE sc N a = true ∧ okE sc N b = true := by simpa [okE] using ok
    have i1 := pe_of a G S ok'.1 h1
    have i2 := pe_of b G S ok'.2 h2
    have hp : PE X (.BinOp l (bopO o) r p) (tI P cl X.K X.mg (.bop o a b)) := ⟨fun pins s σ H Q I ⟨m, σl, h, R, Sl, g⟩ => (pe_op (op_bin o) i1.1 i2.1).run pins s σ H Q I (tI_op R Sl g)⟩
    exact ⟨hp, pt_plain hp fun _ => rfl⟩
  | .neg a, sc, X, e, G, S, ok, h => by
    obtain ⟨x, p, rfl, h1⟩ := inv_neg h
    have i1 := pe_of a G S ok h1
    have hp : PE X (.UnaryOp .USub x p) (tI P cl X.K X.mg (.neg a)) := ⟨fun pins s σ H Q I ⟨m, σl, h, R, Sl, g⟩ => by
      refine (pe_un un_neg i1.1).run pins s σ H Q I ?_
      obtain ⟨d1, h1, e1, k1⟩ := GoE.bind (r := evE P cl a σl h) g
      refine ⟨m, σl, h, R, Sl, d1, h1, e1, fun m1 x H1 g1 R1 r1 => ?_⟩
      have k2 := k1 m1 H1 g1
      cases d1 with
      | int i =>
        cases (r1 : _ = _)
        exact ⟨i, rfl, goe_keep R1 k2 rfl rfl⟩
      | _ => obtain ⟨_, _, z, _⟩ := k2; cases z⟩
    exact ⟨hp, pt_plain hp fun _ => rfl⟩
  | .not a, sc, X, e, G, S, ok, h => by
    obtain ⟨x, p, rfl, h1⟩ := inv_not h
    have i1 := pe_of a G S ok h1
    have hp : PE X (.UnaryOp .Not x p) (tI P cl X.K X.mg (.not a)) := ⟨fun pins s σ H Q I ⟨m, σl, h, R, Sl, g⟩ => by
      refine (pe_notT i1.1).run pins s σ H Q I ?_
      obtain ⟨d1, h1, e1, k1⟩ := GoE.bind (r := evE P cl a σl h) g
      refine ⟨m, σl, h, R, Sl, d1, h1, e1, fun m1 x H1 g1 R1 r1 => ?_⟩
      have k2 := k1 m1 H1 g1
      cases e2 : truth d1 h1 with
      | none => obtain ⟨_, _, z, _⟩ := k2; rw [e2] at z; cases z
      | some b => exact ⟨b, tru_d R1 r1 e2, goe_keep R1 k2 (d := .bl (!b)) (by rw [e2]; rfl) rfl⟩⟩
    refine ⟨hp, ⟨fun pins s σ H Q I ⟨m, σl, h, R, Sl, d, h', b, e1, e2, k⟩ => ?_⟩⟩
    refine (pt_not i1.2).run pins s σ H Q I ?_
    have e1 : ((evE P cl a σl h).bind fun p => (truth p.1 p.2).map fun b => (D.bl (!b), p.2)) = some (d, h') := e1
    cases q : evE P cl a σl h with
    | none => rw [q] at e1; cases e1
    | some p1 =>
      obtain ⟨d1, h1⟩ := p1
      rw [q] at e1
      cases q2 : truth d1 h1 with
      | none => simp [q2] at e1
      | some c =>
        simp [q2] at e1
        obtain ⟨rfl, rfl⟩ := e1
        cases e2
        exact ⟨m, σl, h, R, Sl, d1, h1, c, q, q2, fun m' H' g R' => k m' H' g R'⟩
  | .cmp o a b, sc, X, e, G, S, ok, h => by
    obtain ⟨l, r, p, rfl, h1, h2⟩ := inv_cmp h
    have ok' : okE sc N a = true ∧ okE sc N b = true := by simpa [okE] using ok
    have i1 := pe_of a G S ok'.1 h1
    have i2 := pe_of b G S ok'.2 h2
    have mk := (pln_of h2).mark (copO o)
    refine ⟨⟨fun pins s σ H Q I ⟨m, σl, h, R, Sl, g⟩ => (pe_cmpR (op_cmp G.G G.hu o) i1.1 i2.1 mk).run pins s σ H Q I ?_⟩, ⟨fun pins s σ H Q I ⟨m, σl, h, R, Sl, d, h', b', e1, e2, k⟩ => (pt_cmpR (op_cmp G.G G.hu o) i1.1 i2.1 mk).run pins s σ H Q I ?_⟩⟩
    · obtain ⟨d1, h1, e1, k1⟩ := GoE.bind (r := evE P cl a σl h) g
      refine ⟨m, σl, h, R, Sl, d1, h1, e1, fun m1 x H1 g1 R1 r1 => ?_⟩
      obtain ⟨d2, h2, e2, k2⟩ := GoE.bind (r := evE P cl b σl h1) (k1 m1 H1 g1)
      refine ⟨m1, σl, h1, R1, g1.slots R Sl, d2, h2, e2, fun m2 y H2 g2 R2 r2 => ?_⟩
      have k3 := k2 m2 H2 g2
      cases e3 : cmpop P o d1 d2 h2 with
      | none => obtain ⟨_, _, z, _⟩ := k3; rw [e3] at z; cases z
      | some c => exact ⟨m2, h2, d1, d2, c, R2, g2.rel R1 r1, r2, e3, goe_keep R2 k3 (d := .bl c) (by rw [e3]; rfl) rfl⟩
    · have e1 : ((evE P cl a σl h).bind fun p => (evE P cl b σl p.2).bind fun q => (cmpop P o p.1 q.1 q.2).map fun c => (D.bl c, q.2)) = some (d, h') := e1
      cases q1 : evE P cl a σl h with
      | none => rw [q1] at e1; cases e1
      | some p1 =>
        obtain ⟨d1, h1⟩ := p1
        rw [q1] at e1
        cases q2 : evE P cl b σl h1 with
        | none => simp [q2] at e1
        | some p2 =>
          obtain ⟨d2, h2⟩ := p2
          simp only [Option.bind_some, q2] at e1
          cases q3 : cmpop P o d1 d2 h2 with
          | none => simp [q3] at e1
          | some c =>
            simp [q3] at e1
            obtain ⟨rfl, rfl⟩ := e1
            cases e2
            exact ⟨m, σl, h, R, Sl, d1, h1, q1, fun m1 x H1 g1 R1 r1 => ⟨m1, σl, h1, R1, g1.slots R Sl, d2, h2, q2, fun m2 y H2 g2 R2 r2 => ⟨m2, h2, d1, d2, _, R2, g2.rel R1 r1, r2, q3, _, rfl, k m2 H2 (g1.trans g2) R2⟩⟩⟩
  | .cmp2 o o' a b c0, sc, X, e, G, S, ok, h => by
    obtain ⟨l, r, r', p, rfl, h1, h2, h3⟩ := inv_cmp2 h
    have ok' : (okE sc N a = true ∧ okE sc N b = true) ∧ okE sc N c0 = true := by simpa [okE] using ok
    have i1 := pe_of a G S ok'.1.1 h1
    have i2 := pe_of b G S ok'.1.2 h2
    have i3 := pe_of c0 G S ok'.2 h3
    have mk := (pln_of h2).mark (copO o)
    have mk' := (pln_of h3).mark (copO o')
    have main : ∀ (σ : L2.St) (H : Hp) (Q : VK) (m : MM) (σl : Lc) (h : LH), Rep X.K X.mg m h H → SRel X.K X.mg m H σl σ → GoE X.K X.mg m h H (evE P cl (.cmp2 o o' a b c0) σl h) Q →
        tChain (rC2 X (cmpop P o)) (rC2 X (cmpop P o')) (tI P cl X.K X.mg a) (tI P cl X.K X.mg b) (tI P cl X.K X.mg c0) σ H Q := by
      intro σ H Q m σl h R Sl g
      obtain ⟨d1, h1, e1, k1⟩ := GoE.bind (r := evE P cl a σl h) g
      refine ⟨m, σl, h, R, Sl, d1, h1, e1, fun m1 x H1 g1 R1 r1 => ?_⟩
      obtain ⟨d2, h2, e2, k2⟩ := GoE.bind (r := evE P cl b σl h1) (k1 m1 H1 g1)
      refine ⟨m1, σl, h1, R1, g1.slots R Sl, d2, h2, e2, fun m2 y H2 g2 R2 r2 => ?_⟩
      have k3 := k2 m2 H2 g2
      cases e3 : cmpop P o d1 d2 h2 with
      | none => obtain ⟨_, _, z, _⟩ := k3; rw [e3] at z; cases z
      | some c' =>
        refine ⟨m2, h2, d1, d2, c', R2, g2.rel R1 r1, r2, e3, c', rfl, ?_⟩
        rw [e3] at k3
        cases c' with
        | false => exact goe_keep R2 k3 (d := .bl false) rfl rfl
        | true =>
          obtain ⟨d3, h3, e4, k4⟩ := GoE.bind (r := evE P cl c0 σl h2) k3
          refine ⟨m2, σl, h2, R2, g2.slots R1 (g1.slots R Sl), d3, h3, e4, fun m3 z H3 g3 R3 r3 => ?_⟩
          have k5 := k4 m3 H3 g3
          cases e5 : cmpop P o' d2 d3 h3 with
          | none => obtain ⟨_, _, z, _⟩ := k5; rw [e5] at z; cases z
          | some c'' => exact ⟨m3, h3, d2, d3, c'', R3, g3.rel R2 r2, r3, e5, goe_keep R3 k5 (d := .bl c'') (by rw [e5]; rfl) rfl⟩
    refine ⟨⟨fun pins s σ H Q I ⟨m, σl, h, R, Sl, g⟩ => (pe_chain (op_cmp G.G G.hu o) (op_cmp G.G G.hu o') i1.1 i2.1 i3.1 (by exact mk')).run pins s σ H Q I (main σ H Q m σl h R Sl g)⟩, ⟨fun pins s σ H Q I ⟨m, σl, h, R, Sl, d, h', b', e1, e2, k⟩ => ?_⟩⟩
    refine (pt_chain (op_cmp G.G G.hu o) (op_cmp G.G G.hu o') i1.1 i2.1 i3.1 (by exact mk')).run pins s σ H Q I ?_
    refine main σ H _ m σl h R Sl ⟨d, h', e1, fun m' v H' g' R' r' => ?_⟩
    -- the answer is a bool
    have hb : d = .bl b' := by
      cases q1 : evE P cl a σl h with
      | none => have e1 : (evE P cl a σl h).bind _ = _ := e1; rw [q1] at e1; cases e1
      | some p1 =>
        have e1 : ((evE P cl a σl h).bind fun p => (evE P cl b σl p.2).bind fun q => (cmpop P o p.1 q.1 q.2).bind fun k =>
          if k then (evE P cl c0 σl q.2).bind fun r => (cmpop P o' q.1 r.1 r.2).map fun k' => (D.bl k', r.2) else some (D.bl false, q.2)) = some (d, h') := e1
        rw [q1] at e1
        simp only [Option.bind_some] at e1
        cases q2 : evE P cl b σl p1.2 with
        | none => rw [q2] at e1; cases e1
        | some p2 =>
          rw [q2] at e1
          simp only [Option.bind_some] at e1
          cases q3 : cmpop P o p1.1 p2.1 p2.2 with
          | none => rw [q3] at e1; cases e1
          | some c =>
            rw [q3] at e1
            simp only [Option.bind_some] at e1
            cases c with
            | false => simp at e1; obtain ⟨rfl, rfl⟩ := e1; cases e2; rfl
            | true =>
              simp only [if_true] at e1
              cases q4 : evE P cl c0 σl p2.2 with
              | none => rw [q4] at e1; cases e1
              | some p3 =>
                rw [q4] at e1
                simp only [Option.bind_some] at e1
                cases q5 : cmpop P o' p2.1 p3.1 p3.2 with
                | none => rw [q5] at e1; cases e1
                | some c2 => rw [q5] at e1; simp at e1; obtain ⟨rfl, rfl⟩ := e1; cases e2; rfl
    subst hb
    cases (r' : _ = _)
    exact ⟨b', rfl, k m' H' g' R'⟩
  | .and es, sc, X, e, G, S, ok, h => by
    obtain ⟨l, p, rfl, h1⟩ := inv_and h
    have ih := pas_of es G S ok h1
    cases es with
    | nil =>
      rw [inv_nil h1]
      exact ⟨⟨fun pins s σ H Q I ⟨m, σl, h, R, Sl, d, h', z, _⟩ => nomatch z⟩, ⟨fun pins s σ H Q I ⟨m, σl, h, R, Sl, d, h', b, z, _⟩ => nomatch z⟩⟩
    | cons e2 es => exact ⟨(ih.2 p (fun z => nomatch z)).1, (ih.2 p (fun z => nomatch z)).2.1.pt⟩
  | .or es, sc, X, e, G, S, ok, h => by
    obtain ⟨l, p, rfl, h1⟩ := inv_or h
    have ih := pas_of es G S ok h1
    cases es with
    | nil =>
      rw [inv_nil h1]
      exact ⟨⟨fun pins s σ H Q I ⟨m, σl, h, R, Sl, d, h', z, _⟩ => nomatch z⟩, ⟨fun pins s σ H Q I ⟨m, σl, h, R, Sl, d, h', b, z, _⟩ => nomatch z⟩⟩
    | cons e2 es => exact ⟨(ih.2 p (fun z => nomatch z)).2.2.1, (ih.2 p (fun z => nomatch z)).2.2.2.pt⟩
  | .ix a i, sc, X, e, G, S, ok, h => by
    obtain ⟨l, r, p, rfl, h1, h2⟩ := inv_ix h
    have ok' : okE sc N a = true ∧ okE sc N i = true := by simpa [okE] using ok
    have i1 := pe_of a G S ok'.1 h1
    have i2 := pe_of i G S ok'.2 h2
    have hp : PE X (.Subscript l r p) (tI P cl X.K X.mg (.ix a i)) := ⟨fun pins s σ H Q I ⟨m, σl, h, R, Sl, g⟩ => by
      refine (pe_ix (op_ix G.G G.hu) i1.1 i2.1 (pln_of h2).ix).run pins s σ H Q I ?_
      obtain ⟨d1, h1, e1, k1⟩ := GoE.bind (r := evE P cl a σl h) g
      refine ⟨m, σl, h, R, Sl, d1, h1, e1, fun m1 x H1 g1 R1 r1 => ?_⟩
      obtain ⟨d2, h2, e2, k2⟩ := GoE.bind (r := evE P cl i σl h1) (k1 m1 H1 g1)
      refine ⟨m1, σl, h1, R1, g1.slots R Sl, d2, h2, e2, fun m2 y H2 g2 R2 r2 => ?_⟩
      have k3 := k2 m2 H2 g2
      cases e3 : getix P d1 d2 h2 with
      | none => obtain ⟨_, _, z, _⟩ := k3; rw [e3] at z; cases z
      | some d => exact ⟨m2, h2, d1, d2, d, R2, g2.rel R1 r1, r2, e3, fun v rv => goe_keep R2 k3 (by rw [e3]; rfl) rv⟩⟩
    exact ⟨hp, pt_plain hp fun _ => rfl⟩
  | .sl a lo hi, sc, X, e, G, S, ok, h => by
    obtain ⟨v, l, u, p2, p, rfl, h1, h2, h3⟩ := inv_sl h
    have ok' : (okE sc N a = true ∧ okE sc N lo = true) ∧ okE sc N hi = true := by simpa [okE] using ok
    have i1 := pe_of a G S ok'.1.1 h1
    have i2 : PO X l (tO P cl X.K X.mg lo) := po_of h2 (fun e he => (pe_of lo G S ok'.1.2 he).1)
    have i3 : PO X u (tO P cl X.K X.mg hi) := po_of h3 (fun e he => (pe_of hi G S ok'.2 he).1)
    have hp : PE X (.Subscript v (.Slice l u none p2) p) (tI P cl X.K X.mg (.sl a lo hi)) := ⟨fun pins s σ H Q I ⟨m, σl, h, R, Sl, g⟩ => by
      refine (pe_slice op_sl i1.1 i2 i3).run pins s σ H Q I ?_
      obtain ⟨d1, h1, e1, k1⟩ := GoE.bind (r := evE P cl a σl h) g
      refine ⟨m, σl, h, R, Sl, d1, h1, e1, fun m1 x H1 g1 R1 r1 => ?_⟩
      obtain ⟨d2, h2, e2, k2⟩ := GoE.bind (r := evE P cl lo σl h1) (k1 m1 H1 g1)
      cases q1 : ptI (isNonE lo) d2 with
      | none =>
        obtain ⟨_, _, z, _⟩ := k1 m1 H1 g1
        have z : ((evE P cl lo σl h1).bind fun q => (evE P cl hi σl q.2).bind fun r => (ptI (isNonE lo) q.1).bind fun l => (ptI (isNonE hi) r.1).bind fun u => slice d1 l u r.2) = _ := z
        rw [e2] at z
        simp only [Option.bind_some, q1, Option.bind_none] at z
        cases q3 : evE P cl hi σl h2 with
        | none => rw [q3] at z; cases z
        | some _ => rw [q3] at z; cases z
      | some o1 =>
        refine ⟨m1, σl, h1, d2, h2, o1, R1, g1.slots R Sl, e2, q1, fun m2 H2 g2 R2 => ?_⟩
        obtain ⟨d3, h3, e3, k3⟩ := GoE.bind (r := evE P cl hi σl h2) (k2 m2 H2 g2)
        cases q2 : ptI (isNonE hi) d3 with
        | none =>
          obtain ⟨_, _, z, _⟩ := k2 m2 H2 g2
          simp only [e3, q1, q2, Option.bind_some, Option.bind_none] at z
          cases z
        | some o2 =>
          refine ⟨m2, σl, h2, d3, h3, o2, R2, g2.slots R1 (g1.slots R Sl), e3, q2, fun m3 H3 g3 R3 => ?_⟩
          have k4 := k3 m3 H3 g3
          simp only [q1, q2, Option.bind_some] at k4
          exact ⟨m3, h3, d1, R3, g3.rel R2 (g2.rel R1 r1), k4⟩⟩
    exact ⟨hp, pt_plain hp fun _ => rfl⟩
  | .call f es, sc, X, e, G, S, ok, h => by
    obtain ⟨p1, l, p, rfl, h1⟩ := inv_call h
    have ok' : (okN f = true ∧ isGlo sc f = true) ∧ okEs sc N es = true := by simpa [okE] using ok
    have ih := pas_of es G S ok'.2 h1
    have pl := plns_of h1
    have hb : f < 128 ^ 64 := by have := ok'.1.1; simp only [okN, Bool.and_eq_true, decide_eq_true_eq] at this; exact this.1.1.1.1
    have hp : PE X (.Call (.Name (nmS f) p1) l [] p) (tI P cl X.K X.mg (.call f es)) := ⟨fun pins s σ H Q I ⟨m, σl, h, R, Sl, g⟩ => by
      obtain ⟨ds, h1, e1, k1⟩ := GoE.binds (r := evEs P cl es σl h) g
      obtain ⟨_, _, z, _⟩ := g
      have z : (evEs P cl es σl h).bind (fun p => cl f p.1 p.2) = _ := z
      rw [e1] at z
      obtain ⟨F, k, a, fd, ps, dvs, dsV, ds', hF, A, b1, b2, hl, e2, b3⟩ := call_fill G z
      obtain ⟨a1, a2⟩ := A.glo hb
      have fin : tIs P cl X.K X.mg es σ H (fun vs H1 => spI P cl X.K X.mg f (vs ++ dvs) H1 Q E0) := by
        refine ⟨m, σl, h, ds, h1, R, Sl, e1, fun m1 vs H1 g1 R1 r1 => ?_⟩
        exact ⟨m1, h1, ds', R1, b3 _ _ _ r1, ⟨F, hF, hl⟩, goe_some (k1 m1 H1 g1) fun q eq => by
          have z : cl f ds h1 = _ := z
          rw [show cl f ds h1 = some q from eq] at z; cases z; exact e2⟩
      have rk : Room k X.A := A.room.mono (by omega)
      cases l with
      | nil =>
        refine (pe_call0 A.ok rk (glo_name S ok'.1.2) a1 a2 b2 b1 pass0 (okN_debug ok'.1.1)).run pins s σ H Q I ?_
        have : es = .nil := by
          cases es with
          | nil => rfl
          | cons a b => cases h1
        subst this
        obtain ⟨m, σl, h, ds, h1, R, Sl, e1, k⟩ := fin
        cases e1
        exact k m [] H Go.refl R rfl
      | cons x xs =>
        exact (pe_call A.ok rk (glo_name S ok'.1.2) a1 a2 b2 b1 pass0 ih.1 (okN_debug ok'.1.1) ((pl x List.mem_cons_self).star _ _) (plns_any (fun e he => pl e (List.mem_cons_of_mem _ he)) _ _)).run pins s σ H Q I fin⟩
    exact ⟨hp, pt_plain hp fun _ => rfl⟩
  | .mk C es, sc, X, e, G, S, ok, h => by
    obtain ⟨p1, l, p, rfl, h1⟩ := inv_mk h
    have ok' : (okN C = true ∧ isGlo sc C = true) ∧ okEs sc N es = true := by simpa [okE] using ok
    have ih := pas_of es G S ok'.2 h1
    have pl := plns_of h1
    have hp : PE X (.Call (.Name (nmS C) p1) l [] p) (tI P cl X.K X.mg (.mk C es)) := ⟨fun pins s σ H Q I ⟨m, σl, h, R, Sl, g⟩ => by
      obtain ⟨dr, hr, er, kr⟩ := g
      have er : ((P.cls C).bind fun c => (evEs P cl es σl h).bind fun p => (alloc p.2 (.ins C [])).bind fun q => (cl c.ini (q.1 :: p.1) q.2).bind fun r => if isNon r.1 then some (q.1, r.2) else none) = some (dr, hr) := er
      cases ec : P.cls C with
      | none => rw [ec] at er; cases er
      | some c =>
        rw [ec] at er
        simp only [Option.bind_some] at er
        cases e1 : evEs P cl es σl h with
        | none => rw [e1] at er; cases er
        | some p1' =>
          obtain ⟨ds, h1⟩ := p1'
          rw [e1] at er
          simp only [alloc, Option.bind_some] at er
          cases e2 : cl c.ini (.ref h1.length :: ds) (h1 ++ [.ins C []]) with
          | none => rw [e2] at er; cases er
          | some r =>
            rw [e2] at er
            simp only [Option.bind_some] at er
            split at er
            · rename_i hn
              cases er
              obtain ⟨Ca, c1, c2, c3, c4, a, c5, c6⟩ := G.C.cls C c ec
              obtain ⟨F, k, a', fd, ps, dvs, dsV, ds', hF, A, b1, b2, hl, e3, b3⟩ := call_fill G e2
              have : a' = a := by have := A.at_; rw [c5] at this; exact (Option.some.inj this).symm
              subst this
              have fin : tIs P cl X.K X.mg es σ H (fun vs H1 => ∀ x dx, H1 x = none → H1 dx = none → dx ≠ x → spI P cl X.K X.mg c.ini (.ref x :: (vs ++ dvs)) (upd (upd H1 dx (.own x)) x (.ins Ca dx [])) (fun v H2 => v = .non ∧ Q (.ref x) H2) E0) := by
                refine ⟨m, σl, h, ds, h1, R, Sl, e1, fun m1 vs H1 g1 R1 r1 x dx nx ndx ne => ?_⟩
                obtain ⟨g2, R2⟩ := go_fresh R1 ndx (.own x)
                have nx2 : (upd H1 dx (.own x)) x = none := by rw [upd_ne (Ne.symm ne)]; exact nx
                obtain ⟨m3, g3, R3, em⟩ := go_new R2 nx2 (o := .ins C []) (u := .ins Ca dx []) rfl fun m' l t => ⟨Ca, dx, [], upd_same, c1, c2, rfl, fun q hq => by cases hq⟩
                have r3 : RelDs X.K X.mg m3 _ ds vs := g3.rels R2 (g2.rels R1 r1)
                refine ⟨m3, _, ds', R3, b3 m3 _ (.ref x :: vs) ⟨_, _, rfl, ⟨x, rfl, em⟩, r3⟩, ⟨F, hF, hl⟩, r.1, r.2, e3, fun m' v H' g4 R4 r4 => ⟨?_, ?_⟩⟩
                · have : r.1 = .non := by cases q : r.1 <;> rw [q] at hn <;> first | rfl | cases hn
                  rw [this] at r4; exact r4
                · exact kr m' (.ref x) H' ((g1.trans g2).trans (g3.trans g4)) R4 ⟨x, rfl, g4.le _ _ em⟩
              cases l with
              | nil =>
                have : es = .nil := by
                  cases es with
                  | nil => rfl
                  | cons a b => cases h1
                subst this
                refine (pe_make0 c6 A.ok A.room (glo_name S ok'.1.2) c1 b2 b1 pass0 (okN_debug ok'.1.1)).run pins s σ H Q I ?_
                obtain ⟨m, σl, h, ds, h1, R, Sl, e1, k⟩ := fin
                cases e1
                exact k m [] H Go.refl R rfl
              | cons x xs =>
                exact (pe_make c6 A.ok A.room (glo_name S ok'.1.2) c1 b2 b1 pass0 ih.1 (okN_debug ok'.1.1) ((pl x List.mem_cons_self).star _ _) (plns_any (fun e he => pl e (List.mem_cons_of_mem _ he)) _ _)).run pins s σ H Q I fin
            · cases er⟩
    exact ⟨hp, pt_plain hp fun _ => rfl⟩
  | .blt f es, sc, X, e, G, S, ok, hre => by
    obtain ⟨p1, l, p, rfl, h1⟩ := inv_blt hre
    have ok' : (isGlo sc (cBf f) = true ∧ okEs sc N es = true) ∧ 0 < exsLen es := by simpa [okE] using ok
    have ih := pas_of es G S ok'.1.2 h1
    have pl := plns_of h1
    have hg : Gl X (bfS f) := by rw [bf_nm]; exact glo_name S ok'.1.1
    have hp : PE X (.Call (.Name (bfS f) p1) l [] p) (tI P cl X.K X.mg (.blt f es)) := ⟨fun pins s σ H Q I ⟨m, σl, h, R, Sl, g⟩ => by
      cases l with
      | nil =>
        cases es with
        | nil => exact absurd ok'.2 (by simp [exsLen])
        | cons a b => cases h1
      | cons x xs =>
        obtain ⟨ds, h1, e1, k1⟩ := GoE.binds (r := evEs P cl es σl h) g
        have fin : tIs P cl X.K X.mg es σ H (fun vs H1 => rBl X (bltin f) vs H1 Q) :=
          ⟨m, σl, h, ds, h1, R, Sl, e1, fun m1 vs H1 g1 R1 r1 => ⟨m1, h1, ds, R1, r1, k1 m1 H1 g1⟩⟩
        have st := (pl x List.mem_cons_self).star xs X.env
        have an := plns_any (fun e he => pl e (List.mem_cons_of_mem _ he)) X.env p
        have ty : ∀ T, bfV f = .type T → wpAny (model X.prog X.w) X.A (eval (.Call (.Name (bfS f) p1) (x :: xs) [] p) X.env) (EP X pins σ Q) X.xe s := fun T e => by
          have c : CallR X (.type T) (rBl X (bltin f)) := by rw [← e]; exact op_blt f
          exact (pe_callTy c hg (G.G.blt f) (by rw [bf_boot, e]) ih.1 (bf_name f) (bf_dbg f) st an).run pins s σ H Q I fin
        have bl : ∀ T, bfV f = .builtin T → wpAny (model X.prog X.w) X.A (eval (.Call (.Name (bfS f) p1) (x :: xs) [] p) X.env) (EP X pins σ Q) X.xe s := fun T e => by
          have c : CallR X (.builtin T) (rBl X (bltin f)) := by rw [← e]; exact op_blt f
          exact (pe_callB c hg (G.G.blt f) (by rw [bf_boot, e]) ih.1 (bf_name f) (bf_dbg f) st an).run pins s σ H Q I fin
        cases f <;> first | exact ty _ rfl | exact bl _ rfl⟩
    exact ⟨hp, pt_plain hp fun _ => rfl⟩
  | .calv i es, sc, X, e, G, S, ok, hre => by
    obtain ⟨p1, l, p, rfl, h1⟩ := inv_calv hre
    have ok' : (isVis sc N i = true ∧ okEs sc N es = true) ∧ 0 < exsLen es := by simpa [okE] using ok
    have ih := pas_of es G S ok'.1.2 h1
    have pl := plns_of h1
    obtain ⟨x', n1, n2, n3, n4, n5⟩ := vis_name G S ok'.1.1
    rw [n2]
    have hp : PE X (.Call (.Name (nmS x') p1) l [] p) (tI P cl X.K X.mg (.calv i es)) := ⟨fun pins s σ H Q I ⟨m, σl, h, R, Sl, g⟩ => by
      cases l with
      | nil =>
        cases es with
        | nil => exact absurd ok'.2 (by simp [exsLen])
        | cons a b => cases h1
      | cons x xs =>
        have g0 := g
        obtain ⟨d, h', ed, q⟩ := g
        have ed : (match σl[i]? with | some (some (.fn f)) => (evEs P cl es σl h).bind fun p => cl f p.1 p.2 | _ => none) = some (d, h') := ed
        split at ed
        · rename_i f ei
          have g : GoE X.K X.mg m h H ((evEs P cl es σl h).bind fun p => cl f p.1 p.2) Q := ⟨d, h', ed, q⟩
          obtain ⟨ds, h1, e1, k1⟩ := g.binds
          rw [e1] at ed
          obtain ⟨F, k, a, fd, ps, dvs, dsV, ds', hF, A, b1, b2, hl, e2, b3⟩ := call_fill G ed
          have rk : Room k X.A := A.room.mono (by omega)
          obtain ⟨v, q1, q2⟩ := Sl.get ei
          obtain ⟨a', rfl, q3, hb⟩ := q2
          obtain ⟨a1, a2⟩ := A.glo hb
          rw [a1] at q3; cases q3
          refine (pe_callL (i := i) A.ok rk n4 n5 a2 b2 b1 pass0 ih.1 (okN_debug n3) (okN_cdict n3) ((pl x List.mem_cons_self).star _ _) (plns_any (fun e he => pl e (List.mem_cons_of_mem _ he)) _ _)).run pins s σ H Q I ⟨q1, ?_⟩
          refine ⟨m, σl, h, ds, h1, R, Sl, e1, fun m1 vs H1 g1 R1 r1 => ?_⟩
          exact ⟨m1, h1, ds', R1, b3 _ _ _ r1, ⟨F, hF, hl⟩, goe_some (k1 m1 H1 g1) fun q eq => by
            have ed : cl f ds h1 = _ := ed
            rw [show cl f ds h1 = some q from eq] at ed; cases ed; exact e2⟩
        · cases ed⟩
    exact ⟨hp, pt_plain hp fun _ => rfl⟩
  | .isi a T, sc, X, e, G, S, ok, h => by
    obtain ⟨p1, x, p2, p, rfl, h1⟩ := inv_isi h
    have ok' : (isGlo sc 976800284697052295653 = true ∧ isGlo sc (cTy T) = true) ∧ okE sc N a = true := by simpa [okE] using ok
    have i1 := pe_of a G S ok'.2 h1
    have hg : Gl X "isinstance" := by rw [n_isi]; exact glo_name S ok'.1.1
    have hT : Gl X (tyS T) := by rw [ty_nm]; exact glo_name S ok'.1.2
    have it : PE X (.Name (tyS T) p2) (tC (.ty (tyN T))) := pe_bltn hT (G.G.blt2.2.2 T) (ty_boot T) rfl (ty_name T) (ty_dbg T)
    have hp : PE X (.Call (.Name "isinstance" p1) [x, .Name (tyS T) p2] [] p) (tI P cl X.K X.mg (.isi a T)) := ⟨fun pins s σ H Q I ⟨m, σl, h, R, Sl, g⟩ => by
      refine (pe_callB call_isiX hg G.G.blt2.2.1 (by decide +kernel) (pa_cons i1.1 (pa_cons it pa_nil) ((pln_of h1).star _ _)) (by decide) (by decide) ((pln_of h1).star _ _)).run pins s σ H Q I ?_
      obtain ⟨d1, h1, e1, k1⟩ := GoE.bind (r := evE P cl a σl h) g
      refine ⟨m, σl, h, R, Sl, d1, h1, e1, fun m1 x H1 g1 R1 r1 => ?_⟩
      have k2 := k1 m1 H1 g1
      cases e2 : isTy d1 T h1 with
      | none => obtain ⟨_, _, z, _⟩ := k2; rw [e2] at z; cases z
      | some b =>
        have kk := goe_keep R1 k2 (d := .bl b) (by rw [e2]; rfl) rfl
        rcases isty_d R1 r1 e2 with t | ⟨a', kvs, rfl, ea, eb⟩
        · exact ⟨_, T, b, rfl, .inl t, kk⟩
        · exact ⟨_, T, b, rfl, .inr ⟨m1, h1, a', kvs, R1, r1, ea, eb⟩, kk⟩⟩
    exact ⟨hp, pt_plain hp fun _ => rfl⟩
  | .bm o mm es, sc, X, e, G, S, ok, h => by
    obtain ⟨v, p1, l, p, rfl, hl, h1, h2⟩ := inv_bm h
    have ok1 : okE sc N o = true ∧ okEs sc N es = true := by
      simp only [okE, Bool.and_eq_true] at ok
      exact ok.1
    have hlen : 0 < exsLen es ∧ exsLen es < 20 := by
      simp only [okE, Bool.and_eq_true] at ok
      have o := ok.2
      cases mm <;> simp at o <;> omega
    have i1 := pe_of o G S ok1.1 h1
    have ih := pas_of es G S ok1.2 h2
    have pl := plns_of h2
    have hl2 := reEs_len h2
    have hp : PE X (.Call (.Attribute v (bmS mm) p1) l [] p) (tI P cl X.K X.mg (.bm o mm es)) := ⟨fun pins s σ H Q I ⟨m, σl, hh, R, Sl, g⟩ => by
      cases l with
      | nil => rw [List.length_nil] at hl2; omega
      | cons x xs =>
        have hbase : attributeBase v (bmS mm) X.env (eval v X.env) = eval v X.env := attr_base G S ok1.1 h1
        have hfew := few_of pl (by rw [hl2]; exact hlen.2) p X.env
        have st := (pl x List.mem_cons_self).star xs X.env
        have an := plns_any (fun e he => pl e (List.mem_cons_of_mem _ he)) X.env p
        obtain ⟨d1, h1, e1, k1⟩ := GoE.bind (r := evE P cl o σl hh) g
        obtain ⟨dr, hr, z, _⟩ := g
        have z : ((evE P cl o σl hh).bind fun p => (tyOf p.1 p.2).bind fun T => (evEs P cl es σl p.2).bind fun q => method T p.1 mm q.1 q.2) = some (dr, hr) := z
        rw [e1] at z
        simp only [Option.bind_some] at z
        cases eT : tyOf d1 h1 with
        | none => rw [eT] at z; cases z
        | some T =>
          rw [eT] at z
          simp only [eT, Option.bind_some] at k1 z
          have lst : ∀ {id : String} (slot : Slot "list" (bmS mm) id) (hty : typeOf (.builtin id) = pure (.type "method_descriptor")) (hm : MtR X id (rM X .list mm)), T = .list → wpAny (model X.prog X.w) X.A (eval (.Call (.Attribute v (bmS mm) p1) (x :: xs) [] p) X.env) (EP X pins σ Q) X.xe s := by
            intro id slot hty hm hT
            subst hT
            refine (pe_bm PySem.F.plainAttrs_list slot hty hm i1.1 ih.1 hbase hfew hl st an).run pins s σ H Q I ⟨m, σl, hh, R, Sl, d1, h1, e1, fun m1 y H1 g1 R1 r1 => ?_⟩
            obtain ⟨ds, h2, e2, k2⟩ := GoE.binds (r := evEs P cl es σl h1) (k1 m1 H1 g1)
            exact ⟨ty_list R1 r1 eT, m1, σl, h1, ds, h2, R1, g1.slots R Sl, e2, fun m2 vs H2 g2 R2 r2 => ⟨m2, h2, d1, ds, R2, g2.rel R1 r1, r2, k2 m2 H2 g2⟩⟩
          have str : ∀ {id : String} (slot : Slot "str" (bmS mm) id) (hty : typeOf (.builtin id) = pure (.type "method_descriptor")) (hm : MtR X id (rM X .str mm)), T = .str → wpAny (model X.prog X.w) X.A (eval (.Call (.Attribute v (bmS mm) p1) (x :: xs) [] p) X.env) (EP X pins σ Q) X.xe s := by
            intro id slot hty hm hT
            subst hT
            refine (pe_bm PySem.F.plainAttrs_str slot hty hm i1.1 ih.1 hbase hfew hl st an).run pins s σ H Q I ⟨m, σl, hh, R, Sl, d1, h1, e1, fun m1 y H1 g1 R1 r1 => ?_⟩
            obtain ⟨ds, h2, e2, k2⟩ := GoE.binds (r := evEs P cl es σl h1) (k1 m1 H1 g1)
            refine ⟨?_, m1, σl, h1, ds, h2, R1, g1.slots R Sl, e2, fun m2 vs H2 g2 R2 r2 => ⟨m2, h2, d1, ds, R2, g2.rel R1 r1, r2, k2 m2 H2 g2⟩⟩
            cases d1 with
            | str t => cases (r1 : _ = _); rfl
            | ref a =>
              exfalso
              unfold tyOf at eT
              simp only at eT
              split at eT <;> cases eT
            | _ => cases eT
          have tup : ∀ {id : String} (slot : Slot "tuple" (bmS mm) id) (hty : typeOf (.builtin id) = pure (.type "method_descriptor")) (hm : MtR X id (rM X .tuple mm)), T = .tuple → wpAny (model X.prog X.w) X.A (eval (.Call (.Attribute v (bmS mm) p1) (x :: xs) [] p) X.env) (EP X pins σ Q) X.xe s := by
            intro id slot hty hm hT
            subst hT
            refine (pe_bmT slot hty hm i1.1 ih.1 hbase hfew hl st an).run pins s σ H Q I ⟨m, σl, hh, R, Sl, d1, h1, e1, fun m1 y H1 g1 R1 r1 => ?_⟩
            obtain ⟨ds, h2, e2, k2⟩ := GoE.binds (r := evEs P cl es σl h1) (k1 m1 H1 g1)
            refine ⟨?_, m1, σl, h1, ds, h2, R1, g1.slots R Sl, e2, fun m2 vs H2 g2 R2 r2 => ⟨m2, h2, d1, ds, R2, g2.rel R1 r1, r2, k2 m2 H2 g2⟩⟩
            cases d1 with
            | tup t => obtain ⟨q, vs, e3, e4, _⟩ := r1; exact ⟨q, vs, e3, e4⟩
            | ref a =>
              exfalso
              unfold tyOf at eT
              simp only at eT
              split at eT <;> cases eT
            | _ => cases eT
          have dic : ∀ {id : String} (slot : Slot "dict" (bmS mm) id) (hty : typeOf (.builtin id) = pure (.type "method_descriptor")) (hm : MtR X id (rM X .dict mm)), T = .dict → wpAny (model X.prog X.w) X.A (eval (.Call (.Attribute v (bmS mm) p1) (x :: xs) [] p) X.env) (EP X pins σ Q) X.xe s := by
            intro id slot hty hm hT
            subst hT
            refine (pe_bmD slot hty hm i1.1 ih.1 hbase hfew hl st an).run pins s σ H Q I ⟨m, σl, hh, R, Sl, d1, h1, e1, fun m1 y H1 g1 R1 r1 => ?_⟩
            obtain ⟨ds, h2, e2, k2⟩ := GoE.binds (r := evEs P cl es σl h1) (k1 m1 H1 g1)
            refine ⟨?_, m1, σl, h1, ds, h2, R1, g1.slots R Sl, e2, fun m2 vs H2 g2 R2 r2 => ⟨m2, h2, d1, ds, R2, g2.rel R1 r1, r2, k2 m2 H2 g2⟩⟩
            cases d1 with
            | ref a =>
              unfold tyOf at eT
              simp only at eT
              split at eT <;> first | (cases eT; done) | skip
              · rename_i kvs ea
                obtain ⟨q, ys, e3, _, e4, _⟩ := rep_dic R1 ea r1
                exact ⟨q, ys, e3, .inl e4⟩
              · rename_i kvs ea
                obtain ⟨q, rfl, em⟩ := r1
                obtain ⟨q', eq, ys, o, hp, _⟩ := R1.obj a _ ea
                rw [em] at eq; cases eq
                exact ⟨q, ys, rfl, .inr ⟨o, hp⟩⟩
            | _ => cases eT
          cases e2 : evEs P cl es σl h1 with
          | none => rw [e2] at z; cases z
          | some q2 =>
            rw [e2] at z
            simp only [Option.bind_some] at z
            cases mm with
            | append => cases T <;> first | (cases z; done) | exact lst PySem.F.slot_list_append PySem.F.type_list_append mt_app rfl
            | extend => cases T <;> first | (cases z; done) | exact lst PySem.F.slot_list_extend PySem.F.type_list_extend mt_ext rfl
            | insert => cases T <;> first | (cases z; done) | exact lst PySem.F.slot_list_insert PySem.F.type_list_insert mt_ins rfl
            | pop => cases T <;> first | (cases z; done) | exact lst PySem.F.slot_list_pop PySem.F.type_list_pop mt_pop0 rfl | exact dic PySem.F.slot_dict_pop PySem.F.type_dict_pop (mt_dp G.hu) rfl
            | index => cases T <;> first | (cases z; done) | exact tup PySem.F.slot_tuple_index PySem.F.type_tuple_index mt_tidx rfl
            | get => cases T <;> first | (cases z; done) | exact dic PySem.F.slot_dict_get PySem.F.type_dict_get (mt_dg G.hu) rfl
            | join => cases T <;> first | (cases z; done) | exact str PySem.F.slot_str_join PySem.F.type_str_join mt_jn rfl
            | _ => cases T <;> cases z⟩
    exact ⟨hp, pt_plain hp fun _ => rfl⟩
  | .cm o mm es, sc, X, e, G, S, ok, h => by
    obtain ⟨v, p1, l, p, rfl, hline, h1, h2⟩ := inv_cm h
    have ok' : (okE sc N o = true ∧ okEs sc N es = true) ∧ exsLen es < 20 := by simpa [okE] using ok
    have i1 := pe_of o G S ok'.1.1 h1
    have ih := pas_of es G S ok'.1.2 h2
    have pl := plns_of h2
    have hl2 := reEs_len h2
    have hbase : attributeBase v (nmS mm) X.env (eval v X.env) = eval v X.env := attr_base G S ok'.1.1 h1
    have hp : PE X (.Call (.Attribute v (nmS mm) p1) l [] p) (tI P cl X.K X.mg (.cm o mm es)) := ⟨fun pins s σ H Q I ⟨m, σl, hh, R, Sl, g⟩ => by
      obtain ⟨d1, h1, e1, k1⟩ := GoE.bind (r := evE P cl o σl hh) g
      obtain ⟨dr, hr, z, _⟩ := id g
      have z : ((evE P cl o σl hh).bind fun p => match p.1 with
        | .ref a => match p.2[a]? with
          | some (.ins C _) => ((P.cls C).bind fun c => c.mts.lookup mm).bind fun f => (evEs P cl es σl p.2).bind fun q => cl f (.ref a :: q.1) q.2
          | _ => none
        | _ => none) = some (dr, hr) := z
      rw [e1] at z
      simp only [Option.bind_some] at z
      split at z
      · rename_i a
        split at z
        · rename_i C fs ea
          simp only [ea] at k1
          cases ec : P.cls C with
          | none => rw [ec] at z; cases z
          | some c =>
            simp only [ec, Option.bind_some] at z k1
            cases em : c.mts.lookup mm with
            | none => rw [em] at z; cases z
            | some f =>
              simp only [em, Option.bind_some] at z k1
              cases e2 : evEs P cl es σl h1 with
              | none => rw [e2] at z; cases z
              | some p2 =>
                obtain ⟨ds, h2⟩ := p2
                simp only [e2, Option.bind_some] at z k1
                obtain ⟨F, k, q, fd, ps, dvs, dsV, ds', hF, A, b1, b2, hl, e3, b3⟩ := call_fill G z
                obtain ⟨Ca, c1, c2, c3, c4, _⟩ := G.C.cls C c ec
                obtain ⟨q', c5, M⟩ := c4 mm f em
                have : q = q' := by have := A.at_; rw [c5] at this; exact (Option.some.inj this).symm
                subst this
                have rk : Room k X.A := A.room.mono (by omega)
                have tr := mcall_tree (pos := p) hbase pl (by rw [hl2]; exact ok'.2) hline
                have body : ∀ m1 x H1, Go m hh H m1 h1 H1 → Rep X.K X.mg m1 h1 H1 → RelD X.K X.mg m1 H1 (.ref a) x → ∃ pa dx fv, x = .ref pa ∧ H1 pa = some (.ins Ca dx fv) ∧ fv.lookup (nmS mm) = none := by
                  intro m1 x H1 g1 R1 r1
                  obtain ⟨pa, Ca', dx, fv, ep, _, e5, e6, _, rf, hq⟩ := rep_ins R1 ea r1
                  rw [c1] at e6; cases e6
                  exact ⟨pa, dx, fv, ep, e5, relf_none M rf fun z hz => (hq z hz).2⟩
                have args : ∀ m1 pa H1, Go m hh H m1 h1 H1 → Rep X.K X.mg m1 h1 H1 → RelD X.K X.mg m1 H1 (.ref a) (.ref pa) → tIs P cl X.K X.mg es σ H1 (fun vs H2 => spI P cl X.K X.mg f (.ref pa :: (vs ++ dvs)) H2 Q E0) := by
                  intro m1 pa H1 g1 R1 r1
                  refine ⟨m1, σl, h1, ds, h2, R1, g1.slots R Sl, e2, fun m2 vs H2 g2 R2 r2 => ⟨m2, h2, ds', R2, b3 m2 H2 (.ref pa :: vs) ⟨_, _, rfl, g2.rel R1 r1, r2⟩, ⟨F, hF, hl⟩, ?_⟩⟩
                  obtain ⟨d', h', ez, kz⟩ := k1 m1 H1 g1
                  have ez : cl f (.ref a :: ds) h2 = some (d', h') := ez
                  have z : cl f (.ref a :: ds) h2 = some (dr, hr) := z
                  rw [z] at ez; cases ez
                  exact ⟨dr, hr, e3, fun m3 v H3 g3 R3 r3 => kz m3 v H3 (g2.trans g3) R3 r3⟩
                cases l with
                | nil =>
                  have : es = .nil := by
                    cases es with
                    | nil => rfl
                    | cons a b => cases h2
                  subst this
                  refine (pe_meth0 i1.1 c2 M A.ok rk b2 b1 pass0 tr).run pins s σ H Q I ⟨m, σl, hh, R, Sl, _, h1, e1, fun m1 x H1 g1 R1 r1 => ?_⟩
                  obtain ⟨pa, dx, fv, rfl, e5, e6⟩ := body m1 x H1 g1 R1 r1
                  refine ⟨pa, dx, fv, rfl, e5, e6, ?_⟩
                  obtain ⟨m', σl', h', ds'', h'', R', Sl', e1', k'⟩ := args m1 pa H1 g1 R1 r1
                  cases e1'
                  exact k' m' [] H1 Go.refl R' rfl
                | cons y ys =>
                  refine (pe_meth i1.1 c2 M A.ok rk b2 b1 pass0 ih.1 ((pl y List.mem_cons_self).star _ _) (plns_any (fun e he => pl e (List.mem_cons_of_mem _ he)) _ _) tr).run pins s σ H Q I ⟨m, σl, hh, R, Sl, _, h1, e1, fun m1 x H1 g1 R1 r1 => ?_⟩
                  obtain ⟨pa, dx, fv, rfl, e5, e6⟩ := body m1 x H1 g1 R1 r1
                  exact ⟨pa, dx, fv, rfl, e5, e6, args m1 pa H1 g1 R1 r1⟩
        · cases z
      · cases z⟩
    exact ⟨hp, pt_plain hp fun _ => rfl⟩
  | .fld o f, sc, X, e, G, S, ok, h => by
    obtain ⟨v, p, rfl, h1⟩ := inv_fld h
    have i1 := pe_of o G S ok h1
    have hbase : attributeBase v (nmS f) X.env (eval v X.env) = eval v X.env := attr_base (o := o) G S ok h1
    have hp : PE X (.Attribute v (nmS f) p) (tI P cl X.K X.mg (.fld o f)) := ⟨fun pins s σ H Q I ⟨m, σl, h, R, Sl, g⟩ => by
      refine (pe_fld i1.1 hbase).run pins s σ H Q I ?_
      obtain ⟨d1, h1, e1, k1⟩ := GoE.bind (r := evE P cl o σl h) g
      refine ⟨m, σl, h, R, Sl, d1, h1, e1, fun m1 x H1 g1 R1 r1 => ?_⟩
      have k2 := k1 m1 H1 g1
      obtain ⟨dr, hr, z, kz⟩ := id k2
      simp only at z
      split at z
      · rename_i a
        split at z
        · rename_i C fs ea
          cases el : fs.lookup f with
          | none => rw [el] at z; cases z
          | some d =>
            rw [el] at z
            cases z
            obtain ⟨pa, Ca, dx, fv, rfl, _, e5, e6, e7, rf, hq⟩ := rep_ins R1 ea r1
            obtain ⟨_, w, l1, l2⟩ := relf_look rf (fun q h => (hq q h).1) el
            obtain ⟨q, hq1, hq2⟩ := lookup_in el
            refine ⟨pa, Ca, dx, fv, w, rfl, e5, e7, ?_, l1, kz m1 w H1 Go.refl R1 l2⟩
            rw [← hq2]; exact (hq q hq1).2
        · cases z
      · cases z⟩
    exact ⟨hp, pt_plain hp fun _ => rfl⟩
  | .lc sc' e' t s ts, sc, X, e, G, S, ok, h => by
    obtain ⟨x, tg, it, ifs, scope, p, rfl, L⟩ := inv_lc h
    have ok' : (((okI sc N s = true ∧ okLc sc N sc' t = true) ∧ okE sc' N e' = true) ∧ okEs sc' N ts = true) ∧ exsLen ts < 2 := by simpa [okE] using ok
    have hp : PE X (.ListComp x [⟨tg, it, ifs, 0⟩] scope p) (tI P cl X.K X.mg (.lc sc' e' t s ts)) := ⟨fun pins s0 σ H Q I ⟨m, σl, h, R, Sl, g⟩ => by
      have ih := pis_of s (tg := tg) G S ok'.1.1.1.1 L.s
      have okt : okT sc' N t = true := by have := ok'.1.1.1.2; simp only [okLc, Bool.and_eq_true] at this; exact this.1.1.1.1.1.1
      have C := fun s H C cl' fp => lc_ctx (scope := scope) G ok'.1.1.1.2 L.names s H C cl' fp
      have hv : ((tgSl t).map fun i => (nmS (N.getD i 0), i)).map (·.2) = tgSl t := by rw [List.map_map]; exact List.map_id _
      have pl := pe_lc (te := tI P cl X.K X.mg e') (tt := tTsI P cl X.K X.mg ts) (g := gI X.K X.mg (tgSl t) t) (own := (tgSl t).map fun i => (nmS (N.getD i 0), i)) (pos := p) G.calm G.nd ih.1 (lc_blk G S ok'.1.1.1.2 L.kind L.names) (fun s H Cx cl' fp => pg_of (ws := tgSl t) t (C s H Cx cl' fp).1 (C s H Cx cl' fp).2 okt L.t fun _ h => h)
        (fun s H Cx cl' fp => pts_of ts (C s H Cx cl' fp).1 (C s H Cx cl' fp).2 ok'.1.2 ok'.2 L.ts) (fun s H Cx cl' fp => (pe_of e' (C s H Cx cl' fp).1 (C s H Cx cl' fp).2 ok'.1.1.2 L.e).1) (fun z => ih.2 _ _)
      rw [hv] at pl
      refine pl.run pins s0 σ H Q I ?_
      obtain ⟨dr, hr, z, kz⟩ := g
      have z : ((evIs P cl s σl h).bind fun p => (lcL (tgA t) (evTs P cl ts) (evE P cl e') p.2.1 p.1 (FK.wipe σl (tgSl t)) [] p.1 p.2.2).bind fun q => alloc q.2 (.lst q.1)) = some (dr, hr) := z
      cases q1 : evIs P cl s σl h with
      | none => rw [q1] at z; cases z
      | some p1 =>
        obtain ⟨xs, gg, h1⟩ := p1
        rw [q1] at z
        simp only [Option.bind_some] at z
        cases q2 : lcL (tgA t) (evTs P cl ts) (evE P cl e') gg xs (FK.wipe σl (tgSl t)) [] xs h1 with
        | none => rw [q2] at z; cases z
        | some p2 =>
          obtain ⟨ys, hf⟩ := p2
          rw [q2] at z
          cases z
          refine ⟨m, σl, h, xs, gg, h1, R, Sl, q1, fun m1 H1 J g1 R1 j => ?_⟩
          refine lc_run R1 (g1.slots R Sl) j (stays_of s q1) q2 fun D m2 H2 vs hD g2 R2 no eD rys => ?_
          obtain ⟨m3, g3, R3, em, _⟩ := go_adopt R2 g2 hD no (o := .lst ys) rfl fun m' l => ⟨vs, eD, RelDs.mono (fun _ _ z => z) l rys⟩
          exact kz m3 (.ref D) H2 (g1.trans g3) R3 ⟨D, rfl, em⟩⟩
    exact ⟨hp, pt_plain hp fun _ => rfl⟩
  | .lcb f sc' e' t s ts, sc, X, e, G, S, ok, h => by
    obtain ⟨p1, x, tg, it, ifs, scope, p2, p, rfl, L⟩ := inv_lcb h
    have ok1 : (((((isGlo sc (cBf f) = true ∧ okI sc N s = true) ∧ okLc sc N sc' t = true) ∧ okE sc' N e' = true) ∧ okEs sc' N ts = true) ∧ exsLen ts < 2) := by
      simp only [okE, Bool.and_eq_true, decide_eq_true_eq] at ok; exact ok.1
    have hg : Gl X (bfS f) := by rw [bf_nm]; exact glo_name S ok1.1.1.1.1.1
    have hp : PE X (.Call (.Name (bfS f) p1) [.ListComp x [⟨tg, it, ifs, 0⟩] scope p2] [] p) (tI P cl X.K X.mg (.lcb f sc' e' t s ts)) := ⟨fun pins s0 σ H Q I ⟨m, σl, h, R, Sl, g⟩ => by
      have ih := pis_of s (tg := tg) G S ok1.1.1.1.1.2 L.s
      have okt : okT sc' N t = true := by have := ok1.1.1.1.2; simp only [okLc, Bool.and_eq_true] at this; exact this.1.1.1.1.1.1
      have C := fun s H C cl' fp => lc_ctx (scope := scope) G ok1.1.1.1.2 L.names s H C cl' fp
      have hv : ((tgSl t).map fun i => (nmS (N.getD i 0), i)).map (·.2) = tgSl t := by rw [List.map_map]; exact List.map_id _
      have pl := pe_lc (te := tI P cl X.K X.mg e') (tt := tTsI P cl X.K X.mg ts) (g := gI X.K X.mg (tgSl t) t) (own := (tgSl t).map fun i => (nmS (N.getD i 0), i)) (pos := p2) G.calm G.nd ih.1 (lc_blk G S ok1.1.1.1.2 L.kind L.names) (fun s H Cx cl' fp => pg_of (ws := tgSl t) t (C s H Cx cl' fp).1 (C s H Cx cl' fp).2 okt L.t fun _ h => h)
        (fun s H Cx cl' fp => pts_of ts (C s H Cx cl' fp).1 (C s H Cx cl' fp).2 ok1.1.2 ok1.2 L.ts) (fun s H Cx cl' fp => (pe_of e' (C s H Cx cl' fp).1 (C s H Cx cl' fp).2 ok1.1.1.2 L.e).1) (fun z => ih.2 _ _)
      rw [hv] at pl
      obtain ⟨dr, hr, z, kz⟩ := g
      have z : ((evIs P cl s σl h).bind fun p => (lcL (tgA t) (evTs P cl ts) (evE P cl e') p.2.1 p.1 (FK.wipe σl (tgSl t)) [] p.1 p.2.2).bind fun q => (lcbF f q.1).map fun d => (d, q.2)) = some (dr, hr) := z
      cases q1 : evIs P cl s σl h with
      | none => rw [q1] at z; cases z
      | some w1 =>
        obtain ⟨xs, gg, h1⟩ := w1
        rw [q1] at z
        simp only [Option.bind_some] at z
        cases q2 : lcL (tgA t) (evTs P cl ts) (evE P cl e') gg xs (FK.wipe σl (tgSl t)) [] xs h1 with
        | none => rw [q2] at z; cases z
        | some w2 =>
          obtain ⟨ys, hf⟩ := w2
          rw [q2] at z
          simp only [Option.bind_some] at z
          have fin : tLc (iI P cl X.K X.mg s) (gI X.K X.mg (tgSl t) t) (tTsI P cl X.K X.mg ts) (tI P cl X.K X.mg e') (tgSl t) σ H (fun v H2 => rLb X f [v] H2 Q) := by
            refine ⟨m, σl, h, xs, gg, h1, R, Sl, q1, fun m1 H1 J g1 R1 j => ?_⟩
            refine lc_run (Q := fun v H2 => rLb X f [v] H2 Q) R1 (g1.slots R Sl) j (stays_of s q1) q2 fun D m2 H2 vs hD g2 R2 no eD rys => ?_
            exact ⟨m2, hf, D, ys, vs, rfl, eD, R2, rys, dr, hr, z, fun m3 v H3 g3 R3 r3 => kz m3 v H3 ((g1.trans g2).trans g3) R3 r3⟩
          have ty : ∀ T, bfV f = .type T → wpAny (model X.prog X.w) X.A (eval (.Call (.Name (bfS f) p1) [.ListComp x [⟨tg, it, ifs, 0⟩] scope p2] [] p) X.env) (EP X pins σ Q) X.xe s0 := fun T e => by
            have c : CallR X (.type T) (rLb X f) := by rw [← e]; exact op_lcb G.calm f
            exact (pe_callTy c hg (G.G.blt f) (by rw [bf_boot, e]) (pa_cons pl pa_nil) (bf_name f) (bf_dbg f) rfl rfl).run pins s0 σ H Q I fin
          have bl : ∀ T, bfV f = .builtin T → wpAny (model X.prog X.w) X.A (eval (.Call (.Name (bfS f) p1) [.ListComp x [⟨tg, it, ifs, 0⟩] scope p2] [] p) X.env) (EP X pins σ Q) X.xe s0 := fun T e => by
            have c : CallR X (.builtin T) (rLb X f) := by rw [← e]; exact op_lcb G.calm f
            exact (pe_callB c hg (G.G.blt f) (by rw [bf_boot, e]) (pa_cons pl pa_nil) (bf_name f) (bf_dbg f) rfl rfl).run pins s0 σ H Q I fin
          cases f <;> first | exact ty _ rfl | exact bl _ rfl⟩
    exact ⟨hp, pt_plain hp fun _ => rfl⟩
theorem pas_of : ∀ (es' : Exs) {sc : Scp} {X : Cx} {es : List Expr}, XG P AD cl N X → ScOk sc X → okEs sc N es' = true → reEs N es' es = es → PA X es (tIs P cl X.K X.mg es') ∧ ∀ pos, es' ≠ .nil → PE X (.BoolOp .And es pos) (tAndI P cl X.K X.mg es') ∧ PW X (.BoolOp .And es pos) (tAndT' P cl X.K X.mg es') ∧ PE X (.BoolOp .Or es pos) (tOrI P cl X.K X.mg es') ∧ PW X (.BoolOp .Or es pos) (tOrT' P cl X.K X.mg es')
  | .nil, sc, X, e, G, S, ok, h => by
    rw [inv_nil h]
    exact ⟨⟨fun pos pins s σ H Q I ⟨m, σl, h, ds, h', R, Sl, e1, k⟩ => by
      cases e1
      exact pa_nil.run pos pins s σ H Q I (k m [] H Go.refl R rfl)⟩, fun _ z => absurd rfl z⟩
  | .cons e' es', sc, X, e, G, S, ok, h => by
    obtain ⟨x, xs, rfl, h1, h2⟩ := inv_cons h
    have ok' : okE sc N e' = true ∧ okEs sc N es' = true := by simpa [okEs] using ok
    have i1 := pe_of e' G S ok'.1 h1
    have i2 := pas_of es' G S ok'.2 h2
    refine ⟨⟨fun pos pins s σ H Q I ⟨m, σl, h, ds, h', R, Sl, e1, k⟩ => ?_⟩, fun pos _ => bool_of h2 i1.1 i1.2 (i2.2 pos)⟩
    refine (pa_cons i1.1 i2.1 ((pln_of h1).star _ _)).run pos pins s σ H Q I ?_
    have e1 : ((evE P cl e' σl h).bind fun p => (evEs P cl es' σl p.2).bind fun q => some (p.1 :: q.1, q.2)) = some (ds, h') := e1
    cases q1 : evE P cl e' σl h with
    | none => rw [q1] at e1; cases e1
    | some p1 =>
      obtain ⟨d1, h1⟩ := p1
      rw [q1] at e1
      cases q2 : evEs P cl es' σl h1 with
      | none => simp [q2] at e1
      | some p2 =>
        obtain ⟨ds2, h2⟩ := p2
        simp [q2] at e1
        obtain ⟨rfl, rfl⟩ := e1
        exact ⟨m, σl, h, R, Sl, d1, h1, q1, fun m1 x H1 g1 R1 r1 => ⟨m1, σl, h1, ds2, h2, R1, g1.slots R Sl, q2, fun m2 vs H2 g2 R2 r2 => k m2 _ H2 (g1.trans g2) R2 ⟨x, vs, rfl, g2.rel R1 r1, r2⟩⟩⟩
theorem pis_of : ∀ (s : Is) {sc : Scp} {X : Cx} {tg e : Expr}, XG P AD cl N X → ScOk sc X → okI sc N s = true → reI N s e = e → PI X tg e (iI P cl X.K X.mg s) ∧ ∀ env x, foldedSetIterable e env x = pure x
  | .ex e', sc, X, tg, e, G, S, ok, h => by
    have h : reE N e' e = e := h
    have i1 := (pe_of e' G S ok h).1
    refine ⟨⟨fun pins s σ H R I ⟨m, σl, h, xs, g, h', Rp, Sl, e1, k⟩ => ?_⟩, (pln_of h).fold⟩
    have e1 : ((evE P cl e' σl h).bind fun p => (walkOf p.1 p.2).map fun w => (w.1, w.2, p.2)) = some (xs, g, h') := e1
    cases q : evE P cl e' σl h with
    | none => rw [q] at e1; cases e1
    | some p =>
      obtain ⟨d, h1⟩ := p
      rw [q] at e1
      simp only [Option.bind_some] at e1
      cases q2 : walkOf d h1 with
      | none => rw [q2] at e1; cases e1
      | some w =>
        rw [q2] at e1
        simp only [Option.map_some] at e1
        cases e1
        unfold walkOf at q2
        split at q2
        · rename_i ys
          cases q2
          refine (pi_tup i1).run pins s σ H R I ⟨m, σl, h, Rp, Sl, .tup ys, _, q, fun m1 x H1 g1 R1 r1 => ?_⟩
          obtain ⟨a, vs, rfl, k1, k2⟩ := r1
          exact ⟨a, rfl, ⟨vs, k1.sq⟩, k m1 H1 _ g1 R1 (.inl ⟨a, vs, rfl, k1, k2, rfl⟩)⟩
        · rename_i b
          split at q2
          · rename_i kvs e3
            cases q2
            refine (pi_D i1).run pins s σ H R I ⟨m, σl, h, Rp, Sl, .ref b, _, q, fun m1 x H1 g1 R1 r1 => ?_⟩
            obtain ⟨p, rfl, em⟩ := r1
            obtain ⟨p', ep, ys, o, hp, hs, rk, nd, hl⟩ := R1.obj b _ e3
            rw [em] at ep; cases ep
            exact ⟨p, o, ys, rfl, hp, hs, k m1 H1 _ g1 R1 (.inr (.inr (.inr (.inr ⟨p, o, ys, kvs, rfl, hp, rk, rfl, rfl⟩))))⟩
          cases q3 : seqOf (.ref b) h' with
          | none => rw [q3] at q2; cases q2
          | some ys =>
            rw [q3] at q2
            cases q2
            refine (pi_list i1).run pins s σ H R I ⟨m, σl, h, Rp, Sl, .ref b, _, q, fun m1 x H1 g1 R1 r1 => ?_⟩
            obtain ⟨a, vs, rfl, em, k1, k2⟩ := rep_seq R1 q3 r1
            exact ⟨a, rfl, ⟨vs, k1⟩, k m1 H1 _ g1 R1 (.inr (.inl ⟨b, a, rfl, rfl, em⟩))⟩
        · rename_i z
          split at q2
          · cases q2
            refine (pi_str i1).run pins s σ H R I ⟨m, σl, h, Rp, Sl, .str z, _, q, fun m1 x H1 g1 R1 r1 => ?_⟩
            cases (r1 : _ = _)
            exact ⟨_, rfl, k m1 H1 _ g1 R1 (.inr (.inr (.inr (.inl ⟨z, rfl, rfl, rfl⟩))))⟩
          · cases q2
        · cases q2
  | .rng es, sc, X, tg, e, G, S, ok, h => by
    have ok' : isGlo sc 30806881253 = true ∧ okEs sc N es = true := by simpa [okI] using ok
    obtain ⟨p1, l, p, rfl, h1⟩ : ∃ p1 l p, e = .Call (.Name "range" p1) l [] p ∧ reEs N es l = l := by
      cases e with
      | Call g l ks p =>
        cases g with
        | Name x p1 =>
          injection h with h1 h2 h3
          exact ⟨p1, l, p, by rw [← h1, ← h3], h2⟩
        | _ => cases h
      | _ => cases h
    have ih := (pas_of es G S ok'.2 h1).1
    have pl := plns_of h1
    have hg : Gl X "range" := by rw [n_range]; exact glo_name S ok'.1
    refine ⟨⟨fun pins s σ H R I ⟨m, σl, h, xs, g, h', Rp, Sl, e1, k⟩ => ?_⟩, fun _ _ => rfl⟩
    have e1 : ((evEs P cl es σl h).bind fun p => (rngOf p.1).map fun xs => (xs, none, p.2)) = some (xs, g, h') := e1
    cases q : evEs P cl es σl h with
    | none => rw [q] at e1; cases e1
    | some p =>
      obtain ⟨ds, h1⟩ := p
      rw [q] at e1
      simp only [Option.bind_some] at e1
      cases q2 : rngOf ds with
      | none => rw [q2] at e1; cases e1
      | some ys =>
        rw [q2] at e1
        simp only [Option.map_some] at e1
        cases e1
        have hl : l.length = ds.length := by rw [reEs_len h1, evEs_len q]
        unfold rngOf at q2
        split at q2
        · rename_i n
          · obtain ⟨hb, q2⟩ := cIf_some q2
            cases q2
            obtain ⟨a, rfl⟩ : ∃ a, l = [a] := by
              cases l with
              | nil => cases hl
              | cons a r => cases r with
                | nil => exact ⟨a, rfl⟩
                | cons b r => simp at hl
            refine (pi_range1 hg G.G.blt2.1 ih ((pl a List.mem_cons_self).star _ _)).run pins s σ H R I ⟨m, σl, _, [.int n], _, Rp, Sl, q, fun m1 vs H1 g1 R1 r1 => ?_⟩
            obtain ⟨v, rfl, rv⟩ := rels1 r1
            cases (rv : _ = _)
            exact ⟨n, rfl, hb.1, hb.2, k m1 H1 _ g1 R1 (.inr (.inr (.inl ⟨0, n.toNat, rfl, by simp, rfl⟩)))⟩
        · rename_i n n2
          · obtain ⟨hb, q2⟩ := cIf_some q2
            cases q2
            obtain ⟨a, b, rfl⟩ : ∃ a b, l = [a, b] := by
              cases l with
              | nil => cases hl
              | cons a r => cases r with
                | nil => simp at hl
                | cons b r => cases r with
                  | nil => exact ⟨a, b, rfl⟩
                  | cons c r => simp at hl
            refine (pi_range2 hg G.G.blt2.1 ih ?_ ((pl b (by simp)).star _ _)).run pins s σ H R I ⟨m, σl, _, [.int n, .int n2], _, Rp, Sl, q, fun m1 vs H1 g1 R1 r1 => ?_⟩
            · rw [(pl a List.mem_cons_self).star, (pl b (by simp)).star]; rfl
            obtain ⟨v, w, rfl, rv, rw'⟩ := r1
            obtain ⟨v2, rfl, rv2⟩ := rels1 rw'
            cases (rv : _ = _)
            cases (rv2 : _ = _)
            exact ⟨n, n2, rfl, ⟨hb.1.1, hb.1.2, hb.2.1, hb.2.2⟩, k m1 H1 _ g1 R1 (.inr (.inr (.inl ⟨n, (n2 - n).toNat, rfl, rfl, rfl⟩)))⟩
        · cases q2
  | .zip a b, sc, X, tg, e, G, S, ok, h => by cases ok
  | .rev a, sc, X, tg, e, G, S, ok, h => by cases ok
theorem pts_of : ∀ (ts : Exs) {sc : Scp} {X : Cx} {ifs : List Expr}, XG P AD cl N X → ScOk sc X → okEs sc N ts = true → exsLen ts < 2 → reEs N ts ifs = ifs → PTs X ifs (tTsI P cl X.K X.mg ts)
  | .nil, sc, X, ifs, G, S, ok, hl, h => by
    rw [inv_nil h]
    exact ⟨fun pins s σ H Q I ⟨m, σl, h, b, h', R, Sl, e, k⟩ => by
      cases e
      exact pts_nil.run pins s σ H Q I (k m H Go.refl R)⟩
  | .cons c .nil, sc, X, ifs, G, S, ok, hl, h => by
    obtain ⟨x, xs, rfl, h1, h2⟩ := inv_cons h
    rw [inv_nil h2]
    have ok' : okE sc N c = true ∧ okEs sc N .nil = true := by simpa [okEs] using ok
    have i1 := (pe_of c G S ok'.1 h1).2
    exact ⟨fun pins s σ H Q I ⟨m, σl, h, b, h', R, Sl, e, k⟩ => by
      refine (pts_one i1).run pins s σ H Q I ?_
      have e : ((evE P cl c σl h).bind fun p => (truth p.1 p.2).bind fun b => if b then evTs P cl .nil σl p.2 else some (false, p.2)) = some (b, h') := e
      cases q : evE P cl c σl h with
      | none => rw [q] at e; cases e
      | some p =>
        obtain ⟨d, h1⟩ := p
        rw [q] at e
        simp only [Option.bind_some] at e
        cases q2 : truth d h1 with
        | none => rw [q2] at e; cases e
        | some b' =>
          rw [q2] at e
          simp only [Option.bind_some] at e
          refine ⟨m, σl, h, R, Sl, d, h1, b', q, q2, fun m1 H1 g1 R1 => ?_⟩
          cases b' with
          | true => cases e; exact k m1 H1 g1 R1
          | false => cases e; exact k m1 H1 g1 R1⟩
  | .cons c (.cons c2 r), sc, X, ifs, G, S, ok, hl, h => by simp only [exsLen] at hl; omega
end
end
end FK

end
section
set_option maxRecDepth 100000
set_option maxHeartbeats 4000000
/-! Fk6: the evaluator's answers are the machine's: statements. -/
namespace FK
open PySem PySem.Spec PyProof.Rows L2

section
variable (P : Pr) (cl : Nat → List D → LH → Option (D × LH)) (K : PySem.W.Frag) (mg : Str → Option Value)
def GoS (m : MM) (h : LH) (H : Hp) (r : Option (Fl × Lc × LH)) (E : Ends) : Prop := ∃ fl σl' h', r = some (fl, σl', h') ∧ match fl with
  | .nx => ∀ m' σ' H', Go m h H m' h' H' → Rep K mg m' h' H' → SRel K mg m' H' σl' σ' → E.nx σ' H'
  | .bk => ∀ m' σ' H', Go m h H m' h' H' → Rep K mg m' h' H' → SRel K mg m' H' σl' σ' → E.bk σ' H'
  | .rt d => ∀ m' v H', Go m h H m' h' H' → Rep K mg m' h' H' → RelD K mg m' H' d v → E.rt v H'
def tS (s : Sm) : TS := fun E σ H => ∃ m σl h, Rep K mg m h H ∧ SRel K mg m H σl σ ∧ GoS K mg m h H (evS P cl s σl h) E
def tSs (s : Sms) : TS := fun E σ H => ∃ m σl h, Rep K mg m h H ∧ SRel K mg m H σl σ ∧ GoS K mg m h H (evSs P cl s σl h) E
end

/-! ### checks -/
def isTup : Ex → Bool
  | .tup _ => true
  | _ => false
def isLcE : Ex → Bool
  | .lc _ _ _ _ _ => true
  | _ => false
/-- the slot is a cell -/
def isCelN (sc : Scp) (N : List Nat) (i : Nat) : Bool := match N[i]? with
  | some x => decide (x < 128 ^ 64) && match sc.lookup x with
    | some .cel => true
    | _ => false
  | none => false
def isLocN (sc : Scp) (N : List Nat) (i : Nat) : Bool := match N[i]? with
  | some x => decide (x < 128 ^ 64) && match sc.lookup x with
    | some .loc => true
    | _ => false
  | none => false
def lcTg (sc : Scp) (N : List Nat) : Tg → Bool
  | .nm i => isCelN sc N i
  | _ => false
/-- a comprehension that has no own name as slot i has it -/
def okAsl (sc : Scp) (N : List Nat) (i : Nat) : Ex → Bool
  | .lc sc' e t s ts => isLocN sc N i && okE sc N (.lc sc' e t s ts) && sc'.all fun q => match q.2 with
    | .loc => decide (q.1 ≠ N.getD i 0)
    | .cel => decide (q.1 ≠ N.getD i 0)
    | _ => true
  | _ => false
def isNm : Tg → Bool
  | .nm _ => true
  | _ => false
mutual
def okS (sc : Scp) (N : List Nat) : Sm → Bool
  | .asg t e => okT sc N t && okE sc N e && (isNm t || !isTup e) && (!isLcE e || lcTg sc N t)
  | .asl i e => okAsl sc N i e
  | .six o i e => okE sc N o && okE sc N i && okE sc N e
  | .sfl o _ e => okE sc N o && okE sc N e
  | .aug i o e => isLoc sc N i && okE sc N e && match o with
    | .add => true
    | .sub => true
    | _ => false
  | .augf o _ b e => okE sc N o && okE sc N e && match b with
    | .add => true
    | .sub => true
    | _ => false
  | .exp e => okE sc N e && !isLcE e
  | .ret e => okE sc N e
  | .brk => true
  | .pas => true
  | .ife c a b => okE sc N c && okSs sc N a && okSs sc N b
  | .whl c b => okE sc N c && okSs sc N b
  | .fr t s b => okT sc N t && okI sc N s && okSs sc N b
  | .del o i => okE sc N o && okE sc N i
  | .lck _ s => okS sc N s
  | .stk => true
def okSs (sc : Scp) (N : List Nat) : Sms → Bool
  | .nil => true
  | .cons s ss => okS sc N s && okSs sc N ss
end

section
variable {P : Pr} {AD : Nat → Option Addr} {cl : Nat → List D → LH → Option (D × LH)} {N : List Nat} {X : Cx} {sc : Scp}
/-! ### statements -/
theorem nolc_of {e' : Ex} {e : Expr} (h : reE N e' e = e) (ok : isLcE e' = false) : ∀ t l env, swapsWith e t l env = pure false := by
  cases e with
  | ListComp x g s p => cases e' <;> first | (cases h; done) | (cases ok; done)
  | SetComp x g s p => cases e' <;> cases h
  | DictComp x y g s p => cases e' <;> cases h
  | _ => exact fun _ _ _ => rfl
theorem sw_attr {e a : Expr} {f : Str} {p : Pos} {l : Nat} {env : Env} : swapsWith e (some (.Attribute a f p)) l env = pure false := by cases e <;> rfl
theorem sw_sub {e a b : Expr} {p : Pos} {l : Nat} {env : Env} : swapsWith e (some (.Subscript a b p)) l env = pure false := by cases e <;> rfl
theorem sw_cell {e : Expr} {y : Str} {p : Pos} {l : Nat} {env : Env} (h : env.kindOf y = some .cell) : swapsWith e (some (.Name y p)) l env = pure false := by
  have h1 : (env.kindOf y == some NameKind.local) = false := by rw [h]; rfl
  cases e <;> first | rfl | skip
  all_goals
    unfold swapsWith
    simp only [h1, Bool.and_false, Bool.false_and]
    done
theorem cel_name (G : XG P AD cl N X) (S : ScOk sc X) {i : Nat} (h : isCelN sc N i = true) : X.env.kindOf (nmS (N.getD i 0)) = some .cell := by
  unfold isCelN at h
  cases e : N[i]? with
  | none => rw [e] at h; cases h
  | some x =>
    rw [e] at h
    simp only [Bool.and_eq_true] at h
    have ex : N.getD i 0 = x := by simp [List.getD, e]
    rw [ex]
    cases q : sc.lookup x with
    | none => rw [q] at h; cases h.2
    | some k =>
      rw [q] at h
      cases k with
      | cel =>
        rcases (S x .cel q).1 with z | ⟨z, _⟩
        · exact z
        · cases z
      | _ => cases h.2
theorem locN_name (G : XG P AD cl N X) (S : ScOk sc X) {i : Nat} (h : isLocN sc N i = true) : X.N[i]? = some (nmS (N.getD i 0)) ∧ N.getD i 0 < 128 ^ 64 ∧ X.env.scope.names.lookup (nmS (N.getD i 0)) = some .local := by
  unfold isLocN at h
  cases e : N[i]? with
  | none => rw [e] at h; cases h
  | some x =>
    rw [e] at h
    simp only [Bool.and_eq_true, decide_eq_true_eq] at h
    have ex : N.getD i 0 = x := by simp [List.getD, e]
    rw [ex]
    refine ⟨by rw [G.N, List.getElem?_map, e]; rfl, h.1, ?_⟩
    cases q : sc.lookup x with
    | none => rw [q] at h; cases h.2
    | some k =>
      rw [q] at h
      cases k with
      | loc =>
        rcases (S x .loc q).1 with z | ⟨z, _⟩
        · exact z
        · cases z
      | _ => cases h.2
theorem notup_of {e' : Ex} {e : Expr} (h : reE N e' e = e) (ok : isTup e' = false) : ∀ l k p env, swappedStores [.Tuple l k p] e env = pure none := by
  cases e with
  | Tuple x g s => cases e' <;> first | (cases h; done) | (cases ok; done)
  | _ => exact fun _ _ _ _ => rfl

theorem GoS.seq {m : MM} {h : LH} {H : Hp} {r : Option (D × LH)} {f : D × LH → Option (Fl × Lc × LH)} {E : Ends} (g : GoS X.K X.mg m h H (r.bind f) E) : ∃ d1 h1, r = some (d1, h1) ∧ ∀ m1 H1, Go m h H m1 h1 H1 → GoS X.K X.mg m1 h1 H1 (f (d1, h1)) E := by
  obtain ⟨fl, σ', h', e, k⟩ := g
  cases r with
  | none => cases e
  | some p =>
    obtain ⟨d1, h1⟩ := p
    refine ⟨d1, h1, rfl, fun m1 H1 g1 => ⟨fl, σ', h', e, ?_⟩⟩
    cases fl with
    | nx => exact fun m' σ' H' g2 R2 S2 => k m' σ' H' (g1.trans g2) R2 S2
    | bk => exact fun m' σ' H' g2 R2 S2 => k m' σ' H' (g1.trans g2) R2 S2
    | rt d => exact fun m' v H' g2 R2 r2 => k m' v H' (g1.trans g2) R2 r2
theorem GoS.back {m m1 : MM} {h h1 : LH} {H H1 : Hp} {r : Option (Fl × Lc × LH)} {E : Ends} (g : GoS X.K X.mg m h H r E) (g1 : Go m h H m1 h1 H1) : GoS X.K X.mg m1 h1 H1 r E := by
  obtain ⟨fl, σ', h', e, k⟩ := g
  refine ⟨fl, σ', h', e, ?_⟩
  cases fl with
  | nx => exact fun m' σ' H' g2 R2 S2 => k m' σ' H' (g1.trans g2) R2 S2
  | bk => exact fun m' σ' H' g2 R2 S2 => k m' σ' H' (g1.trans g2) R2 S2
  | rt d => exact fun m' v H' g2 R2 r2 => k m' v H' (g1.trans g2) R2 r2
/-- what follows a part of a statement -/
theorem GoS.then {m : MM} {h : LH} {H : Hp} {r : Option (Fl × Lc × LH)} {f : Lc → LH → Option (Fl × Lc × LH)} {E : Ends}
    (g : GoS X.K X.mg m h H (r.bind fun p => match p with | (.nx, σ1, h1) => f σ1 h1 | (.bk, σ1, h1) => some (.bk, σ1, h1) | (.rt d, σ1, h1) => some (.rt d, σ1, h1)) E) {N : L2.St → Hp → Prop}
    (hN : ∀ m' σ1 h1 σ' H', r = some (.nx, σ1, h1) → Go m h H m' h1 H' → Rep X.K X.mg m' h1 H' → SRel X.K X.mg m' H' σ1 σ' → GoS X.K X.mg m' h1 H' (f σ1 h1) E → N σ' H') : GoS X.K X.mg m h H r { E with nx := N } := by
  obtain ⟨fl, σ', h', e, k⟩ := g
  cases r with
  | none => cases e
  | some p =>
    obtain ⟨fl1, σ1, h1⟩ := p
    cases fl1 with
    | nx => exact ⟨.nx, σ1, h1, rfl, fun m' σ'' H' g1 R1 S1 => hN m' σ1 h1 σ'' H' rfl g1 R1 S1 (GoS.back ⟨fl, σ', h', e, k⟩ g1)⟩
    | bk => cases e; exact ⟨.bk, _, _, rfl, k⟩
    | rt d => cases e; exact ⟨.rt d, _, _, rfl, k⟩

theorem ts_of {c : Ex} {σl : Lc} {h : LH} {f : Bool × LH → Option (Fl × Lc × LH)} {m : MM} {H : Hp} {E : Ends} {σ : L2.St} {Q : Bool → Hp → Prop} (R : Rep X.K X.mg m h H) (Sl : SRel X.K X.mg m H σl σ)
    (g : GoS X.K X.mg m h H ((tsE P cl c σl h).bind f) E) (k : ∀ b h1 m1 H1, tsE P cl c σl h = some (b, h1) → Go m h H m1 h1 H1 → Rep X.K X.mg m1 h1 H1 → SRel X.K X.mg m1 H1 σl σ → GoS X.K X.mg m1 h1 H1 (f (b, h1)) E → Q b H1) : tT P cl X.K X.mg c σ H Q := by
  have g0 := g
  obtain ⟨fl, σ', h', e, _⟩ := g
  unfold tsE at e
  cases q : evE P cl c σl h with
  | none => rw [q] at e; cases e
  | some p =>
    obtain ⟨d, h1⟩ := p
    rw [q] at e
    simp only [Option.bind_some] at e
    cases q2 : truth d h1 with
    | none => rw [q2] at e; cases e
    | some b =>
      have et : tsE P cl c σl h = some (b, h1) := by unfold tsE; rw [q]; simp [q2]
      refine ⟨m, σl, h, R, Sl, d, h1, b, q, q2, fun m1 H1 g1 R1 => k b h1 m1 H1 et g1 R1 (g1.slots R Sl) ?_⟩
      rw [et] at g0
      exact GoS.back g0 g1

/-- a for loop's turns -/
theorem for_run {t : Tg} {body : Sms} {g : Option Nat} {xs : List D} {m1 : MM} {h1 : LH} {H1 : Hp} {σl : Lc} {σ : L2.St} {J : It} {E : Ends} {tb : TS} (hb : ∀ E σ H, tSs P cl X.K X.mg body E σ H → tb E σ H)
    (R1 : Rep X.K X.mg m1 h1 H1) (Sl : SRel X.K X.mg m1 H1 σl σ) (j : JRel X.K X.mg m1 H1 xs g J) (st : stays g xs h1) (gs : GoS X.K X.mg m1 h1 H1 (forL (tgA t) (evSs P cl body) g xs xs σl h1) E) :
    ∃ W : Nat → Nat → L2.St → Hp → Prop, (∃ m, W 0 m σ H1) ∧ ∀ i m σ H, W i m σ H →
      (J.stop i H ∧ E.nx σ H) ∨ (J.go i H ∧ ∃ Nx : L2.St → Hp → Prop, (∀ σ' H', Nx σ' H' → ∃ m', m' < m ∧ W (i + 1) m' σ' H') ∧ ∀ x H', J.yld i H x H' → gI X.K X.mg (tgSl t) t x σ H' fun σ2 H2 => tb { E with nx := Nx, ct := Nx, bk := E.nx } σ2 H2) := by
  refine ⟨fun i n σ H => ∃ mm σm hh, n = xs.length - i ∧ i ≤ xs.length ∧ Rep X.K X.mg mm hh H ∧ SRel X.K X.mg mm H σm σ ∧ Go m1 h1 H1 mm hh H ∧ stays g xs hh ∧ GoS X.K X.mg mm hh H (forL (tgA t) (evSs P cl body) g xs (xs.drop i) σm hh) E,
    ⟨xs.length, m1, σl, h1, by omega, Nat.zero_le _, R1, Sl, Go.refl, st, by simpa using gs⟩, ?_⟩
  rintro i n σ H ⟨mm, σm, hh, rfl, hi, R, S, go, st, gs⟩
  by_cases hlt : i < xs.length
  · obtain ⟨x, hx⟩ : ∃ x, xs[i]? = some x := ⟨xs[i], by simp [hlt]⟩
    have hd : xs.drop i = x :: xs.drop (i + 1) := by
      have := List.getElem_cons_drop hlt
      rw [← this]
      congr 1
      rw [List.getElem?_eq_getElem hlt] at hx
      exact Option.some.inj hx
    rw [hd] at gs
    obtain ⟨j1, j2⟩ := jrel_go R1 R go j st hx
    refine .inr ⟨j1, fun σ' H' => ∃ mm σm hh, i + 1 ≤ xs.length ∧ Rep X.K X.mg mm hh H' ∧ SRel X.K X.mg mm H' σm σ' ∧ Go m1 h1 H1 mm hh H' ∧ stays g xs hh ∧ GoS X.K X.mg mm hh H' (forL (tgA t) (evSs P cl body) g xs (xs.drop (i + 1)) σm hh) E, fun σ' H' ⟨a, b, c, e, f⟩ => ⟨xs.length - (i + 1), by omega, a, b, c, rfl, e, f⟩, fun v H' y => ?_⟩
    obtain ⟨rfl, rv⟩ := j2 v H' y
    have gs' := gs
    obtain ⟨fl, σf, hf, e, kf⟩ := gs
    unfold forL at e
    cases q : tgA t x σm with
    | none => rw [q] at e; cases e
    | some σ1 =>
      rw [q] at e
      simp only [Option.bind_some] at e
      refine ⟨mm, hh, σm, x, σ1, R, S, rv, q, fun σ2 S2 _ => hb _ _ _ ⟨mm, σ1, hh, R, S2, ?_⟩⟩
      cases q2 : evSs P cl body σ1 hh with
      | none => rw [q2] at e; cases e
      | some p =>
        obtain ⟨fl1, σ3, h3⟩ := p
        rw [q2] at e
        simp only [Option.bind_some] at e
        cases fl1 with
        | nx =>
          simp only at e
          split at e
          · rename_i hst
            refine ⟨.nx, σ3, h3, rfl, fun m' σ' H' g2 R2 S2 => ⟨m', σ3, h3, hlt, R2, S2, go.trans g2, hst, GoS.back ⟨fl, σf, hf, e, kf⟩ g2⟩⟩
          · cases e
        | bk => cases e; exact ⟨.bk, _, _, rfl, kf⟩
        | rt d => cases e; exact ⟨.rt d, _, _, rfl, kf⟩
  · have hi' : i = xs.length := by omega
    subst hi'
    refine .inl ⟨jrel_stop R1 R go j st, ?_⟩
    rw [List.drop_length] at gs
    obtain ⟨fl, σf, hf, e, kf⟩ := gs
    cases e
    exact kf mm σ H Go.refl R S

theorem while_run {c : Ex} {body : Sms} {m1 : MM} {h1 : LH} {H1 : Hp} {σl : Lc} {σ : L2.St} {E : Ends} {tb : TS} (hb : ∀ E σ H, tSs P cl X.K X.mg body E σ H → tb E σ H)
    (R1 : Rep X.K X.mg m1 h1 H1) (Sl : SRel X.K X.mg m1 H1 σl σ) (gs : GoS X.K X.mg m1 h1 H1 (iter (whlF (tsE P cl c) (evSs P cl body)) (σl, h1)) E) : tWhile (tT P cl X.K X.mg c) tb E σ H1 := by
  obtain ⟨fl, σf, hf, e, kf⟩ := gs
  obtain ⟨n0, e0⟩ := iter_some.mp e
  refine ⟨fun n σ H => ∃ mm σm hh, Rep X.K X.mg mm hh H ∧ SRel X.K X.mg mm H σm σ ∧ Go m1 h1 H1 mm hh H ∧ iterN (whlF (tsE P cl c) (evSs P cl body)) n (σm, hh) = some (fl, σf, hf), ⟨n0, m1, σl, h1, R1, Sl, Go.refl, e0⟩, ?_⟩
  rintro n σ H ⟨mm, σm, hh, R, S, go, en⟩
  have fin : ∀ {m2 : MM} {h2 : LH} {H2 : Hp}, Go mm hh H m2 h2 H2 → GoS X.K X.mg m2 h2 H2 (some (fl, σf, hf)) E := fun {m2 h2 H2} g2 => GoS.back ⟨fl, σf, hf, rfl, kf⟩ (go.trans g2)
  cases n with
  | zero => simp [iterN] at en
  | succ n =>
    unfold iterN at en
    have gs : GoS X.K X.mg mm hh H ((tsE P cl c σm hh).bind fun _ => some (fl, σf, hf)) E := by
      cases q : tsE P cl c σm hh with
      | none =>
        have : whlF (tsE P cl c) (evSs P cl body) (σm, hh) = none := by unfold whlF; rw [q]; rfl
        rw [this] at en; cases en
      | some p => exact fin Go.refl
    refine ts_of R S gs fun b h2 m2 H2 et g2 R2 S2 _ => ?_
    unfold whlF at en
    simp only [et, Option.bind_some] at en
    cases b with
    | false =>
      simp only [Bool.false_eq_true, if_false] at en
      rw [if_neg Bool.false_ne_true]
      cases en
      exact kf m2 σ H2 (go.trans g2) R2 S2
    | true =>
      simp only [if_true] at en
      rw [if_pos rfl]
      refine ⟨fun σ' H' => ∃ mm σm hh, Rep X.K X.mg mm hh H' ∧ SRel X.K X.mg mm H' σm σ' ∧ Go m1 h1 H1 mm hh H' ∧ iterN (whlF (tsE P cl c) (evSs P cl body)) n (σm, hh) = some (fl, σf, hf), fun σ' H' q => ⟨n, Nat.lt_succ_self n, q⟩, hb _ _ _ ⟨m2, σm, h2, R2, S2, ?_⟩⟩
      cases q2 : evSs P cl body σm h2 with
      | none => rw [q2] at en; cases en
      | some p =>
        obtain ⟨fl1, σ3, h3⟩ := p
        rw [q2] at en
        simp only [Option.bind_some] at en
        cases fl1 with
        | nx => exact ⟨.nx, σ3, h3, rfl, fun m' σ' H' g3 R3 S3 => ⟨m', σ3, h3, R3, S3, (go.trans g2).trans g3, en⟩⟩
        | bk => cases en; exact ⟨.bk, _, _, rfl, fun m' σ' H' g3 R3 S3 => kf m' σ' H' ((go.trans g2).trans g3) R3 S3⟩
        | rt d => cases en; exact ⟨.rt d, _, _, rfl, fun m' v H' g3 R3 r3 => kf m' v H' ((go.trans g2).trans g3) R3 r3⟩

theorem assign_sub {e' : Ex} {o i : Expr} {pos : Pos} {env : Env} (h : reE N e' i = i) : ∀ v, assign (.Subscript o i pos) env v = (do
      let ov ← holding [v] (eval o env)
      let iv ← holding [v, ov] (eval i env)
      standAt pos
      holding [v, ov, iv] (setItem ov iv v)
      release [v, ov, iv] []) := by
  cases i with
  | Slice l u s p => cases e' <;> cases h
  | _ => intro v; rfl

mutual
theorem ps_of : ∀ (s' : Sm) {sc : Scp} {X : Cx} {s : Stmt}, XG P AD cl N X → ScOk sc X → (X.xe = fun _ _ => False) → okS sc N s' = true → reS N s' s = s → PS X s (tS P cl X.K X.mg s')
  | .asg t e, sc, X, s, G, S, xe, ok, h => by
    obtain ⟨tg, v, p, rfl, h1, h2⟩ : ∃ tg v p, s = .Assign [tg] v p ∧ reT N t tg = tg ∧ reE N e v = v := by
      cases s with
      | Assign ts v p =>
        cases ts with
        | nil => cases h
        | cons tg r => injection h with h1 h2; injection h1 with h1 h3; exact ⟨tg, v, p, by rw [← h3], h1, h2⟩
      | _ => cases h
    have ok0 : ((okT sc N t = true ∧ okE sc N e = true) ∧ (isNm t = true ∨ isTup e = false)) ∧ (isLcE e = false ∨ lcTg sc N t = true) := by simpa [okS] using ok
    have ok' := ok0.1
    have hsw : swapsWithSole [tg] v p.line X.env = pure false := by
      show swapsWith v (some tg) p.line X.env = _
      rcases ok0.2 with hl | hl
      · exact nolc_of h2 hl _ _ _
      · cases t with
        | nm i =>
          obtain ⟨q, rfl⟩ : ∃ q, tg = .Name (nmS (N.getD i 0)) q := by
            cases tg with
            | Name x q => exact ⟨q, h1.symm⟩
            | _ => cases h1
          exact sw_cell (cel_name G S hl)
        | tp ts => cases hl
    have i1 := (pe_of e G S ok'.1.2 h2).1
    have i2 := pg_of (ws := tgSl t) t G S ok'.1.1 h1 (fun _ h => h)
    have hw : swappedStores [tg] v X.env = pure none := by
      cases t with
      | nm i => cases tg <;> first | rfl | cases h1
      | tp ts =>
        cases tg <;> first | (cases h1; done) | skip
        rename_i l k q
        exact notup_of h2 (ok'.2.elim (fun z => nomatch z) id) _ _ _ _
    have h3 : (assignEach [tg] X.env).map (·.2) = [assign tg X.env] := by
      cases t with
      | nm i => cases tg <;> first | rfl | cases h1
      | tp ts => cases tg <;> first | rfl | cases h1
    refine ⟨fun pins s σ H E I ⟨m, σl, h, R, Sl, g⟩ => (ps_asg i1 i2 hsw hw h3).run pins s σ H E I ?_⟩
    obtain ⟨fl, σl', h', e1, k⟩ := g
    have e1 : ((evE P cl e σl h).bind fun p => (tgA t p.1 σl).map fun σ1 => (Fl.nx, σ1, p.2)) = some (fl, σl', h') := e1
    cases q : evE P cl e σl h with
    | none => rw [q] at e1; cases e1
    | some p =>
      obtain ⟨d, h1⟩ := p
      rw [q] at e1
      simp only [Option.bind_some] at e1
      cases q2 : tgA t d σl with
      | none => rw [q2] at e1; cases e1
      | some σ1 =>
        rw [q2] at e1
        cases e1
        exact ⟨m, σl, h, R, Sl, d, _, q, fun m1 x H1 g1 R1 r1 => ⟨m1, _, σl, d, σl', R1, g1.slots R Sl, r1, q2, fun σ' S' _ => k m1 σ' H1 g1 R1 S'⟩⟩
  | .six o i e, sc, X, s, G, S, xe, ok, h => by
    obtain ⟨a, b, p1, v, p, rfl, h1, h2, h3⟩ : ∃ a b p1 v p, s = .Assign [.Subscript a b p1] v p ∧ reE N o a = a ∧ reE N i b = b ∧ reE N e v = v := by
      cases s with
      | Assign ts v p =>
        cases ts with
        | nil => cases h
        | cons tg r =>
          cases tg with
          | Subscript a b p1 => injection h with h1 h2; injection h1 with h1 h3; injection h1 with h1 h4; exact ⟨a, b, p1, v, p, by rw [← h3], h1, h4, h2⟩
          | _ => cases h
      | _ => cases h
    have ok' : (okE sc N o = true ∧ okE sc N i = true) ∧ okE sc N e = true := by simpa [okS] using ok
    have i1 := (pe_of e G S ok'.2 h3).1
    have i2 := (pe_of o G S ok'.1.1 h1).1
    have i3 := (pe_of i G S ok'.1.2 h2).1
    have h2' := h2
    refine ⟨fun pins s σ H E I ⟨m, σl, h, R, Sl, g⟩ => ?_⟩
    obtain ⟨d, h1, e1, k1⟩ := GoS.seq (r := evE P cl e σl h) g
    obtain ⟨fl, σl', h', e4, k⟩ := id g
    have e4 : ((evE P cl e σl h).bind fun p => (evE P cl o σl p.2).bind fun q => (evE P cl i σl q.2).bind fun r =>
      match q.1 with
      | .ref a => match r.2[a]? with
        | some (.lst xs) => match r.1 with
          | .int k => (FK.ixN xs.length k).map fun j => (Fl.nx, σl, setLst r.2 a (xs.set j p.1))
          | _ => none
        | some (.dic kvs) => if keyOk r.1 ∧ kvs.length < SZ then some (.nx, σl, setDic r.2 a (dPut kvs r.1 p.1)) else none
        | _ => none
      | _ => none) = some (fl, σl', h') := e4
    rw [e1] at e4
    simp only [Option.bind_some] at e4
    cases e2 : evE P cl o σl h1 with
    | none => rw [e2] at e4; cases e4
    | some p2 =>
      obtain ⟨d2, h2⟩ := p2
      rw [e2] at e4
      simp only [Option.bind_some] at e4
      cases e3 : evE P cl i σl h2 with
      | none => rw [e3] at e4; cases e4
      | some p3 =>
        obtain ⟨d3, h3⟩ := p3
        rw [e3] at e4
        simp only [Option.bind_some] at e4
        have start : ∀ {tset : TSet}, PSet X tset → (∀ m3 x y z H3, Go m h H m3 h3 H3 → Rep X.K X.mg m3 h3 H3 → RelD X.K X.mg m3 H3 d x → RelD X.K X.mg m3 H3 d2 y → RelD X.K X.mg m3 H3 d3 z → tset y z x H3 (fun H4 => E.nx σ H4)) → wpAny (model X.prog X.w) X.A (exec (.Assign [.Subscript a b p1] v p) X.env) (SP X pins E) X.xe s := by
          intro tset hs hk
          refine (ps_asg i1 (pg_sub i2 i3 hs (assign_sub h2')) (show swapsWith v (some (.Subscript a b p1)) p.line X.env = pure false from sw_sub) rfl rfl).run pins s σ H E I ?_
          refine ⟨m, σl, h, R, Sl, d, h1, e1, fun m1 x H1 g1 R1 r1 => ?_⟩
          refine ⟨m1, σl, h1, R1, g1.slots R Sl, d2, h2, e2, fun m2 y H2 g2 R2 r2 => ?_⟩
          refine ⟨m2, σl, h2, R2, g2.slots R1 (g1.slots R Sl), d3, h3, e3, fun m3 z H3 g3 R3 r3 => ?_⟩
          exact hk m3 x y z H3 ((g1.trans g2).trans g3) R3 (g3.rel R2 (g2.rel R1 r1)) (g3.rel R2 r2) r3
        split at e4
        · rename_i a'
          split at e4
          · rename_i xs ea
            split at e4
            · rename_i kk
              cases q : FK.ixN xs.length kk with
              | none => rw [q] at e4; cases e4
              | some jx =>
                rw [q] at e4
                cases e4
                refine start set_list fun m3 x y z H3 g3 R3 r1 r2 r3 => ?_
                obtain ⟨pp, vs, rfl, em, k5, k6⟩ := rep_lst R3 ea r2
                cases (r3 : _ = _)
                obtain ⟨g4, R4⟩ := go_set R3 ea em (k6.set r1 jx)
                exact ⟨pp, vs, kk, jx, rfl, rfl, k5, by rw [← k6.len]; exact q, k m3 σ _ (g3.trans g4) R4 (g4.slots R3 (g3.slots R Sl))⟩
            · cases e4
          · rename_i kvs ea
            split at e4
            · rename_i hk
              cases e4
              refine start (set_dic G.hu) fun m3 x y z H3 g3 R3 r1 r2 r3 => ?_
              exact ⟨m3, _, a', kvs, _, d, R3, r2, r3, r1, ea, hk.1, hk.2, fun H4 g4 R4 => k m3 σ H4 (g3.trans g4) R4 (g4.slots R3 (g3.slots R Sl))⟩
            · cases e4
          · cases e4
        · cases e4
  | .asl i e, sc, X, s, G, S, xe, ok, h => by
    cases e with
    | lc sc' e' t it ts =>
      obtain ⟨p1, v, p, rfl, hl, h2⟩ : ∃ p1 v p, s = .Assign [.Name (nmS (N.getD i 0)) p1] v p ∧ (p1.line == v.pos.line) = true ∧ reE N (.lc sc' e' t it ts) v = v := by
        cases s with
        | Assign tgs v p =>
          cases tgs with
          | nil => cases h
          | cons tg r =>
            cases tg with
            | Name x p1 =>
              have h : (if (p1.line == v.pos.line) = true then Stmt.Assign [.Name (nmS (N.getD i 0)) p1] (reE N (.lc sc' e' t it ts) v) p else .Pass P0) = .Assign (.Name x p1 :: r) v p := h
              by_cases hl : (p1.line == v.pos.line) = true
              · rw [if_pos hl] at h
                injection h with h1 h2
                injection h1 with h1 h3
                injection h1 with h1
                exact ⟨p1, v, p, by rw [← h1, ← h3], hl, h2⟩
              · rw [if_neg hl] at h; cases h
            | _ => cases h
        | _ => cases h
      obtain ⟨x, tg, itx, ifs, scope, p2, rfl, L⟩ := inv_lc h2
      have ok0 : (isLocN sc N i = true ∧ okE sc N (.lc sc' e' t it ts) = true) ∧ (sc'.all fun q => match q.2 with | .loc => decide (q.1 ≠ N.getD i 0) | .cel => decide (q.1 ≠ N.getD i 0) | _ => true) = true := by
        have ok : okAsl sc N i (.lc sc' e' t it ts) = true := ok
        unfold okAsl at ok
        simp only [Bool.and_eq_true] at ok
        exact ok
      have ok' : (((okI sc N it = true ∧ okLc sc N sc' t = true) ∧ okE sc' N e' = true) ∧ okEs sc' N ts = true) ∧ exsLen ts < 2 := by simpa [okE] using ok0.1.2
      obtain ⟨n1, n2, n3⟩ := locN_name G S ok0.1.1
      have big' : ∀ q ∈ sc', q.1 < 128 ^ 64 := by
        have := ok'.1.1.1.2
        simp only [okLc, Bool.and_eq_true] at this
        exact fun q hq => of_decide_eq_true (List.all_eq_true.mp this.1.1.1.1.1.2 q hq)
      have ha : (scope.names.any fun (n, k) => n == nmS (N.getD i 0) && (k == .local || k == .cell)) = false := by
        rw [L.names, List.any_eq_false]
        intro y hy
        obtain ⟨q, hq, rfl⟩ := List.mem_map.mp hy
        have o := List.all_eq_true.mp ok0.2 q hq
        intro hc
        simp only [Bool.and_eq_true, Bool.or_eq_true, beq_iff_eq] at hc
        have e1 : q.1 = N.getD i 0 := nmS_inj (big' q hq) n2 hc.1
        obtain ⟨qx, qk⟩ := q
        cases qk with
        | loc => exact of_decide_eq_true o e1
        | cel => exact of_decide_eq_true o e1
        | fre => rcases hc.2 with z | z <;> cases z
        | glo => rcases hc.2 with z | z <;> cases z
      refine ⟨fun pins s0 σ H E I ⟨m, σl, h, R, Sl, g⟩ => ?_⟩
      have ih := pis_of it (tg := tg) G S ok'.1.1.1.1 L.s
      have okt : okT sc' N t = true := by have := ok'.1.1.1.2; simp only [okLc, Bool.and_eq_true] at this; exact this.1.1.1.1.1.1
      have C := fun s H C cl' fp => lc_ctx (scope := scope) G ok'.1.1.1.2 L.names s H C cl' fp
      have hv : ((tgSl t).map fun i => (nmS (N.getD i 0), i)).map (·.2) = tgSl t := by rw [List.map_map]; exact List.map_id _
      have pl := ps_setLc (te := tI P cl X.K X.mg e') (tt := tTsI P cl X.K X.mg ts) (g := gI X.K X.mg (tgSl t) t) (own := (tgSl t).map fun i => (nmS (N.getD i 0), i)) (pos := p2) (spos := p) (py := p1) G.calm G.nd n1 n3
        (sw_true I.ok.kind n3 hl ha) ih.1 (lc_blk G S ok'.1.1.1.2 L.kind L.names) (fun s H Cx cl' fp => pg_of (ws := tgSl t) t (C s H Cx cl' fp).1 (C s H Cx cl' fp).2 okt L.t fun _ h => h)
        (fun s H Cx cl' fp => pts_of ts (C s H Cx cl' fp).1 (C s H Cx cl' fp).2 ok'.1.2 ok'.2 L.ts) (fun s H Cx cl' fp => (pe_of e' (C s H Cx cl' fp).1 (C s H Cx cl' fp).2 ok'.1.1.2 L.e).1) (fun z => ih.2 _ _)
      rw [hv] at pl
      refine pl.run pins s0 σ H E I ?_
      obtain ⟨fl, σl', hr, z, kz⟩ := g
      have z : (((evIs P cl it σl h).bind fun p => (lcL (tgA t) (evTs P cl ts) (evE P cl e') p.2.1 p.1 (FK.wipe σl (tgSl t)) [] p.1 p.2.2).bind fun q => alloc q.2 (.lst q.1)).bind fun p => (setSl i p.1 σl).map fun σ1 => (Fl.nx, σ1, p.2)) = some (fl, σl', hr) := z
      cases q1 : evIs P cl it σl h with
      | none => rw [q1] at z; cases z
      | some w1 =>
        obtain ⟨xs, gg, h1⟩ := w1
        rw [q1] at z
        simp only [Option.bind_some] at z
        cases q2 : lcL (tgA t) (evTs P cl ts) (evE P cl e') gg xs (FK.wipe σl (tgSl t)) [] xs h1 with
        | none => rw [q2] at z; cases z
        | some w2 =>
          obtain ⟨ys, hf⟩ := w2
          rw [q2] at z
          simp only [Option.bind_some, alloc] at z
          unfold setSl at z
          split at z
          · cases z
            refine ⟨m, σl, h, xs, gg, h1, R, Sl, q1, fun m1 H1 J g1 R1 j => ?_⟩
            refine lc_run (Q := fun x H1 => gName i x σ H1 E.nx) R1 (g1.slots R Sl) j (stays_of it q1) q2 fun D m2 H2 vs hD g2 R2 no eD rys => ?_
            obtain ⟨m3, g3, R3, em, _⟩ := go_adopt R2 g2 hD no (o := .lst ys) rfl fun m' l => ⟨vs, eD, RelDs.mono (fun _ _ z => z) l rys⟩
            exact kz m3 _ H2 (g1.trans g3) R3 (SRel.set (d := .ref hf.length) ⟨D, rfl, em⟩ i (g3.slots R1 (g1.slots R Sl)))
          · cases z
    | _ => exact absurd ok (by simp [okS, okAsl])
  | .sfl o f e, sc, X, s, G, S, xe, ok, h => by
    obtain ⟨a, p1, v, p, rfl, h1, h2⟩ : ∃ a p1 v p, s = .Assign [.Attribute a (nmS f) p1] v p ∧ reE N o a = a ∧ reE N e v = v := by
      cases s with
      | Assign ts v p =>
        cases ts with
        | nil => cases h
        | cons tg r =>
          cases tg with
          | Attribute a x p1 => injection h with h1 h2; injection h1 with h1 h3; injection h1 with h1 h4; exact ⟨a, p1, v, p, by rw [← h3, ← h4], h1, h2⟩
          | _ => cases h
      | _ => cases h
    have ok' : okE sc N o = true ∧ okE sc N e = true := by simpa [okS] using ok
    have i1 := (pe_of o G S ok'.1 h1).1
    have i2 := (pe_of e G S ok'.2 h2).1
    refine ⟨fun pins s σ H E I ⟨m, σl, h, R, Sl, g⟩ => (ps_fld i1 i2 sw_attr).run pins s σ H E I ?_⟩
    obtain ⟨d, h1, e1, k1⟩ := GoS.seq (r := evE P cl e σl h) g
    refine ⟨m, σl, h, R, Sl, d, h1, e1, fun m1 x H1 g1 R1 r1 => ?_⟩
    obtain ⟨d2, h2, e2, k2⟩ := GoS.seq (r := evE P cl o σl h1) (k1 m1 H1 g1)
    refine ⟨m1, σl, h1, R1, g1.slots R Sl, d2, h2, e2, fun m2 y H2 g2 R2 r2 => ?_⟩
    obtain ⟨fl, σl', h', e4, k⟩ := k2 m2 H2 g2
    simp only at e4
    split at e4
    · rename_i a'
      split at e4
      · rename_i C fs ea
        split at e4
        · rename_i hf
          cases e4
          obtain ⟨pp, rfl, em⟩ := id r2
          obtain ⟨Ca, dx, fv, f1, f2, f3, f4, g3, R3⟩ := go_fld G.C R2 ea r2 (g2.rel R1 r1) hf.1
          exact ⟨pp, Ca, dx, fv, rfl, f1, f2, f3, by omega, k m2 σ _ g3 R3 (g3.slots R2 (g2.slots R1 (g1.slots R Sl)))⟩
        · cases e4
      · cases e4
    · cases e4
  | .aug i o e, sc, X, s, G, S, xe, ok, h => by
    obtain ⟨p1, v, p, rfl, h2⟩ : ∃ p1 v p, s = .AugAssign (.Name (nmS (N.getD i 0)) p1) (bopO o) v p ∧ reE N e v = v := by
      cases s with
      | AugAssign tg op v p =>
        cases tg with
        | Name x p1 => injection h with h1 h2 h3; exact ⟨p1, v, p, by rw [← h1, ← h2], h3⟩
        | _ => cases h
      | _ => cases h
    have ok1 : isLoc sc N i = true ∧ okE sc N e = true := by
      simp only [okS, Bool.and_eq_true] at ok; exact ok.1
    obtain ⟨x, n1, n2, n3, n4⟩ := loc_name G S ok1.1
    rw [n1]
    have i1 := (pe_of e G S ok1.2 h2).1
    have step : ∀ (f : Int → Int → Int), PIp X (bopO o) (ipI f) → (∀ a b h, binop o (.int a) (.int b) h = some (.int (f a b), h)) → PS X (.AugAssign (.Name (nmS x) p1) (bopO o) v p) (tS P cl X.K X.mg (.aug i o e)) := by
      intro f hp hf
      refine ⟨fun pins s σ H E I ⟨m, σl, h, R, Sl, g⟩ => (ps_aug (i := i) G.nd n2 n3 i1 hp n4).run pins s σ H E I ?_⟩
      obtain ⟨fl, σl', h', e1, k⟩ := g
      have e1 : (match σl[i]? with | some (some d) => (evE P cl e σl h).bind (fun p => (match d, p.1 with | .int x, .int y => (binop o (.int x) (.int y) p.2).bind fun q => (setSl i q.1 σl).map fun σ1 => (Fl.nx, σ1, q.2) | _, _ => none)) | _ => none) = some (fl, σl', h') := e1
      split at e1
      · rename_i d ed
        obtain ⟨w, w1, w2⟩ := Sl.get ed
        cases q : evE P cl e σl h with
        | none => rw [q] at e1; cases e1
        | some pp =>
          obtain ⟨d2, h2⟩ := pp
          rw [q] at e1
          simp only [Option.bind_some] at e1
          split at e1
          · rename_i a b
            rw [hf] at e1
            simp only [Option.bind_some] at e1
            unfold setSl at e1
            split at e1
            · cases e1
              cases (w2 : _ = _)
              refine ⟨_, w1, m, σl, h, R, Sl, _, _, q, fun m1 y H1 g1 R1 r1 => ?_⟩
              cases (r1 : _ = _)
              exact ⟨a, b, rfl, rfl, k m1 _ H1 g1 R1 (SRel.set (d := .int (f a b)) rfl i (g1.slots R Sl))⟩
            · cases e1
          · cases e1
      · cases e1
    cases o with
    | add => exact step _ ip_add (fun _ _ _ => rfl)
    | sub => exact step _ ip_sub (fun _ _ _ => rfl)
    | _ => simp [okS] at ok
  | .augf o f b e, sc, X, s, G, S, xe, ok, h => by
    obtain ⟨a, p1, v, p, rfl, h1, h2⟩ : ∃ a p1 v p, s = .AugAssign (.Attribute a (nmS f) p1) (bopO b) v p ∧ reE N o a = a ∧ reE N e v = v := by
      cases s with
      | AugAssign tg op v p =>
        cases tg with
        | Attribute a x p1 => injection h with h1 h2 h3; injection h1 with h1 h4; exact ⟨a, p1, v, p, by rw [← h4, ← h2], h1, h3⟩
        | _ => cases h
      | _ => cases h
    have ok' : okE sc N o = true ∧ okE sc N e = true := by
      simp only [okS, Bool.and_eq_true] at ok; exact ok.1
    have i1 := (pe_of o G S ok'.1 h1).1
    have i2 := (pe_of e G S ok'.2 h2).1
    have step : ∀ (F : Int → Int → Int), InOp X (bopO b) (fun x y H Q => ∃ i j, x = .int i ∧ y = .int j ∧ Q (.int (F i j)) H) → (∀ x y h, binop b (.int x) (.int y) h = some (.int (F x y), h)) → PS X (.AugAssign (.Attribute a (nmS f) p1) (bopO b) v p) (tS P cl X.K X.mg (.augf o f b e)) := by
      intro F hop hF
      refine ⟨fun pins s σ H E I ⟨m, σl, h, R, Sl, g⟩ => (ps_fldaug i1 i2 hop).run pins s σ H E I ?_⟩
      obtain ⟨d, h1, e1, k1⟩ := GoS.seq (r := evE P cl o σl h) g
      refine ⟨m, σl, h, R, Sl, d, h1, e1, fun m1 x H1 g1 R1 r1 => ?_⟩
      obtain ⟨fl, σl', h', e4, k⟩ := k1 m1 H1 g1
      simp only at e4
      split at e4
      · rename_i a'
        split at e4
        · rename_i C fs ea
          cases el : fs.lookup f with
          | none => rw [el] at e4; cases e4
          | some d0 =>
            rw [el] at e4
            simp only [Option.bind_some] at e4
            cases e2 : evE P cl e σl h1 with
            | none => rw [e2] at e4; cases e4
            | some p2 =>
              obtain ⟨d2, h2⟩ := p2
              rw [e2] at e4
              simp only [Option.bind_some] at e4
              split at e4
              · rename_i x0 y0
                rw [hF] at e4
                simp only [Option.bind_some] at e4
                split at e4
                · rename_i C' fs' ea'
                  split at e4
                  · rename_i hf
                    obtain ⟨rfl, hf⟩ := hf
                    cases e4
                    obtain ⟨pa, Ca, dx, fv, rfl, em, e5, e6, e7, rf, hq⟩ := rep_ins R1 ea r1
                    obtain ⟨_, w, l1, l2⟩ := relf_look rf (fun q h => (hq q h).1) el
                    obtain ⟨q, hq1, hq2⟩ := lookup_in el
                    cases (l2 : _ = _)
                    refine ⟨pa, Ca, dx, fv, .int x0, rfl, e5, e7, by rw [← hq2]; exact (hq q hq1).2, l1, m1, σl, h1, R1, g1.slots R Sl, _, h2, e2, fun m2 y H2 g2 R2 r2 => ?_⟩
                    cases (r2 : _ = _)
                    obtain ⟨Ca', dx', fv', f1, f2, f3, f4, g3, R3⟩ := go_fld (d := .int (F x0 y0)) (v := .int (F x0 y0)) G.C R2 ea' (g2.rel R1 r1) rfl hf.1
                    have : Ca' = Ca := by
                      obtain ⟨pb, Cb, dxb, fvb, eb, _, eb5, eb6, _⟩ := rep_ins R2 ea' (g2.rel R1 r1)
                      cases eb
                      rw [e6] at eb6; cases eb6
                      rw [f1] at eb5; cases eb5
                      rfl
                    subst this
                    exact ⟨x0, y0, rfl, rfl, dx', fv', f1, by omega, k m2 σ _ (g2.trans g3) R3 (g3.slots R2 (g2.slots R1 (g1.slots R Sl)))⟩
                  · cases e4
                · cases e4
              · cases e4
        · cases e4
      · cases e4
    cases b with
    | add => exact step (· + ·) in_add (fun _ _ _ => rfl)
    | sub => exact step (· - ·) in_sub (fun _ _ _ => rfl)
    | _ => simp [okS] at ok
  | .exp e, sc, X, s, G, S, xe, ok, h => by
    obtain ⟨v, p, rfl, h2⟩ : ∃ v p, s = .Expr v p ∧ reE N e v = v := by
      cases s with
      | Expr v p => injection h with h1; exact ⟨v, p, rfl, h1⟩
      | _ => cases h
    have ok' : okE sc N e = true ∧ isLcE e = false := by simpa [okS] using ok
    have i1 := (pe_of e G S ok'.1 h2).1
    refine ⟨fun pins s σ H E I ⟨m, σl, h, R, Sl, g⟩ => (ps_expr i1 (nolc_of h2 ok'.2 _ _ _)).run pins s σ H E I ?_⟩
    obtain ⟨fl, σl', h', e1, k⟩ := g
    have e1 : (evE P cl e σl h).map (fun p => (Fl.nx, σl, p.2)) = some (fl, σl', h') := e1
    cases q : evE P cl e σl h with
    | none => rw [q] at e1; cases e1
    | some p =>
      rw [q] at e1
      cases e1
      exact ⟨m, σl, h, R, Sl, p.1, p.2, q, fun m1 x H1 g1 R1 r1 => k m1 σ H1 g1 R1 (g1.slots R Sl)⟩
  | .ret e, sc, X, s, G, S, xe, ok, h => by
    cases s with
    | Return v p =>
      injection h with h1
      cases v with
      | none =>
        have e0 : e = .non := by cases e <;> first | rfl | cases h1
        subst e0
        refine ⟨fun pins s σ H E I ⟨m, σl, h, R, Sl, g⟩ => ps_retN.run pins s σ H E I ?_⟩
        obtain ⟨fl, σl', h', e1, k⟩ := g
        cases e1
        exact k m _ H Go.refl R rfl
      | some v =>
        injection h1 with h1
        have i1 := (pe_of e G S ok h1).1
        refine ⟨fun pins s σ H E I ⟨m, σl, h, R, Sl, g⟩ => (ps_ret i1).run pins s σ H E I ?_⟩
        obtain ⟨fl, σl', h', e1, k⟩ := g
        have e1 : (evE P cl e σl h).map (fun p => (Fl.rt p.1, σl, p.2)) = some (fl, σl', h') := e1
        cases q : evE P cl e σl h with
        | none => rw [q] at e1; cases e1
        | some p =>
          rw [q] at e1
          cases e1
          exact ⟨m, σl, h, R, Sl, p.1, p.2, q, fun m1 x H1 g1 R1 r1 => k m1 x H1 g1 R1 r1⟩
    | _ => cases h
  | .brk, sc, X, s, G, S, xe, ok, h => by
    cases s with
    | Break p =>
      refine ⟨fun pins s σ H E I ⟨m, σl, h, R, Sl, g⟩ => ps_break.run pins s σ H E I ?_⟩
      obtain ⟨fl, σl', h', e1, k⟩ := g
      cases e1
      exact k m _ H Go.refl R Sl
    | _ => cases h
  | .pas, sc, X, s, G, S, xe, ok, h => by
    cases s with
    | Pass p =>
      refine ⟨fun pins s σ H E I ⟨m, σl, h, R, Sl, g⟩ => ps_pass.run pins s σ H E I ?_⟩
      obtain ⟨fl, σl', h', e1, k⟩ := g
      cases e1
      exact k m _ H Go.refl R Sl
    | _ => cases h
  | .ife c a b, sc, X, s, G, S, xe, ok, h => by
    obtain ⟨t, x, y, p, rfl, h1, h2, h3⟩ : ∃ t x y p, s = .If t x y p ∧ reE N c t = t ∧ reSs N a x = x ∧ reSs N b y = y := by
      cases s with
      | If t x y p => injection h with h1 h2 h3; exact ⟨t, x, y, p, rfl, h1, h2, h3⟩
      | _ => cases h
    have ok' : (okE sc N c = true ∧ okSs sc N a = true) ∧ okSs sc N b = true := by simpa [okS] using ok
    have i1 := (pe_of c G S ok'.1.1 h1).2
    have i2 := pss_of a G S xe ok'.1.2 h2
    have i3 := pss_of b G S xe ok'.2 h3
    refine ⟨fun pins s σ H E I ⟨m, σl, h, R, Sl, g⟩ => (ps_if i1 i2 i3).run pins s σ H E I ?_⟩
    refine ts_of R Sl (f := fun p => if p.1 then evSs P cl a σl p.2 else evSs P cl b σl p.2) g fun bb h1 m1 H1 et g1 R1 S1 gs => ?_
    cases bb with
    | true => rw [if_pos rfl]; exact ⟨m1, σl, h1, R1, S1, gs⟩
    | false => rw [if_neg Bool.false_ne_true]; exact ⟨m1, σl, h1, R1, S1, gs⟩
  | .whl c b, sc, X, s, G, S, xe, ok, h => by
    obtain ⟨t, x, p, rfl, h1, h2⟩ : ∃ t x p, s = .While t x [] p ∧ reE N c t = t ∧ reSs N b x = x := by
      cases s with
      | While t x y p => injection h with h1 h2 h3; exact ⟨t, x, p, by rw [← h3], h1, h2⟩
      | _ => cases h
    have ok' : okE sc N c = true ∧ okSs sc N b = true := by simpa [okS] using ok
    have i1 := (pe_of c G S ok'.1 h1).2
    have i2 := pss_of b G S xe ok'.2 h2
    refine ⟨fun pins s σ H E I ⟨m, σl, h, R, Sl, g⟩ => (ps_while (by rw [xe]; exact PassesOwn.never) i1 i2).run pins s σ H E I ?_⟩
    exact while_run (fun _ _ _ q => q) R Sl g
  | .fr t it b, sc, X, s, G, S, xe, ok, h => by
    obtain ⟨tg, e, x, p, rfl, h1, h2, h3⟩ : ∃ tg e x p, s = .For tg e x [] p ∧ reT N t tg = tg ∧ reI N it e = e ∧ reSs N b x = x := by
      cases s with
      | For tg e x y p => injection h with h1 h2 h3 h4; exact ⟨tg, e, x, p, by rw [← h4], h1, h2, h3⟩
      | _ => cases h
    have ok' : (okT sc N t = true ∧ okI sc N it = true) ∧ okSs sc N b = true := by simpa [okS] using ok
    have i1 := pis_of it (tg := tg) G S ok'.1.2 h2
    have i2 := pg_of (ws := tgSl t) t G S ok'.1.1 h1 (fun _ h => h)
    have i3 := pss_of b G S xe ok'.2 h3
    refine ⟨fun pins s σ H E I ⟨m, σl, h, R, Sl, g⟩ => (ps_for (by rw [xe]; exact PassesOwn.never) G.calm i1.1 i2 i3 (i1.2 _)).run pins s σ H E I ?_⟩
    obtain ⟨fl, σl', h', e1, k⟩ := g
    have e1 : ((evIs P cl it σl h).bind fun p => forL (tgA t) (evSs P cl b) p.2.1 p.1 p.1 σl p.2.2) = some (fl, σl', h') := e1
    cases q : evIs P cl it σl h with
    | none => rw [q] at e1; cases e1
    | some pp =>
      obtain ⟨xs, gg, h1⟩ := pp
      rw [q] at e1
      simp only [Option.bind_some] at e1
      refine ⟨m, σl, h, xs, gg, h1, R, Sl, q, fun m1 H1 J g1 R1 j => ?_⟩
      exact for_run (fun _ _ _ q => q) R1 (g1.slots R Sl) j (stays_of it q) (GoS.back ⟨fl, σl', h', e1, k⟩ g1)
  | .del o i, sc, X, s, G, S, xe, ok, h => by
    obtain ⟨a, b, p1, p, rfl, h1, h2⟩ : ∃ a b p1 p, s = .Delete [.Subscript a b p1] p ∧ reE N o a = a ∧ reE N i b = b := by
      cases s with
      | Delete ts p =>
        cases ts with
        | nil => cases h
        | cons tg r =>
          cases tg with
          | Subscript a b p1 => injection h with h1 h2; injection h1 with h1 h3; injection h1 with h1 h4; exact ⟨a, b, p1, p, by rw [← h3], h1, h4⟩
          | _ => cases h
      | _ => cases h
    have ok' : okE sc N o = true ∧ okE sc N i = true := by simpa [okS] using ok
    have i1 := (pe_of o G S ok'.1 h1).1
    have i2 := (pe_of i G S ok'.2 h2).1
    refine ⟨fun pins s σ H E I ⟨m, σl, h, R, Sl, g⟩ => (ps_ddelE G.hu i1 i2).run pins s σ H E I ?_⟩
    obtain ⟨d, h1, e1, k1⟩ := GoS.seq (r := evE P cl o σl h) g
    refine ⟨m, σl, h, R, Sl, d, h1, e1, fun m1 x H1 g1 R1 r1 => ?_⟩
    obtain ⟨d2, h2, e2, k2⟩ := GoS.seq (r := evE P cl i σl h1) (k1 m1 H1 g1)
    refine ⟨m1, σl, h1, R1, g1.slots R Sl, d2, h2, e2, fun m2 y H2 g2 R2 r2 => ?_⟩
    obtain ⟨fl, σl', h', e4, k⟩ := k2 m2 H2 g2
    simp only at e4
    split at e4
    · rename_i a'
      split at e4
      · rename_i kvs ea
        split at e4
        · rename_i hk
          cases q : dLook kvs d2 with
          | none => rw [q] at e4; cases e4
          | some d3 =>
            rw [q] at e4
            cases e4
            exact ⟨m2, _, a', kvs, d2, d3, R2, g2.rel R1 r1, r2, ea, hk, q, fun H3 g3 R3 => k m2 σ H3 g3 R3 (g3.slots R2 (g2.slots R1 (g1.slots R Sl)))⟩
        · cases e4
      · cases e4
    · cases e4
  | .lck i s', sc, X, s, G, S, xe, ok, h => by
    have i1 := ps_of s' G S xe ok h
    refine ⟨fun pins s σ H E I ⟨m, σl, h, R, Sl, g⟩ => (ps_lock i1).run pins s σ H E I ?_⟩
    obtain ⟨fl, σl', h', e1, k⟩ := g
    have e1 : (match σl[i]? with
      | some (some (.ref a)) => match h[a]? with
        | some (.dic kvs) => (evS P cl s' σl (h.set a (.dlk kvs))).bind fun r => match r.2.2[a]? with
          | some (.dlk _) => some (r.1, r.2.1, setDic r.2.2 a kvs)
          | _ => none
        | _ => none
      | _ => none) = some (fl, σl', h') := e1
    split at e1
    · rename_i a ea0
      split at e1
      · rename_i kvs ea
        cases q : evS P cl s' σl (h.set a (.dlk kvs)) with
        | none => rw [q] at e1; cases e1
        | some r =>
          obtain ⟨fl1, σ1, h1⟩ := r
          rw [q] at e1
          simp only [Option.bind_some] at e1
          split at e1
          · rename_i ks ha
            cases e1
            obtain ⟨p, em, xs, e0, hs, rk, nd, hl⟩ := R.obj a _ ea
            refine ⟨p, _, e0, True.intro, fun od => ?_⟩
            obtain ⟨g1, R1⟩ := lock_in R od ea em hs rk nd hl
            refine ⟨m, σl, h.set a (.dlk kvs), R1, g1.slots R Sl, fl, σl', h1, q, ?_⟩
            cases fl with
            | nx =>
              intro m' σ' H' g R' S'
              obtain ⟨a1, a2, a3, a4⟩ := lock_out R od ea em hs rk nd hl g R' ha
              exact ⟨a1, k m' σ' _ a3 a4 (S'.mono a2 (fun _ _ e => e))⟩
            | bk =>
              intro m' σ' H' g R' S'
              obtain ⟨a1, a2, a3, a4⟩ := lock_out R od ea em hs rk nd hl g R' ha
              exact ⟨a1, k m' σ' _ a3 a4 (S'.mono a2 (fun _ _ e => e))⟩
            | rt d =>
              intro m' v H' g R' r
              obtain ⟨a1, a2, a3, a4⟩ := lock_out R od ea em hs rk nd hl g R' ha
              exact ⟨a1, k m' v _ a3 a4 (r.mono a2 (fun _ _ e => e))⟩
          · cases e1
      · cases e1
    · cases e1
  | .stk, sc, X, s, G, S, xe, ok, h => ⟨fun pins s σ H E I ⟨m, σl, h, R, Sl, fl, σl', h', z, _⟩ => nomatch z⟩
theorem pss_of : ∀ (s' : Sms) {sc : Scp} {X : Cx} {s : List Stmt}, XG P AD cl N X → ScOk sc X → (X.xe = fun _ _ => False) → okSs sc N s' = true → reSs N s' s = s → PSs X s (tSs P cl X.K X.mg s')
  | .nil, sc, X, s, G, S, xe, ok, h => by
    have : s = [] := h.symm
    subst this
    refine ⟨fun pins s σ H E I ⟨m, σl, h, R, Sl, g⟩ => pss_nil.run pins s σ H E I ?_⟩
    obtain ⟨fl, σl', h', e1, k⟩ := g
    cases e1
    exact k m _ H Go.refl R Sl
  | .cons s' ss', sc, X, s, G, S, xe, ok, h => by
    cases s with
    | nil => cases h
    | cons s ss =>
      injection h with h1 h2
      have ok' : okS sc N s' = true ∧ okSs sc N ss' = true := by simpa [okSs] using ok
      have i1 := ps_of s' G S xe ok'.1 h1
      have i2 := pss_of ss' G S xe ok'.2 h2
      refine ⟨fun pins s σ H E I ⟨m, σl, h, R, Sl, g⟩ => (pss_cons i1 i2).run pins s σ H E I ?_⟩
      exact ⟨m, σl, h, R, Sl, GoS.then (f := evSs P cl ss') g fun m' σ1 h1 σ' H' _ g1 R1 S1 gs => ⟨m', σ1, h1, R1, S1, gs⟩⟩
end
end
end FK

end
section
set_option maxRecDepth 100000
set_option maxHeartbeats 4000000
/-! Fk7: the defs of the text; a law's end. -/
namespace FK
open PySem PySem.Spec PyProof.Rows L2

/-! ### the module's names -/
def big : Nat := 128 ^ 64
def glEnts (K : PySem.W.Frag) : List DictEntry := match K.lookup mainGlobals with
  | some ⟨_, _, .dict es _, _⟩ => es.toList
  | _ => []
def reKeys : List Nat → List DictEntry → List DictEntry
  | x :: xs, e :: es => { e with key := match e.key with
      | .str _ t => .str (nmS x) t
      | _ => .str (nmS x) 0 } :: reKeys xs es
  | _, _ => []
def glV (K : PySem.W.Frag) (names : List Nat) : List (Nat × Value) := names.zip ((glEnts K).map (·.val))

theorem find_keys {y : Nat} (hy : y < big) : ∀ {names : List Nat} {es : List DictEntry}, (∀ x ∈ names, x < big) → reKeys names es = es →
    (match (names.zip (es.map (·.val))).lookup y with
      | some v => ∃ e, es.find? (fun e => e.key.isStr (nmS y)) = some e ∧ e.val = v
      | none => es.find? (fun e => e.key.isStr (nmS y)) = none) ∧ es.any (fun e => e.refKey) = false
  | _, [], _, _ => by
    cases ‹List Nat› <;> exact ⟨rfl, rfl⟩
  | [], e :: es, _, h => by cases h
  | x :: xs, e :: es, hn, h => by
    injection h with h1 h2
    obtain ⟨i1, i2⟩ := find_keys hy (fun z hz => hn z (List.mem_cons_of_mem _ hz)) h2
    obtain ⟨t, hk⟩ : ∃ t, e.key = .str (nmS x) t := by
      have h1' := congrArg DictEntry.key h1
      simp only at h1'
      cases q : e.key with
      | str s t => rw [q] at h1'; exact ⟨t, h1'.symm⟩
      | _ => rw [q] at h1'; cases h1'
    have nr : e.refKey = false := by unfold DictEntry.refKey; rw [hk]
    refine ⟨?_, by rw [List.any_cons, nr, i2]; rfl⟩
    have key : e.key.isStr (nmS y) = (y == x) := by
      rw [hk]
      show (nmS x == nmS y) = _
      rw [Bool.eq_iff_iff, beq_iff_eq, beq_iff_eq]
      exact ⟨fun z => (nmS_inj (hn x List.mem_cons_self) hy z).symm, fun z => by rw [z]⟩
    by_cases he : y = x
    · subst he
      have : (List.zip (y :: xs) ((e :: es).map (·.val))).lookup y = some e.val := by simp [List.lookup]
      rw [this]
      exact ⟨e, by simp [List.find?, key], rfl⟩
    · have e0 : (y == x) = false := by simpa using he
      have : (List.zip (x :: xs) ((e :: es).map (·.val))).lookup y = (List.zip xs (es.map (·.val))).lookup y := by simp [List.lookup, e0]
      rw [this]
      have f : (e :: es).find? (fun e => e.key.isStr (nmS y)) = es.find? (fun e => e.key.isStr (nmS y)) := by simp [List.find?, key, e0]
      rw [f]
      exact i1
theorem ns_of {K : PySem.W.Frag} {names : List Nat} (hn : ∀ x ∈ names, x < big) (hg : (K.lookup mainGlobals).isSome = true ∧ glEnts K ≠ []) (h : reKeys names (glEnts K) = glEnts K) {y : Nat} (hy : y < big) :
    PySem.W.nsIn K mainGlobals (nmS y) = some ((glV K names).lookup y) := by
  obtain ⟨i1, i2⟩ := find_keys hy hn h
  unfold PySem.W.nsIn
  unfold glV
  unfold glEnts at *
  rw [show List.lookup mainGlobals K = K.lookup mainGlobals from rfl]
  cases q : K.lookup mainGlobals with
  | none => rw [q] at hg; cases hg.1
  | some o =>
    obtain ⟨c, d, dat, sl⟩ := o
    rw [q] at i1 i2 hg
    cases dat with
    | dict es n =>
      simp only at i1 i2 ⊢
      cases q2 : (names.zip (es.toList.map (·.val))).lookup y with
      | none =>
        rw [q2] at i1
        simp only at i1
        rw [i1, i2]
        rfl
      | some v =>
        rw [q2] at i1
        obtain ⟨e, e1, e2⟩ := i1
        rw [e1, ← e2]
    | _ => exact absurd rfl hg.2

/-! ### the defs -/
def zipArgs : List Nat → List Arg → List Arg
  | p :: ps, a :: as => { arg := nmS p, annotation := none, pos := a.pos } :: zipArgs ps as
  | [], _ => []
  | _ :: _, [] => [{ arg := "", annotation := none, pos := P0 }]
def stmtsOf : FuncBody → List Stmt
  | .stmts b => b
  | _ => []
def Fn.ps (F : Fn) : List Nat := F.nm.take F.np
/-- the def x as the text has it -/
def reFd (x q : Nat) (F : Fn) (fd : FuncData) : FuncData :=
  { fd with
    name := nmS x
    qualname := nmS q
    params := { posonlyargs := [], args := zipArgs F.ps fd.params.args, vararg := none, kwonlyargs := [], kw_defaults := [], kwarg := none, defaults := [] }
    body := .stmts (reSs F.nm F.body (stmtsOf fd.body))
    scope := { fd.scope with kind := .function, names := scN F.sc, isGenerator := false, isCoroutine := false }
    globals := mainGlobals
    closure := []
    defaults := .none
    builtins := builtinsNs }
structure FObj where
  f : Addr
  oc : Value
  od : Option Addr
  fd : FuncData
  osl : Array (Option Value)
def fnObj (K : PySem.W.Frag) (gl : List (Nat × Value)) (x : Nat) : Option FObj := match gl.lookup x with
  | some (.ref f) => match K.lookup f with
    | some ⟨oc, od, .func fd, osl⟩ => some ⟨f, oc, od, fd, osl⟩
    | _ => none
  | _ => none
/-- the class C stands here -/
def clAdr (gl : List (Nat × Value)) (C : Nat) : Option Addr := match gl.lookup C with
  | some (.ref a) => some a
  | _ => none
/-- what the class has by the name -/
def clFind (K : PySem.W.Frag) (gl : List (Nat × Value)) (C : Nat) (x : Str) : Option (Option Value) := match clAdr gl C with
  | some a => PySem.W.findIn K (.ref a) x
  | none => none
/-- a method: its id, its class, its name, its qualified name -/
structure Mt where
  id : Nat
  C : Nat
  x : Nat
  q : Nat
  F : Fn
def mtObj (K : PySem.W.Frag) (gl : List (Nat × Value)) (C x : Nat) : Option FObj := match clFind K gl C (nmS x) with
  | some (some (.ref f)) => match K.lookup f with
    | some ⟨oc, od, .func fd, osl⟩ => some ⟨f, oc, od, fd, osl⟩
    | _ => none
  | _ => none
def cdName (K : PySem.W.Frag) (cd : Value) : Option Str := match cd with
  | .ref c => match K.lookup c with
    | some ⟨_, _, .fields vs, _⟩ => match vs.toList with
      | _ :: .str n _ :: _ => some n
      | _ => none
    | _ => none
  | _ => none
def chkFn (F : Fn) : Bool :=
  decide F.nm.Nodup && F.nm.all (fun x => decide (x < big)) && F.sc.all (fun p => decide (p.1 < big)) && decide (F.np ≤ F.nm.length) && okSs F.sc F.nm F.body &&
    F.dfs.isEmpty && F.ps.all (fun x => match F.sc.lookup x with | some .loc => true | some .cel => true | _ => false) && F.sc.all (fun p => match p.2 with | .fre => false | _ => true)
def tellFn (K : PySem.W.Frag) (gl : List (Nat × Value)) (p : Nat × Fn) : Option (FuncData × Option Str) := (fnObj K gl p.1).map fun o => (o.fd, cdName K o.fd.code)
def wantFn (K : PySem.W.Frag) (gl : List (Nat × Value)) (p : Nat × Fn) : Option (FuncData × Option Str) := (fnObj K gl p.1).map fun o => (reFd p.1 p.1 p.2 o.fd, some (nmS p.1))
def tellMt (K : PySem.W.Frag) (gl : List (Nat × Value)) (p : Mt) : Option (FuncData × Option Str) := (mtObj K gl p.C p.x).map fun o => (o.fd, cdName K o.fd.code)
def wantMt (K : PySem.W.Frag) (gl : List (Nat × Value)) (p : Mt) : Option (FuncData × Option Str) := (mtObj K gl p.C p.x).map fun o => (reFd p.x p.q p.F o.fd, some (nmS p.q))

theorem lookup_scN {sc : Scp} (h : ∀ p ∈ sc, p.1 < big) {x : Nat} (hx : x < big) : (scN sc).lookup (nmS x) = (sc.lookup x).map nkK := by
  induction sc with
  | nil => rfl
  | cons p r ih =>
    obtain ⟨y, k⟩ := p
    have hy := h (y, k) List.mem_cons_self
    have ih := ih fun p hp => h p (List.mem_cons_of_mem _ hp)
    show List.lookup (nmS x) ((nmS y, nkK k) :: scN r) = _
    by_cases e : x = y
    · subst e; simp [List.lookup]
    · have e1 : (x == y) = false := by simpa using e
      have e2 : (nmS x == nmS y) = false := by
        rw [beq_eq_false_iff_ne]
        exact fun z => e (nmS_inj hx hy z)
      simp only [List.lookup, e1, e2]
      exact ih
/-- what is known of the def x -/
structure FnAt (K : PySem.W.Frag) (x q : Nat) (F : Fn) (f : Addr) (fd : FuncData) (st : Stmt) : Prop where
  fn : Fun K (nmS x) (nmS q) st f fd
  dfs : F.dfs = []
  S : FnScope (F.nm.map nmS) (F.ps.map nmS) (defScope st)
  body : reSs F.nm F.body (defBody st) = defBody st
  ok : okSs F.sc F.nm F.body = true
  scs : (defScope st).names = scN F.sc ∧ (∀ p ∈ F.sc, p.1 < big)
  barg : ∀ us : List Value, us.length = (F.ps.map nmS).length → bindArgs fd ⟨us, []⟩ = pure ((F.ps.map nmS).zip us)
  np : F.ps.length = F.np

theorem zip_args_bind {ps : List Nat} {as : List Arg} (h : zipArgs ps as = as) : as.map (·.arg) = ps.map nmS := by
  induction ps generalizing as with
  | nil =>
    have : as = [] := h.symm
    subst this; rfl
  | cons p ps ih =>
    cases as with
    | nil => cases h
    | cons a as =>
      injection h with h1 h2
      rw [List.map_cons, List.map_cons, ih h2, ← h1]
theorem zip_lookup {ps : List Str} (nd : ps.Nodup) : ∀ {us : List Value}, us.length = ps.length → ∀ x ∈ ps, ((ps.zip us).lookup x).isSome = true := by
  intro us hl x hx
  induction ps generalizing us with
  | nil => cases hx
  | cons p ps ih =>
    cases us with
    | nil => cases hl
    | cons u us =>
      simp only [List.zip_cons_cons, List.lookup]
      by_cases e : x = p
      · subst e; simp
      · have : (x == p) = false := by simpa using e
        rw [this]
        rcases List.mem_cons.mp hx with z | z
        · exact absurd z e
        · exact ih (List.nodup_cons.mp nd).2 (by simpa using hl) z
theorem zip_filterMap : ∀ {ps : List Str} {us : List Value}, ps.Nodup → us.length = ps.length → ps.filterMap (fun n => ((ps.zip us).lookup n).map (n, ·)) = ps.zip us
  | [], us, _, hl => by simp
  | p :: ps, [], _, hl => by cases hl
  | p :: ps, u :: us, nd, hl => by
    have ih := zip_filterMap (ps := ps) (us := us) (List.nodup_cons.mp nd).2 (by simpa using hl)
    simp only [List.zip_cons_cons, List.filterMap_cons, List.lookup, beq_self_eq_true, Option.map_some]
    congr 1
    refine Eq.trans ?_ ih
    have key : ∀ l : List Str, (∀ n ∈ l, n ≠ p) → l.filterMap (fun n => (match n == p with | true => some u | false => (ps.zip us).lookup n).map fun x => (n, x)) = l.filterMap (fun n => ((ps.zip us).lookup n).map (n, ·)) := by
      intro l hl
      induction l with
      | nil => rfl
      | cons a l ih =>
        have ne : (a == p) = false := by simpa using hl a List.mem_cons_self
        rw [List.filterMap_cons, List.filterMap_cons, ne, ih fun n hn => hl n (List.mem_cons_of_mem _ hn)]
    exact key ps fun n hn e => (List.nodup_cons.mp nd).1 (e ▸ hn)
theorem binds_gen {fd : FuncData} {as : List Arg} (hp : fd.params = { posonlyargs := [], args := as, vararg := none, kwonlyargs := [], kw_defaults := [], kwarg := none, defaults := [] }) (hd : fd.defaults = .none)
    (nd : (as.map (·.arg)).Nodup) (us : List Value) (hl : us.length = as.length) : bindArgs fd ⟨us, []⟩ = pure ((as.map (·.arg)).zip us) := by
  unfold bindArgs
  rw [hp, hd]
  have hs : seqItems? Value.none = pure none := rfl
  rw [hs]
  have e1 : ((as.map (·.arg)).take (List.length (as.map (·.arg)))).filter (fun n => (((as.map (·.arg)).zip us).lookup n).isNone) = [] := by
    rw [List.filter_eq_nil_iff]
    intro x hx
    have := zip_lookup nd (us := us) (by simpa using hl) x (List.mem_of_mem_take hx)
    cases q : ((as.map (·.arg)).zip us).lookup x with
    | none => rw [q] at this; cases this
    | some v => simp
  simp [hl]
  have e2 : (List.take ((List.map (fun x => x.arg) ([] : List Arg) ++ List.map (fun x => x.arg) as).length - (List.drop ((#[] : Array Value).size - (List.map (fun x => x.arg) ([] : List Arg) ++ List.map (fun x => x.arg) as).length) ([] : List Value)).length)
      (List.map (fun x => x.arg) ([] : List Arg) ++ List.map (fun x => x.arg) as)) = List.take (List.map (fun x => x.arg) as).length (List.map (fun x => x.arg) as) := by simp
  split
  · rename_i h
    exfalso
    rw [e2, e1] at h
    simp at h
  · congr 1
    have := zip_filterMap (ps := as.map (·.arg)) (us := us) nd (by simpa using hl)
    rw [List.filterMap_map] at this
    exact this

/-- the def x stands as told -/
theorem fnAt_of {K : PySem.W.Frag} {x xq : Nat} {F : Fn} {f : Addr} {oc : Value} {od : Option Addr} {fd : FuncData} {osl : Array (Option Value)} (q2 : K.lookup f = some ⟨oc, od, .func fd, osl⟩) (h1 : fd = reFd x xq F fd) (h2 : cdName K fd.code = some (nmS xq)) (hc : chkFn F = true) :
    ∃ st, FnAt K x xq F f fd st := by
          unfold chkFn at hc
          simp only [Bool.and_eq_true, decide_eq_true_eq, List.all_eq_true] at hc
          obtain ⟨⟨⟨⟨⟨⟨⟨c1, c2⟩, c3⟩, c4⟩, c5⟩, c0⟩, c6⟩, c7⟩ := hc
          -- the def's parts
          have e_name : fd.name = nmS x := congrArg FuncData.name h1
          have e_qual : fd.qualname = nmS xq := congrArg FuncData.qualname h1
          have e_body : fd.body = .stmts (reSs F.nm F.body (stmtsOf fd.body)) := congrArg FuncData.body h1
          have e_scope : fd.scope = { fd.scope with kind := .function, names := scN F.sc, isGenerator := false, isCoroutine := false } := congrArg FuncData.scope h1
          have e_par : fd.params = { posonlyargs := [], args := zipArgs F.ps fd.params.args, vararg := none, kwonlyargs := [], kw_defaults := [], kwarg := none, defaults := [] } := congrArg FuncData.params h1
          have e_glob : fd.globals = mainGlobals := congrArg FuncData.globals h1
          have e_clo : fd.closure = [] := congrArg FuncData.closure h1
          have e_def : fd.defaults = .none := congrArg FuncData.defaults h1
          have e_blt : fd.builtins = builtinsNs := congrArg FuncData.builtins h1
          let st : Stmt := .FunctionDef (nmS x) fd.params (stmtsOf fd.body) [] none [] fd.scope none (nmS x) P0
          have hbody : reSs F.nm F.body (stmtsOf fd.body) = stmtsOf fd.body := by
            have := congrArg stmtsOf e_body
            exact this.symm
          have hfd : fd = PySem.W.fnOf (nmS x) (nmS xq) (defArgs st) (defBody st) (defScope st) .none fd.kwdefaults fd.doc fd.pyModule fd.annotations fd.code fd.closureTuple := by
            obtain ⟨n, qn, pa, bo, sc, g, clo, de, kd, doc, pm, an, cd, ct, bl⟩ := fd
            simp only at e_name e_qual e_body e_glob e_clo e_def e_blt
            subst e_name e_qual e_glob e_clo e_def e_blt
            have : bo = .stmts (stmtsOf bo) := by
              cases bo with
              | stmts b => rfl
              | _ => cases e_body
            show FuncData.mk _ _ pa bo sc _ _ _ kd doc pm an cd ct _ = FuncData.mk _ _ pa (.stmts (stmtsOf bo)) sc _ _ _ kd doc pm an cd ct _
            rw [← this]
          have hscn : (defScope st).names = scN F.sc := by
            show fd.scope.names = _
            rw [e_scope]
          have inj : ∀ a ∈ F.nm, ∀ b ∈ F.nm, nmS a = nmS b → a = b := fun a ha b hb e => nmS_inj (c2 a ha) (c2 b hb) e
          have nd : (F.nm.map nmS).Nodup := by
            refine List.pairwise_map.mpr (List.Pairwise.imp_of_mem ?_ c1)
            intro a b ha hb ne e
            exact ne (inj a ha b hb e)
          have sc3 : ∀ p ∈ F.sc, p.1 < big := fun p hp => c3 p hp
          have ps_mem : ∀ x ∈ F.ps, x ∈ F.nm := fun x hx => List.mem_of_mem_take hx
          have hS : FnScope (F.nm.map nmS) (F.ps.map nmS) (defScope st) := by
            refine ⟨?_, ?_, ?_, nd, ?_, ?_, ?_⟩
            · show fd.scope.kind = _; rw [e_scope]
            · show fd.scope.isCoroutine = _; rw [e_scope]
            · show fd.scope.isGenerator = _; rw [e_scope]
            · rw [List.length_map, ← List.map_take]
              congr 1
              unfold Fn.ps
              rw [List.length_take, Nat.min_eq_left c4]
            · intro y hy
              obtain ⟨z, hz, rfl⟩ := List.mem_map.mp hy
              rw [hscn, lookup_scN sc3 (c2 z (ps_mem z hz))]
              have := c6 z hz
              cases q3 : F.sc.lookup z with
              | none => rw [q3] at this; cases this
              | some k =>
                rw [q3] at this
                cases k with
                | loc => exact .inl rfl
                | cel => exact .inr rfl
                | _ => cases this
            · intro y hy
              rw [hscn] at hy
              obtain ⟨p, hp, rfl⟩ := List.mem_map.mp hy
              have := c7 p hp
              obtain ⟨a, k⟩ := p
              cases k <;> first | (cases this; done) | (intro z; cases z)
          refine ⟨st, ?_, List.isEmpty_iff.mp c0, hS, hbody, c5, ⟨hscn, sc3⟩, ?_, ?_⟩
          · refine ⟨⟨oc, od, fd.kwdefaults, fd.doc, fd.pyModule, fd.annotations, fd.code, fd.closureTuple, osl, hfd, q2, ?_⟩, ?_⟩
            · unfold cdName at h2
              unfold PySem.W.codeIn
              cases q4 : fd.code with
              | ref c =>
                rw [q4] at h2
                simp only at h2 ⊢
                rw [show List.lookup c K = K.lookup c from rfl]
                cases q5 : K.lookup c with
                | none => rw [q5] at h2; cases h2
                | some o2 =>
                  obtain ⟨oc2, od2, dat2, osl2⟩ := o2
                  rw [q5] at h2
                  cases dat2 with
                  | fields vs =>
                    simp only at h2 ⊢
                    split at h2
                    · rename_i n tok rest eq
                      simp only [eq]
                      have : n = nmS xq := Option.some.inj h2
                      rw [this]; simp
                    · cases h2
                  | _ => cases h2
              | _ => rw [q4] at h2; cases h2
            · unfold PySem.W.keepIn
              simp only [show List.lookup f K = _ from q2]
          · intro us hl
            have hz : zipArgs F.ps fd.params.args = fd.params.args := by
              have := congrArg Arguments.args e_par
              exact this.symm
            have hz2 := zip_args_bind hz
            rw [hz] at e_par
            have hnd : (fd.params.args.map (·.arg)).Nodup := by
              rw [hz2]
              unfold Fn.ps
              rw [List.map_take]
              exact nd.sublist (List.take_sublist _ _)
            rw [← hz2]
            refine binds_gen e_par e_def hnd us ?_
            rw [hl, ← hz2, List.length_map]
          · unfold Fn.ps
            rw [List.length_take, Nat.min_eq_left c4]

theorem srel_start {K : PySem.W.Frag} {mg : Str → Option Value} {m : MM} {H : Hp} {n k : Nat} (hk : n = k) : ∀ {ds : List D} {vs : List V}, RelDs K mg m H ds vs → SRel K mg m H (ds.map some ++ List.replicate n none) (vs.map some ++ List.replicate k none)
  | [], vs, r => by
    cases (r : _ = _)
    subst hk
    simp only [List.map_nil, List.nil_append]
    induction n with
    | zero => trivial
    | succ n ih => exact ⟨fun _ z => (nomatch z), ih⟩
  | d :: ds, _, r => by
    obtain ⟨v, vs, rfl, r1, r2⟩ := r
    exact ⟨fun d' e => by cases e; exact ⟨v, rfl, r1⟩, srel_start hk r2⟩

theorem fill_full {F : Fn} {vs : List D} (h : vs.length = F.np) : fill F vs = some vs := by
  unfold fill
  rw [if_pos ⟨by omega, by omega⟩]
  simp [h]
theorem fill_len {F : Fn} {vs vs' : List D} (h : fill F vs = some vs') : vs'.length = F.np := by
  unfold fill at h
  split at h
  · cases h
    simp
    omega
  · cases h
theorem callN_def (p : Pr) (k f : Nat) (vs : List D) (h : LH) : callN p (k + 1) f vs h = (p.fn f).bind fun F => (fill F vs).bind fun vs' => (evSs p (callN p k) F.body (start F vs') h).bind fun p => match p with
    | (.nx, _, h') => some (.non, h')
    | (.rt d, _, h') => some (d, h')
    | (.bk, _, _) => none := rfl
theorem callN_fill {p : Pr} {k f : Nat} {vs : List D} {h : LH} {r : D × LH} (e : callN p k f vs h = some r) : ∃ F vs', p.fn f = some F ∧ fill F vs = some vs' ∧ vs'.length = F.np ∧ callN p k f vs' h = some r := by
  cases k with
  | zero => cases e
  | succ k =>
    rw [callN_def] at e
    cases q : p.fn f with
    | none => rw [q] at e; cases e
    | some F =>
      rw [q] at e
      simp only [Option.bind_some] at e
      cases q2 : fill F vs with
      | none => rw [q2] at e; cases e
      | some vs' =>
        rw [q2] at e
        simp only [Option.bind_some] at e
        refine ⟨F, vs', rfl, q2, fill_len q2, ?_⟩
        rw [callN_def, q]
        simp only [Option.bind_some]
        rw [fill_full (fill_len q2)]
        exact e
/-- what is known of all defs -/
structure FnsAt (p : Pr) (AD : Nat → Option Addr) (K : PySem.W.Frag) (mg : Str → Option Value) : Prop where
  at_ : ∀ f F, p.fn f = some F → ∃ x q a fd st, FnAt K x q F a fd st ∧ AD f = some a ∧ (f < 128 ^ 64 → mg (nmS f) = some (.ref a) ∧ PySem.W.keepIn K (.ref a) = true)
/-- THE DEFS: each keeps its promise, at every depth -/
theorem fn_all {P : Program} {w : World} {K : PySem.W.Frag} {mg : Str → Option Value} {base : Heap} {p : Pr} {AD : Nat → Option Addr} (G : GOk p K mg w) (CO : COk p AD K mg) (hF : FnsAt p AD K mg) :
    ∀ k f F x q a fd st, p.fn f = some F → FnAt K x q F a fd st → FnOk P w K mg base CX0 (2 * k) a fd (F.ps.map nmS) (spI p (callN p k) K mg f)
  | 0, f, F, x, q, a, fd, st, hx, A => by
    have no : ∀ {vs : List V} {H : Hp} {Q : VK} {E : XK}, spI p (callN p 0) K mg f vs H Q E → False := by
      rintro vs H Q E ⟨m, h, ds, _, _, _, d, h', z, _⟩
      cases z
    exact ⟨fun vs H Q E q => (no q).elim, fun A' outer s H args us vs Q E _ _ _ _ q => (no q).elim⟩
  | k + 1, f, F, x, q, a, fd, st, hx, A => by
    show FnOk P w K mg base CX0 ((2 * k + 1) + 1) a fd (F.ps.map nmS) _
    refine Fun.ok A.fn A.S (fun vs H Q E => ?_) fun cdv A' outer s H vs Q E hr hsp => ?_
    · rintro ⟨m, h, ds, _, r, ⟨F', hF', hl⟩, _⟩
      rw [hx] at hF'; cases hF'
      rw [List.length_map, A.np, ← hl, r.len]
    · obtain ⟨m, h, ds, R, r, ⟨F', hF', hl⟩, d, h', e, kq⟩ := hsp
      rw [hx] at hF'; cases hF'
      let X := (cxOf CX0 P w K mg base (F.nm.map nmS) (nmS q) (defScope st) a cdv A' outer s H E).nox
      have XGd : XG p AD (callN p k) F.nm X := by
        refine ⟨rfl, A.S.nd, rfl, G, ?_, CO, fun g vs h0 r0 e0 => callN_fill e0, ?_⟩
        · have := hr.un
          show (A'.deeper _).units + 65 < cLine
          omega
        · intro g F0 hg
          obtain ⟨x0, q0, a0, fd0, st0, A0, ad, gl⟩ := hF.at_ g F0 hg
          refine ⟨2 * k, a0, fd0, _, ad, fn_all G CO hF k g F0 x0 q0 a0 fd0 st0 hg A0, hr, gl, fun j hj => ?_⟩
          rw [A0.dfs]
          exact ⟨[], [], .nil, Binds.all A0.barg, fun m H => by cases j <;> rfl⟩
      have S : ScOk F.sc X := by
        intro y kd hy
        have hb := A.scs.2 _ (lookup_mem hy)
        have e1 : X.env.scope.names.lookup (nmS y) = some (nkK kd) := by
          show (defScope st).names.lookup (nmS y) = _
          rw [A.scs.1, lookup_scN A.scs.2 hb, hy]; rfl
        exact ⟨.inl e1, fun _ => rfl⟩
      refine ⟨_, pss_of F.body XGd S rfl A.ok A.body, ?_⟩
      rw [callN_def] at e
      rw [hx] at e
      simp only [Option.bind_some] at e
      rw [fill_full hl] at e
      simp only [Option.bind_some] at e
      cases q1 : evSs p (callN p k) F.body (start F ds) h with
      | none => rw [q1] at e; cases e
      | some pr =>
        obtain ⟨fl, σ', h1⟩ := pr
        rw [q1] at e
        simp only [Option.bind_some] at e
        refine ⟨m, start F ds, h, R, ?_, fl, σ', h1, q1, ?_⟩
        · unfold FK.start L2.start
          exact srel_start (by rw [List.length_map, r.len]) r
        · cases fl with
          | nx =>
            cases e
            exact fun m' σ'' H' g R' S' => kq m' .non H' g R' rfl
          | bk => cases e
          | rt d' =>
            cases e
            exact fun m' v H' g R' r' => kq m' v H' g R' r'

/-- THE LAW's promise: from every script -/
def spLaw (K : PySem.W.Frag) : Sp := fun vs H Q _ => ∃ (a : Addr) (ns : List Int), vs = [.ref a] ∧ ns.length ≤ 63 ∧ Only H ∧ SqL K H a (ns.map V.int) ∧ ∀ H', Q (.bl true) H'
theorem law_imp {K : PySem.W.Frag} {mg : Str → Option Value} {p : Pr} {k x : Nat} {F : Fn} (hx : p.fn x = some F) (hn : F.np = 1) (hl : ∀ ns : List Int, ns.length ≤ 63 → ∃ h', callN p k x [.ref 0] [.scr ns] = some (.bl true, h')) :
    ∀ vs H Q E, spLaw K vs H Q E → spI p (callN p k) K mg x vs H Q E := by
  rintro vs H Q E ⟨a, ns, rfl, hns, hO, hS, q⟩
  obtain ⟨h', e⟩ := hl ns hns
  let m : MM := fun b => if b = 0 then some a else none
  have R : Rep K mg m [.scr ns] H := by
    refine ⟨fun b o e => ?_, fun b q e => ?_, fun b c q o u e1 e2 e3 e4 e5 e6 => ?_⟩
    · cases b with
      | zero =>
        have e : LO.scr ns = o := by simpa using e
        subst e
        refine ⟨a, rfl, ?_⟩
        rcases hS with (z | ⟨ob, z⟩) | z
        · rcases hO a with y | ⟨ob, xs, y⟩
          · rw [y] at z; cases z
          · rw [y] at z; cases z
        · exact .inl ⟨ob, z⟩
        · exact .inr z
      | succ b => simp at e
    · have : b = 0 := by
        by_cases hb : b = 0
        · exact hb
        · have e : (if b = 0 then some a else none) = some q := e
          rw [if_neg hb] at e; cases e
      subst this
      exact Nat.zero_lt_one
    · cases b with
      | zero =>
        have e3 : LO.scr ns = o := by simpa using e3
        subst e3
        cases e5
      | succ b => simp at e3
  refine ⟨m, [.scr ns], [.ref 0], R, ⟨.ref a, [], rfl, ⟨a, rfl, rfl⟩, rfl⟩, ⟨F, hx, hn.symm⟩, .bl true, h', e, fun m' v H' g R' r => ?_⟩
  cases (r : _ = _)
  exact q H'
end FK

end
section
set_option maxRecDepth 100000
set_option maxHeartbeats 4000000
/-! Fk8: the module's constants; a law from its evaluator's answer. -/
namespace FK
open PySem PySem.Spec PyProof.Rows L2

section
variable (K : PySem.W.Frag) (gl : List (Nat × Value))
mutual
/-- the data's shape in the written part -/
def cvB : D → Value → Bool
  | .non, .none => true
  | .bl _, .bool _ => true
  | .int _, .int _ _ => true
  | .str s, .str _ _ => ascii s
  | .fn _, .ref _ => true
  | .kd _, .ref _ => true
  | .tup xs, .ref a => match K.lookup a with
    | some ⟨.type T, none, .seq its _, _⟩ => decide (T = "tuple") && decide (its.size ≤ SZ) && cvBs xs its.toList
    | _ => false
  | _, _ => false
def cvBs : List D → List Value → Bool
  | [], [] => true
  | x :: xs, v :: vs => cvB x v && cvBs xs vs
  | _, _ => false
end
mutual
/-- what is to be the same: as told, as it stands -/
def cvP : D → Value → List (Value × Value)
  | .bl b, v => [(.bool b, v)]
  | .int i, v => match v with
    | .int _ t => [(.int i t, v)]
    | _ => []
  | .str s, v => match v with
    | .str _ t => [(.str (txS s) t, v)]
    | _ => []
  | .fn x, v => [((gl.lookup x).getD .none, v)]
  | .kd x, v => [((gl.lookup x).getD .none, v)]
  | .tup xs, v => match v with
    | .ref a => match K.lookup a with
      | some ⟨_, _, .seq its _, _⟩ => cvPs xs its.toList
      | _ => []
    | _ => []
  | _, _ => []
def cvPs : List D → List Value → List (Value × Value)
  | x :: xs, v :: vs => cvP x v ++ cvPs xs vs
  | _, _ => []
end
end
def Eqs (l : List (Value × Value)) : Prop := ∀ p ∈ l, p.1 = p.2
theorem eqs_of {l : List (Value × Value)} (h : l.map (·.1) = l.map (·.2)) : Eqs l := by
  induction l with
  | nil => intro p hp; cases hp
  | cons q l ih =>
    intro p hp
    injection h with h1 h2
    rcases List.mem_cons.mp hp with rfl | hp
    · exact h1
    · exact ih h2 p hp
section
variable {K : PySem.W.Frag} {gl : List (Nat × Value)} {mg : Str → Option Value}
mutual
theorem cv_ok (hmg : ∀ x v, gl.lookup x = some v → mg (nmS x) = some v ∧ x < 128 ^ 64) : ∀ {d : D} {v : Value}, cvB K d v = true → Eqs (cvP K gl d v) → ∃ u, RelV u v ∧ ∀ m H, RelD K mg m H d u
  | .non, v, h, e => by
    cases v <;> first | (cases h; done) | exact ⟨.non, rfl, fun _ _ => rfl⟩
  | .bl b, v, h, e => by
    cases v <;> first | (cases h; done) | skip
    rename_i b'
    have : Value.bool b = .bool b' := e (.bool b, .bool b') (by simp [cvP])
    cases this
    exact ⟨.bl b, rfl, fun _ _ => rfl⟩
  | .int i, v, h, e => by
    cases v <;> first | (cases h; done) | skip
    rename_i j t
    have : Value.int i t = .int j t := e (.int i t, .int j t) (by simp [cvP])
    cases this
    exact ⟨.int i, ⟨t, rfl⟩, fun _ _ => rfl⟩
  | .str s, v, h, e => by
    cases v <;> first | (cases h; done) | skip
    rename_i z t
    have : Value.str (txS s) t = .str z t := e (.str (txS s) t, .str z t) (by simp [cvP])
    have h : ascii s = true := h
    cases this
    exact ⟨.str (txS s), ⟨t, rfl⟩, fun _ _ => by rw [txS_eq h]; rfl⟩
  | .fn x, v, h, e => by
    cases v <;> first | (cases h; done) | skip
    rename_i a
    have : (gl.lookup x).getD .none = .ref a := e ((gl.lookup x).getD .none, .ref a) (by simp [cvP])
    cases q : gl.lookup x with
    | none => rw [q] at this; cases this
    | some u =>
      rw [q] at this
      have this : u = .ref a := this
      subst this
      exact ⟨.ref a, rfl, fun _ _ => ⟨a, rfl, (hmg _ _ q).1, (hmg _ _ q).2⟩⟩
  | .kd x, v, h, e => by
    cases v <;> first | (cases h; done) | skip
    rename_i a
    have : (gl.lookup x).getD .none = .ref a := e ((gl.lookup x).getD .none, .ref a) (by simp [cvP])
    cases q : gl.lookup x with
    | none => rw [q] at this; cases this
    | some u =>
      rw [q] at this
      have this : u = .ref a := this
      subst this
      exact ⟨.ref a, rfl, fun _ _ => ⟨a, rfl, (hmg _ _ q).1⟩⟩
  | .ref _, v, h, e => by cases v <;> cases h
  | .tup xs, v, h, e => by
    cases v <;> first | (cases h; done) | skip
    rename_i a
    have h : (match K.lookup a with
      | some ⟨.type T, none, .seq its _, _⟩ => decide (T = "tuple") && decide (its.size ≤ SZ) && cvBs K xs its.toList
      | _ => false) = true := h
    have e : Eqs (match K.lookup a with
      | some ⟨_, _, .seq its _, _⟩ => cvPs K gl xs its.toList
      | _ => []) := e
    split at h
    · rename_i T its n sl q
      rw [q] at e
      simp only [Bool.and_eq_true, decide_eq_true_eq] at h
      obtain ⟨⟨rfl, h1⟩, h2⟩ := h
      obtain ⟨us, u1, u2⟩ := cvs_ok hmg h2 e
      exact ⟨.ref a, rfl, fun m H => ⟨a, us, rfl, .inr ⟨_, its, n, q, rfl, rfl, rfl, by rw [SZ_line]; exact h1, u1⟩, u2 m H⟩⟩
    · cases h
theorem cvs_ok (hmg : ∀ x v, gl.lookup x = some v → mg (nmS x) = some v ∧ x < 128 ^ 64) : ∀ {ds : List D} {vs : List Value}, cvBs K ds vs = true → Eqs (cvPs K gl ds vs) → ∃ us, Vals us vs ∧ ∀ m H, RelDs K mg m H ds us
  | [], [], _, _ => ⟨[], .nil, fun _ _ => rfl⟩
  | [], _ :: _, h, _ => by cases h
  | _ :: _, [], h, _ => by cases h
  | d :: ds, v :: vs, h, e => by
    have h' : cvB K d v = true ∧ cvBs K ds vs = true := by simpa [cvBs] using h
    obtain ⟨u, a1, a2⟩ := cv_ok hmg h'.1 fun p hp => e p (by simp [cvPs, hp])
    obtain ⟨us, b1, b2⟩ := cvs_ok hmg h'.2 fun p hp => e p (by simp [cvPs, hp])
    exact ⟨u :: us, .cons a1 b1, fun m H => ⟨u, us, rfl, a2 m H, b2 m H⟩⟩
end
end

/-! ### constant dicts -/
def kdEnts (K : PySem.W.Frag) (gl : List (Nat × Value)) (x : Nat) : Option (Addr × Array DictEntry × Nat) := match gl.lookup x with
  | some (.ref p) => match K.lookup p with
    | some ⟨.type T, none, .dict es n, sl⟩ => if T = "dict" ∧ sl.size = 0 then some (p, es, n) else none
    | _ => none
  | _ => none
def reEnts (p : Params) : List (List Nat × D) → List DictEntry → List DictEntry
  | q :: qs, e :: es => { e with hash := PyData.keyHash p (txS q.1), key := match e.key with
      | .str _ t => .str (txS q.1) t
      | _ => .str (txS q.1) 0 } :: reEnts p qs es
  | [], [] => []
  | _, _ => [default, default]
def entB (K : PySem.W.Frag) : List (List Nat × D) → List DictEntry → Bool
  | [], [] => true
  | q :: qs, e :: es => ascii q.1 && cvB K q.2 e.val && entB K qs es
  | _, _ => false
def entP (K : PySem.W.Frag) (gl : List (Nat × Value)) : List (List Nat × D) → List DictEntry → List (Value × Value)
  | q :: qs, e :: es => cvP K gl q.2 e.val ++ entP K gl qs es
  | _, _ => []
theorem kent_of {K : PySem.W.Frag} {gl : List (Nat × Value)} {mg : Str → Option Value} {p : Params} (hmg : ∀ x v, gl.lookup x = some v → mg (nmS x) = some v ∧ x < 128 ^ 64) :
    ∀ {kvs : List (List Nat × D)} {es : List DictEntry}, reEnts p kvs es = es → entB K kvs es = true → Eqs (entP K gl kvs es) → KEnt K mg p es kvs
  | [], [], _, _, _ => trivial
  | [], _ :: _, _, h, _ => by cases h
  | _ :: _, [], _, h, _ => by cases h
  | q :: qs, e :: es, r, b, l => by
    injection r with r1 r2
    have b' : (ascii q.1 = true ∧ cvB K q.2 e.val = true) ∧ entB K qs es = true := by simpa [entB] using b
    obtain ⟨u, a1, a2⟩ := cv_ok hmg b'.1.2 fun p hp => l p (by simp [entP, hp])
    refine ⟨?_, ?_, b'.1.1, ⟨u, a1, a2⟩, kent_of hmg r2 b'.2 fun p hp => l p (by simp [entP, hp])⟩
    · have := congrArg DictEntry.key r1
      simp only at this
      cases q0 : e.key with
      | str s t => rw [q0] at this; exact ⟨t, this.symm⟩
      | _ => rw [q0] at this; cases this
    · exact (congrArg DictEntry.hash r1).symm

/-! ### all that the top says -/
def bltAll : List Nat := [cBf .len, cBf .int, cBf .tuple, cBf .list, cBf .str, cBf .sum, cBf .any, cBf .all, cBf .min, cBf .max, cBf .sorted, cBf .ord, cTy .bool, cTy .int, cTy .str, cTy .tuple, cTy .list, cTy .dict, 30806881253, 976800284697052295653]
structure Top where
  names : List Nat
  prog : List (Nat × Fn)
  gvs : List (Nat × D)
  kds : List (Nat × List (List Nat × D))
  clss : List (Nat × Cl) := []
  mths : List Mt := []
def Top.pr (T : Top) : Pr := { fn := fun x => (T.prog ++ T.mths.map fun m => (m.id, m.F)).lookup x, gv := fun x => T.gvs.lookup x, kd := fun x => T.kds.lookup x, cls := fun x => T.clss.lookup x }
/-- where the method with this id stands -/
def Top.mt (T : Top) (f : Nat) : Option Mt := T.mths.find? fun m => m.id == f
def Top.ad (T : Top) (K : PySem.W.Frag) (f : Nat) : Option Addr := match T.prog.lookup f with
  | some _ => (fnObj K (glV K T.names) f).map (·.f)
  | none => match T.mt f with
    | some m => (mtObj K (glV K T.names) m.C m.x).map (·.f)
    | none => none
theorem n_init : ("__init__" : Str) = nmS 53901697516122079 := by kernel_rfl
/-- a class, as it must be -/
def chkCl (T : Top) (K : PySem.W.Frag) (gl : List (Nat × Value)) (q : Nat × Cl) : Bool :=
  decide (q.1 < big) && match clAdr gl q.1 with
    | some a => PySem.W.plainGet K a Str.empty && PySem.W.hasDictIn K a && PySem.W.plainOver K a && (PySem.W.findIn K (.ref a) "__setattr__" == some (some (.builtin "object.__setattr__"))) && PySem.W.makesIn K a && PySem.W.keepIn K (.ref a) &&
        q.2.flds.all (fun f => decide (f < big) && PySem.W.findIn K (.ref a) (nmS f) == some none) &&
        q.2.mts.all (fun m => match T.mt m.2 with | some z => decide (z.C = q.1) && decide (z.x = m.1) | none => false) &&
        (match T.mt q.2.ini with | some z => decide (z.C = q.1) && decide (z.x = 53901697516122079) | none => false)
    | none => false
def chkMt (K : PySem.W.Frag) (gl : List (Nat × Value)) (m : Mt) : Bool :=
  decide (big ≤ m.id) && chkFn m.F && match mtObj K gl m.C m.x with
    | some o => PySem.W.isFn K (.ref o.f)
    | none => false
/-- what is reckoned over the written part -/
def Top.chk (T : Top) (K : PySem.W.Frag) : Bool :=
  let gl := glV K T.names
  T.names.all (fun x => decide (x < big)) && (K.lookup mainGlobals).isSome && !(glEnts K).isEmpty && T.prog.all (fun q => decide (q.1 < big) && (fnObj K gl q.1).isSome && chkFn q.2) &&
    T.gvs.all (fun q => decide (q.1 < big) && match gl.lookup q.1 with | some v => cvB K q.2 v | none => false) &&
    T.kds.all (fun q => decide (q.1 < big) && match kdEnts K gl q.1 with | some e => entB K q.2 e.2.1.toList && !(e.1 == sysModules) | none => false) &&
    bltAll.all (fun y => (gl.lookup y).isNone) && T.clss.all (chkCl T K gl) && T.mths.all (chkMt K gl)
def Top.eqs (T : Top) (K : PySem.W.Frag) : List (Value × Value) :=
  let gl := glV K T.names
  (T.gvs.map fun q => match gl.lookup q.1 with | some v => cvP K gl q.2 v | none => []).flatten ++
  (T.kds.map fun q => match kdEnts K gl q.1 with | some e => entP K gl q.2 e.2.1.toList | none => []).flatten

theorem find_mem {α : Type} {p : α → Bool} : ∀ {l : List α} {x : α}, l.find? p = some x → x ∈ l ∧ p x = true := fun {l x} e => ⟨List.mem_of_find?_eq_some e, List.find?_some e⟩
theorem map_eq_at {α β : Type} : ∀ {l : List α} {f g : α → β}, l.map f = l.map g → ∀ y ∈ l, f y = g y
  | [], _, _, _, _, hy => by cases hy
  | a :: l, f, g, h, y, hy => by
    injection h with h1 h2
    rcases List.mem_cons.mp hy with rfl | hy
    · exact h1
    · exact map_eq_at h2 y hy
theorem lookup_app {α : Type} {l r : List (Nat × α)} {x : Nat} : (l ++ r).lookup x = match l.lookup x with | some v => some v | none => r.lookup x := by
  induction l with
  | nil => rfl
  | cons p l ih =>
    obtain ⟨a, b⟩ := p
    by_cases h : x = a
    · subst h; simp [List.lookup]
    · have : (x == a) = false := by simpa using h
      simp only [List.cons_append, List.lookup, this, ih]
theorem lookup_mths {l : List Mt} {f : Nat} {F : Fn} (e : (l.map fun m => (m.id, m.F)).lookup f = some F) : ∃ m, l.find? (fun m => m.id == f) = some m ∧ m.F = F := by
  induction l with
  | nil => cases e
  | cons a l ih =>
    by_cases h : f = a.id
    · subst h
      have e : some a.F = some F := by simpa [List.lookup] using e
      cases e
      exact ⟨a, by simp [List.find?], rfl⟩
    · have h1 : (f == a.id) = false := by simpa using h
      have h2 : (a.id == f) = false := by simpa using Ne.symm h
      simp only [List.map_cons, List.lookup, h1] at e
      obtain ⟨m, e1, e2⟩ := ih e
      exact ⟨m, by simp [List.find?, h2, e1], e2⟩
theorem mtObj_at {K : PySem.W.Frag} {gl : List (Nat × Value)} {C x : Nat} {o : FObj} (e : mtObj K gl C x = some o) : ∃ a, clAdr gl C = some a ∧ PySem.W.findIn K (.ref a) (nmS x) = some (some (.ref o.f)) ∧ K.lookup o.f = some ⟨o.oc, o.od, .func o.fd, o.osl⟩ := by
  unfold mtObj clFind at e
  cases q : clAdr gl C with
  | none => rw [q] at e; cases e
  | some a =>
    rw [q] at e
    simp only at e
    split at e
    · rename_i f e1
      split at e
      · rename_i e2
        cases e
        exact ⟨a, rfl, e1, e2⟩
      · cases e
    · cases e
theorem fnObj_at {K : PySem.W.Frag} {gl : List (Nat × Value)} {x : Nat} {o : FObj} (e : fnObj K gl x = some o) : gl.lookup x = some (.ref o.f) ∧ K.lookup o.f = some ⟨o.oc, o.od, .func o.fd, o.osl⟩ := by
  unfold fnObj at e
  split at e
  · rename_i f e1
    split at e
    · rename_i e2
      cases e
      exact ⟨e1, e2⟩
    · cases e
  · cases e
theorem top_ok {P : Program} {w : World} {K : PySem.W.Frag} {mg : Str → Option Value} {h : Heap} {T : Top} (X : K.In h) (Gn : h.Ns mainGlobals mg)
    (hc : T.chk K = true) (hk : reKeys T.names (glEnts K) = glEnts K) (ht : T.prog.map (tellFn K (glV K T.names)) = T.prog.map (wantFn K (glV K T.names))) (hm : T.mths.map (tellMt K (glV K T.names)) = T.mths.map (wantMt K (glV K T.names)))
    (he : (T.eqs K).map (·.1) = (T.eqs K).map (·.2)) (hd : T.kds.map (fun q => (kdEnts K (glV K T.names) q.1).map fun e => reEnts w.params q.2 e.2.1.toList) = T.kds.map (fun q => (kdEnts K (glV K T.names) q.1).map fun e => e.2.1.toList)) :
    GOk T.pr K mg w ∧ COk T.pr (T.ad K) K mg ∧ FnsAt T.pr (T.ad K) K mg := by
  unfold Top.chk at hc
  simp only [Bool.and_eq_true, List.all_eq_true, decide_eq_true_eq, Bool.not_eq_true'] at hc
  obtain ⟨⟨⟨⟨⟨⟨⟨⟨c1, c2⟩, c3⟩, c4⟩, c5⟩, c6⟩, c7⟩, c8⟩, c9⟩ := hc
  have hne : glEnts K ≠ [] := by intro z; rw [z] at c3; cases c3
  have ns : ∀ y, y < big → PySem.W.nsIn K mainGlobals (nmS y) = some ((glV K T.names).lookup y) := fun y hy => ns_of c1 ⟨c2, hne⟩ hk hy
  have memn : ∀ {x v}, (glV K T.names).lookup x = some v → x < big := fun {x v} e => by
    have := lookup_mem e
    exact c1 x (List.of_mem_zip this).1
  have hmg : ∀ x v, (glV K T.names).lookup x = some v → mg (nmS x) = some v ∧ x < 128 ^ 64 := fun x v e => ⟨PySem.W.mg_of X Gn (by rw [ns x (memn e), e]), memn e⟩
  have hno : ∀ y ∈ bltAll, y < big → mg (nmS y) = none := fun y hy hb => PySem.W.mg_none_of X Gn (by
    rw [ns y hb]
    have := c7 y hy
    cases q : (glV K T.names).lookup y with
    | none => rfl
    | some v => rw [q] at this; cases this)
  have ee := eqs_of he
  have mtk : ∀ f m, T.mt f = some m → m.id = f ∧ ∃ o a, mtObj K (glV K T.names) m.C m.x = some o ∧ clAdr (glV K T.names) m.C = some a ∧ Meth K a (nmS m.x) o.f ∧ T.ad K f = some o.f ∧ chkFn m.F = true ∧ K.lookup o.f = some ⟨o.oc, o.od, .func o.fd, o.osl⟩ ∧ tellMt K (glV K T.names) m = wantMt K (glV K T.names) m := fun f m e => by
    obtain ⟨h1, h2⟩ := find_mem e
    have h2 : m.id = f := by simpa using h2
    have h3 := c9 m h1
    unfold chkMt at h3
    simp only [Bool.and_eq_true, decide_eq_true_eq] at h3
    obtain ⟨⟨h4, h5⟩, h6⟩ := h3
    cases q : mtObj K (glV K T.names) m.C m.x with
    | none => rw [q] at h6; cases h6
    | some o =>
      rw [q] at h6
      obtain ⟨a, a1, a2, a3⟩ := mtObj_at q
      refine ⟨h2, o, a, rfl, a1, ⟨a2, h6, ?_⟩, ?_, h5, a3, map_eq_at hm m h1⟩
      · unfold PySem.W.keepIn
        simp only [show List.lookup o.f K = _ from a3]
      · unfold Top.ad
        cases qp : T.prog.lookup f with
        | some F =>
          have := (c4 _ (lookup_mem qp)).1.1
          exact absurd this (by rw [← h2]; exact Nat.not_lt.mpr h4)
        | none =>
          simp only [e, q]
          rfl
  refine ⟨⟨fun x d e => ?_, fun x kvs e => ?_, fun f => ?_, ?_, ?_, fun Ty => ?_⟩, ⟨fun C c e => ?_⟩, ⟨fun x F e => ?_⟩⟩
  · have hm := lookup_mem (sc := T.gvs) e
    obtain ⟨hb, q⟩ := c5 _ hm
    cases q1 : (glV K T.names).lookup x with
    | none => simp only [q1] at q; cases q
    | some v =>
      simp only [q1] at q
      obtain ⟨u, a1, a2⟩ := cv_ok hmg q fun p hp => ee p (by
        refine List.mem_append_left _ (List.mem_flatten.mpr ⟨_, List.mem_map.mpr ⟨_, hm, rfl⟩, ?_⟩)
        simp only [q1]
        exact hp)
      exact ⟨v, u, (hmg _ _ q1).1, a1, a2⟩
  · have hm := lookup_mem (sc := T.kds) e
    obtain ⟨hb, q⟩ := c6 _ hm
    cases q1 : kdEnts K (glV K T.names) x with
    | none => simp only [q1] at q; cases q
    | some en =>
      obtain ⟨p, es, n⟩ := en
      simp only [q1, Bool.and_eq_true] at q
      have hr : reEnts w.params kvs es.toList = es.toList := by
        have : ∀ (l : List (Nat × List (List Nat × D))) (f g : Nat × List (List Nat × D) → Option (List DictEntry)), l.map f = l.map g → ∀ y ∈ l, f y = g y := by
          intro l f g hl
          induction l with
          | nil => intro y hy; cases hy
          | cons a l ih =>
            injection hl with h1 h2
            intro y hy
            rcases List.mem_cons.mp hy with rfl | hy
            · exact h1
            · exact ih h2 y hy
        have := this _ _ _ hd _ hm
        simp only [q1, Option.map_some, Option.some.injEq] at this
        exact this
      have hk : KEnt K mg w.params es.toList kvs := kent_of hmg hr q.1 fun p' hp => ee p' (by
        refine List.mem_append_right _ (List.mem_flatten.mpr ⟨_, List.mem_map.mpr ⟨_, hm, rfl⟩, ?_⟩)
        simp only [q1]
        exact hp)
      unfold kdEnts at q1
      split at q1
      · rename_i p' e1
        split at q1
        · rename_i T' es' n' sl e2
          split at q1
          · rename_i hT
            cases q1
            have : sl = #[] := Array.eq_empty_of_size_eq_zero hT.2
            rw [this, hT.1] at e2
            exact ⟨_, _, _, (hmg _ _ e1).1, e2, by simpa using q.2, hk⟩
          · cases q1
        · cases q1
      · cases q1
  · rw [bf_nm]
    exact hno _ (by cases f <;> simp [bltAll]) (by cases f <;> decide)
  · rw [n_range]; exact hno _ (by simp [bltAll]) (by decide)
  · rw [n_isi]; exact hno _ (by simp [bltAll]) (by decide)
  · rw [ty_nm]
    exact hno _ (by cases Ty <;> simp [bltAll]) (by cases Ty <;> decide)
  · have h1 := c8 _ (lookup_mem (sc := T.clss) e)
    unfold chkCl at h1
    simp only [Bool.and_eq_true, decide_eq_true_eq] at h1
    obtain ⟨hb, h1⟩ := h1
    cases q : clAdr (glV K T.names) C with
    | none => simp only [q] at h1; cases h1
    | some a =>
      simp only [q, Bool.and_eq_true, decide_eq_true_eq, List.all_eq_true] at h1
      obtain ⟨⟨⟨⟨⟨⟨⟨⟨b1, b2⟩, b3⟩, b4⟩, b5⟩, b6⟩, b7⟩, b8⟩, b9⟩ := h1
      have el : (glV K T.names).lookup C = some (.ref a) := by
        unfold clAdr at q
        split at q
        · rename_i e1; cases q; exact e1
        · cases q
      refine ⟨a, (hmg _ _ el).1, ⟨b1, b2, b3, eq_of_beq b4⟩, fun f hf => ⟨(b7 f hf).1, eq_of_beq (b7 f hf).2⟩, fun x f hx => ?_, ?_⟩
      · have h2 := b8 _ (lookup_mem hx)
        simp only at h2
        cases q2 : T.mt f with
        | none => rw [q2] at h2; cases h2
        | some m =>
          rw [q2] at h2
          simp only [Bool.and_eq_true, decide_eq_true_eq] at h2
          obtain ⟨_, o, a', k1, k2, k3, k4, _⟩ := mtk f m q2
          rw [h2.1, q] at k2
          cases k2
          rw [h2.2] at k3
          exact ⟨o.f, k4, k3⟩
      · cases q2 : T.mt c.ini with
        | none => rw [q2] at b9; cases b9
        | some m =>
          rw [q2] at b9
          simp only [Bool.and_eq_true, decide_eq_true_eq] at b9
          obtain ⟨_, o, a', k1, k2, k3, k4, _⟩ := mtk _ m q2
          rw [b9.1, q] at k2
          cases k2
          rw [b9.2, ← n_init] at k3
          exact ⟨o.f, k4, b5, k3.at_, k3.fn, b6⟩
  · have e : (T.prog ++ T.mths.map fun m => (m.id, m.F)).lookup x = some F := e
    rw [lookup_app] at e
    cases qp : T.prog.lookup x with
    | some F' =>
      rw [qp] at e
      cases e
      obtain ⟨⟨hb, h1⟩, h2⟩ := c4 _ (lookup_mem qp)
      cases q : fnObj K (glV K T.names) x with
      | none => rw [q] at h1; cases h1
      | some o =>
        obtain ⟨a1, a2⟩ := fnObj_at q
        have h3 := map_eq_at ht _ (lookup_mem qp)
        unfold tellFn wantFn at h3
        simp only [q, Option.map_some, Option.some.injEq, Prod.mk.injEq] at h3
        obtain ⟨st, A⟩ := fnAt_of a2 h3.1 h3.2 h2
        exact ⟨x, x, o.f, o.fd, st, A, by unfold Top.ad; rw [qp]; simp only [q]; rfl, fun _ => ⟨(hmg _ _ a1).1, A.fn.kp⟩⟩
    | none =>
      rw [qp] at e
      obtain ⟨m, e1, rfl⟩ := lookup_mths e
      obtain ⟨i1, o, a, k1, k2, k3, k4, k5, k6, k7⟩ := mtk x m e1
      unfold tellMt wantMt at k7
      simp only [k1, Option.map_some, Option.some.injEq, Prod.mk.injEq] at k7
      obtain ⟨st, A⟩ := fnAt_of k6 k7.1 k7.2 k5
      refine ⟨m.x, m.q, o.f, o.fd, st, A, k4, fun hx => ?_⟩
      have h3 := c9 m (find_mem e1).1
      unfold chkMt at h3
      simp only [Bool.and_eq_true, decide_eq_true_eq] at h3
      exact absurd hx (by rw [← i1]; exact Nat.not_lt.mpr h3.1.1)

/-- the law's def, from its evaluator's answer -/
theorem law_all {P : Program} {w : World} {K : PySem.W.Frag} {mg : Str → Option Value} {h : Heap} {T : Top} {fa : Addr} {x k : Nat} {F : Fn} {law arg : Str} (X : K.In h) (Gn : h.Ns mainGlobals mg) (hfa : mg law = some (.ref fa)) (hlaw : law = nmS x) (harg : [arg] = F.ps.map nmS)
    (hx : T.pr.fn x = some F) (hn : F.np = 1) (hl : ∀ ns : List Int, ns.length ≤ 63 → ∃ h', callN T.pr k x [.ref 0] [.scr ns] = some (.bl true, h'))
    (hc : T.chk K = true) (hk : reKeys T.names (glEnts K) = glEnts K) (ht : T.prog.map (tellFn K (glV K T.names)) = T.prog.map (wantFn K (glV K T.names))) (hm : T.mths.map (tellMt K (glV K T.names)) = T.mths.map (wantMt K (glV K T.names)))
    (he : (T.eqs K).map (·.1) = (T.eqs K).map (·.2)) (hd : T.kds.map (fun q => (kdEnts K (glV K T.names) q.1).map fun e => reEnts w.params q.2 e.2.1.toList) = T.kds.map (fun q => (kdEnts K (glV K T.names) q.1).map fun e => e.2.1.toList)) (hxb : x < 128 ^ 64) :
    ∃ fd : FuncData, (∀ (s : Shared) (v : Value), BindsTo s fd ⟨[v], []⟩ [(arg, v)]) ∧ ∀ base : Heap, K.In base → base.Ns mainGlobals mg → FnOk P w K mg base CX0 (2 * k) fa fd [arg] (spLaw K) := by
  obtain ⟨G, CO, hF⟩ := top_ok (P := P) X Gn hc hk ht hm he hd
  obtain ⟨x0, q0, f, fd, st, A, ad, gl⟩ := hF.at_ x F hx
  have : fa = f := by
    have := (gl hxb).1
    rw [← hlaw, hfa] at this
    cases this; rfl
  subst this
  refine ⟨fd, fun s v => ?_, fun base _ _ => ?_⟩
  · have e := A.barg [v] (by rw [← harg]; rfl)
    rw [← harg] at e
    exact .of_eq e
  · rw [harg]
    exact (fn_all G CO hF k x F x0 q0 fa fd st hx A).imp (law_imp hx hn hl)
end FK

end
section
set_option maxRecDepth 100000
set_option maxHeartbeats 4000000
/-! FkL: tools for the plain law. -/
namespace FK
def fin (r : Option (Fl × Lc × LH)) : Option (D × LH) := r.bind fun p => match p with
  | (.nx, _, h') => some (.non, h')
  | (.rt d, _, h') => some (d, h')
  | (.bk, _, _) => none
theorem callN_succ {P : Pr} {k f : Nat} {vs : List D} {h : LH} {F : Fn} (hF : P.fn f = some F) (hl : vs.length = F.np) : callN P (k + 1) f vs h = fin (evSs P (callN P k) F.body (start F vs) h) := by
  rw [callN_def, hF]
  simp only [Option.bind_some]
  rw [fill_full hl]
  rfl
@[simp] theorem fin_rt (d : D) (σ : Lc) (h : LH) : fin (some (.rt d, σ, h)) = some (d, h) := rfl
@[simp] theorem fin_nx (σ : Lc) (h : LH) : fin (some (.nx, σ, h)) = some (.non, h) := rfl

noncomputable def bodyF (P : Pr) (cl : Nat → List D → LH → Option (D × LH)) (b : Sms) : Lc → LH → Option (Fl × Lc × LH) := fun σ h => evSs P cl b σ h
noncomputable def testF (P : Pr) (cl : Nat → List D → LH → Option (D × LH)) (c : Ex) : Lc → LH → Option (Bool × LH) := fun σ h => tsE P cl c σ h
noncomputable def tgF (t : Tg) : D → Lc → Option Lc := fun d σ => tgA t d σ
theorem bodyF_ap (P : Pr) (cl b σ h) : bodyF P cl b σ h = evSs P cl b σ h := rfl
theorem testF_ap (P : Pr) (cl c σ h) : testF P cl c σ h = tsE P cl c σ h := rfl
theorem tgF_ap (t d σ) : tgF t d σ = tgA t d σ := rfl
theorem evS_fr (P : Pr) (cl t s b σ h) : evS P cl (.fr t s b) σ h = (evIs P cl s σ h).bind fun p => forL (tgF t) (bodyF P cl b) p.2.1 p.1 p.1 σ p.2.2 := rfl
theorem evS_whl (P : Pr) (cl c b σ h) : evS P cl (.whl c b) σ h = iter (whlF (testF P cl c) (bodyF P cl b)) (σ, h) := rfl
section
variable (P : Pr) (cl : Nat → List D → LH → Option (D × LH)) (σ : Lc) (h : LH)
theorem evS_asg (t e) : evS P cl (.asg t e) σ h = (evE P cl e σ h).bind fun p => (tgA t p.1 σ).map fun σ1 => (.nx, σ1, p.2) := rfl
theorem evS_six (o i e) : evS P cl (.six o i e) σ h = (evE P cl e σ h).bind fun p => (evE P cl o σ p.2).bind fun q => (evE P cl i σ q.2).bind fun r =>
      match q.1 with
      | .ref a => match r.2[a]? with
        | some (.lst xs) => match r.1 with
          | .int k => (ixN xs.length k).map fun j => (.nx, σ, setLst r.2 a (xs.set j p.1))
          | _ => none
        | some (.dic kvs) => if keyOk r.1 ∧ kvs.length < SZ then some (.nx, σ, setDic r.2 a (dPut kvs r.1 p.1)) else none
        | _ => none
      | _ => none := rfl
theorem evS_aug (i o e) : evS P cl (.aug i o e) σ h = match σ[i]? with
    | some (some d) => (evE P cl e σ h).bind fun p => match d, p.1 with
      | .int x, .int y => (binop o (.int x) (.int y) p.2).bind fun q => (setSl i q.1 σ).map fun σ1 => (.nx, σ1, q.2)
      | _, _ => none
    | _ => none := rfl
theorem evS_exp (e) : evS P cl (.exp e) σ h = (evE P cl e σ h).map fun p => (.nx, σ, p.2) := rfl
theorem evS_ret (e) : evS P cl (.ret e) σ h = (evE P cl e σ h).map fun p => (.rt p.1, σ, p.2) := rfl
theorem evS_brk : evS P cl .brk σ h = some (.bk, σ, h) := rfl
theorem evS_pas : evS P cl .pas σ h = some (.nx, σ, h) := rfl
theorem evS_ife (c a b) : evS P cl (.ife c a b) σ h = (tsE P cl c σ h).bind fun p => if p.1 then evSs P cl a σ p.2 else evSs P cl b σ p.2 := rfl
end
noncomputable def tstF (P : Pr) (cl : Nat → List D → LH → Option (D × LH)) (ts : Exs) : Lc → LH → Option (Bool × LH) := fun σ h => evTs P cl ts σ h
noncomputable def eltF (P : Pr) (cl : Nat → List D → LH → Option (D × LH)) (e : Ex) : Lc → LH → Option (D × LH) := fun σ h => evE P cl e σ h
theorem tstF_ap (P : Pr) (cl b σ h) : tstF P cl b σ h = evTs P cl b σ h := rfl
theorem eltF_ap (P : Pr) (cl b σ h) : eltF P cl b σ h = evE P cl b σ h := rfl
section
variable (P : Pr) (cl : Nat → List D → LH → Option (D × LH)) (σ : Lc) (h : LH)
theorem evE_non : evE P cl .non σ h = some (.non, h) := rfl
theorem evE_bl (b) : evE P cl (.bl b) σ h = some (.bl b, h) := rfl
theorem evE_int (i) : evE P cl (.int i) σ h = some (.int i, h) := rfl
theorem evE_str (s) : evE P cl (.str s) σ h = some (.str s, h) := rfl
theorem evE_lv (i) : evE P cl (.lv i) σ h = match σ[i]? with
    | some (some d) => some (d, h)
    | _ => none := rfl
theorem evE_gv (x) : evE P cl (.gv x) σ h = (P.gv x).map fun d => (d, h) := rfl
theorem evE_tup (es) : evE P cl (.tup es) σ h = (evEs P cl es σ h).bind fun p => if p.1.length ≤ SZ then some (.tup p.1, p.2) else none := rfl
theorem evE_lst (es) : evE P cl (.lst es) σ h = (evEs P cl es σ h).bind fun p => if p.1.length ≤ SZ then alloc p.2 (.lst p.1) else none := rfl
theorem evE_bop (o a b) : evE P cl (.bop o a b) σ h = (evE P cl a σ h).bind fun p => (evE P cl b σ p.2).bind fun q => binop o p.1 q.1 q.2 := rfl
theorem evE_neg (a) : evE P cl (.neg a) σ h = (evE P cl a σ h).bind fun p => match p.1 with
    | .int i => some (.int (-i), p.2)
    | _ => none := rfl
theorem evE_not (a) : evE P cl (.not a) σ h = (evE P cl a σ h).bind fun p => (truth p.1 p.2).map fun b => (.bl (!b), p.2) := rfl
theorem evE_cmp (o a b) : evE P cl (.cmp o a b) σ h = (evE P cl a σ h).bind fun p => (evE P cl b σ p.2).bind fun q => (cmpop P o p.1 q.1 q.2).map fun c => (.bl c, q.2) := rfl
theorem evE_cmp2 (o o' a b c) : evE P cl (.cmp2 o o' a b c) σ h = (evE P cl a σ h).bind fun p => (evE P cl b σ p.2).bind fun q => (cmpop P o p.1 q.1 q.2).bind fun k =>
      if k then (evE P cl c σ q.2).bind fun r => (cmpop P o' q.1 r.1 r.2).map fun k' => (.bl k', r.2) else some (.bl false, q.2) := rfl
theorem evE_and (es) : evE P cl (.and es) σ h = evAnd P cl es σ h := rfl
theorem evE_or (es) : evE P cl (.or es) σ h = evOr P cl es σ h := rfl
theorem evE_ix (a i) : evE P cl (.ix a i) σ h = (evE P cl a σ h).bind fun p => (evE P cl i σ p.2).bind fun q => (getix P p.1 q.1 q.2).map fun d => (d, q.2) := rfl
theorem evE_sl (a lo hi) : evE P cl (.sl a lo hi) σ h = (evE P cl a σ h).bind fun p => (evE P cl lo σ p.2).bind fun q => (evE P cl hi σ q.2).bind fun r => (ptI (isNonE lo) q.1).bind fun l => (ptI (isNonE hi) r.1).bind fun u => slice p.1 l u r.2 := rfl
theorem evE_call (f es) : evE P cl (.call f es) σ h = (evEs P cl es σ h).bind fun p => cl f p.1 p.2 := rfl
theorem evE_blt (f es) : evE P cl (.blt f es) σ h = (evEs P cl es σ h).bind fun p => bltin f p.1 p.2 := rfl
theorem evE_calv (i es) : evE P cl (.calv i es) σ h = match σ[i]? with
    | some (some (.fn f)) => (evEs P cl es σ h).bind fun p => cl f p.1 p.2
    | _ => none := rfl
theorem evE_isi (a T) : evE P cl (.isi a T) σ h = (evE P cl a σ h).bind fun p => (isTy p.1 T p.2).map fun b => (.bl b, p.2) := rfl
theorem evE_bm (o m es) : evE P cl (.bm o m es) σ h = (evE P cl o σ h).bind fun p => (tyOf p.1 p.2).bind fun T => (evEs P cl es σ p.2).bind fun q => method T p.1 m q.1 q.2 := rfl
theorem evE_dnew : evE P cl .dnew σ h = alloc h (.dic []) := rfl
theorem evE_mk (C es) : evE P cl (.mk C es) σ h = (P.cls C).bind fun c => (evEs P cl es σ h).bind fun p => (alloc p.2 (.ins C [])).bind fun q => (cl c.ini (q.1 :: p.1) q.2).bind fun r => if isNon r.1 then some (q.1, r.2) else none := rfl
theorem evE_cm (o m es) : evE P cl (.cm o m es) σ h = (evE P cl o σ h).bind fun p => match p.1 with
    | .ref a => match p.2[a]? with
      | some (.ins C _) => ((P.cls C).bind fun c => c.mts.lookup m).bind fun f => (evEs P cl es σ p.2).bind fun q => cl f (.ref a :: q.1) q.2
      | _ => none
    | _ => none := rfl
theorem evE_fld (o f) : evE P cl (.fld o f) σ h = (evE P cl o σ h).bind fun p => match p.1 with
    | .ref a => match p.2[a]? with
      | some (.ins _ fs) => (fs.lookup f).map fun d => (d, p.2)
      | _ => none
    | _ => none := rfl
theorem evE_lc (sc e t s ts) : evE P cl (.lc sc e t s ts) σ h = (evIs P cl s σ h).bind fun p => (lcL (tgF t) (tstF P cl ts) (eltF P cl e) p.2.1 p.1 (wipe σ (tgSl t)) [] p.1 p.2.2).bind fun q => alloc q.2 (.lst q.1) := rfl
theorem evE_lcb (f sc e t s ts) : evE P cl (.lcb f sc e t s ts) σ h = (evIs P cl s σ h).bind fun p => (lcL (tgF t) (tstF P cl ts) (eltF P cl e) p.2.1 p.1 (wipe σ (tgSl t)) [] p.1 p.2.2).bind fun q => (lcbF f q.1).map fun d => (d, q.2) := rfl
theorem evS_asl (i e) : evS P cl (.asl i e) σ h = (evE P cl e σ h).bind fun p => (setSl i p.1 σ).map fun σ1 => (.nx, σ1, p.2) := rfl
theorem evS_sfl (o f e) : evS P cl (.sfl o f e) σ h = (evE P cl e σ h).bind fun p => (evE P cl o σ p.2).bind fun q =>
      match q.1 with
      | .ref a => match q.2[a]? with
        | some (.ins C fs) => if fldOk P C f ∧ fs.length < 100 then some (.nx, σ, setIns q.2 a C (putL f p.1 fs)) else none
        | _ => none
      | _ => none := rfl
theorem evS_augf (o f b e) : evS P cl (.augf o f b e) σ h = (evE P cl o σ h).bind fun q =>
      match q.1 with
      | .ref a => match q.2[a]? with
        | some (.ins C fs) => (fs.lookup f).bind fun d => (evE P cl e σ q.2).bind fun p => match d, p.1 with
          | .int x, .int y => (binop b (.int x) (.int y) p.2).bind fun z => match z.2[a]? with
            | some (.ins C' fs') => if C' = C ∧ fldOk P C f ∧ fs'.length < 100 then some (.nx, σ, setIns z.2 a C (putL f z.1 fs')) else none
            | _ => none
          | _, _ => none
        | _ => none
      | _ => none := rfl
theorem evS_lck (i s) : evS P cl (.lck i s) σ h = match σ[i]? with
    | some (some (.ref a)) => match h[a]? with
      | some (.dic kvs) => (evS P cl s σ (h.set a (.dlk kvs))).bind fun r => match r.2.2[a]? with
        | some (.dlk _) => some (r.1, r.2.1, setDic r.2.2 a kvs)
        | _ => none
      | _ => none
    | _ => none := rfl
theorem evS_del (o i) : evS P cl (.del o i) σ h = (evE P cl o σ h).bind fun q => (evE P cl i σ q.2).bind fun r =>
      match q.1 with
      | .ref a => match r.2[a]? with
        | some (.dic kvs) => if keyOk r.1 then (dLook kvs r.1).map fun _ => (.nx, σ, setDic r.2 a (dDel kvs r.1)) else none
        | _ => none
      | _ => none := rfl
end
/-- a comprehension that changes nothing: what is kept, what is made of it -/
theorem lcL_pure {asg : D → Lc → Option Lc} {test : Lc → LH → Option (Bool × LH)} {elt : Lc → LH → Option (D × LH)} {g : Option Nat} {all : List D} {σ : Lc} {h : LH} (b : D → Bool) (f : D → D) (hs : stays g all h) :
    ∀ (rest acc : List D), (∀ x ∈ rest, ∃ σ1, asg x σ = some σ1 ∧ test σ1 h = some (b x, h) ∧ (b x = true → elt σ1 h = some (f x, h))) → acc.length + rest.length ≤ SZ →
      lcL asg test elt g all σ acc rest h = some (acc ++ (rest.filter b).map f, h)
  | [], acc, _, _ => by simp [lcL]
  | x :: r, acc, hx, hl => by
    obtain ⟨σ1, e1, e2, e3⟩ := hx x List.mem_cons_self
    have hr := fun y hy => hx y (List.mem_cons_of_mem _ hy)
    unfold lcL
    simp only [e1, e2, Option.bind_some]
    cases q : b x with
    | true =>
      simp only [if_true, e3 q, Option.bind_some]
      rw [if_pos ⟨hs, by simp at hl; omega⟩, lcL_pure b f hs r (acc ++ [f x]) hr (by simp at hl ⊢; omega)]
      simp [q]
    | false =>
      simp only [Bool.false_eq_true, if_false]
      rw [if_pos hs, lcL_pure b f hs r acc hr (by simp at hl ⊢; omega)]
      simp [q]
/-- a for loop, by what holds ahead of the turn i -/
theorem forL_inv {asg : D → Lc → Option Lc} {body : Lc → LH → Option (Fl × Lc × LH)} {g : Option Nat} {all : List D} (Inv : Nat → Lc → LH → Prop) (Post : Fl → Lc → LH → Prop)
    (turn : ∀ i x σ h, all[i]? = some x → Inv i σ h → ∃ σ1 fl σ2 h2, asg x σ = some σ1 ∧ body σ1 h = some (fl, σ2, h2) ∧ match fl with | .nx => stays g all h2 ∧ Inv (i + 1) σ2 h2 | .bk => Post .nx σ2 h2 | .rt d => Post (.rt d) σ2 h2)
    (done : ∀ σ h, Inv all.length σ h → Post .nx σ h) : ∀ (i : Nat) (rest : List D) (σ : Lc) (h : LH), rest = all.drop i → i ≤ all.length → Inv i σ h → ∃ fl σ' h', forL asg body g all rest σ h = some (fl, σ', h') ∧ Post fl σ' h'
  | i, [], σ, h, e, hi, iv => by
    have : i = all.length := by
      have := congrArg List.length e
      rw [List.length_drop] at this
      simp at this
      omega
    subst this
    exact ⟨.nx, σ, h, rfl, done _ _ iv⟩
  | i, x :: r, σ, h, e, hi, iv => by
    have hlt : i < all.length := by
      have := congrArg List.length e
      rw [List.length_drop] at this
      simp at this
      omega
    have hd := List.getElem_cons_drop hlt
    rw [← e] at hd
    injection hd with hx hr
    obtain ⟨σ1, fl, σ2, h2, e1, e2, k⟩ := turn i x σ h (by rw [List.getElem?_eq_getElem hlt, hx]) iv
    unfold forL
    simp only [e1, e2, Option.bind_some]
    cases fl with
    | nx =>
      simp only
      rw [if_pos k.1]
      exact forL_inv Inv Post turn done (i + 1) r σ2 h2 hr.symm hlt k.2
    | bk => exact ⟨.nx, σ2, h2, rfl, k⟩
    | rt d => exact ⟨.rt d, σ2, h2, rfl, k⟩
/-- from the first turn -/
theorem forL_run {asg : D → Lc → Option Lc} {body : Lc → LH → Option (Fl × Lc × LH)} {g : Option Nat} {all : List D} {σ : Lc} {h : LH} (Inv : Nat → Lc → LH → Prop) (Post : Fl → Lc → LH → Prop) (start : Inv 0 σ h)
    (turn : ∀ i x σ h, all[i]? = some x → Inv i σ h → ∃ σ1 fl σ2 h2, asg x σ = some σ1 ∧ body σ1 h = some (fl, σ2, h2) ∧ match fl with | .nx => stays g all h2 ∧ Inv (i + 1) σ2 h2 | .bk => Post .nx σ2 h2 | .rt d => Post (.rt d) σ2 h2)
    (done : ∀ σ h, Inv all.length σ h → Post .nx σ h) : ∃ fl σ' h', forL asg body g all all σ h = some (fl, σ', h') ∧ Post fl σ' h' :=
  forL_inv Inv Post turn done 0 all σ h rfl (Nat.zero_le _) start
/-- the loop runs through -/
theorem forL_thru {asg : D → Lc → Option Lc} {body : Lc → LH → Option (Fl × Lc × LH)} {g : Option Nat} {all : List D} {σ : Lc} {h : LH} (Inv : Nat → Lc → LH → Prop) (start : Inv 0 σ h)
    (turn : ∀ i x σ h, all[i]? = some x → Inv i σ h → ∃ σ1 σ2 h2, asg x σ = some σ1 ∧ body σ1 h = some (.nx, σ2, h2) ∧ stays g all h2 ∧ Inv (i + 1) σ2 h2) : ∃ σ' h', forL asg body g all all σ h = some (.nx, σ', h') ∧ Inv all.length σ' h' := by
  obtain ⟨fl, σ', h', e, p⟩ := forL_run (asg := asg) (body := body) (g := g) (all := all) (σ := σ) (h := h) Inv (fun fl σ h => fl = .nx ∧ Inv all.length σ h) start
    (fun i x σ h hx iv => let ⟨σ1, σ2, h2, a, b, c⟩ := turn i x σ h hx iv; ⟨σ1, .nx, σ2, h2, a, b, c⟩) (fun σ h iv => ⟨rfl, iv⟩)
  obtain ⟨rfl, p⟩ := p
  exact ⟨σ', h', e, p⟩
@[simp] theorem stays_none {xs : List D} {h : LH} : stays none xs h = True := rfl
/-- the i-th of a range's numbers -/
theorem rng_at {lo : Int} {n i : Nat} {x : D} (h : ((List.range n).map fun (k : Nat) => D.int (lo + k))[i]? = some x) : x = .int (lo + i) ∧ i < n := by
  rw [List.getElem?_map] at h
  cases q : (List.range n)[i]? with
  | none => rw [q] at h; cases h
  | some k =>
    rw [q] at h
    have hi : i < n := by have := (List.getElem?_eq_some_iff.mp q).1; simpa using this
    have : k = i := by rw [List.getElem?_range hi] at q; exact (Option.some.inj q).symm
    subst this
    exact ⟨by simpa using h.symm, hi⟩
theorem rng_at0 {n i : Nat} {x : D} (h : ((List.range n).map fun (k : Nat) => D.int k)[i]? = some x) : x = .int i ∧ i < n := by
  rw [List.getElem?_map] at h
  cases q : (List.range n)[i]? with
  | none => rw [q] at h; cases h
  | some k =>
    rw [q] at h
    have hi : i < n := by have := (List.getElem?_eq_some_iff.mp q).1; simpa using this
    have : k = i := by rw [List.getElem?_range hi] at q; exact (Option.some.inj q).symm
    subst this
    exact ⟨by simpa using h.symm, hi⟩
@[simp] theorem setLst_len (h : LH) (a : Nat) (xs : List D) : (setLst h a xs).length = h.length := by simp [setLst]
@[simp] theorem setLst_setLst (h : LH) (a : Nat) (xs ys : List D) : setLst (setLst h a xs) a ys = setLst h a ys := by simp [setLst]
theorem setLst_same {h : LH} {a : Nat} {xs : List D} (ha : a < h.length) : (setLst h a xs)[a]? = some (.lst xs) := by simp [setLst, ha]
theorem setLst_ne {h : LH} {a b : Nat} {xs : List D} (hb : b ≠ a) : (setLst h a xs)[b]? = h[b]? := by simp [setLst, List.getElem?_set_ne (Ne.symm hb)]
theorem lt_of_get {h : LH} {a : Nat} {o : LO} (e : h[a]? = some o) : a < h.length := (List.getElem?_eq_some_iff.mp e).1
/-- a place from the front -/
theorem atI_of {α : Type} {xs : List α} {i : Int} (h0 : 0 ≤ i) (h1 : i < xs.length) : atI xs i = xs[i.toNat]? := by
  unfold atI ixN
  rw [if_pos h0, if_pos h1]
  rfl
theorem pyeq_int (i j : Int) : pyeq (.int i) (.int j) = (i == j) := rfl
mutual
theorem pyeq_refl : ∀ d : D, pur d = true → pyeq d d = true
  | .non, _ => rfl
  | .bl _, _ => by simp [pyeq]
  | .int _, _ => by simp [pyeq]
  | .str _, _ => by simp [pyeq]
  | .tup xs, h => by simp only [pyeq]; exact pyeqs_refl xs (by simpa [pur] using h)
  | .ref _, h => by simp [pur] at h
  | .fn _, h => by simp [pur] at h
  | .kd _, h => by simp [pur] at h
theorem pyeqs_refl : ∀ xs : List D, purs xs = true → pyeqs xs xs = true
  | [], _ => rfl
  | x :: xs, h => by
    have h' : pur x = true ∧ purs xs = true := by simpa [purs] using h
    simp [pyeqs, pyeq_refl x h'.1, pyeqs_refl xs h'.2]
end
end FK
namespace FK
/-- what comes of it is a Q -/
def WP {α : Type} (Q : α → Prop) (E : Option α) : Prop := ∃ r, E = some r ∧ Q r
theorem WP.mk {α : Type} {Q : α → Prop} {E : Option α} (k : ∀ R : α → Prop, (∀ r, Q r → R r) → WP R E) : WP Q E := k Q fun _ h => h
theorem wp_some {α : Type} {Q : α → Prop} {r : α} : WP Q (some r) = Q r := propext ⟨fun ⟨_, e, q⟩ => by cases e; exact q, fun q => ⟨r, rfl, q⟩⟩
theorem WP.of {α : Type} {Q : α → Prop} {r : α} (q : Q r) : WP Q (some r) := ⟨r, rfl, q⟩
theorem forL_go {asg : D → Lc → Option Lc} {body : Lc → LH → Option (Fl × Lc × LH)} {g : Option Nat} {all : List D} {σ : Lc} {h : LH} {L : Option (Fl × Lc × LH)} {G : Prop} (e : forL asg body g all all σ h = L) (Inv : Nat → Lc → LH → Prop) (start : Inv 0 σ h)
    (turn : ∀ i x σ h, all[i]? = some x → Inv i σ h → ∀ Q, (∀ σ2 h2, stays g all h2 → Inv (i + 1) σ2 h2 → Q (.nx, σ2, h2)) → WP Q ((asg x σ).bind fun σ1 => body σ1 h))
    (k : ∀ σ' h', L = some (.nx, σ', h') → Inv all.length σ' h' → G) : G := by
  obtain ⟨σ', h', q, iv⟩ := forL_thru (asg := asg) (body := body) (g := g) (all := all) (σ := σ) (h := h) Inv start (fun i x σ h hx iv => by
    obtain ⟨r, a, σ2, h2, rfl, b⟩ := turn i x σ h hx iv (fun r => ∃ σ2 h2, r = (.nx, σ2, h2) ∧ stays g all h2 ∧ Inv (i + 1) σ2 h2) (fun σ2 h2 a b => ⟨σ2, h2, rfl, a, b⟩)
    obtain ⟨σ1, c, d⟩ := Option.bind_eq_some_iff.mp a
    exact ⟨σ1, σ2, h2, c, d, b⟩)
  exact k σ' h' (e ▸ q) iv
theorem forL_go2 {asg : D → Lc → Option Lc} {body : Lc → LH → Option (Fl × Lc × LH)} {g : Option Nat} {all : List D} {σ : Lc} {h : LH} {L : Option (Fl × Lc × LH)} {G : Prop} (e : forL asg body g all all σ h = L) (Inv : Nat → Lc → LH → Prop) (Post : Fl → Lc → LH → Prop) (start : Inv 0 σ h)
    (turn : ∀ i x σ h, all[i]? = some x → Inv i σ h → ∀ Q, (∀ σ2 h2, stays g all h2 → Inv (i + 1) σ2 h2 → Q (.nx, σ2, h2)) → (∀ σ2 h2, Post .nx σ2 h2 → Q (.bk, σ2, h2)) → (∀ d σ2 h2, Post (.rt d) σ2 h2 → Q (.rt d, σ2, h2)) → WP Q ((asg x σ).bind fun σ1 => body σ1 h))
    (done : ∀ σ h, Inv all.length σ h → Post .nx σ h)
    (k : ∀ fl σ' h', L = some (fl, σ', h') → Post fl σ' h' → G) : G := by
  obtain ⟨fl, σ', h', q, iv⟩ := forL_run (asg := asg) (body := body) (g := g) (all := all) (σ := σ) (h := h) Inv Post start (fun i x σ h hx iv => by
    obtain ⟨⟨fl, σ2, h2⟩, a, b⟩ := turn i x σ h hx iv (fun r => match r.1 with | .nx => stays g all r.2.2 ∧ Inv (i + 1) r.2.1 r.2.2 | .bk => Post .nx r.2.1 r.2.2 | .rt d => Post (.rt d) r.2.1 r.2.2) (fun σ2 h2 a b => ⟨a, b⟩) (fun σ2 h2 a => a) (fun d σ2 h2 a => a)
    obtain ⟨σ1, c, d⟩ := Option.bind_eq_some_iff.mp a
    exact ⟨σ1, fl, σ2, h2, c, d, b⟩) done
  exact k fl σ' h' (e ▸ q) iv
theorem mulOk_r (i j : Int) (h : j.natAbs < 18446744073709551616) : mulOk i j = true := by
  have : j.natAbs < 2 ^ 64 := h
  simp [mulOk, this]
theorem mulOk_l (i j : Int) (h : i.natAbs < 18446744073709551616) : mulOk i j = true := by
  have : i.natAbs < 2 ^ 64 := h
  simp [mulOk, this]
theorem divOk_s (j : Int) (n : j ≠ 0) (h : j.natAbs < 18446744073709551616) : divOk j = true := by
  have h2 : j.natAbs < 2 ^ 9000 := Nat.lt_of_lt_of_le (show j.natAbs < 2 ^ 64 from h) (Nat.pow_le_pow_right (by decide) (by decide))
  simp [divOk, n, h2]
/-- the digits that a law draws from: the box b, the row d -/
def Bx (h : LH) (b d : Nat) : Prop := ∃ (ds : List Int) (t : Nat), h[b]? = some (.lst [.ref d, .int t]) ∧ h[d]? = some (.lst (ds.map D.int)) ∧ b ≠ d ∧ ∀ x ∈ ds, 0 ≤ x ∧ x < 1000
/-- only b is changed, others may come -/
def Ext (b : Nat) (h h' : LH) : Prop := h.length ≤ h'.length ∧ ∀ a, a < h.length → a ≠ b → h'[a]? = h[a]?
theorem Ext.refl (b : Nat) (h : LH) : Ext b h h := ⟨Nat.le_refl _, fun _ _ _ => rfl⟩
theorem Ext.trans {b : Nat} {h h' h'' : LH} (x : Ext b h h') (y : Ext b h' h'') : Ext b h h'' := ⟨Nat.le_trans x.1 y.1, fun a l n => (y.2 a (Nat.lt_of_lt_of_le l x.1) n).trans (x.2 a l n)⟩
theorem Ext.app (b : Nat) (h x : LH) : Ext b h (h ++ x) := ⟨by simp, fun a l n => by rw [List.getElem?_append_left l]⟩
theorem Bx.app {h : LH} {b d : Nat} (B : Bx h b d) (x : LH) : Bx (h ++ x) b d := by
  obtain ⟨ds, t, e1, e2, n, r⟩ := B
  exact ⟨ds, t, by rw [List.getElem?_append_left (lt_of_get e1), e1], by rw [List.getElem?_append_left (lt_of_get e2), e2], n, r⟩
theorem Bx.set {h : LH} {b d : Nat} (B : Bx h b d) (a : Nat) (hb : a ≠ b) (hd : a ≠ d) (xs : List D) : Bx (setLst h a xs) b d := by
  obtain ⟨ds, t, e1, e2, n, r⟩ := B
  exact ⟨ds, t, by rw [setLst_ne (Ne.symm hb), e1], by rw [setLst_ne (Ne.symm hd), e2], n, r⟩
theorem setLst_top (h : LH) (o : LO) (xs : List D) : setLst (h ++ [o]) h.length xs = h ++ [.lst xs] := by simp [setLst]
/-- data of at most n levels of tuples -/
def okd : Nat → D → Bool
  | 0, .tup _ => false
  | n + 1, .tup xs => decide (xs.length < 4000000) && xs.all (okd n)
  | _, .str s => s.all fun c => decide (c < 1114112)
  | _, .non => true
  | _, .bl _ => true
  | _, .int _ => true
  | _, _ => false
theorem okd_get {n : Nat} {xs : List D} (h : okd (n + 1) (.tup xs) = true) {i : Nat} {x : D} (e : xs[i]? = some x) : okd n x = true := by
  simp [okd] at h
  exact h.2 x (List.mem_of_getElem? e)
theorem okd_len {n : Nat} {xs : List D} (h : okd (n + 1) (.tup xs) = true) : xs.length < 4000000 := by
  simp [okd] at h
  exact h.1
theorem okd_str (n : Nat) (s : List Nat) : okd n (.str s) = s.all fun c => decide (c < 1114112) := by cases n <;> rfl
theorem rngOf_1 (i : Int) (h : i.natAbs < 4000000) : rngOf [.int i] = some ((List.range i.toNat).map fun (k : Nat) => D.int k) := by
  rw [rngOf, cIf_pos (by omega)]
theorem rngOf_2 (i j : Int) (h : i.natAbs < 4000000) (h' : j.natAbs < 4000000) : rngOf [.int i, .int j] = some ((List.range (j - i).toNat).map fun (k : Nat) => D.int (i + k)) := by
  rw [rngOf, cIf_pos (by omega)]
theorem atI_0 {α : Type} (x : α) (r : List α) : atI (x :: r) 0 = some x := by
  rw [atI_of (Int.le_refl 0) (by simp only [List.length_cons]; omega)]; rfl
theorem atI_1 {α : Type} (x y : α) (r : List α) : atI (x :: y :: r) 1 = some y := by
  rw [atI_of (by decide) (by simp; omega)]; rfl
theorem atI_2 {α : Type} (x y z : α) (r : List α) : atI (x :: y :: z :: r) 2 = some z := by
  rw [atI_of (by decide) (by simp; omega)]; rfl
theorem atI_3 {α : Type} (x y z u : α) (r : List α) : atI (x :: y :: z :: u :: r) 3 = some u := by
  rw [atI_of (by decide) (by simp; omega)]; rfl
theorem atI_4 {α : Type} (x y z u v : α) (r : List α) : atI (x :: y :: z :: u :: v :: r) 4 = some v := by
  rw [atI_of (by decide) (by simp; omega)]; rfl
theorem atI_in {α : Type} {xs : List α} {i : Int} (h0 : 0 ≤ i) (h1 : i < xs.length) : ∃ x, atI xs i = some x ∧ x ∈ xs := by
  rw [atI_of h0 h1]
  have : i.toNat < xs.length := by omega
  exact ⟨xs[i.toNat], List.getElem?_eq_getElem this, List.getElem_mem this⟩
theorem ixN_of {n : Nat} {i : Int} (h0 : 0 ≤ i) (h1 : i < n) : ixN n i = some i.toNat := by
  unfold ixN
  rw [if_pos h0, if_pos h1]
/-- a text whose signs are signs -/
def sgn (s : List Nat) : Prop := (s.all fun c => decide (c < 1114112)) = true
theorem sgn_app {s t : List Nat} (a : sgn s) (b : sgn t) : sgn (s ++ t) := by unfold sgn at *; simp_all
theorem sgn_rep {c n : Nat} (h : c < 1114112) : sgn (List.replicate n [c]).flatten := by
  unfold sgn
  simp [List.all_eq_true]
  exact .inr h
theorem rep_len {c n : Nat} : (List.replicate n [c]).flatten.length = n := by simp
theorem op_rep (j : Int) (s : List Nat) (h0 : 0 ≤ j) (h1 : j < 4000) (hs : s.length < 4000) (h : LH) : binop .mul (.str s) (.int j) h = some (.str (List.replicate j.toNat s).flatten, h) := by
  show (if _ then _ else _) = _
  rw [if_pos]
  refine ⟨by omega, by unfold SZ; omega, ?_⟩
  have : s.length * j.toNat ≤ 4000 * 4000 := Nat.mul_le_mul (by omega) (by omega)
  unfold SZ; omega
section
variable (P : Pr) (h : LH)
theorem op_addi (i j : Int) : binop .add (.int i) (.int j) h = some (.int (i + j), h) := rfl
theorem op_subi (i j : Int) : binop .sub (.int i) (.int j) h = some (.int (i - j), h) := rfl
theorem op_muli (i j : Int) : binop .mul (.int i) (.int j) h = if mulOk i j then some (.int (i * j), h) else none := rfl
theorem op_divi (i j : Int) : binop .fdiv (.int i) (.int j) h = if divOk j then some (.int (i.fdiv j), h) else none := rfl
theorem op_modi (i j : Int) : binop .mod (.int i) (.int j) h = if j = 0 then none else some (.int (i.fmod j), h) := rfl
theorem op_powi (i j : Int) : binop .pow (.int i) (.int j) h = if 0 ≤ j ∧ j ≤ 1000000 ∧ i.natAbs < 2 ^ 64 then some (.int (i ^ j.toNat), h) else none := rfl
theorem op_adds (s t : List Nat) : binop .add (.str s) (.str t) h = if s.length + t.length ≤ SZ then some (.str (s ++ t), h) else none := rfl
theorem op_addt (xs ys : List D) : binop .add (.tup xs) (.tup ys) h = if xs.length + ys.length ≤ SZ then some (.tup (xs ++ ys), h) else none := rfl
theorem op_rept (xs : List D) (j : Int) : binop .mul (.tup xs) (.int j) h = if (xs.length ≠ 0 ∧ xs.length ≤ 1000) ∧ 2 ≤ j ∧ j ≤ 1000 then some (.tup (List.replicate j.toNat xs).flatten, h) else none := rfl
theorem op_repl (p : Nat) (j : Int) : binop .mul (.ref p) (.int j) h = match h[p]? with
    | some (.lst xs) => if (0 ≤ j ∧ j ≤ 1000000) ∧ xs.length * j.toNat ≤ SZ then alloc h (.lst (List.replicate j.toNat xs).flatten) else none
    | _ => none := rfl
theorem op_addl (p q : Nat) : binop .add (.ref p) (.ref q) h = match h[p]?, h[q]? with
    | some (.lst xs), some (.lst ys) => if xs.length + ys.length ≤ SZ then alloc h (.lst (xs ++ ys)) else none
    | _, _ => none := rfl
theorem cm_eq (a b : D) : cmpop P .eq a b h = if shp a && shp b then some (pyeq a b) else none := rfl
theorem cm_ne (a b : D) : cmpop P .ne a b h = if shp a && shp b then some (!pyeq a b) else none := rfl
theorem cm_lt (i j : Int) : cmpop P .lt (.int i) (.int j) h = some (decide (i < j)) := rfl
theorem cm_le (i j : Int) : cmpop P .le (.int i) (.int j) h = some (decide (i ≤ j)) := rfl
theorem cm_gt (i j : Int) : cmpop P .gt (.int i) (.int j) h = some (decide (j < i)) := rfl
theorem cm_ge (i j : Int) : cmpop P .ge (.int i) (.int j) h = some (decide (j ≤ i)) := rfl
theorem cm_is (a : D) : cmpop P .is a .non h = some (isNon a) := rfl
theorem cm_isb (a b : Bool) : cmpop P .is (.bl a) (.bl b) h = some (a == b) := rfl
theorem cm_isnb (a b : Bool) : cmpop P .isnot (.bl a) (.bl b) h = some (!(a == b)) := rfl
theorem cm_isn (a : D) : cmpop P .isnot a .non h = some (!isNon a) := rfl
theorem cm_in (a b : D) : cmpop P .isin a b h = inop P a b h := rfl
theorem cm_nin (a b : D) : cmpop P .notin a b h = (inop P a b h).map (!·) := rfl
theorem in_kd (s : List Nat) (n : Nat) : inop P (.str s) (.kd n) h = (P.kd n).map fun kvs => (kvs.lookup s).isSome := rfl
theorem in_tup (x : D) (xs : List D) : inop P x (.tup xs) h = if shp x && xs.all shp then some (xs.any fun y => pyeq y x) else none := rfl
theorem in_chr (c : Nat) (t : List Nat) : inop P (.str [c]) (.str t) h = some (t.contains c) := rfl
theorem in_ref (x : D) (a : Nat) : inop P x (.ref a) h = match h[a]? with
    | some (.lst xs) => if shp x && xs.all shp then some (xs.any fun y => pyeq y x) else none
    | some (.dic kvs) => if keyOk x then some (dLook kvs x).isSome else none
    | some (.dlk kvs) => if keyOk x then some (dLook kvs x).isSome else none
    | _ => none := rfl
theorem tr_non : truth .non h = some false := rfl
theorem tr_bl (b : Bool) : truth (.bl b) h = some b := rfl
theorem tr_int (i : Int) : truth (.int i) h = some (i != 0) := rfl
theorem tr_str (s : List Nat) : truth (.str s) h = if s.length ≤ SZ then some (s.length != 0) else none := rfl
theorem tr_tup (xs : List D) : truth (.tup xs) h = some (!xs.isEmpty) := rfl
theorem tr_ref (a : Nat) : truth (.ref a) h = match h[a]? with
    | some (.lst xs) => some (!xs.isEmpty)
    | some (.scr ns) => some (!ns.isEmpty)
    | _ => none := rfl
theorem ix_tup (xs : List D) (i : Int) : getix P (.tup xs) (.int i) h = atI xs i := rfl
theorem ix_str (s : List Nat) (i : Int) : getix P (.str s) (.int i) h = if s.length ≤ SZ then (atI s i).map chr1 else none := rfl
theorem ix_kd (n : Nat) (k : List Nat) : getix P (.kd n) (.str k) h = (P.kd n).bind fun kvs => kvs.lookup k := rfl
theorem ix_ref (p : Nat) (i : Int) : getix P (.ref p) (.int i) h = match h[p]? with
    | some (.lst xs) => atI xs i
    | some (.scr ns) => (atI ns i).map D.int
    | some (.dic kvs) => if keyOk (.int i) then dLook kvs (.int i) else none
    | some (.dlk kvs) => if keyOk (.int i) then dLook kvs (.int i) else none
    | _ => none := rfl
theorem ix_dic' (p : Nat) (xs : List D) : getix P (.ref p) (.tup xs) h = match h[p]? with
    | some (.dic kvs) => if keyOk (.tup xs) then dLook kvs (.tup xs) else none
    | some (.dlk kvs) => if keyOk (.tup xs) then dLook kvs (.tup xs) else none
    | _ => none := by
  show (match h[p]? with | some (.lst ys) => none | some (.scr ns) => none | some (.dic kvs) => if keyOk (.tup xs) then dLook kvs (.tup xs) else none | some (.dlk kvs) => if keyOk (.tup xs) then dLook kvs (.tup xs) else none | _ => none) = _
  cases h[p]? with
  | none => rfl
  | some o => cases o <;> rfl
theorem ln_str (s : List Nat) : lenOf (.str s) h = if s.length ≤ SZ then some s.length else none := rfl
theorem ln_tup (xs : List D) : lenOf (.tup xs) h = some xs.length := rfl
theorem ln_ref (a : Nat) : lenOf (.ref a) h = match h[a]? with
    | some (.lst xs) => some xs.length
    | some (.scr ns) => some ns.length
    | some (.dic kvs) => some kvs.length
    | some (.dlk kvs) => some kvs.length
    | _ => none := rfl
theorem ty_non (T : Ty) : isTy .non T h = some false := rfl
theorem ty_bl (b : Bool) (T : Ty) : isTy (.bl b) T h = some (T == .bool || T == .int) := rfl
theorem ty_int (i : Int) (T : Ty) : isTy (.int i) T h = some (T == .int) := rfl
theorem ty_str (s : List Nat) (T : Ty) : isTy (.str s) T h = some (T == .str) := rfl
theorem ty_tup (xs : List D) (T : Ty) : isTy (.tup xs) T h = some (T == .tuple) := rfl
theorem ty_ref (a : Nat) (T : Ty) : isTy (.ref a) T h = match h[a]? with
    | some (.lst _) => some (T == .list)
    | some (.dic _) => some (T == .dict)
    | some (.dlk _) => some (T == .dict)
    | _ => none := rfl
theorem bf_len (d : D) : bltin .len [d] h = (lenOf d h).map fun n => (.int n, h) := by simp only [bltin]; cases lenOf d h <;> rfl
theorem bf_int (i : Int) : bltin .int [.int i] h = some (.int i, h) := rfl
theorem bf_intb (b : Bool) : bltin .int [.bl b] h = some (.int (b2i b), h) := rfl
theorem bf_tuple (d : D) : bltin .tuple [d] h = (seqOf d h).map fun xs => (.tup xs, h) := by cases d <;> rfl
theorem bf_list (d : D) : bltin .list [d] h = (seqOf d h).bind fun xs => alloc h (.lst xs) := by cases d <;> rfl
theorem bf_str (i : Int) : bltin .str [.int i] h = if i.natAbs.log2 < 1920 then some (.str (numL i), h) else none := rfl
theorem sq_tup (xs : List D) : seqOf (.tup xs) h = some xs := rfl
theorem sq_ref (a : Nat) : seqOf (.ref a) h = match h[a]? with
    | some (.lst xs) => some xs
    | some (.scr ns) => some (ns.map D.int)
    | _ => none := rfl
theorem wk_tup (xs : List D) : walkOf (.tup xs) h = some (xs, none) := rfl
theorem wk_str (s : List Nat) : walkOf (.str s) h = if s.length ≤ SZ then some (s.map chr1, none) else none := rfl
theorem wk_ref (a : Nat) : walkOf (.ref a) h = match h[a]? with
    | some (.dlk kvs) => some (kvs.map (·.1), none)
    | _ => (seqOf (.ref a) h).map fun xs => (xs, some a) := rfl
theorem to_str (s : List Nat) : tyOf (.str s) h = some .str := rfl
theorem to_tup (xs : List D) : tyOf (.tup xs) h = some .tuple := rfl
theorem to_ref (a : Nat) : tyOf (.ref a) h = match h[a]? with
    | some (.lst _) => some .list
    | some (.dic _) => some .dict
    | some (.dlk _) => some .dict
    | _ => none := rfl
theorem me_app (a : Nat) (v : D) : method .list (.ref a) .append [v] h = match h[a]? with
      | some (.lst xs) => if xs.length < SZ then some (.non, setLst h a (xs ++ [v])) else none
      | _ => none := rfl
theorem me_ext (a b : Nat) : method .list (.ref a) .extend [.ref b] h = match h[a]?, h[b]? with
      | some (.lst xs), some (.lst ys) => if xs.length + ys.length ≤ SZ ∧ a ≠ b then some (.non, setLst h a (xs ++ ys)) else none
      | _, _ => none := rfl
theorem me_ins (a : Nat) (i : Int) (v : D) : method .list (.ref a) .insert [.int i, v] h = match h[a]? with
      | some (.lst xs) => if xs.length < SZ ∧ 0 ≤ i ∧ i ≤ xs.length then some (.non, setLst h a (xs.take i.toNat ++ [v] ++ xs.drop i.toNat)) else none
      | _ => none := rfl
theorem me_pop (a : Nat) (i : Int) : method .list (.ref a) .pop [.int i] h = match h[a]? with
      | some (.lst xs) => match xs with
        | x :: r => if i = 0 then some (x, setLst h a r) else none
        | [] => none
      | _ => none := rfl
theorem me_idx (xs : List D) (s : List Nat) : method .tuple (.tup xs) .index [.str s] h = (strsL xs).bind fun ss => (idxL s ss).map fun (j : Nat) => (D.int (j : Int), h) := rfl
theorem me_dget (a : Nat) (k v : D) : method .dict (.ref a) .get [k, v] h = match h[a]? with
      | some (.dic kvs) => if keyOk k then some ((dLook kvs k).getD v, h) else none
      | some (.dlk kvs) => if keyOk k then some ((dLook kvs k).getD v, h) else none
      | _ => none := rfl
theorem me_dpop (a : Nat) (k : D) : method .dict (.ref a) .pop [k] h = match h[a]? with
      | some (.dic kvs) => if keyOk k then (dLook kvs k).map fun v => (v, setDic h a (dDel kvs k)) else none
      | _ => none := rfl
theorem me_joinl (s : List Nat) (a : Nat) : method .str (.str s) .join [.ref a] h = match h[a]? with
      | some (.lst xs) => (strsL xs).bind fun ss => if (ss.map List.length).sum + ss.length * s.length ≤ SZ then some (.str (joinL s ss), h) else none
      | _ => none := rfl
theorem me_joint (s : List Nat) (xs : List D) : method .str (.str s) .join [.tup xs] h = (strsL xs).bind fun ss => if (ss.map List.length).sum + ss.length * s.length ≤ SZ then some (.str (joinL s ss), h) else none := rfl
theorem in_non : isNon .non = true := rfl
theorem in_bl (b) : isNon (.bl b) = false := rfl
theorem in_int (b) : isNon (.int b) = false := rfl
theorem in_str (b) : isNon (.str b) = false := rfl
theorem in_tup' (b) : isNon (.tup b) = false := rfl
theorem in_ref' (b) : isNon (.ref b) = false := rfl
theorem sl_tup (xs : List D) (l u : Option Int) : slice (.tup xs) l u h = some (.tup (cut xs l u), h) := rfl
theorem sl_str (s : List Nat) (l u : Option Int) : slice (.str s) l u h = if s.length ≤ SZ then some (.str (cut s l u), h) else none := rfl
theorem sl_ref (p : Nat) (l u : Option Int) : slice (.ref p) l u h = match h[p]? with
    | some (.lst xs) => alloc h (.lst (cut xs l u))
    | _ => none := rfl
end
theorem cut_from {α : Type} (xs : List α) (v : Int) (i : Nat) (hv : v = i) (hi : i ≤ xs.length) : cut xs (some v) none = xs.drop i := by
  subst hv
  unfold cut sIx
  simp only
  rw [if_neg (by omega)]
  have : min ((i : Int)).toNat xs.length = i := by omega
  rw [this]
  apply List.take_of_length_le
  simp
theorem drop_at {α : Type} {xs : List α} {i : Nat} {x : α} (e : xs[i]? = some x) : xs.drop i = x :: xs.drop (i + 1) := by
  obtain ⟨h, rfl⟩ := List.getElem?_eq_some_iff.mp e
  exact (List.getElem_cons_drop h).symm
theorem okd_up : ∀ {n : Nat} {d : D}, okd n d = true → okd (n + 1) d = true := by
  intro n
  induction n with
  | zero =>
    intro d h
    cases d <;> simp_all [okd]
  | succ n ih =>
    intro d h
    cases d with
    | tup xs =>
      simp [okd] at h ⊢
      exact ⟨h.1, fun x hx => ih (h.2 x hx)⟩
    | _ => simp_all [okd]
theorem pq_non_non : pyeq .non .non = true := rfl
theorem pq_non_bl (b : Bool) : pyeq .non (.bl b) = false := rfl
theorem pq_non_int (b : Int) : pyeq .non (.int b) = false := rfl
theorem pq_non_str (b : List Nat) : pyeq .non (.str b) = false := rfl
theorem pq_non_tup (b : List D) : pyeq .non (.tup b) = false := rfl
theorem pq_bl_non (a : Bool) : pyeq (.bl a) .non = false := rfl
theorem pq_bl_bl (a : Bool) (b : Bool) : pyeq (.bl a) (.bl b) = (a == b) := rfl
theorem pq_bl_int (a : Bool) (b : Int) : pyeq (.bl a) (.int b) = (b2i a == b) := rfl
theorem pq_bl_str (a : Bool) (b : List Nat) : pyeq (.bl a) (.str b) = false := rfl
theorem pq_bl_tup (a : Bool) (b : List D) : pyeq (.bl a) (.tup b) = false := rfl
theorem pq_int_non (a : Int) : pyeq (.int a) .non = false := rfl
theorem pq_int_bl (a : Int) (b : Bool) : pyeq (.int a) (.bl b) = (a == b2i b) := rfl
theorem pq_int_int (a : Int) (b : Int) : pyeq (.int a) (.int b) = (a == b) := rfl
theorem pq_int_str (a : Int) (b : List Nat) : pyeq (.int a) (.str b) = false := rfl
theorem pq_int_tup (a : Int) (b : List D) : pyeq (.int a) (.tup b) = false := rfl
theorem pq_str_non (a : List Nat) : pyeq (.str a) .non = false := rfl
theorem pq_str_bl (a : List Nat) (b : Bool) : pyeq (.str a) (.bl b) = false := rfl
theorem pq_str_int (a : List Nat) (b : Int) : pyeq (.str a) (.int b) = false := rfl
theorem pq_str_str (a : List Nat) (b : List Nat) : pyeq (.str a) (.str b) = (a == b) := rfl
theorem pq_str_tup (a : List Nat) (b : List D) : pyeq (.str a) (.tup b) = false := rfl
theorem pq_tup_non (a : List D) : pyeq (.tup a) .non = false := rfl
theorem pq_tup_bl (a : List D) (b : Bool) : pyeq (.tup a) (.bl b) = false := rfl
theorem pq_tup_int (a : List D) (b : Int) : pyeq (.tup a) (.int b) = false := rfl
theorem pq_tup_str (a : List D) (b : List Nat) : pyeq (.tup a) (.str b) = false := rfl
theorem pq_tup_tup (a : List D) (b : List D) : pyeq (.tup a) (.tup b) = pyeqs a b := rfl
theorem pqs_nn : pyeqs [] [] = true := rfl
theorem pqs_cc (x y : D) (r s : List D) : pyeqs (x :: r) (y :: s) = (pyeq x y && pyeqs r s) := rfl
theorem pqs_nc (y : D) (s : List D) : pyeqs [] (y :: s) = false := rfl
theorem pqs_cn (x : D) (r : List D) : pyeqs (x :: r) [] = false := rfl
theorem pur_non : pur .non = true := rfl
theorem pur_bl (a : Bool) : pur (.bl a) = true := rfl
theorem pur_int (a : Int) : pur (.int a) = true := rfl
theorem pur_str (a : List Nat) : pur (.str a) = a.all fun c => decide (c < 1114112) := rfl
theorem pur_tup (a : List D) : pur (.tup a) = purs a := rfl
theorem pur_ref (a : Nat) : pur (.ref a) = false := rfl
theorem pur_fn (a : Nat) : pur (.fn a) = false := rfl
theorem pur_kd (a : Nat) : pur (.kd a) = false := rfl
theorem purs_n : purs [] = true := rfl
theorem purs_c (x : D) (r : List D) : purs (x :: r) = (pur x && purs r) := rfl
theorem dep_non : dep .non = 0 := rfl
theorem dep_bl (a : Bool) : dep (.bl a) = 0 := rfl
theorem dep_int (a : Int) : dep (.int a) = 0 := rfl
theorem dep_str (a : List Nat) : dep (.str a) = 0 := rfl
theorem dep_tup (a : List D) : dep (.tup a) = deps a + 1 := rfl
theorem deps_n : deps [] = 0 := rfl
theorem deps_c (x : D) (r : List D) : deps (x :: r) = max (dep x) (deps r) := rfl
theorem okd_mono {n m : Nat} {d : D} (h : okd n d = true) (l : n ≤ m) : okd m d = true := by
  induction l with
  | refl => exact h
  | step _ ih => exact okd_up ih
theorem in_fn (b) : isNon (.fn b) = false := rfl
theorem in_kd' (b) : isNon (.kd b) = false := rfl
end FK

end
section
set_option maxRecDepth 100000
set_option maxHeartbeats 4000000
namespace FK.K46
open FK
/-- value_of(0 memory, 1 place) -/
def F_value_of : Fn where
  nm := [3772553886073, 30292865509]
  np := 2
  sc := [(3772553886073, .loc), (30292865509, .loc), (164882245, .glo)]
  body := (.cons (.ret (.bm (.lv 0) .get (.cons (.lv 1) (.cons (.gv 164882245) .nil))))
 .nil)
/-- first_wrong(0 readings, 1 memory, 2 number, 3 place, 4 value, 5 run) -/
def F_first_wrong : Fn where
  nm := [64623857347834867, 3772553886073, 3811208377074, 30292865509, 31880592101, 1882862]
  np := 2
  sc := [(64623857347834867, .loc), (3772553886073, .loc), (3811208377074, .loc), (30292865509, .loc), (31880592101, .loc), (1882862, .loc), (30806881253, .glo), (1782510, .glo), (66858447487367142, .glo)]
  body := (.cons (.fr (.nm 2) (.rng (.cons (.blt .len (.cons (.lv 0) .nil)) .nil)) (.cons (.asg (.tp (.cons (.nm 3) (.cons (.nm 4) (.cons (.nm 5) .nil)))) (.ix (.lv 0) (.lv 2)))
 (.cons (.ife (.cmp .ne (.call 66858447487367142 (.cons (.lv 1) (.cons (.lv 3) .nil))) (.lv 4)) (.cons (.ret (.lv 2))
 .nil) .nil)
 .nil)))
 (.cons (.ret (.neg (.int 1)))
 .nil))
/-- _law_cell(0 _law_script, 1 _law_k) -/
def F__law_cell : Fn where
  nm := [113159385147593130145908, 3293371559915]
  np := 2
  sc := [(113159385147593130145908, .loc), (3293371559915, .loc), (1782510, .glo)]
  body := (.cons (.ife (.cmp .lt (.lv 1) (.blt .len (.cons (.lv 0) .nil))) (.cons (.ret (.ix (.lv 0) (.lv 1)))
 .nil) .nil)
 (.cons (.ret (.int 0))
 .nil))
/-- _law_digits(0 _law_script, 1 _law_first, 2 _law_last, 3 _law_digits_here, 4 _law_k, 5 _law_cell_here, 6 _law_turn, 7 _law_seed) -/
def F__law_digits : Fn where
  nm := [113159385147593130145908, 884057696462094252532, 6906700753622563316, 3888126867537390690033081635141989, 3293371559915, 237312430879893406177264499045, 6906700753639668078, 6906700753637307108]
  np := 3
  sc := [(113159385147593130145908, .loc), (884057696462094252532, .loc), (6906700753622563316, .loc), (3888126867537390690033081635141989, .loc), (3293371559915, .loc), (237312430879893406177264499045, .loc), (6906700753639668078, .loc), (6906700753637307108, .loc), (30806881253, .glo), (6906700753603753580, .glo), (1734516, .glo)]
  body := (.cons (.asg (.nm 3) (.lst .nil))
 (.cons (.fr (.nm 4) (.rng (.cons (.lv 1) (.cons (.lv 2) .nil))) (.cons (.asg (.nm 5) (.call 6906700753603753580 (.cons (.lv 0) (.cons (.lv 4) .nil))))
 (.cons (.ife (.cmp .lt (.lv 5) (.int 0)) (.cons (.asg (.nm 5) (.bop .sub (.int 1) (.bop .mul (.int 2) (.lv 5))))
 .nil) .nil)
 (.cons (.ife (.cmp .ge (.lv 5) (.bop .pow (.int 10) (.int 18))) (.cons (.fr (.nm 6) (.rng (.cons (.int 60) .nil)) (.cons (.ife (.cmp .gt (.lv 5) (.int 0)) (.cons (.exp (.bm (.lv 3) .append (.cons (.bop .mod (.blt .int (.cons (.lv 5) .nil)) (.int 1000)) .nil)))
 (.cons (.asg (.nm 5) (.bop .fdiv (.lv 5) (.int 1000)))
 .nil)) .nil)
 .nil))
 .nil) (.cons (.asg (.nm 7) (.bop .mod (.blt .int (.cons (.bop .add (.bop .add (.bop .mul (.lv 5) (.int 48271)) (.bop .mul (.lv 4) (.int 69621))) (.int 11)) .nil)) (.int 2147483647)))
 (.cons (.fr (.nm 6) (.rng (.cons (.int 12) .nil)) (.cons (.asg (.nm 7) (.bop .mod (.blt .int (.cons (.bop .add (.bop .add (.bop .mul (.lv 7) (.int 16807)) (.bop .mul (.int 7) (.lv 6))) (.int 1)) .nil)) (.int 2147483647)))
 (.cons (.exp (.bm (.lv 3) .append (.cons (.bop .mod (.blt .int (.cons (.bop .fdiv (.lv 7) (.int 997)) .nil)) (.int 1000)) .nil)))
 .nil)))
 .nil)))
 .nil))))
 (.cons (.ret (.lv 3))
 .nil)))
/-- _law_draw(0 _law_box, 1 _law_many, 2 _law_at) -/
def F__law_draw : Fn where
  nm := [53958599637514232, 6906700753624659833, 421551559667956]
  np := 2
  sc := [(53958599637514232, .loc), (6906700753624659833, .loc), (421551559667956, .loc), (1782510, .glo), (1734516, .glo)]
  body := (.cons (.asg (.nm 2) (.ix (.lv 0) (.int 1)))
 (.cons (.six (.lv 0) (.int 1) (.bop .add (.lv 2) (.int 1)))
 (.cons (.ife (.cmp .lt (.lv 2) (.blt .len (.cons (.ix (.lv 0) (.int 0)) .nil))) (.cons (.ret (.bop .mod (.blt .int (.cons (.ix (.ix (.lv 0) (.int 0)) (.lv 2)) .nil)) (.lv 1)))
 .nil) .nil)
 (.cons (.ret (.int 0))
 .nil))))
/-- _law_same(0 _law_actual, 1 _law_expected, 2 _law_k) -/
def F__law_same : Fn where
  nm := [113159385146974659244268, 1854003366250376834118922980, 3293371559915]
  np := 2
  sc := [(113159385146974659244268, .loc), (1854003366250376834118922980, .loc), (3293371559915, .loc), (976800284697052295653, .glo), (31385728613, .glo), (1782510, .glo), (30806881253, .glo), (6906700753637242597, .glo), (207353836, .glo), (1734516, .glo), (1899122, .glo)]
  body := (.cons (.ife (.isi (.lv 1) .tuple) (.cons (.ife (.or (.cons (.not (.isi (.lv 0) .tuple)) (.cons (.cmp .ne (.blt .len (.cons (.lv 0) .nil)) (.blt .len (.cons (.lv 1) .nil))) .nil))) (.cons (.ret (.bl false))
 .nil) .nil)
 (.cons (.fr (.nm 2) (.rng (.cons (.blt .len (.cons (.lv 1) .nil)) .nil)) (.cons (.ife (.not (.call 6906700753637242597 (.cons (.ix (.lv 0) (.lv 2)) (.cons (.ix (.lv 1) (.lv 2)) .nil)))) (.cons (.ret (.bl false))
 .nil) .nil)
 .nil))
 (.cons (.ret (.bl true))
 .nil))) .nil)
 (.cons (.ife (.cmp .is (.lv 1) .non) (.cons (.ret (.cmp .is (.lv 0) .non))
 .nil) .nil)
 (.cons (.ife (.isi (.lv 1) .bool) (.cons (.ret (.and (.cons (.isi (.lv 0) .bool) (.cons (.cmp .eq (.lv 0) (.lv 1)) .nil))))
 .nil) .nil)
 (.cons (.ife (.isi (.lv 1) .int) (.cons (.ret (.and (.cons (.isi (.lv 0) .int) (.cons (.not (.isi (.lv 0) .bool)) (.cons (.cmp .eq (.lv 0) (.lv 1)) .nil)))))
 .nil) .nil)
 (.cons (.ret (.and (.cons (.isi (.lv 0) .str) (.cons (.cmp .eq (.lv 0) (.lv 1)) .nil))))
 .nil)))))
/-- _law_number(0 _law_box, 1 _law_kind, 2 _law_size) -/
def F__law_number : Fn where
  nm := [53958599637514232, 6906700753620596580, 6906700753637375333]
  np := 1
  sc := [(53958599637514232, .loc), (6906700753620596580, .loc), (6906700753637375333, .loc), (6906700753606062327, .glo)]
  body := (.cons (.asg (.nm 1) (.call 6906700753606062327 (.cons (.lv 0) (.cons (.int 8) .nil))))
 (.cons (.asg (.nm 2) (.call 6906700753606062327 (.cons (.lv 0) (.cons (.int 1000) .nil))))
 (.cons (.ife (.cmp .eq (.lv 1) (.int 0)) (.cons (.ret (.bop .sub (.bop .sub (.bop .pow (.int 10) (.int 60)) (.int 1)) (.bop .mod (.lv 2) (.int 3))))
 .nil) .nil)
 (.cons (.ife (.cmp .eq (.lv 1) (.int 1)) (.cons (.ret (.bop .sub (.bop .add (.bop .mod (.lv 2) (.int 3)) (.int 1)) (.bop .pow (.int 10) (.int 60))))
 .nil) .nil)
 (.cons (.ife (.cmp .eq (.lv 1) (.int 2)) (.cons (.ret (.bop .add (.bop .add (.bop .mul (.lv 2) (.bop .pow (.int 10) (.int 27))) (.bop .mul (.call 6906700753606062327 (.cons (.lv 0) (.cons (.int 1000) .nil))) (.bop .pow (.int 10) (.int 12)))) (.call 6906700753606062327 (.cons (.lv 0) (.cons (.int 1000) .nil)))))
 .nil) .nil)
 (.cons (.ife (.cmp .eq (.lv 1) (.int 3)) (.cons (.ret (.bop .sub (.bop .sub (.int 0) (.bop .mul (.lv 2) (.bop .pow (.int 10) (.int 28)))) (.call 6906700753606062327 (.cons (.lv 0) (.cons (.int 1000) .nil)))))
 .nil) .nil)
 (.cons (.ife (.cmp .eq (.lv 1) (.int 4)) (.cons (.ret (.bop .sub (.int 0) (.lv 2)))
 .nil) .nil)
 (.cons (.ife (.cmp .eq (.lv 1) (.int 5)) (.cons (.ret (.bop .mod (.lv 2) (.int 3)))
 .nil) .nil)
 (.cons (.ret (.lv 2))
 .nil)))))))))
/-- _law_text(0 _law_box, 1 _law_most, 2 _law_signs, 3 _law_text_here, 4 _law_k) -/
def F__law_text : Fn where
  nm := [53958599637514232, 6906700753624889844, 884057696465583732595, 237312430881118438327345314149, 3293371559915]
  np := 2
  sc := [(53958599637514232, .loc), (6906700753624889844, .loc), (884057696465583732595, .loc), (237312430881118438327345314149, .loc), (3293371559915, .loc), (6906700753606062327, .glo), (30806881253, .glo), (1782510, .glo)]
  body := (.cons (.asg (.nm 2) (.str [32,33,34,35,36,38,39,40,41,42,43,44,45,46,47,48,49,50,51,52,53,54,55,56,57,58,59,60,61,62,63,64,65,66,67,68,69,70,71,72,73,74,75,76,77,78,79,80,81,82,83,84,85,86,87,88,89,90,91,92,93,94,95,96]))
 (.cons (.asg (.nm 2) (.bop .add (.lv 2) (.str [97,98,99,100,101,102,103,104,105,106,107,108,109,110,111,112,113,114,115,116,117,118,119,120,121,122,123,124,125,126,10])))
 (.cons (.asg (.nm 3) (.str []))
 (.cons (.ife (.cmp .eq (.call 6906700753606062327 (.cons (.lv 0) (.cons (.int 4) .nil))) (.int 0)) (.cons (.asg (.nm 3) (.bop .mul (.ix (.lv 2) (.call 6906700753606062327 (.cons (.lv 0) (.cons (.int 95) .nil)))) (.call 6906700753606062327 (.cons (.lv 0) (.cons (.bop .add (.lv 1) (.int 1)) .nil)))))
 .nil) .nil)
 (.cons (.fr (.nm 4) (.rng (.cons (.call 6906700753606062327 (.cons (.lv 0) (.cons (.int 4) .nil))) .nil)) (.cons (.ife (.cmp .lt (.blt .len (.cons (.lv 3) .nil)) (.lv 1)) (.cons (.asg (.nm 3) (.bop .add (.lv 3) (.ix (.lv 2) (.call 6906700753606062327 (.cons (.lv 0) (.cons (.int 95) .nil))))))
 .nil) .nil)
 .nil))
 (.cons (.ret (.lv 3))
 .nil))))))
/-- _law_value(0 _law_box, 1 _law_kind, 2 _law_task, 3 _law_k) -/
def F__law_value : Fn where
  nm := [53958599637514232, 6906700753620596580, 6906700753639340523, 3293371559915]
  np := 1
  sc := [(53958599637514232, .loc), (6906700753620596580, .loc), (6906700753639340523, .loc), (3293371559915, .loc), (6906700753606062327, .glo), (6906700753639406708, .glo), (30806881253, .glo), (113159385147426152690418, .glo)]
  body := (.cons (.asg (.nm 1) (.call 6906700753606062327 (.cons (.lv 0) (.cons (.int 6) .nil))))
 (.cons (.ife (.cmp .eq (.lv 1) (.int 0)) (.cons (.ret (.tup (.cons (.str [110,111,110,101]) .nil)))
 .nil) .nil)
 (.cons (.ife (.cmp .eq (.lv 1) (.int 1)) (.cons (.ret (.tup (.cons (.str [98,111,111,108]) (.cons (.cmp .eq (.call 6906700753606062327 (.cons (.lv 0) (.cons (.int 2) .nil))) (.int 1)) .nil))))
 .nil) .nil)
 (.cons (.ife (.cmp .eq (.lv 1) (.int 2)) (.cons (.ret (.tup (.cons (.str [116,101,120,116]) (.cons (.call 6906700753639406708 (.cons (.lv 0) (.cons (.int 200) .nil))) .nil))))
 .nil) .nil)
 (.cons (.ife (.cmp .eq (.lv 1) (.int 3)) (.cons (.asg (.nm 2) (.tup .nil))
 (.cons (.fr (.nm 3) (.rng (.cons (.call 6906700753606062327 (.cons (.lv 0) (.cons (.int 3) .nil))) .nil)) (.cons (.asg (.nm 2) (.bop .add (.lv 2) (.tup (.cons (.call 6906700753606062327 (.cons (.lv 0) (.cons (.int 3) .nil))) .nil))))
 .nil))
 (.cons (.ret (.tup (.cons (.str [111,98,106,101,99,116]) (.cons (.lv 2) (.cons (.call 6906700753606062327 (.cons (.lv 0) (.cons (.int 3) .nil))) .nil)))))
 .nil))) .nil)
 (.cons (.ret (.tup (.cons (.str [105,110,116]) (.cons (.call 113159385147426152690418 (.cons (.lv 0) .nil)) .nil))))
 .nil))))))
/-- _law_object(0 _law_box, 1 _law_task, 2 _law_k) -/
def F__law_object : Fn where
  nm := [53958599637514232, 6906700753639340523, 3293371559915]
  np := 1
  sc := [(53958599637514232, .loc), (6906700753639340523, .loc), (3293371559915, .loc), (30806881253, .glo), (6906700753606062327, .glo)]
  body := (.cons (.asg (.nm 1) (.tup .nil))
 (.cons (.fr (.nm 2) (.rng (.cons (.call 6906700753606062327 (.cons (.lv 0) (.cons (.int 3) .nil))) .nil)) (.cons (.asg (.nm 1) (.bop .add (.lv 1) (.tup (.cons (.call 6906700753606062327 (.cons (.lv 0) (.cons (.int 3) .nil))) .nil))))
 .nil))
 (.cons (.ret (.tup (.cons (.str [111,98,106,101,99,116]) (.cons (.lv 1) (.cons (.call 6906700753606062327 (.cons (.lv 0) (.cons (.int 4) .nil))) .nil)))))
 .nil)))
/-- _law_same_memory(0 _law_actual, 1 _law_expected, 2 _law_place_here) -/
def F__law_same_memory : Fn where
  nm := [113159385146974659244268, 1854003366250376834118922980, 30375991152746757998499075815781]
  np := 2
  sc := [(113159385146974659244268, .loc), (1854003366250376834118922980, .loc), (30375991152746757998499075815781, .loc), (976800284697052295653, .glo), (211448308, .glo), (1782510, .glo), (6906700753637242597, .glo)]
  body := (.cons (.ife (.or (.cons (.not (.isi (.lv 0) .dict)) (.cons (.cmp .ne (.blt .len (.cons (.lv 0) .nil)) (.blt .len (.cons (.lv 1) .nil))) .nil))) (.cons (.ret (.bl false))
 .nil) .nil)
 (.cons (.lck 1 (.fr (.nm 2) (.ex (.lv 1)) (.cons (.ife (.or (.cons (.cmp .notin (.lv 2) (.lv 0)) (.cons (.not (.call 6906700753637242597 (.cons (.ix (.lv 0) (.lv 2)) (.cons (.ix (.lv 1) (.lv 2)) .nil)))) .nil))) (.cons (.ret (.bl false))
 .nil) .nil)
 .nil)))
 (.cons (.ret (.bl true))
 .nil)))
/-- _law_place(0 _law_box, 1 _law_task, 2 _law_k) -/
def F__law_place : Fn where
  nm := [53958599637514232, 6906700753639340523, 3293371559915]
  np := 1
  sc := [(53958599637514232, .loc), (6906700753639340523, .loc), (3293371559915, .loc), (30806881253, .glo), (6906700753606062327, .glo)]
  body := (.cons (.asg (.nm 1) (.tup .nil))
 (.cons (.fr (.nm 2) (.rng (.cons (.call 6906700753606062327 (.cons (.lv 0) (.cons (.int 3) .nil))) .nil)) (.cons (.asg (.nm 1) (.bop .add (.lv 1) (.tup (.cons (.call 6906700753606062327 (.cons (.lv 0) (.cons (.int 2) .nil))) .nil))))
 .nil))
 (.cons (.ret (.tup (.cons (.lv 1) (.cons (.call 6906700753606062327 (.cons (.lv 0) (.cons (.int 2) .nil))) (.cons (.call 6906700753606062327 (.cons (.lv 0) (.cons (.int 3) .nil))) .nil)))))
 .nil)))
/-- _law_memory(0 _law_box, 1 _law_memory_here, 2 _law_k, 3 _law_place_here, 4 _law_value_here) -/
def F__law_memory : Fn where
  nm := [53958599637514232, 3888126867547979556846064931273061, 3293371559915, 30375991152746757998499075815781, 30375991152801311868800112097637]
  np := 1
  sc := [(53958599637514232, .loc), (3888126867547979556846064931273061, .loc), (3293371559915, .loc), (30375991152746757998499075815781, .loc), (30375991152801311868800112097637, .loc), (30806881253, .glo), (6906700753606062327, .glo), (884057696464784617957, .glo), (884057696466372344549, .glo)]
  body := (.cons (.asg (.nm 1) .dnew)
 (.cons (.fr (.nm 2) (.rng (.cons (.call 6906700753606062327 (.cons (.lv 0) (.cons (.int 13) .nil))) .nil)) (.cons (.asg (.nm 3) (.call 884057696464784617957 (.cons (.lv 0) .nil)))
 (.cons (.asg (.nm 4) (.call 884057696466372344549 (.cons (.lv 0) .nil)))
 (.cons (.ife (.cmp .ne (.ix (.lv 4) (.int 0)) (.str [110,111,110,101])) (.cons (.six (.lv 1) (.lv 3) (.lv 4))
 .nil) .nil)
 .nil))))
 (.cons (.ret (.lv 1))
 .nil)))
/-- _law_readings(0 _law_box, 1 _law_memory_here, 2 _law_readings_here, 3 _law_k, 4 _law_place_here, 5 _law_value_here, 6 _law_kind) -/
def F__law_readings : Fn where
  nm := [53958599637514232, 3888126867547979556846064931273061, 63703070598002796855723881918484805989, 3293371559915, 30375991152746757998499075815781, 30375991152801311868800112097637, 6906700753620596580]
  np := 2
  sc := [(53958599637514232, .loc), (3888126867547979556846064931273061, .loc), (63703070598002796855723881918484805989, .loc), (3293371559915, .loc), (30375991152746757998499075815781, .loc), (30375991152801311868800112097637, .loc), (6906700753620596580, .loc), (30806881253, .glo), (6906700753606062327, .glo), (884057696464784617957, .glo), (884057696466372344549, .glo)]
  body := (.cons (.asg (.nm 2) (.tup .nil))
 (.cons (.fr (.nm 3) (.rng (.cons (.call 6906700753606062327 (.cons (.lv 0) (.cons (.int 17) .nil))) .nil)) (.cons (.asg (.nm 4) (.call 884057696464784617957 (.cons (.lv 0) .nil)))
 (.cons (.asg (.nm 5) (.bm (.lv 1) .get (.cons (.lv 4) (.cons (.tup (.cons (.str [110,111,110,101]) .nil)) .nil))))
 (.cons (.asg (.nm 6) (.call 6906700753606062327 (.cons (.lv 0) (.cons (.int 9) .nil))))
 (.cons (.ife (.cmp .eq (.lv 6) (.int 0)) (.cons (.asg (.nm 5) (.call 884057696466372344549 (.cons (.lv 0) .nil)))
 .nil) .nil)
 (.cons (.ife (.and (.cons (.cmp .eq (.lv 6) (.int 1)) (.cons (.cmp .eq (.ix (.lv 5) (.int 0)) (.str [105,110,116])) (.cons (.cmp .isin (.ix (.lv 5) (.int 1)) (.lst (.cons (.int 0) (.cons (.int 1) .nil)))) .nil)))) (.cons (.asg (.nm 5) (.tup (.cons (.str [98,111,111,108]) (.cons (.cmp .eq (.ix (.lv 5) (.int 1)) (.int 1)) .nil))))
 .nil) .nil)
 (.cons (.asg (.nm 2) (.bop .add (.lv 2) (.tup (.cons (.tup (.cons (.lv 4) (.cons (.lv 5) (.cons (.tup (.cons (.tup (.cons (.lv 3) (.cons (.tup .nil) (.cons (.tup (.cons (.str [111,98,106,101,99,116]) (.cons (.tup .nil) (.cons (.int 0) .nil)))) (.cons (.tup (.cons (.str [111,98,106,101,99,116]) (.cons (.tup .nil) (.cons (.int 0) .nil)))) (.cons (.tup .nil) .nil)))))) (.cons (.tup .nil) (.cons (.int 0) (.cons (.int 0) (.cons (.lv 3) .nil)))))) .nil)))) .nil))))
 .nil)))))))
 (.cons (.ret (.lv 2))
 .nil)))
/-- law(0 _law_script, 1 _law_box, 2 _law_turn, 3 _law_memory_here, 4 _law_readings_here, 5 _law_due, 6 _law_k, 7 _law_kept, 8 _law_place_here) -/
def F_law : Fn where
  nm := [113159385147593130145908, 53958599637514232, 6906700753639668078, 3888126867547979556846064931273061, 63703070598002796855723881918484805989, 53958599637547749, 3293371559915, 6906700753620531316, 30375991152746757998499075815781]
  np := 1
  sc := [(113159385147593130145908, .loc), (53958599637514232, .loc), (6906700753639668078, .loc), (3888126867547979556846064931273061, .loc), (63703070598002796855723881918484805989, .loc), (53958599637547749, .loc), (3293371559915, .loc), (6906700753620531316, .loc), (30375991152746757998499075815781, .loc), (113159385147079321614963, .glo), (30806881253, .glo), (113159385147387498199417, .glo), (1854003366257611104977662963, .glo), (1782510, .glo), (6906700753637242597, .glo), (121397079195480426805095, .glo), (3888126867555026207368748866468217, .glo)]
  body := (.cons (.asg (.nm 1) (.lst (.cons (.call 113159385147079321614963 (.cons (.lv 0) (.cons (.int 0) (.cons (.int 63) .nil)))) (.cons (.int 0) .nil))))
 (.cons (.fr (.nm 2) (.rng (.cons (.int 3) .nil)) (.cons (.asg (.nm 3) (.call 113159385147387498199417 (.cons (.lv 1) .nil)))
 (.cons (.asg (.nm 4) (.call 1854003366257611104977662963 (.cons (.lv 1) (.cons (.lv 3) .nil))))
 (.cons (.asg (.nm 5) (.neg (.int 1)))
 (.cons (.fr (.nm 6) (.rng (.cons (.blt .len (.cons (.lv 4) .nil)) .nil)) (.cons (.ife (.and (.cons (.cmp .eq (.lv 5) (.neg (.int 1))) (.cons (.not (.call 6906700753637242597 (.cons (.bm (.lv 3) .get (.cons (.ix (.ix (.lv 4) (.lv 6)) (.int 0)) (.cons (.tup (.cons (.str [110,111,110,101]) .nil)) .nil))) (.cons (.ix (.ix (.lv 4) (.lv 6)) (.int 1)) .nil)))) .nil))) (.cons (.asg (.nm 5) (.lv 6))
 .nil) .nil)
 .nil))
 (.cons (.asg (.nm 7) .dnew)
 (.cons (.lck 3 (.fr (.nm 8) (.ex (.lv 3)) (.cons (.six (.lv 7) (.lv 8) (.ix (.lv 3) (.lv 8)))
 .nil)))
 (.cons (.ife (.or (.cons (.not (.call 6906700753637242597 (.cons (.call 121397079195480426805095 (.cons (.lv 4) (.cons (.lv 3) .nil))) (.cons (.lv 5) .nil)))) (.cons (.not (.call 3888126867555026207368748866468217 (.cons (.lv 3) (.cons (.lv 7) .nil)))) .nil))) (.cons (.ret (.bl false))
 .nil) .nil)
 .nil))))))))
 (.cons (.ret (.bl true))
 .nil)))
def names : List Nat := [53901865833295839, 421105671663583, 113040549807442359840735, 883127105072890949599, 53902041641709535, 30343803369384018519279032659935, 14469062692678738009452511, 53901593100775391, 883121977020451991519, 164882245, 66858447487367142, 121397079195480426805095, 6906700753603753580, 113159385147079321614963, 6906700753606062327, 6906700753637242597, 113159385147426152690418, 6906700753639406708, 884057696466372344549, 113159385147455405912564, 3888126867555026207368748866468217, 884057696464784617957, 113159385147387498199417, 1854003366257611104977662963, 1782007]
def progL : List (Nat × Fn) := [(66858447487367142, F_value_of), (121397079195480426805095, F_first_wrong), (6906700753603753580, F__law_cell), (113159385147079321614963, F__law_digits), (6906700753606062327, F__law_draw), (6906700753637242597, F__law_same), (113159385147426152690418, F__law_number), (6906700753639406708, F__law_text), (884057696466372344549, F__law_value), (3888126867555026207368748866468217, F__law_same_memory), (884057696464784617957, F__law_place), (113159385147387498199417, F__law_memory), (1854003366257611104977662963, F__law_readings), (1782007, F_law)]
def mtL : List Mt := []
def clL : List (Nat × Cl) := []
def gvL : List (Nat × D) := [(164882245, (.tup [(.str [110,111,110,101])]))]
def kdL : List (Nat × List (List Nat × D)) := []
def TT : Top := ⟨names, progL, gvL, kdL, clL, mtL⟩
theorem gv_NONE : TT.pr.gv 164882245 = some (.tup [(.str [110,111,110,101])]) := by rfl
theorem fn_value_of : TT.pr.fn 66858447487367142 = some F_value_of := by rfl
theorem fn_first_wrong : TT.pr.fn 121397079195480426805095 = some F_first_wrong := by rfl
theorem fn__law_cell : TT.pr.fn 6906700753603753580 = some F__law_cell := by rfl
theorem fn__law_digits : TT.pr.fn 113159385147079321614963 = some F__law_digits := by rfl
theorem fn__law_draw : TT.pr.fn 6906700753606062327 = some F__law_draw := by rfl
theorem fn__law_same : TT.pr.fn 6906700753637242597 = some F__law_same := by rfl
theorem fn__law_number : TT.pr.fn 113159385147426152690418 = some F__law_number := by rfl
theorem fn__law_text : TT.pr.fn 6906700753639406708 = some F__law_text := by rfl
theorem fn__law_value : TT.pr.fn 884057696466372344549 = some F__law_value := by rfl
theorem fn__law_same_memory : TT.pr.fn 3888126867555026207368748866468217 = some F__law_same_memory := by rfl
theorem fn__law_place : TT.pr.fn 884057696464784617957 = some F__law_place := by rfl
theorem fn__law_memory : TT.pr.fn 113159385147387498199417 = some F__law_memory := by rfl
theorem fn__law_readings : TT.pr.fn 1854003366257611104977662963 = some F__law_readings := by rfl
theorem fn_law : TT.pr.fn 1782007 = some F_law := by rfl
theorem cal_value_of (k : Nat) (h : LH) (a0 : D) (a1 : D) : callN TT.pr (k + 1) 66858447487367142 [a0, a1] h = fin (evSs TT.pr (callN TT.pr k) F_value_of.body (start F_value_of [a0, a1]) h) := callN_succ fn_value_of rfl
theorem cal_first_wrong (k : Nat) (h : LH) (a0 : D) (a1 : D) : callN TT.pr (k + 1) 121397079195480426805095 [a0, a1] h = fin (evSs TT.pr (callN TT.pr k) F_first_wrong.body (start F_first_wrong [a0, a1]) h) := callN_succ fn_first_wrong rfl
theorem cal__law_cell (k : Nat) (h : LH) (a0 : D) (a1 : D) : callN TT.pr (k + 1) 6906700753603753580 [a0, a1] h = fin (evSs TT.pr (callN TT.pr k) F__law_cell.body (start F__law_cell [a0, a1]) h) := callN_succ fn__law_cell rfl
theorem cal__law_digits (k : Nat) (h : LH) (a0 : D) (a1 : D) (a2 : D) : callN TT.pr (k + 1) 113159385147079321614963 [a0, a1, a2] h = fin (evSs TT.pr (callN TT.pr k) F__law_digits.body (start F__law_digits [a0, a1, a2]) h) := callN_succ fn__law_digits rfl
theorem cal__law_draw (k : Nat) (h : LH) (a0 : D) (a1 : D) : callN TT.pr (k + 1) 6906700753606062327 [a0, a1] h = fin (evSs TT.pr (callN TT.pr k) F__law_draw.body (start F__law_draw [a0, a1]) h) := callN_succ fn__law_draw rfl
theorem cal__law_same (k : Nat) (h : LH) (a0 : D) (a1 : D) : callN TT.pr (k + 1) 6906700753637242597 [a0, a1] h = fin (evSs TT.pr (callN TT.pr k) F__law_same.body (start F__law_same [a0, a1]) h) := callN_succ fn__law_same rfl
theorem cal__law_number (k : Nat) (h : LH) (a0 : D) : callN TT.pr (k + 1) 113159385147426152690418 [a0] h = fin (evSs TT.pr (callN TT.pr k) F__law_number.body (start F__law_number [a0]) h) := callN_succ fn__law_number rfl
theorem cal__law_text (k : Nat) (h : LH) (a0 : D) (a1 : D) : callN TT.pr (k + 1) 6906700753639406708 [a0, a1] h = fin (evSs TT.pr (callN TT.pr k) F__law_text.body (start F__law_text [a0, a1]) h) := callN_succ fn__law_text rfl
theorem cal__law_value (k : Nat) (h : LH) (a0 : D) : callN TT.pr (k + 1) 884057696466372344549 [a0] h = fin (evSs TT.pr (callN TT.pr k) F__law_value.body (start F__law_value [a0]) h) := callN_succ fn__law_value rfl
theorem cal__law_same_memory (k : Nat) (h : LH) (a0 : D) (a1 : D) : callN TT.pr (k + 1) 3888126867555026207368748866468217 [a0, a1] h = fin (evSs TT.pr (callN TT.pr k) F__law_same_memory.body (start F__law_same_memory [a0, a1]) h) := callN_succ fn__law_same_memory rfl
theorem cal__law_place (k : Nat) (h : LH) (a0 : D) : callN TT.pr (k + 1) 884057696464784617957 [a0] h = fin (evSs TT.pr (callN TT.pr k) F__law_place.body (start F__law_place [a0]) h) := callN_succ fn__law_place rfl
theorem cal__law_memory (k : Nat) (h : LH) (a0 : D) : callN TT.pr (k + 1) 113159385147387498199417 [a0] h = fin (evSs TT.pr (callN TT.pr k) F__law_memory.body (start F__law_memory [a0]) h) := callN_succ fn__law_memory rfl
theorem cal__law_readings (k : Nat) (h : LH) (a0 : D) (a1 : D) : callN TT.pr (k + 1) 1854003366257611104977662963 [a0, a1] h = fin (evSs TT.pr (callN TT.pr k) F__law_readings.body (start F__law_readings [a0, a1]) h) := callN_succ fn__law_readings rfl
theorem cal_law (k : Nat) (h : LH) (a0 : D) : callN TT.pr (k + 1) 1782007 [a0] h = fin (evSs TT.pr (callN TT.pr k) F_law.body (start F_law [a0]) h) := callN_succ fn_law rfl

end FK.K46
end
section
set_option maxRecDepth 100000
set_option maxHeartbeats 4000000
namespace FK
namespace K46
theorem cell_ok (k : Nat) (s : Nat) (ns : List Int) (j : Nat) (h : LH) (hs : h[s]? = some (.scr ns)) : ∃ i, callN TT.pr (k+1) 6906700753603753580 [.ref s, .int j] h = some (.int i, h) := by
  rw [callN_succ fn__law_cell rfl]
  simp [fin_rt, fin_nx, start, evSs, evS_asg, evS_six, evS_aug, evS_exp, evS_ret, evS_brk, evS_pas, evS_ife, evS_fr, evS_whl, bodyF_ap, testF_ap, tgF_ap, evEs, evAnd, evOr, evTs, evIs, tsE, op_addi, op_subi, op_muli, op_divi, op_modi, op_powi, op_adds, op_addt, op_addl, op_rep, cm_eq, cm_ne, cm_lt, cm_le, cm_gt, cm_ge, cm_is, cm_isn, cm_isb, cm_isnb, cm_in, cm_nin, in_kd, in_tup, in_chr, in_ref, tr_non, tr_bl, tr_int, tr_str, tr_tup, tr_ref, ix_tup, ix_str, ix_kd, ix_ref, ln_str, ln_tup, ln_ref, ty_non, ty_bl, ty_int, ty_str, ty_tup, ty_ref, bf_len, bf_int, bf_intb, bf_tuple, bf_list, bf_str, sq_tup, sq_ref, wk_tup, wk_ref, to_str, to_tup, to_ref, me_app, in_non, in_bl, in_int, in_str, in_tup', in_ref', sl_tup, sl_str, sl_ref, tgA, tgsA, setSl, atI_0, atI_1, atI_2, atI_3, atI_4, List.lookup, isNonE, ptI, mulOk_r, mulOk_l, divOk_s, rngOf_1, rngOf_2, b2i, shp, pq_non_non, pq_non_bl, pq_non_int, pq_non_str, pq_non_tup, pq_bl_non, pq_bl_bl, pq_bl_int, pq_bl_str, pq_bl_tup, pq_int_non, pq_int_bl, pq_int_int, pq_int_str, pq_int_tup, pq_str_non, pq_str_bl, pq_str_int, pq_str_str, pq_str_tup, pq_tup_non, pq_tup_bl, pq_tup_int, pq_tup_str, pq_tup_tup, pqs_nn, pqs_cc, pqs_nc, pqs_cn, pur_non, pur_bl, pur_int, pur_str, pur_tup, pur_ref, pur_fn, pur_kd, purs_n, purs_c, dep_non, dep_bl, dep_int, dep_str, dep_tup, deps_n, deps_c, SZ, evE_non, evE_bl, evE_int, evE_str, evE_lv, evE_gv, evE_tup, evE_lst, evE_bop, evE_neg, evE_not, evE_cmp, evE_cmp2, evE_and, evE_or, evE_ix, evE_sl, evE_call, evE_blt, evE_calv, evE_isi, evE_bm, evE_dnew, evE_mk, evE_cm, evE_fld, evE_lc, evE_lcb, evS_asl, evS_sfl, evS_augf, evS_del, evS_lck, ix_dic', wk_str, me_ext, me_ins, me_pop, me_idx, me_dget, me_dpop, me_joinl, me_joint, tstF_ap, eltF_ap, op_rept, op_repl, F__law_cell, hs]
  by_cases q : j < ns.length
  · simp [q, atI, ixN]
  · simp [q]
theorem digit_in (v : Int) : 0 ≤ v.fmod 1000 ∧ v.fmod 1000 < 1000 := ⟨Int.fmod_nonneg_of_pos v (by decide), Int.fmod_lt_of_pos v (by decide)⟩
theorem digits_ok (k : Nat) (s : Nat) (ns : List Int) (h : LH) (hs : h[s]? = some (.scr ns)) : WP (fun r => r.1 = .ref h.length ∧ ∃ ds : List Int, r.2 = h ++ [.lst (ds.map D.int)] ∧ ∀ x ∈ ds, 0 ≤ x ∧ x < 1000) (callN TT.pr (k+2) 113159385147079321614963 [.ref s, .int 0, .int 63] h) := by
  refine WP.mk fun R hR => ?_
  rw [callN_succ fn__law_digits rfl]
  simp [fin_rt, fin_nx, start, evSs, evS_asg, evS_six, evS_aug, evS_exp, evS_ret, evS_brk, evS_pas, evS_ife, evS_fr, evS_whl, bodyF_ap, testF_ap, tgF_ap, evEs, evAnd, evOr, evTs, evIs, tsE, op_addi, op_subi, op_muli, op_divi, op_modi, op_powi, op_adds, op_addt, op_addl, op_rep, cm_eq, cm_ne, cm_lt, cm_le, cm_gt, cm_ge, cm_is, cm_isn, cm_isb, cm_isnb, cm_in, cm_nin, in_kd, in_tup, in_chr, in_ref, tr_non, tr_bl, tr_int, tr_str, tr_tup, tr_ref, ix_tup, ix_str, ix_kd, ix_ref, ln_str, ln_tup, ln_ref, ty_non, ty_bl, ty_int, ty_str, ty_tup, ty_ref, bf_len, bf_int, bf_intb, bf_tuple, bf_list, bf_str, sq_tup, sq_ref, wk_tup, wk_ref, to_str, to_tup, to_ref, me_app, in_non, in_bl, in_int, in_str, in_tup', in_ref', sl_tup, sl_str, sl_ref, tgA, tgsA, setSl, atI_0, atI_1, atI_2, atI_3, atI_4, List.lookup, isNonE, ptI, mulOk_r, mulOk_l, divOk_s, rngOf_1, rngOf_2, b2i, shp, pq_non_non, pq_non_bl, pq_non_int, pq_non_str, pq_non_tup, pq_bl_non, pq_bl_bl, pq_bl_int, pq_bl_str, pq_bl_tup, pq_int_non, pq_int_bl, pq_int_int, pq_int_str, pq_int_tup, pq_str_non, pq_str_bl, pq_str_int, pq_str_str, pq_str_tup, pq_tup_non, pq_tup_bl, pq_tup_int, pq_tup_str, pq_tup_tup, pqs_nn, pqs_cc, pqs_nc, pqs_cn, pur_non, pur_bl, pur_int, pur_str, pur_tup, pur_ref, pur_fn, pur_kd, purs_n, purs_c, dep_non, dep_bl, dep_int, dep_str, dep_tup, deps_n, deps_c, SZ, evE_non, evE_bl, evE_int, evE_str, evE_lv, evE_gv, evE_tup, evE_lst, evE_bop, evE_neg, evE_not, evE_cmp, evE_cmp2, evE_and, evE_or, evE_ix, evE_sl, evE_call, evE_blt, evE_calv, evE_isi, evE_bm, evE_dnew, evE_mk, evE_cm, evE_fld, evE_lc, evE_lcb, evS_asl, evS_sfl, evS_augf, evS_del, evS_lck, ix_dic', wk_str, me_ext, me_ins, me_pop, me_idx, me_dget, me_dpop, me_joinl, me_joint, tstF_ap, eltF_ap, op_rept, op_repl, F__law_digits, alloc]
  generalize hL : forL _ _ _ _ _ _ _ = L
  refine forL_go hL (fun i σ h' => ∃ (ds : List Int) (a4 a5 a6 a7 : Option D), σ = [some (.ref s), some (.int 0), some (.int 63), some (.ref h.length), a4, a5, a6, a7] ∧ h' = h ++ [.lst (ds.map D.int)] ∧ ds.length ≤ 60 * i ∧ ∀ x ∈ ds, 0 ≤ x ∧ x < 1000) ⟨[], _, _, _, _, rfl, rfl, by simp, by simp⟩ ?_ ?_
  · rintro i x σ h' hx ⟨ds, a4, a5, a6, a7, rfl, rfl, hl, hd⟩ Q hQ
    have hx' : x = .int i ∧ i < 63 := rng_at0 hx
    clear hx hL
    obtain ⟨rfl, hi⟩ := hx'
    obtain ⟨c, hc⟩ := cell_ok k s ns i (h ++ [.lst (ds.map D.int)]) (by rw [List.getElem?_append_left (lt_of_get hs), hs])
    simp [fin_rt, fin_nx, start, evSs, evS_asg, evS_six, evS_aug, evS_exp, evS_ret, evS_brk, evS_pas, evS_ife, evS_fr, evS_whl, bodyF_ap, testF_ap, tgF_ap, evEs, evAnd, evOr, evTs, evIs, tsE, op_addi, op_subi, op_muli, op_divi, op_modi, op_powi, op_adds, op_addt, op_addl, op_rep, cm_eq, cm_ne, cm_lt, cm_le, cm_gt, cm_ge, cm_is, cm_isn, cm_isb, cm_isnb, cm_in, cm_nin, in_kd, in_tup, in_chr, in_ref, tr_non, tr_bl, tr_int, tr_str, tr_tup, tr_ref, ix_tup, ix_str, ix_kd, ix_ref, ln_str, ln_tup, ln_ref, ty_non, ty_bl, ty_int, ty_str, ty_tup, ty_ref, bf_len, bf_int, bf_intb, bf_tuple, bf_list, bf_str, sq_tup, sq_ref, wk_tup, wk_ref, to_str, to_tup, to_ref, me_app, in_non, in_bl, in_int, in_str, in_tup', in_ref', sl_tup, sl_str, sl_ref, tgA, tgsA, setSl, atI_0, atI_1, atI_2, atI_3, atI_4, List.lookup, isNonE, ptI, mulOk_r, mulOk_l, divOk_s, rngOf_1, rngOf_2, b2i, shp, pq_non_non, pq_non_bl, pq_non_int, pq_non_str, pq_non_tup, pq_bl_non, pq_bl_bl, pq_bl_int, pq_bl_str, pq_bl_tup, pq_int_non, pq_int_bl, pq_int_int, pq_int_str, pq_int_tup, pq_str_non, pq_str_bl, pq_str_int, pq_str_str, pq_str_tup, pq_tup_non, pq_tup_bl, pq_tup_int, pq_tup_str, pq_tup_tup, pqs_nn, pqs_cc, pqs_nc, pqs_cn, pur_non, pur_bl, pur_int, pur_str, pur_tup, pur_ref, pur_fn, pur_kd, purs_n, purs_c, dep_non, dep_bl, dep_int, dep_str, dep_tup, deps_n, deps_c, SZ, evE_non, evE_bl, evE_int, evE_str, evE_lv, evE_gv, evE_tup, evE_lst, evE_bop, evE_neg, evE_not, evE_cmp, evE_cmp2, evE_and, evE_or, evE_ix, evE_sl, evE_call, evE_blt, evE_calv, evE_isi, evE_bm, evE_dnew, evE_mk, evE_cm, evE_fld, evE_lc, evE_lcb, evS_asl, evS_sfl, evS_augf, evS_del, evS_lck, ix_dic', wk_str, me_ext, me_ins, me_pop, me_idx, me_dget, me_dpop, me_joinl, me_joint, tstF_ap, eltF_ap, op_rept, op_repl, hc]
    by_cases q : c < 0 <;> simp [fin_rt, fin_nx, start, evSs, evS_asg, evS_six, evS_aug, evS_exp, evS_ret, evS_brk, evS_pas, evS_ife, evS_fr, evS_whl, bodyF_ap, testF_ap, tgF_ap, evEs, evAnd, evOr, evTs, evIs, tsE, op_addi, op_subi, op_muli, op_divi, op_modi, op_powi, op_adds, op_addt, op_addl, op_rep, cm_eq, cm_ne, cm_lt, cm_le, cm_gt, cm_ge, cm_is, cm_isn, cm_isb, cm_isnb, cm_in, cm_nin, in_kd, in_tup, in_chr, in_ref, tr_non, tr_bl, tr_int, tr_str, tr_tup, tr_ref, ix_tup, ix_str, ix_kd, ix_ref, ln_str, ln_tup, ln_ref, ty_non, ty_bl, ty_int, ty_str, ty_tup, ty_ref, bf_len, bf_int, bf_intb, bf_tuple, bf_list, bf_str, sq_tup, sq_ref, wk_tup, wk_ref, to_str, to_tup, to_ref, me_app, in_non, in_bl, in_int, in_str, in_tup', in_ref', sl_tup, sl_str, sl_ref, tgA, tgsA, setSl, atI_0, atI_1, atI_2, atI_3, atI_4, List.lookup, isNonE, ptI, mulOk_r, mulOk_l, divOk_s, rngOf_1, rngOf_2, b2i, shp, pq_non_non, pq_non_bl, pq_non_int, pq_non_str, pq_non_tup, pq_bl_non, pq_bl_bl, pq_bl_int, pq_bl_str, pq_bl_tup, pq_int_non, pq_int_bl, pq_int_int, pq_int_str, pq_int_tup, pq_str_non, pq_str_bl, pq_str_int, pq_str_str, pq_str_tup, pq_tup_non, pq_tup_bl, pq_tup_int, pq_tup_str, pq_tup_tup, pqs_nn, pqs_cc, pqs_nc, pqs_cn, pur_non, pur_bl, pur_int, pur_str, pur_tup, pur_ref, pur_fn, pur_kd, purs_n, purs_c, dep_non, dep_bl, dep_int, dep_str, dep_tup, deps_n, deps_c, SZ, evE_non, evE_bl, evE_int, evE_str, evE_lv, evE_gv, evE_tup, evE_lst, evE_bop, evE_neg, evE_not, evE_cmp, evE_cmp2, evE_and, evE_or, evE_ix, evE_sl, evE_call, evE_blt, evE_calv, evE_isi, evE_bm, evE_dnew, evE_mk, evE_cm, evE_fld, evE_lc, evE_lcb, evS_asl, evS_sfl, evS_augf, evS_del, evS_lck, ix_dic', wk_str, me_ext, me_ins, me_pop, me_idx, me_dget, me_dpop, me_joinl, me_joint, tstF_ap, eltF_ap, op_rept, op_repl, q]
    case' pos => generalize 1 - 2 * c = c
    all_goals
      clear hc
      by_cases q2 : 1000000000000000000 ≤ c <;> simp [q2]
      · generalize hL : forL _ _ _ _ _ _ _ = L
        refine forL_go hL (fun j σ h' => ∃ (ds : List Int) (c : Int) (a6 a7 : Option D), σ = [some (.ref s), some (.int 0), some (.int 63), some (.ref h.length), some (.int i), some (.int c), a6, a7] ∧ h' = h ++ [.lst (ds.map D.int)] ∧ ds.length ≤ 60 * i + j ∧ ∀ x ∈ ds, 0 ≤ x ∧ x < 1000) ⟨ds, c, _, _, rfl, rfl, by omega, hd⟩ ?_ ?_
        · rintro j x σ h' hx ⟨ds, c, a6, a7, rfl, rfl, hl, hd⟩ Q hQ
          obtain ⟨rfl, hj⟩ := rng_at0 hx
          have hl2 : ds.length < 16777216 := by omega
          clear hx hL q2
          by_cases q3 : 0 < c <;> simp [fin_rt, fin_nx, start, evSs, evS_asg, evS_six, evS_aug, evS_exp, evS_ret, evS_brk, evS_pas, evS_ife, evS_fr, evS_whl, bodyF_ap, testF_ap, tgF_ap, evEs, evAnd, evOr, evTs, evIs, tsE, op_addi, op_subi, op_muli, op_divi, op_modi, op_powi, op_adds, op_addt, op_addl, op_rep, cm_eq, cm_ne, cm_lt, cm_le, cm_gt, cm_ge, cm_is, cm_isn, cm_isb, cm_isnb, cm_in, cm_nin, in_kd, in_tup, in_chr, in_ref, tr_non, tr_bl, tr_int, tr_str, tr_tup, tr_ref, ix_tup, ix_str, ix_kd, ix_ref, ln_str, ln_tup, ln_ref, ty_non, ty_bl, ty_int, ty_str, ty_tup, ty_ref, bf_len, bf_int, bf_intb, bf_tuple, bf_list, bf_str, sq_tup, sq_ref, wk_tup, wk_ref, to_str, to_tup, to_ref, me_app, in_non, in_bl, in_int, in_str, in_tup', in_ref', sl_tup, sl_str, sl_ref, tgA, tgsA, setSl, atI_0, atI_1, atI_2, atI_3, atI_4, List.lookup, isNonE, ptI, mulOk_r, mulOk_l, divOk_s, rngOf_1, rngOf_2, b2i, shp, pq_non_non, pq_non_bl, pq_non_int, pq_non_str, pq_non_tup, pq_bl_non, pq_bl_bl, pq_bl_int, pq_bl_str, pq_bl_tup, pq_int_non, pq_int_bl, pq_int_int, pq_int_str, pq_int_tup, pq_str_non, pq_str_bl, pq_str_int, pq_str_str, pq_str_tup, pq_tup_non, pq_tup_bl, pq_tup_int, pq_tup_str, pq_tup_tup, pqs_nn, pqs_cc, pqs_nc, pqs_cn, pur_non, pur_bl, pur_int, pur_str, pur_tup, pur_ref, pur_fn, pur_kd, purs_n, purs_c, dep_non, dep_bl, dep_int, dep_str, dep_tup, deps_n, deps_c, SZ, evE_non, evE_bl, evE_int, evE_str, evE_lv, evE_gv, evE_tup, evE_lst, evE_bop, evE_neg, evE_not, evE_cmp, evE_cmp2, evE_and, evE_or, evE_ix, evE_sl, evE_call, evE_blt, evE_calv, evE_isi, evE_bm, evE_dnew, evE_mk, evE_cm, evE_fld, evE_lc, evE_lcb, evS_asl, evS_sfl, evS_augf, evS_del, evS_lck, ix_dic', wk_str, me_ext, me_ins, me_pop, me_idx, me_dget, me_dpop, me_joinl, me_joint, tstF_ap, eltF_ap, op_rept, op_repl, q3, hl2, setLst_top]
          · simp only [Option.bind_some, wp_some]; exact (hQ _ _ trivial ⟨ds ++ [c.fmod 1000], _, _, _, rfl, by simp, by simp; omega, by intro x hx; simp at hx; rcases hx with hx | rfl; exact hd x hx; exact digit_in c⟩)
          · simp only [Option.bind_some, wp_some]; exact (hQ _ _ trivial ⟨ds, _, _, _, rfl, rfl, by omega, hd⟩)
        · rintro σ' h' rfl ⟨ds, c, a6, a7, rfl, rfl, hl, hd⟩
          simp at hl
          simp only [Option.bind_some, wp_some]; exact (hQ _ _ trivial ⟨ds, _, _, _, _, rfl, rfl, by omega, hd⟩)
      · generalize hL : forL _ _ _ _ _ _ _ = L
        refine forL_go hL (fun j σ h' => ∃ (ds : List Int) (c d : Int) (a6 : Option D), σ = [some (.ref s), some (.int 0), some (.int 63), some (.ref h.length), some (.int i), some (.int c), a6, some (.int d)] ∧ h' = h ++ [.lst (ds.map D.int)] ∧ ds.length ≤ 60 * i + j ∧ ∀ x ∈ ds, 0 ≤ x ∧ x < 1000) ⟨ds, c, _, _, rfl, rfl, by omega, hd⟩ ?_ ?_
        · rintro j x σ h' hx ⟨ds, c, d, a6, rfl, rfl, hl, hd⟩ Q hQ
          obtain ⟨rfl, hj⟩ := rng_at0 hx
          have hl2 : ds.length < 16777216 := by omega
          clear hx hL q2
          simp [fin_rt, fin_nx, start, evSs, evS_asg, evS_six, evS_aug, evS_exp, evS_ret, evS_brk, evS_pas, evS_ife, evS_fr, evS_whl, bodyF_ap, testF_ap, tgF_ap, evEs, evAnd, evOr, evTs, evIs, tsE, op_addi, op_subi, op_muli, op_divi, op_modi, op_powi, op_adds, op_addt, op_addl, op_rep, cm_eq, cm_ne, cm_lt, cm_le, cm_gt, cm_ge, cm_is, cm_isn, cm_isb, cm_isnb, cm_in, cm_nin, in_kd, in_tup, in_chr, in_ref, tr_non, tr_bl, tr_int, tr_str, tr_tup, tr_ref, ix_tup, ix_str, ix_kd, ix_ref, ln_str, ln_tup, ln_ref, ty_non, ty_bl, ty_int, ty_str, ty_tup, ty_ref, bf_len, bf_int, bf_intb, bf_tuple, bf_list, bf_str, sq_tup, sq_ref, wk_tup, wk_ref, to_str, to_tup, to_ref, me_app, in_non, in_bl, in_int, in_str, in_tup', in_ref', sl_tup, sl_str, sl_ref, tgA, tgsA, setSl, atI_0, atI_1, atI_2, atI_3, atI_4, List.lookup, isNonE, ptI, mulOk_r, mulOk_l, divOk_s, rngOf_1, rngOf_2, b2i, shp, pq_non_non, pq_non_bl, pq_non_int, pq_non_str, pq_non_tup, pq_bl_non, pq_bl_bl, pq_bl_int, pq_bl_str, pq_bl_tup, pq_int_non, pq_int_bl, pq_int_int, pq_int_str, pq_int_tup, pq_str_non, pq_str_bl, pq_str_int, pq_str_str, pq_str_tup, pq_tup_non, pq_tup_bl, pq_tup_int, pq_tup_str, pq_tup_tup, pqs_nn, pqs_cc, pqs_nc, pqs_cn, pur_non, pur_bl, pur_int, pur_str, pur_tup, pur_ref, pur_fn, pur_kd, purs_n, purs_c, dep_non, dep_bl, dep_int, dep_str, dep_tup, deps_n, deps_c, SZ, evE_non, evE_bl, evE_int, evE_str, evE_lv, evE_gv, evE_tup, evE_lst, evE_bop, evE_neg, evE_not, evE_cmp, evE_cmp2, evE_and, evE_or, evE_ix, evE_sl, evE_call, evE_blt, evE_calv, evE_isi, evE_bm, evE_dnew, evE_mk, evE_cm, evE_fld, evE_lc, evE_lcb, evS_asl, evS_sfl, evS_augf, evS_del, evS_lck, ix_dic', wk_str, me_ext, me_ins, me_pop, me_idx, me_dget, me_dpop, me_joinl, me_joint, tstF_ap, eltF_ap, op_rept, op_repl, hl2, setLst_top]
          generalize Int.fdiv _ _ = v
          simp only [Option.bind_some, wp_some]; exact (hQ _ _ trivial ⟨ds ++ [v.fmod 1000], _, _, _, rfl, by simp, by simp; omega, by intro x hx; simp at hx; rcases hx with hx | rfl; exact hd x hx; exact digit_in v⟩)
        · rintro σ' h' rfl ⟨ds, c, d, a6, rfl, rfl, hl, hd⟩
          simp at hl
          simp only [Option.bind_some, wp_some]; exact (hQ _ _ trivial ⟨ds, _, _, _, _, rfl, rfl, by omega, hd⟩)
  · rintro σ' h' rfl ⟨ds, a4, a5, a6, a7, rfl, rfl, hl, hd⟩
    simp
    simp only [Option.bind_some, wp_some]; exact (hR _ ⟨rfl, ds, rfl, hd⟩)
theorem draw_ok (k : Nat) (h : LH) (b d : Nat) (m : Int) (hm : 0 < m) (B : Bx h b d) : ∃ v h', callN TT.pr (k+1) 6906700753606062327 [.ref b, .int m] h = some (.int v, h') ∧ 0 ≤ v ∧ v < m ∧ Bx h' b d ∧ Ext b h h' := by
  suffices H : WP (fun r => ∃ v, r.1 = .int v ∧ 0 ≤ v ∧ v < m ∧ Bx r.2 b d ∧ Ext b h r.2) (callN TT.pr (k+1) 6906700753606062327 [.ref b, .int m] h) by
    obtain ⟨⟨_, h'⟩, e, v, rfl, p⟩ := H
    exact ⟨v, h', e, p⟩
  refine WP.mk fun R hR => ?_
  obtain ⟨ds, t, e1, e2, nb, r⟩ := B
  have lb := lt_of_get e1
  have ld := lt_of_get e2
  have hm0 : m ≠ 0 := by omega
  have ex : Ext b h (setLst h b [.ref d, .int (t + 1)]) := ⟨by simp, fun a _ n => setLst_ne n⟩
  have bx : Bx (setLst h b [.ref d, .int (t + 1)]) b d := ⟨ds, t + 1, by rw [setLst_same lb]; rfl, by rw [setLst_ne (Ne.symm nb), e2], nb, r⟩
  rw [callN_succ fn__law_draw rfl]
  simp [fin_rt, fin_nx, start, evSs, evS_asg, evS_six, evS_aug, evS_exp, evS_ret, evS_brk, evS_pas, evS_ife, evS_fr, evS_whl, bodyF_ap, testF_ap, tgF_ap, evEs, evAnd, evOr, evTs, evIs, tsE, op_addi, op_subi, op_muli, op_divi, op_modi, op_powi, op_adds, op_addt, op_addl, op_rep, cm_eq, cm_ne, cm_lt, cm_le, cm_gt, cm_ge, cm_is, cm_isn, cm_isb, cm_isnb, cm_in, cm_nin, in_kd, in_tup, in_chr, in_ref, tr_non, tr_bl, tr_int, tr_str, tr_tup, tr_ref, ix_tup, ix_str, ix_kd, ix_ref, ln_str, ln_tup, ln_ref, ty_non, ty_bl, ty_int, ty_str, ty_tup, ty_ref, bf_len, bf_int, bf_intb, bf_tuple, bf_list, bf_str, sq_tup, sq_ref, wk_tup, wk_ref, to_str, to_tup, to_ref, me_app, in_non, in_bl, in_int, in_str, in_tup', in_ref', sl_tup, sl_str, sl_ref, tgA, tgsA, setSl, atI_0, atI_1, atI_2, atI_3, atI_4, List.lookup, isNonE, ptI, mulOk_r, mulOk_l, divOk_s, rngOf_1, rngOf_2, b2i, shp, pq_non_non, pq_non_bl, pq_non_int, pq_non_str, pq_non_tup, pq_bl_non, pq_bl_bl, pq_bl_int, pq_bl_str, pq_bl_tup, pq_int_non, pq_int_bl, pq_int_int, pq_int_str, pq_int_tup, pq_str_non, pq_str_bl, pq_str_int, pq_str_str, pq_str_tup, pq_tup_non, pq_tup_bl, pq_tup_int, pq_tup_str, pq_tup_tup, pqs_nn, pqs_cc, pqs_nc, pqs_cn, pur_non, pur_bl, pur_int, pur_str, pur_tup, pur_ref, pur_fn, pur_kd, purs_n, purs_c, dep_non, dep_bl, dep_int, dep_str, dep_tup, deps_n, deps_c, SZ, evE_non, evE_bl, evE_int, evE_str, evE_lv, evE_gv, evE_tup, evE_lst, evE_bop, evE_neg, evE_not, evE_cmp, evE_cmp2, evE_and, evE_or, evE_ix, evE_sl, evE_call, evE_blt, evE_calv, evE_isi, evE_bm, evE_dnew, evE_mk, evE_cm, evE_fld, evE_lc, evE_lcb, evS_asl, evS_sfl, evS_augf, evS_del, evS_lck, ix_dic', wk_str, me_ext, me_ins, me_pop, me_idx, me_dget, me_dpop, me_joinl, me_joint, tstF_ap, eltF_ap, op_rept, op_repl, F__law_draw, e1, atI, ixN, setLst_ne (Ne.symm nb), setLst_same lb, e2]
  by_cases q : t < ds.length
  · simp [fin_rt, fin_nx, start, evSs, evS_asg, evS_six, evS_aug, evS_exp, evS_ret, evS_brk, evS_pas, evS_ife, evS_fr, evS_whl, bodyF_ap, testF_ap, tgF_ap, evEs, evAnd, evOr, evTs, evIs, tsE, op_addi, op_subi, op_muli, op_divi, op_modi, op_powi, op_adds, op_addt, op_addl, op_rep, cm_eq, cm_ne, cm_lt, cm_le, cm_gt, cm_ge, cm_is, cm_isn, cm_isb, cm_isnb, cm_in, cm_nin, in_kd, in_tup, in_chr, in_ref, tr_non, tr_bl, tr_int, tr_str, tr_tup, tr_ref, ix_tup, ix_str, ix_kd, ix_ref, ln_str, ln_tup, ln_ref, ty_non, ty_bl, ty_int, ty_str, ty_tup, ty_ref, bf_len, bf_int, bf_intb, bf_tuple, bf_list, bf_str, sq_tup, sq_ref, wk_tup, wk_ref, to_str, to_tup, to_ref, me_app, in_non, in_bl, in_int, in_str, in_tup', in_ref', sl_tup, sl_str, sl_ref, tgA, tgsA, setSl, atI_0, atI_1, atI_2, atI_3, atI_4, List.lookup, isNonE, ptI, mulOk_r, mulOk_l, divOk_s, rngOf_1, rngOf_2, b2i, shp, pq_non_non, pq_non_bl, pq_non_int, pq_non_str, pq_non_tup, pq_bl_non, pq_bl_bl, pq_bl_int, pq_bl_str, pq_bl_tup, pq_int_non, pq_int_bl, pq_int_int, pq_int_str, pq_int_tup, pq_str_non, pq_str_bl, pq_str_int, pq_str_str, pq_str_tup, pq_tup_non, pq_tup_bl, pq_tup_int, pq_tup_str, pq_tup_tup, pqs_nn, pqs_cc, pqs_nc, pqs_cn, pur_non, pur_bl, pur_int, pur_str, pur_tup, pur_ref, pur_fn, pur_kd, purs_n, purs_c, dep_non, dep_bl, dep_int, dep_str, dep_tup, deps_n, deps_c, SZ, evE_non, evE_bl, evE_int, evE_str, evE_lv, evE_gv, evE_tup, evE_lst, evE_bop, evE_neg, evE_not, evE_cmp, evE_cmp2, evE_and, evE_or, evE_ix, evE_sl, evE_call, evE_blt, evE_calv, evE_isi, evE_bm, evE_dnew, evE_mk, evE_cm, evE_fld, evE_lc, evE_lcb, evS_asl, evS_sfl, evS_augf, evS_del, evS_lck, ix_dic', wk_str, me_ext, me_ins, me_pop, me_idx, me_dget, me_dpop, me_joinl, me_joint, tstF_ap, eltF_ap, op_rept, op_repl, q, hm0]
    simp only [Option.bind_some, wp_some]; exact (hR _ ⟨_, rfl, Int.fmod_nonneg_of_pos _ hm, Int.fmod_lt_of_pos _ hm, bx, ex⟩)
  · simp [fin_rt, fin_nx, start, evSs, evS_asg, evS_six, evS_aug, evS_exp, evS_ret, evS_brk, evS_pas, evS_ife, evS_fr, evS_whl, bodyF_ap, testF_ap, tgF_ap, evEs, evAnd, evOr, evTs, evIs, tsE, op_addi, op_subi, op_muli, op_divi, op_modi, op_powi, op_adds, op_addt, op_addl, op_rep, cm_eq, cm_ne, cm_lt, cm_le, cm_gt, cm_ge, cm_is, cm_isn, cm_isb, cm_isnb, cm_in, cm_nin, in_kd, in_tup, in_chr, in_ref, tr_non, tr_bl, tr_int, tr_str, tr_tup, tr_ref, ix_tup, ix_str, ix_kd, ix_ref, ln_str, ln_tup, ln_ref, ty_non, ty_bl, ty_int, ty_str, ty_tup, ty_ref, bf_len, bf_int, bf_intb, bf_tuple, bf_list, bf_str, sq_tup, sq_ref, wk_tup, wk_ref, to_str, to_tup, to_ref, me_app, in_non, in_bl, in_int, in_str, in_tup', in_ref', sl_tup, sl_str, sl_ref, tgA, tgsA, setSl, atI_0, atI_1, atI_2, atI_3, atI_4, List.lookup, isNonE, ptI, mulOk_r, mulOk_l, divOk_s, rngOf_1, rngOf_2, b2i, shp, pq_non_non, pq_non_bl, pq_non_int, pq_non_str, pq_non_tup, pq_bl_non, pq_bl_bl, pq_bl_int, pq_bl_str, pq_bl_tup, pq_int_non, pq_int_bl, pq_int_int, pq_int_str, pq_int_tup, pq_str_non, pq_str_bl, pq_str_int, pq_str_str, pq_str_tup, pq_tup_non, pq_tup_bl, pq_tup_int, pq_tup_str, pq_tup_tup, pqs_nn, pqs_cc, pqs_nc, pqs_cn, pur_non, pur_bl, pur_int, pur_str, pur_tup, pur_ref, pur_fn, pur_kd, purs_n, purs_c, dep_non, dep_bl, dep_int, dep_str, dep_tup, deps_n, deps_c, SZ, evE_non, evE_bl, evE_int, evE_str, evE_lv, evE_gv, evE_tup, evE_lst, evE_bop, evE_neg, evE_not, evE_cmp, evE_cmp2, evE_and, evE_or, evE_ix, evE_sl, evE_call, evE_blt, evE_calv, evE_isi, evE_bm, evE_dnew, evE_mk, evE_cm, evE_fld, evE_lc, evE_lcb, evS_asl, evS_sfl, evS_augf, evS_del, evS_lck, ix_dic', wk_str, me_ext, me_ins, me_pop, me_idx, me_dget, me_dpop, me_joinl, me_joint, tstF_ap, eltF_ap, op_rept, op_repl, q]
    simp only [Option.bind_some, wp_some]; exact (hR _ ⟨_, rfl, by omega, hm, bx, ex⟩)
theorem same0_ok (k : Nat) (d : D) (h : LH) (o : okd 0 d = true) : callN TT.pr (k+1) 6906700753637242597 [d, d] h = some (.bl true, h) := by
  rw [callN_succ fn__law_same rfl]
  cases d with
  | non => simp [fin_rt, fin_nx, start, evSs, evS_asg, evS_six, evS_aug, evS_exp, evS_ret, evS_brk, evS_pas, evS_ife, evS_fr, evS_whl, bodyF_ap, testF_ap, tgF_ap, evEs, evAnd, evOr, evTs, evIs, tsE, op_addi, op_subi, op_muli, op_divi, op_modi, op_powi, op_adds, op_addt, op_addl, op_rep, cm_eq, cm_ne, cm_lt, cm_le, cm_gt, cm_ge, cm_is, cm_isn, cm_isb, cm_isnb, cm_in, cm_nin, in_kd, in_tup, in_chr, in_ref, tr_non, tr_bl, tr_int, tr_str, tr_tup, tr_ref, ix_tup, ix_str, ix_kd, ix_ref, ln_str, ln_tup, ln_ref, ty_non, ty_bl, ty_int, ty_str, ty_tup, ty_ref, bf_len, bf_int, bf_intb, bf_tuple, bf_list, bf_str, sq_tup, sq_ref, wk_tup, wk_ref, to_str, to_tup, to_ref, me_app, in_non, in_bl, in_int, in_str, in_tup', in_ref', sl_tup, sl_str, sl_ref, tgA, tgsA, setSl, atI_0, atI_1, atI_2, atI_3, atI_4, List.lookup, isNonE, ptI, mulOk_r, mulOk_l, divOk_s, rngOf_1, rngOf_2, b2i, shp, pq_non_non, pq_non_bl, pq_non_int, pq_non_str, pq_non_tup, pq_bl_non, pq_bl_bl, pq_bl_int, pq_bl_str, pq_bl_tup, pq_int_non, pq_int_bl, pq_int_int, pq_int_str, pq_int_tup, pq_str_non, pq_str_bl, pq_str_int, pq_str_str, pq_str_tup, pq_tup_non, pq_tup_bl, pq_tup_int, pq_tup_str, pq_tup_tup, pqs_nn, pqs_cc, pqs_nc, pqs_cn, pur_non, pur_bl, pur_int, pur_str, pur_tup, pur_ref, pur_fn, pur_kd, purs_n, purs_c, dep_non, dep_bl, dep_int, dep_str, dep_tup, deps_n, deps_c, SZ, evE_non, evE_bl, evE_int, evE_str, evE_lv, evE_gv, evE_tup, evE_lst, evE_bop, evE_neg, evE_not, evE_cmp, evE_cmp2, evE_and, evE_or, evE_ix, evE_sl, evE_call, evE_blt, evE_calv, evE_isi, evE_bm, evE_dnew, evE_mk, evE_cm, evE_fld, evE_lc, evE_lcb, evS_asl, evS_sfl, evS_augf, evS_del, evS_lck, ix_dic', wk_str, me_ext, me_ins, me_pop, me_idx, me_dget, me_dpop, me_joinl, me_joint, tstF_ap, eltF_ap, op_rept, op_repl, F__law_same]
  | bl b => simp [fin_rt, fin_nx, start, evSs, evS_asg, evS_six, evS_aug, evS_exp, evS_ret, evS_brk, evS_pas, evS_ife, evS_fr, evS_whl, bodyF_ap, testF_ap, tgF_ap, evEs, evAnd, evOr, evTs, evIs, tsE, op_addi, op_subi, op_muli, op_divi, op_modi, op_powi, op_adds, op_addt, op_addl, op_rep, cm_eq, cm_ne, cm_lt, cm_le, cm_gt, cm_ge, cm_is, cm_isn, cm_isb, cm_isnb, cm_in, cm_nin, in_kd, in_tup, in_chr, in_ref, tr_non, tr_bl, tr_int, tr_str, tr_tup, tr_ref, ix_tup, ix_str, ix_kd, ix_ref, ln_str, ln_tup, ln_ref, ty_non, ty_bl, ty_int, ty_str, ty_tup, ty_ref, bf_len, bf_int, bf_intb, bf_tuple, bf_list, bf_str, sq_tup, sq_ref, wk_tup, wk_ref, to_str, to_tup, to_ref, me_app, in_non, in_bl, in_int, in_str, in_tup', in_ref', sl_tup, sl_str, sl_ref, tgA, tgsA, setSl, atI_0, atI_1, atI_2, atI_3, atI_4, List.lookup, isNonE, ptI, mulOk_r, mulOk_l, divOk_s, rngOf_1, rngOf_2, b2i, shp, pq_non_non, pq_non_bl, pq_non_int, pq_non_str, pq_non_tup, pq_bl_non, pq_bl_bl, pq_bl_int, pq_bl_str, pq_bl_tup, pq_int_non, pq_int_bl, pq_int_int, pq_int_str, pq_int_tup, pq_str_non, pq_str_bl, pq_str_int, pq_str_str, pq_str_tup, pq_tup_non, pq_tup_bl, pq_tup_int, pq_tup_str, pq_tup_tup, pqs_nn, pqs_cc, pqs_nc, pqs_cn, pur_non, pur_bl, pur_int, pur_str, pur_tup, pur_ref, pur_fn, pur_kd, purs_n, purs_c, dep_non, dep_bl, dep_int, dep_str, dep_tup, deps_n, deps_c, SZ, evE_non, evE_bl, evE_int, evE_str, evE_lv, evE_gv, evE_tup, evE_lst, evE_bop, evE_neg, evE_not, evE_cmp, evE_cmp2, evE_and, evE_or, evE_ix, evE_sl, evE_call, evE_blt, evE_calv, evE_isi, evE_bm, evE_dnew, evE_mk, evE_cm, evE_fld, evE_lc, evE_lcb, evS_asl, evS_sfl, evS_augf, evS_del, evS_lck, ix_dic', wk_str, me_ext, me_ins, me_pop, me_idx, me_dget, me_dpop, me_joinl, me_joint, tstF_ap, eltF_ap, op_rept, op_repl, F__law_same, shp, pur, dep, pyeq]
  | int i => simp [fin_rt, fin_nx, start, evSs, evS_asg, evS_six, evS_aug, evS_exp, evS_ret, evS_brk, evS_pas, evS_ife, evS_fr, evS_whl, bodyF_ap, testF_ap, tgF_ap, evEs, evAnd, evOr, evTs, evIs, tsE, op_addi, op_subi, op_muli, op_divi, op_modi, op_powi, op_adds, op_addt, op_addl, op_rep, cm_eq, cm_ne, cm_lt, cm_le, cm_gt, cm_ge, cm_is, cm_isn, cm_isb, cm_isnb, cm_in, cm_nin, in_kd, in_tup, in_chr, in_ref, tr_non, tr_bl, tr_int, tr_str, tr_tup, tr_ref, ix_tup, ix_str, ix_kd, ix_ref, ln_str, ln_tup, ln_ref, ty_non, ty_bl, ty_int, ty_str, ty_tup, ty_ref, bf_len, bf_int, bf_intb, bf_tuple, bf_list, bf_str, sq_tup, sq_ref, wk_tup, wk_ref, to_str, to_tup, to_ref, me_app, in_non, in_bl, in_int, in_str, in_tup', in_ref', sl_tup, sl_str, sl_ref, tgA, tgsA, setSl, atI_0, atI_1, atI_2, atI_3, atI_4, List.lookup, isNonE, ptI, mulOk_r, mulOk_l, divOk_s, rngOf_1, rngOf_2, b2i, shp, pq_non_non, pq_non_bl, pq_non_int, pq_non_str, pq_non_tup, pq_bl_non, pq_bl_bl, pq_bl_int, pq_bl_str, pq_bl_tup, pq_int_non, pq_int_bl, pq_int_int, pq_int_str, pq_int_tup, pq_str_non, pq_str_bl, pq_str_int, pq_str_str, pq_str_tup, pq_tup_non, pq_tup_bl, pq_tup_int, pq_tup_str, pq_tup_tup, pqs_nn, pqs_cc, pqs_nc, pqs_cn, pur_non, pur_bl, pur_int, pur_str, pur_tup, pur_ref, pur_fn, pur_kd, purs_n, purs_c, dep_non, dep_bl, dep_int, dep_str, dep_tup, deps_n, deps_c, SZ, evE_non, evE_bl, evE_int, evE_str, evE_lv, evE_gv, evE_tup, evE_lst, evE_bop, evE_neg, evE_not, evE_cmp, evE_cmp2, evE_and, evE_or, evE_ix, evE_sl, evE_call, evE_blt, evE_calv, evE_isi, evE_bm, evE_dnew, evE_mk, evE_cm, evE_fld, evE_lc, evE_lcb, evS_asl, evS_sfl, evS_augf, evS_del, evS_lck, ix_dic', wk_str, me_ext, me_ins, me_pop, me_idx, me_dget, me_dpop, me_joinl, me_joint, tstF_ap, eltF_ap, op_rept, op_repl, F__law_same, shp, pur, dep, pyeq]
  | str s =>
    rw [okd_str] at o
    simp [fin_rt, fin_nx, start, evSs, evS_asg, evS_six, evS_aug, evS_exp, evS_ret, evS_brk, evS_pas, evS_ife, evS_fr, evS_whl, bodyF_ap, testF_ap, tgF_ap, evEs, evAnd, evOr, evTs, evIs, tsE, op_addi, op_subi, op_muli, op_divi, op_modi, op_powi, op_adds, op_addt, op_addl, op_rep, cm_eq, cm_ne, cm_lt, cm_le, cm_gt, cm_ge, cm_is, cm_isn, cm_isb, cm_isnb, cm_in, cm_nin, in_kd, in_tup, in_chr, in_ref, tr_non, tr_bl, tr_int, tr_str, tr_tup, tr_ref, ix_tup, ix_str, ix_kd, ix_ref, ln_str, ln_tup, ln_ref, ty_non, ty_bl, ty_int, ty_str, ty_tup, ty_ref, bf_len, bf_int, bf_intb, bf_tuple, bf_list, bf_str, sq_tup, sq_ref, wk_tup, wk_ref, to_str, to_tup, to_ref, me_app, in_non, in_bl, in_int, in_str, in_tup', in_ref', sl_tup, sl_str, sl_ref, tgA, tgsA, setSl, atI_0, atI_1, atI_2, atI_3, atI_4, List.lookup, isNonE, ptI, mulOk_r, mulOk_l, divOk_s, rngOf_1, rngOf_2, b2i, shp, pq_non_non, pq_non_bl, pq_non_int, pq_non_str, pq_non_tup, pq_bl_non, pq_bl_bl, pq_bl_int, pq_bl_str, pq_bl_tup, pq_int_non, pq_int_bl, pq_int_int, pq_int_str, pq_int_tup, pq_str_non, pq_str_bl, pq_str_int, pq_str_str, pq_str_tup, pq_tup_non, pq_tup_bl, pq_tup_int, pq_tup_str, pq_tup_tup, pqs_nn, pqs_cc, pqs_nc, pqs_cn, pur_non, pur_bl, pur_int, pur_str, pur_tup, pur_ref, pur_fn, pur_kd, purs_n, purs_c, dep_non, dep_bl, dep_int, dep_str, dep_tup, deps_n, deps_c, SZ, evE_non, evE_bl, evE_int, evE_str, evE_lv, evE_gv, evE_tup, evE_lst, evE_bop, evE_neg, evE_not, evE_cmp, evE_cmp2, evE_and, evE_or, evE_ix, evE_sl, evE_call, evE_blt, evE_calv, evE_isi, evE_bm, evE_dnew, evE_mk, evE_cm, evE_fld, evE_lc, evE_lcb, evS_asl, evS_sfl, evS_augf, evS_del, evS_lck, ix_dic', wk_str, me_ext, me_ins, me_pop, me_idx, me_dget, me_dpop, me_joinl, me_joint, tstF_ap, eltF_ap, op_rept, op_repl, F__law_same, shp, pur, dep, pyeq, o]
  | _ => cases o
theorem same_ok (k : Nat) : ∀ (n : Nat) (d : D) (h : LH), okd n d = true → callN TT.pr (k+n+1) 6906700753637242597 [d, d] h = some (.bl true, h) := by
  intro n
  induction n with
  | zero => exact fun d h o => same0_ok k d h o
  | succ n ih =>
    intro d h o
    cases d with
    | tup xs =>
      rw [callN_succ fn__law_same rfl]
      have hl := okd_len o
      refine (WP.mk (Q := fun r => r = (.bl true, h)) (E := fin _) fun R hR => ?_).elim fun r e => e.1.trans (congrArg some e.2)
      simp [fin_rt, fin_nx, start, evSs, evS_asg, evS_six, evS_aug, evS_exp, evS_ret, evS_brk, evS_pas, evS_ife, evS_fr, evS_whl, bodyF_ap, testF_ap, tgF_ap, evEs, evAnd, evOr, evTs, evIs, tsE, op_addi, op_subi, op_muli, op_divi, op_modi, op_powi, op_adds, op_addt, op_addl, op_rep, cm_eq, cm_ne, cm_lt, cm_le, cm_gt, cm_ge, cm_is, cm_isn, cm_isb, cm_isnb, cm_in, cm_nin, in_kd, in_tup, in_chr, in_ref, tr_non, tr_bl, tr_int, tr_str, tr_tup, tr_ref, ix_tup, ix_str, ix_kd, ix_ref, ln_str, ln_tup, ln_ref, ty_non, ty_bl, ty_int, ty_str, ty_tup, ty_ref, bf_len, bf_int, bf_intb, bf_tuple, bf_list, bf_str, sq_tup, sq_ref, wk_tup, wk_ref, to_str, to_tup, to_ref, me_app, in_non, in_bl, in_int, in_str, in_tup', in_ref', sl_tup, sl_str, sl_ref, tgA, tgsA, setSl, atI_0, atI_1, atI_2, atI_3, atI_4, List.lookup, isNonE, ptI, mulOk_r, mulOk_l, divOk_s, rngOf_1, rngOf_2, b2i, shp, pq_non_non, pq_non_bl, pq_non_int, pq_non_str, pq_non_tup, pq_bl_non, pq_bl_bl, pq_bl_int, pq_bl_str, pq_bl_tup, pq_int_non, pq_int_bl, pq_int_int, pq_int_str, pq_int_tup, pq_str_non, pq_str_bl, pq_str_int, pq_str_str, pq_str_tup, pq_tup_non, pq_tup_bl, pq_tup_int, pq_tup_str, pq_tup_tup, pqs_nn, pqs_cc, pqs_nc, pqs_cn, pur_non, pur_bl, pur_int, pur_str, pur_tup, pur_ref, pur_fn, pur_kd, purs_n, purs_c, dep_non, dep_bl, dep_int, dep_str, dep_tup, deps_n, deps_c, SZ, evE_non, evE_bl, evE_int, evE_str, evE_lv, evE_gv, evE_tup, evE_lst, evE_bop, evE_neg, evE_not, evE_cmp, evE_cmp2, evE_and, evE_or, evE_ix, evE_sl, evE_call, evE_blt, evE_calv, evE_isi, evE_bm, evE_dnew, evE_mk, evE_cm, evE_fld, evE_lc, evE_lcb, evS_asl, evS_sfl, evS_augf, evS_del, evS_lck, ix_dic', wk_str, me_ext, me_ins, me_pop, me_idx, me_dget, me_dpop, me_joinl, me_joint, tstF_ap, eltF_ap, op_rept, op_repl, F__law_same, hl]
      generalize hL : forL _ _ _ _ _ _ _ = L
      refine forL_go hL (fun i σ h' => ∃ a2, σ = [some (.tup xs), some (.tup xs), a2] ∧ h' = h) ⟨_, rfl, rfl⟩ ?_ ?_
      · rintro i x σ h' hx ⟨a2, rfl, rfl⟩ Q hQ
        obtain ⟨rfl, hi⟩ := rng_at0 hx
        clear hx hL
        have e := List.getElem?_eq_getElem hi
        have ih' := ih _ h' (okd_get o e)
        rw [Nat.add_assoc] at ih'
        simp [fin_rt, fin_nx, start, evSs, evS_asg, evS_six, evS_aug, evS_exp, evS_ret, evS_brk, evS_pas, evS_ife, evS_fr, evS_whl, bodyF_ap, testF_ap, tgF_ap, evEs, evAnd, evOr, evTs, evIs, tsE, op_addi, op_subi, op_muli, op_divi, op_modi, op_powi, op_adds, op_addt, op_addl, op_rep, cm_eq, cm_ne, cm_lt, cm_le, cm_gt, cm_ge, cm_is, cm_isn, cm_isb, cm_isnb, cm_in, cm_nin, in_kd, in_tup, in_chr, in_ref, tr_non, tr_bl, tr_int, tr_str, tr_tup, tr_ref, ix_tup, ix_str, ix_kd, ix_ref, ln_str, ln_tup, ln_ref, ty_non, ty_bl, ty_int, ty_str, ty_tup, ty_ref, bf_len, bf_int, bf_intb, bf_tuple, bf_list, bf_str, sq_tup, sq_ref, wk_tup, wk_ref, to_str, to_tup, to_ref, me_app, in_non, in_bl, in_int, in_str, in_tup', in_ref', sl_tup, sl_str, sl_ref, tgA, tgsA, setSl, atI_0, atI_1, atI_2, atI_3, atI_4, List.lookup, isNonE, ptI, mulOk_r, mulOk_l, divOk_s, rngOf_1, rngOf_2, b2i, shp, pq_non_non, pq_non_bl, pq_non_int, pq_non_str, pq_non_tup, pq_bl_non, pq_bl_bl, pq_bl_int, pq_bl_str, pq_bl_tup, pq_int_non, pq_int_bl, pq_int_int, pq_int_str, pq_int_tup, pq_str_non, pq_str_bl, pq_str_int, pq_str_str, pq_str_tup, pq_tup_non, pq_tup_bl, pq_tup_int, pq_tup_str, pq_tup_tup, pqs_nn, pqs_cc, pqs_nc, pqs_cn, pur_non, pur_bl, pur_int, pur_str, pur_tup, pur_ref, pur_fn, pur_kd, purs_n, purs_c, dep_non, dep_bl, dep_int, dep_str, dep_tup, deps_n, deps_c, SZ, evE_non, evE_bl, evE_int, evE_str, evE_lv, evE_gv, evE_tup, evE_lst, evE_bop, evE_neg, evE_not, evE_cmp, evE_cmp2, evE_and, evE_or, evE_ix, evE_sl, evE_call, evE_blt, evE_calv, evE_isi, evE_bm, evE_dnew, evE_mk, evE_cm, evE_fld, evE_lc, evE_lcb, evS_asl, evS_sfl, evS_augf, evS_del, evS_lck, ix_dic', wk_str, me_ext, me_ins, me_pop, me_idx, me_dget, me_dpop, me_joinl, me_joint, tstF_ap, eltF_ap, op_rept, op_repl, atI, ixN, hi, ih']
        simp only [Option.bind_some, wp_some]; exact (hQ _ _ trivial ⟨_, rfl, rfl⟩)
      · rintro σ' h' rfl ⟨a2, rfl, rfl⟩
        simp
        simp only [Option.bind_some, wp_some]; exact (hR _ rfl)
    | _ => exact same0_ok (k+n+1) _ h (by simpa [okd] using o)
theorem draw (k : Nat) (hk : 1 ≤ k) (h : LH) (b d : Nat) (m : Int) (hm : 0 < m) (B : Bx h b d) : ∃ v h', callN TT.pr k 6906700753606062327 [.ref b, .int m] h = some (.int v, h') ∧ 0 ≤ v ∧ v < m ∧ Bx h' b d ∧ Ext b h h' := by
  obtain ⟨j, rfl⟩ : ∃ j, k = j + 1 := ⟨k - 1, by omega⟩
  exact draw_ok j h b d m hm B
theorem same (k n : Nat) (hk : n < k) (d : D) (h : LH) (o : okd n d = true) : callN TT.pr k 6906700753637242597 [d, d] h = some (.bl true, h) := by
  obtain ⟨j, rfl⟩ : ∃ j, k = j + n + 1 := ⟨k - n - 1, by omega⟩
  exact same_ok j n d h o
theorem digits (k : Nat) (hk : 2 ≤ k) (s : Nat) (ns : List Int) (h : LH) (hs : h[s]? = some (.scr ns)) : ∃ h', callN TT.pr k 113159385147079321614963 [.ref s, .int 0, .int 63] h = some (.ref h.length, h') ∧ ∃ ds : List Int, h' = h ++ [.lst (ds.map D.int)] ∧ ∀ x ∈ ds, 0 ≤ x ∧ x < 1000 := by
  obtain ⟨j, rfl⟩ : ∃ j, k = j + 2 := ⟨k - 2, by omega⟩
  obtain ⟨⟨_, h'⟩, e, rfl, ds, q⟩ := digits_ok j s ns h hs
  exact ⟨h', e, ds, q⟩
theorem number_ok (k : Nat) (hk : 2 ≤ k) (h : LH) (b d : Nat) (B : Bx h b d) : ∃ v h', callN TT.pr k 113159385147426152690418 [.ref b] h = some (.int v, h') ∧ v.natAbs < 10 ^ 60 ∧ Bx h' b d ∧ Ext b h h' := by
  suffices H : WP (fun r => ∃ v, r.1 = .int v ∧ v.natAbs < 10 ^ 60 ∧ Bx r.2 b d ∧ Ext b h r.2) (callN TT.pr k 113159385147426152690418 [.ref b] h) by
    obtain ⟨⟨_, h'⟩, e, v, rfl, p⟩ := H
    exact ⟨v, h', e, p⟩
  refine WP.mk fun R hR => ?_
  obtain ⟨k', hk'⟩ : ∃ k', k = k' + 1 := ⟨k - 1, by omega⟩
  subst hk'
  rw [callN_succ fn__law_number rfl]
  obtain ⟨t, h1, e1, t0, t1, B1, X1⟩ := draw k' (by omega) h b d 8 (by decide) B
  obtain ⟨s, h2, e2, s0, s1, B2, X2⟩ := draw k' (by omega) h1 b d 1000 (by decide) B1
  obtain ⟨s3, h3, e3, s30, s31, B3, X3⟩ := draw k' (by omega) h2 b d 1000 (by decide) B2
  obtain ⟨s4, h4, e4, s40, s41, B4, X4⟩ := draw k' (by omega) h3 b d 1000 (by decide) B3
  have m0 : 0 ≤ s.fmod 3 := Int.fmod_nonneg_of_pos _ (by decide)
  have m1 : s.fmod 3 < 3 := Int.fmod_lt_of_pos _ (by decide)
  have z1 : s.natAbs < 18446744073709551616 := by omega
  have z2 : s3.natAbs < 18446744073709551616 := by omega
  simp [fin_rt, fin_nx, start, evSs, evS_asg, evS_six, evS_aug, evS_exp, evS_ret, evS_brk, evS_pas, evS_ife, evS_fr, evS_whl, bodyF_ap, testF_ap, tgF_ap, evEs, evAnd, evOr, evTs, evIs, tsE, op_addi, op_subi, op_muli, op_divi, op_modi, op_powi, op_adds, op_addt, op_addl, op_rep, cm_eq, cm_ne, cm_lt, cm_le, cm_gt, cm_ge, cm_is, cm_isn, cm_isb, cm_isnb, cm_in, cm_nin, in_kd, in_tup, in_chr, in_ref, tr_non, tr_bl, tr_int, tr_str, tr_tup, tr_ref, ix_tup, ix_str, ix_kd, ix_ref, ln_str, ln_tup, ln_ref, ty_non, ty_bl, ty_int, ty_str, ty_tup, ty_ref, bf_len, bf_int, bf_intb, bf_tuple, bf_list, bf_str, sq_tup, sq_ref, wk_tup, wk_ref, to_str, to_tup, to_ref, me_app, in_non, in_bl, in_int, in_str, in_tup', in_ref', sl_tup, sl_str, sl_ref, tgA, tgsA, setSl, atI_0, atI_1, atI_2, atI_3, atI_4, List.lookup, isNonE, ptI, mulOk_r, mulOk_l, divOk_s, rngOf_1, rngOf_2, b2i, shp, pq_non_non, pq_non_bl, pq_non_int, pq_non_str, pq_non_tup, pq_bl_non, pq_bl_bl, pq_bl_int, pq_bl_str, pq_bl_tup, pq_int_non, pq_int_bl, pq_int_int, pq_int_str, pq_int_tup, pq_str_non, pq_str_bl, pq_str_int, pq_str_str, pq_str_tup, pq_tup_non, pq_tup_bl, pq_tup_int, pq_tup_str, pq_tup_tup, pqs_nn, pqs_cc, pqs_nc, pqs_cn, pur_non, pur_bl, pur_int, pur_str, pur_tup, pur_ref, pur_fn, pur_kd, purs_n, purs_c, dep_non, dep_bl, dep_int, dep_str, dep_tup, deps_n, deps_c, SZ, evE_non, evE_bl, evE_int, evE_str, evE_lv, evE_gv, evE_tup, evE_lst, evE_bop, evE_neg, evE_not, evE_cmp, evE_cmp2, evE_and, evE_or, evE_ix, evE_sl, evE_call, evE_blt, evE_calv, evE_isi, evE_bm, evE_dnew, evE_mk, evE_cm, evE_fld, evE_lc, evE_lcb, evS_asl, evS_sfl, evS_augf, evS_del, evS_lck, ix_dic', wk_str, me_ext, me_ins, me_pop, me_idx, me_dget, me_dpop, me_joinl, me_joint, tstF_ap, eltF_ap, op_rept, op_repl, F__law_number, e1, e2]
  by_cases q0 : t = 0
  · simp [fin_rt, fin_nx, start, evSs, evS_asg, evS_six, evS_aug, evS_exp, evS_ret, evS_brk, evS_pas, evS_ife, evS_fr, evS_whl, bodyF_ap, testF_ap, tgF_ap, evEs, evAnd, evOr, evTs, evIs, tsE, op_addi, op_subi, op_muli, op_divi, op_modi, op_powi, op_adds, op_addt, op_addl, op_rep, cm_eq, cm_ne, cm_lt, cm_le, cm_gt, cm_ge, cm_is, cm_isn, cm_isb, cm_isnb, cm_in, cm_nin, in_kd, in_tup, in_chr, in_ref, tr_non, tr_bl, tr_int, tr_str, tr_tup, tr_ref, ix_tup, ix_str, ix_kd, ix_ref, ln_str, ln_tup, ln_ref, ty_non, ty_bl, ty_int, ty_str, ty_tup, ty_ref, bf_len, bf_int, bf_intb, bf_tuple, bf_list, bf_str, sq_tup, sq_ref, wk_tup, wk_ref, to_str, to_tup, to_ref, me_app, in_non, in_bl, in_int, in_str, in_tup', in_ref', sl_tup, sl_str, sl_ref, tgA, tgsA, setSl, atI_0, atI_1, atI_2, atI_3, atI_4, List.lookup, isNonE, ptI, mulOk_r, mulOk_l, divOk_s, rngOf_1, rngOf_2, b2i, shp, pq_non_non, pq_non_bl, pq_non_int, pq_non_str, pq_non_tup, pq_bl_non, pq_bl_bl, pq_bl_int, pq_bl_str, pq_bl_tup, pq_int_non, pq_int_bl, pq_int_int, pq_int_str, pq_int_tup, pq_str_non, pq_str_bl, pq_str_int, pq_str_str, pq_str_tup, pq_tup_non, pq_tup_bl, pq_tup_int, pq_tup_str, pq_tup_tup, pqs_nn, pqs_cc, pqs_nc, pqs_cn, pur_non, pur_bl, pur_int, pur_str, pur_tup, pur_ref, pur_fn, pur_kd, purs_n, purs_c, dep_non, dep_bl, dep_int, dep_str, dep_tup, deps_n, deps_c, SZ, evE_non, evE_bl, evE_int, evE_str, evE_lv, evE_gv, evE_tup, evE_lst, evE_bop, evE_neg, evE_not, evE_cmp, evE_cmp2, evE_and, evE_or, evE_ix, evE_sl, evE_call, evE_blt, evE_calv, evE_isi, evE_bm, evE_dnew, evE_mk, evE_cm, evE_fld, evE_lc, evE_lcb, evS_asl, evS_sfl, evS_augf, evS_del, evS_lck, ix_dic', wk_str, me_ext, me_ins, me_pop, me_idx, me_dget, me_dpop, me_joinl, me_joint, tstF_ap, eltF_ap, op_rept, op_repl, q0]
    simp only [Option.bind_some, wp_some]; exact (hR _ ⟨_, rfl, by omega, B2, X1.trans X2⟩)
  by_cases q1 : t = 1
  · simp [fin_rt, fin_nx, start, evSs, evS_asg, evS_six, evS_aug, evS_exp, evS_ret, evS_brk, evS_pas, evS_ife, evS_fr, evS_whl, bodyF_ap, testF_ap, tgF_ap, evEs, evAnd, evOr, evTs, evIs, tsE, op_addi, op_subi, op_muli, op_divi, op_modi, op_powi, op_adds, op_addt, op_addl, op_rep, cm_eq, cm_ne, cm_lt, cm_le, cm_gt, cm_ge, cm_is, cm_isn, cm_isb, cm_isnb, cm_in, cm_nin, in_kd, in_tup, in_chr, in_ref, tr_non, tr_bl, tr_int, tr_str, tr_tup, tr_ref, ix_tup, ix_str, ix_kd, ix_ref, ln_str, ln_tup, ln_ref, ty_non, ty_bl, ty_int, ty_str, ty_tup, ty_ref, bf_len, bf_int, bf_intb, bf_tuple, bf_list, bf_str, sq_tup, sq_ref, wk_tup, wk_ref, to_str, to_tup, to_ref, me_app, in_non, in_bl, in_int, in_str, in_tup', in_ref', sl_tup, sl_str, sl_ref, tgA, tgsA, setSl, atI_0, atI_1, atI_2, atI_3, atI_4, List.lookup, isNonE, ptI, mulOk_r, mulOk_l, divOk_s, rngOf_1, rngOf_2, b2i, shp, pq_non_non, pq_non_bl, pq_non_int, pq_non_str, pq_non_tup, pq_bl_non, pq_bl_bl, pq_bl_int, pq_bl_str, pq_bl_tup, pq_int_non, pq_int_bl, pq_int_int, pq_int_str, pq_int_tup, pq_str_non, pq_str_bl, pq_str_int, pq_str_str, pq_str_tup, pq_tup_non, pq_tup_bl, pq_tup_int, pq_tup_str, pq_tup_tup, pqs_nn, pqs_cc, pqs_nc, pqs_cn, pur_non, pur_bl, pur_int, pur_str, pur_tup, pur_ref, pur_fn, pur_kd, purs_n, purs_c, dep_non, dep_bl, dep_int, dep_str, dep_tup, deps_n, deps_c, SZ, evE_non, evE_bl, evE_int, evE_str, evE_lv, evE_gv, evE_tup, evE_lst, evE_bop, evE_neg, evE_not, evE_cmp, evE_cmp2, evE_and, evE_or, evE_ix, evE_sl, evE_call, evE_blt, evE_calv, evE_isi, evE_bm, evE_dnew, evE_mk, evE_cm, evE_fld, evE_lc, evE_lcb, evS_asl, evS_sfl, evS_augf, evS_del, evS_lck, ix_dic', wk_str, me_ext, me_ins, me_pop, me_idx, me_dget, me_dpop, me_joinl, me_joint, tstF_ap, eltF_ap, op_rept, op_repl, q1]
    simp only [Option.bind_some, wp_some]; exact (hR _ ⟨_, rfl, by omega, B2, X1.trans X2⟩)
  by_cases q2 : t = 2
  · simp [fin_rt, fin_nx, start, evSs, evS_asg, evS_six, evS_aug, evS_exp, evS_ret, evS_brk, evS_pas, evS_ife, evS_fr, evS_whl, bodyF_ap, testF_ap, tgF_ap, evEs, evAnd, evOr, evTs, evIs, tsE, op_addi, op_subi, op_muli, op_divi, op_modi, op_powi, op_adds, op_addt, op_addl, op_rep, cm_eq, cm_ne, cm_lt, cm_le, cm_gt, cm_ge, cm_is, cm_isn, cm_isb, cm_isnb, cm_in, cm_nin, in_kd, in_tup, in_chr, in_ref, tr_non, tr_bl, tr_int, tr_str, tr_tup, tr_ref, ix_tup, ix_str, ix_kd, ix_ref, ln_str, ln_tup, ln_ref, ty_non, ty_bl, ty_int, ty_str, ty_tup, ty_ref, bf_len, bf_int, bf_intb, bf_tuple, bf_list, bf_str, sq_tup, sq_ref, wk_tup, wk_ref, to_str, to_tup, to_ref, me_app, in_non, in_bl, in_int, in_str, in_tup', in_ref', sl_tup, sl_str, sl_ref, tgA, tgsA, setSl, atI_0, atI_1, atI_2, atI_3, atI_4, List.lookup, isNonE, ptI, mulOk_r, mulOk_l, divOk_s, rngOf_1, rngOf_2, b2i, shp, pq_non_non, pq_non_bl, pq_non_int, pq_non_str, pq_non_tup, pq_bl_non, pq_bl_bl, pq_bl_int, pq_bl_str, pq_bl_tup, pq_int_non, pq_int_bl, pq_int_int, pq_int_str, pq_int_tup, pq_str_non, pq_str_bl, pq_str_int, pq_str_str, pq_str_tup, pq_tup_non, pq_tup_bl, pq_tup_int, pq_tup_str, pq_tup_tup, pqs_nn, pqs_cc, pqs_nc, pqs_cn, pur_non, pur_bl, pur_int, pur_str, pur_tup, pur_ref, pur_fn, pur_kd, purs_n, purs_c, dep_non, dep_bl, dep_int, dep_str, dep_tup, deps_n, deps_c, SZ, evE_non, evE_bl, evE_int, evE_str, evE_lv, evE_gv, evE_tup, evE_lst, evE_bop, evE_neg, evE_not, evE_cmp, evE_cmp2, evE_and, evE_or, evE_ix, evE_sl, evE_call, evE_blt, evE_calv, evE_isi, evE_bm, evE_dnew, evE_mk, evE_cm, evE_fld, evE_lc, evE_lcb, evS_asl, evS_sfl, evS_augf, evS_del, evS_lck, ix_dic', wk_str, me_ext, me_ins, me_pop, me_idx, me_dget, me_dpop, me_joinl, me_joint, tstF_ap, eltF_ap, op_rept, op_repl, q2, e3, e4, z1, z2]
    simp only [Option.bind_some, wp_some]; exact (hR _ ⟨_, rfl, by omega, B4, ((X1.trans X2).trans X3).trans X4⟩)
  by_cases q3 : t = 3
  · simp [fin_rt, fin_nx, start, evSs, evS_asg, evS_six, evS_aug, evS_exp, evS_ret, evS_brk, evS_pas, evS_ife, evS_fr, evS_whl, bodyF_ap, testF_ap, tgF_ap, evEs, evAnd, evOr, evTs, evIs, tsE, op_addi, op_subi, op_muli, op_divi, op_modi, op_powi, op_adds, op_addt, op_addl, op_rep, cm_eq, cm_ne, cm_lt, cm_le, cm_gt, cm_ge, cm_is, cm_isn, cm_isb, cm_isnb, cm_in, cm_nin, in_kd, in_tup, in_chr, in_ref, tr_non, tr_bl, tr_int, tr_str, tr_tup, tr_ref, ix_tup, ix_str, ix_kd, ix_ref, ln_str, ln_tup, ln_ref, ty_non, ty_bl, ty_int, ty_str, ty_tup, ty_ref, bf_len, bf_int, bf_intb, bf_tuple, bf_list, bf_str, sq_tup, sq_ref, wk_tup, wk_ref, to_str, to_tup, to_ref, me_app, in_non, in_bl, in_int, in_str, in_tup', in_ref', sl_tup, sl_str, sl_ref, tgA, tgsA, setSl, atI_0, atI_1, atI_2, atI_3, atI_4, List.lookup, isNonE, ptI, mulOk_r, mulOk_l, divOk_s, rngOf_1, rngOf_2, b2i, shp, pq_non_non, pq_non_bl, pq_non_int, pq_non_str, pq_non_tup, pq_bl_non, pq_bl_bl, pq_bl_int, pq_bl_str, pq_bl_tup, pq_int_non, pq_int_bl, pq_int_int, pq_int_str, pq_int_tup, pq_str_non, pq_str_bl, pq_str_int, pq_str_str, pq_str_tup, pq_tup_non, pq_tup_bl, pq_tup_int, pq_tup_str, pq_tup_tup, pqs_nn, pqs_cc, pqs_nc, pqs_cn, pur_non, pur_bl, pur_int, pur_str, pur_tup, pur_ref, pur_fn, pur_kd, purs_n, purs_c, dep_non, dep_bl, dep_int, dep_str, dep_tup, deps_n, deps_c, SZ, evE_non, evE_bl, evE_int, evE_str, evE_lv, evE_gv, evE_tup, evE_lst, evE_bop, evE_neg, evE_not, evE_cmp, evE_cmp2, evE_and, evE_or, evE_ix, evE_sl, evE_call, evE_blt, evE_calv, evE_isi, evE_bm, evE_dnew, evE_mk, evE_cm, evE_fld, evE_lc, evE_lcb, evS_asl, evS_sfl, evS_augf, evS_del, evS_lck, ix_dic', wk_str, me_ext, me_ins, me_pop, me_idx, me_dget, me_dpop, me_joinl, me_joint, tstF_ap, eltF_ap, op_rept, op_repl, q3, e3, z1, z2]
    simp only [Option.bind_some, wp_some]; exact (hR _ ⟨_, rfl, by omega, B3, (X1.trans X2).trans X3⟩)
  by_cases q4 : t = 4
  · simp [fin_rt, fin_nx, start, evSs, evS_asg, evS_six, evS_aug, evS_exp, evS_ret, evS_brk, evS_pas, evS_ife, evS_fr, evS_whl, bodyF_ap, testF_ap, tgF_ap, evEs, evAnd, evOr, evTs, evIs, tsE, op_addi, op_subi, op_muli, op_divi, op_modi, op_powi, op_adds, op_addt, op_addl, op_rep, cm_eq, cm_ne, cm_lt, cm_le, cm_gt, cm_ge, cm_is, cm_isn, cm_isb, cm_isnb, cm_in, cm_nin, in_kd, in_tup, in_chr, in_ref, tr_non, tr_bl, tr_int, tr_str, tr_tup, tr_ref, ix_tup, ix_str, ix_kd, ix_ref, ln_str, ln_tup, ln_ref, ty_non, ty_bl, ty_int, ty_str, ty_tup, ty_ref, bf_len, bf_int, bf_intb, bf_tuple, bf_list, bf_str, sq_tup, sq_ref, wk_tup, wk_ref, to_str, to_tup, to_ref, me_app, in_non, in_bl, in_int, in_str, in_tup', in_ref', sl_tup, sl_str, sl_ref, tgA, tgsA, setSl, atI_0, atI_1, atI_2, atI_3, atI_4, List.lookup, isNonE, ptI, mulOk_r, mulOk_l, divOk_s, rngOf_1, rngOf_2, b2i, shp, pq_non_non, pq_non_bl, pq_non_int, pq_non_str, pq_non_tup, pq_bl_non, pq_bl_bl, pq_bl_int, pq_bl_str, pq_bl_tup, pq_int_non, pq_int_bl, pq_int_int, pq_int_str, pq_int_tup, pq_str_non, pq_str_bl, pq_str_int, pq_str_str, pq_str_tup, pq_tup_non, pq_tup_bl, pq_tup_int, pq_tup_str, pq_tup_tup, pqs_nn, pqs_cc, pqs_nc, pqs_cn, pur_non, pur_bl, pur_int, pur_str, pur_tup, pur_ref, pur_fn, pur_kd, purs_n, purs_c, dep_non, dep_bl, dep_int, dep_str, dep_tup, deps_n, deps_c, SZ, evE_non, evE_bl, evE_int, evE_str, evE_lv, evE_gv, evE_tup, evE_lst, evE_bop, evE_neg, evE_not, evE_cmp, evE_cmp2, evE_and, evE_or, evE_ix, evE_sl, evE_call, evE_blt, evE_calv, evE_isi, evE_bm, evE_dnew, evE_mk, evE_cm, evE_fld, evE_lc, evE_lcb, evS_asl, evS_sfl, evS_augf, evS_del, evS_lck, ix_dic', wk_str, me_ext, me_ins, me_pop, me_idx, me_dget, me_dpop, me_joinl, me_joint, tstF_ap, eltF_ap, op_rept, op_repl, q4]
    simp only [Option.bind_some, wp_some]; exact (hR _ ⟨_, rfl, by omega, B2, X1.trans X2⟩)
  by_cases q5 : t = 5
  · simp [fin_rt, fin_nx, start, evSs, evS_asg, evS_six, evS_aug, evS_exp, evS_ret, evS_brk, evS_pas, evS_ife, evS_fr, evS_whl, bodyF_ap, testF_ap, tgF_ap, evEs, evAnd, evOr, evTs, evIs, tsE, op_addi, op_subi, op_muli, op_divi, op_modi, op_powi, op_adds, op_addt, op_addl, op_rep, cm_eq, cm_ne, cm_lt, cm_le, cm_gt, cm_ge, cm_is, cm_isn, cm_isb, cm_isnb, cm_in, cm_nin, in_kd, in_tup, in_chr, in_ref, tr_non, tr_bl, tr_int, tr_str, tr_tup, tr_ref, ix_tup, ix_str, ix_kd, ix_ref, ln_str, ln_tup, ln_ref, ty_non, ty_bl, ty_int, ty_str, ty_tup, ty_ref, bf_len, bf_int, bf_intb, bf_tuple, bf_list, bf_str, sq_tup, sq_ref, wk_tup, wk_ref, to_str, to_tup, to_ref, me_app, in_non, in_bl, in_int, in_str, in_tup', in_ref', sl_tup, sl_str, sl_ref, tgA, tgsA, setSl, atI_0, atI_1, atI_2, atI_3, atI_4, List.lookup, isNonE, ptI, mulOk_r, mulOk_l, divOk_s, rngOf_1, rngOf_2, b2i, shp, pq_non_non, pq_non_bl, pq_non_int, pq_non_str, pq_non_tup, pq_bl_non, pq_bl_bl, pq_bl_int, pq_bl_str, pq_bl_tup, pq_int_non, pq_int_bl, pq_int_int, pq_int_str, pq_int_tup, pq_str_non, pq_str_bl, pq_str_int, pq_str_str, pq_str_tup, pq_tup_non, pq_tup_bl, pq_tup_int, pq_tup_str, pq_tup_tup, pqs_nn, pqs_cc, pqs_nc, pqs_cn, pur_non, pur_bl, pur_int, pur_str, pur_tup, pur_ref, pur_fn, pur_kd, purs_n, purs_c, dep_non, dep_bl, dep_int, dep_str, dep_tup, deps_n, deps_c, SZ, evE_non, evE_bl, evE_int, evE_str, evE_lv, evE_gv, evE_tup, evE_lst, evE_bop, evE_neg, evE_not, evE_cmp, evE_cmp2, evE_and, evE_or, evE_ix, evE_sl, evE_call, evE_blt, evE_calv, evE_isi, evE_bm, evE_dnew, evE_mk, evE_cm, evE_fld, evE_lc, evE_lcb, evS_asl, evS_sfl, evS_augf, evS_del, evS_lck, ix_dic', wk_str, me_ext, me_ins, me_pop, me_idx, me_dget, me_dpop, me_joinl, me_joint, tstF_ap, eltF_ap, op_rept, op_repl, q5]
    simp only [Option.bind_some, wp_some]; exact (hR _ ⟨_, rfl, by omega, B2, X1.trans X2⟩)
  simp [fin_rt, fin_nx, start, evSs, evS_asg, evS_six, evS_aug, evS_exp, evS_ret, evS_brk, evS_pas, evS_ife, evS_fr, evS_whl, bodyF_ap, testF_ap, tgF_ap, evEs, evAnd, evOr, evTs, evIs, tsE, op_addi, op_subi, op_muli, op_divi, op_modi, op_powi, op_adds, op_addt, op_addl, op_rep, cm_eq, cm_ne, cm_lt, cm_le, cm_gt, cm_ge, cm_is, cm_isn, cm_isb, cm_isnb, cm_in, cm_nin, in_kd, in_tup, in_chr, in_ref, tr_non, tr_bl, tr_int, tr_str, tr_tup, tr_ref, ix_tup, ix_str, ix_kd, ix_ref, ln_str, ln_tup, ln_ref, ty_non, ty_bl, ty_int, ty_str, ty_tup, ty_ref, bf_len, bf_int, bf_intb, bf_tuple, bf_list, bf_str, sq_tup, sq_ref, wk_tup, wk_ref, to_str, to_tup, to_ref, me_app, in_non, in_bl, in_int, in_str, in_tup', in_ref', sl_tup, sl_str, sl_ref, tgA, tgsA, setSl, atI_0, atI_1, atI_2, atI_3, atI_4, List.lookup, isNonE, ptI, mulOk_r, mulOk_l, divOk_s, rngOf_1, rngOf_2, b2i, shp, pq_non_non, pq_non_bl, pq_non_int, pq_non_str, pq_non_tup, pq_bl_non, pq_bl_bl, pq_bl_int, pq_bl_str, pq_bl_tup, pq_int_non, pq_int_bl, pq_int_int, pq_int_str, pq_int_tup, pq_str_non, pq_str_bl, pq_str_int, pq_str_str, pq_str_tup, pq_tup_non, pq_tup_bl, pq_tup_int, pq_tup_str, pq_tup_tup, pqs_nn, pqs_cc, pqs_nc, pqs_cn, pur_non, pur_bl, pur_int, pur_str, pur_tup, pur_ref, pur_fn, pur_kd, purs_n, purs_c, dep_non, dep_bl, dep_int, dep_str, dep_tup, deps_n, deps_c, SZ, evE_non, evE_bl, evE_int, evE_str, evE_lv, evE_gv, evE_tup, evE_lst, evE_bop, evE_neg, evE_not, evE_cmp, evE_cmp2, evE_and, evE_or, evE_ix, evE_sl, evE_call, evE_blt, evE_calv, evE_isi, evE_bm, evE_dnew, evE_mk, evE_cm, evE_fld, evE_lc, evE_lcb, evS_asl, evS_sfl, evS_augf, evS_del, evS_lck, ix_dic', wk_str, me_ext, me_ins, me_pop, me_idx, me_dget, me_dpop, me_joinl, me_joint, tstF_ap, eltF_ap, op_rept, op_repl, q0, q1, q2, q3, q4, q5]
  simp only [Option.bind_some, wp_some]; exact (hR _ ⟨_, rfl, by omega, B2, X1.trans X2⟩)
theorem mulOk_60 {a b : Int} (ha : a.natAbs < 10 ^ 60) (hb : b.natAbs < 10 ^ 60) : mulOk a b = true := by
  have p : 10 ^ 60 < 2 ^ 4000 := by decide
  have ha' : a.natAbs < 2 ^ 4000 := Nat.lt_trans ha p
  have hb' : b.natAbs < 2 ^ 4000 := Nat.lt_trans hb p
  simp [mulOk, ha', hb']
theorem sign_get (v : Int) (h0 : 0 ≤ v) (h1 : v < 95) : ∃ c, atI [32,33,34,35,36,38,39,40,41,42,43,44,45,46,47,48,49,50,51,52,53,54,55,56,57,58,59,60,61,62,63,64,65,66,67,68,69,70,71,72,73,74,75,76,77,78,79,80,81,82,83,84,85,86,87,88,89,90,91,92,93,94,95,96,97,98,99,100,101,102,103,104,105,106,107,108,109,110,111,112,113,114,115,116,117,118,119,120,121,122,123,124,125,126,10] v = some c ∧ c < 1114112 := by
  obtain ⟨c, e, m⟩ := atI_in (xs := [32,33,34,35,36,38,39,40,41,42,43,44,45,46,47,48,49,50,51,52,53,54,55,56,57,58,59,60,61,62,63,64,65,66,67,68,69,70,71,72,73,74,75,76,77,78,79,80,81,82,83,84,85,86,87,88,89,90,91,92,93,94,95,96,97,98,99,100,101,102,103,104,105,106,107,108,109,110,111,112,113,114,115,116,117,118,119,120,121,122,123,124,125,126,10]) h0 (by simpa using h1)
  have a : ([32,33,34,35,36,38,39,40,41,42,43,44,45,46,47,48,49,50,51,52,53,54,55,56,57,58,59,60,61,62,63,64,65,66,67,68,69,70,71,72,73,74,75,76,77,78,79,80,81,82,83,84,85,86,87,88,89,90,91,92,93,94,95,96,97,98,99,100,101,102,103,104,105,106,107,108,109,110,111,112,113,114,115,116,117,118,119,120,121,122,123,124,125,126,10] : List Nat).all (fun c => decide (c < 1114112)) = true := by decide
  exact ⟨c, e, by simpa using List.all_eq_true.mp a c m⟩
theorem text_ok (k : Nat) (hk : 2 ≤ k) (h : LH) (b d : Nat) (m : Int) (m0 : 0 ≤ m) (m1 : m ≤ 1000) (B : Bx h b d) : ∃ s h', callN TT.pr k 6906700753639406708 [.ref b, .int m] h = some (.str s, h') ∧ (s.length : Int) ≤ m ∧ sgn s ∧ Bx h' b d ∧ Ext b h h' := by
  suffices H : WP (fun r => ∃ s, r.1 = .str s ∧ (s.length : Int) ≤ m ∧ sgn s ∧ Bx r.2 b d ∧ Ext b h r.2) (callN TT.pr k 6906700753639406708 [.ref b, .int m] h) by
    obtain ⟨⟨_, h'⟩, e, v, rfl, p⟩ := H
    exact ⟨v, h', e, p⟩
  refine WP.mk fun R hR => ?_
  obtain ⟨k', hk'⟩ : ∃ k', k = k' + 1 := ⟨k - 1, by omega⟩
  subst hk'
  rw [callN_succ fn__law_text rfl]
  obtain ⟨t, h1, e1, t0, t1, B1, X1⟩ := draw k' (by omega) h b d 4 (by decide) B
  have tail : ∀ (s : List Nat) (h2 : LH), (s.length : Int) ≤ m → sgn s → Bx h2 b d → Ext b h h2 → WP R (fin (evSs TT.pr (callN TT.pr k') (match F__law_text.body with | .cons _ (.cons _ (.cons _ (.cons _ r))) => r | _ => .nil) [some (.ref b), some (.int m), some (.str [32,33,34,35,36,38,39,40,41,42,43,44,45,46,47,48,49,50,51,52,53,54,55,56,57,58,59,60,61,62,63,64,65,66,67,68,69,70,71,72,73,74,75,76,77,78,79,80,81,82,83,84,85,86,87,88,89,90,91,92,93,94,95,96,97,98,99,100,101,102,103,104,105,106,107,108,109,110,111,112,113,114,115,116,117,118,119,120,121,122,123,124,125,126,10]), some (.str s), none] h2)) := by
    intro s h2 hs hg B2 X2
    obtain ⟨u, h3, e3, u0, u1, B3, X3⟩ := draw k' (by omega) h2 b d 4 (by decide) B2
    simp [fin_rt, fin_nx, start, evSs, evS_asg, evS_six, evS_aug, evS_exp, evS_ret, evS_brk, evS_pas, evS_ife, evS_fr, evS_whl, bodyF_ap, testF_ap, tgF_ap, evEs, evAnd, evOr, evTs, evIs, tsE, op_addi, op_subi, op_muli, op_divi, op_modi, op_powi, op_adds, op_addt, op_addl, op_rep, cm_eq, cm_ne, cm_lt, cm_le, cm_gt, cm_ge, cm_is, cm_isn, cm_isb, cm_isnb, cm_in, cm_nin, in_kd, in_tup, in_chr, in_ref, tr_non, tr_bl, tr_int, tr_str, tr_tup, tr_ref, ix_tup, ix_str, ix_kd, ix_ref, ln_str, ln_tup, ln_ref, ty_non, ty_bl, ty_int, ty_str, ty_tup, ty_ref, bf_len, bf_int, bf_intb, bf_tuple, bf_list, bf_str, sq_tup, sq_ref, wk_tup, wk_ref, to_str, to_tup, to_ref, me_app, in_non, in_bl, in_int, in_str, in_tup', in_ref', sl_tup, sl_str, sl_ref, tgA, tgsA, setSl, atI_0, atI_1, atI_2, atI_3, atI_4, List.lookup, isNonE, ptI, mulOk_r, mulOk_l, divOk_s, rngOf_1, rngOf_2, b2i, shp, pq_non_non, pq_non_bl, pq_non_int, pq_non_str, pq_non_tup, pq_bl_non, pq_bl_bl, pq_bl_int, pq_bl_str, pq_bl_tup, pq_int_non, pq_int_bl, pq_int_int, pq_int_str, pq_int_tup, pq_str_non, pq_str_bl, pq_str_int, pq_str_str, pq_str_tup, pq_tup_non, pq_tup_bl, pq_tup_int, pq_tup_str, pq_tup_tup, pqs_nn, pqs_cc, pqs_nc, pqs_cn, pur_non, pur_bl, pur_int, pur_str, pur_tup, pur_ref, pur_fn, pur_kd, purs_n, purs_c, dep_non, dep_bl, dep_int, dep_str, dep_tup, deps_n, deps_c, SZ, evE_non, evE_bl, evE_int, evE_str, evE_lv, evE_gv, evE_tup, evE_lst, evE_bop, evE_neg, evE_not, evE_cmp, evE_cmp2, evE_and, evE_or, evE_ix, evE_sl, evE_call, evE_blt, evE_calv, evE_isi, evE_bm, evE_dnew, evE_mk, evE_cm, evE_fld, evE_lc, evE_lcb, evS_asl, evS_sfl, evS_augf, evS_del, evS_lck, ix_dic', wk_str, me_ext, me_ins, me_pop, me_idx, me_dget, me_dpop, me_joinl, me_joint, tstF_ap, eltF_ap, op_rept, op_repl, F__law_text, e3, show u.natAbs < 4000000 by omega]
    generalize hL : forL _ _ _ _ _ _ _ = L
    refine forL_go hL (fun i σ h' => ∃ (s : List Nat) (a4 : Option D), σ = [some (.ref b), some (.int m), some (.str [32,33,34,35,36,38,39,40,41,42,43,44,45,46,47,48,49,50,51,52,53,54,55,56,57,58,59,60,61,62,63,64,65,66,67,68,69,70,71,72,73,74,75,76,77,78,79,80,81,82,83,84,85,86,87,88,89,90,91,92,93,94,95,96,97,98,99,100,101,102,103,104,105,106,107,108,109,110,111,112,113,114,115,116,117,118,119,120,121,122,123,124,125,126,10]), some (.str s), a4] ∧ (s.length : Int) ≤ m ∧ sgn s ∧ Bx h' b d ∧ Ext b h h') ⟨s, _, rfl, hs, hg, B3, X2.trans X3⟩ ?_ ?_
    · rintro i x σ h' hx ⟨s, a4, rfl, hs, hg, B, X⟩ Q hQ
      clear hx hL
      obtain ⟨v, h4, e4, v0, v1, B4, X4⟩ := draw k' (by omega) h' b d 95 (by decide) B
      obtain ⟨c, ec, hc⟩ := sign_get v v0 v1
      have z1 : s.length ≤ 16777216 := by omega
      have z2 : s.length + 1 ≤ 16777216 := by omega
      by_cases q : (s.length : Int) < m
      · simp [fin_rt, fin_nx, start, evSs, evS_asg, evS_six, evS_aug, evS_exp, evS_ret, evS_brk, evS_pas, evS_ife, evS_fr, evS_whl, bodyF_ap, testF_ap, tgF_ap, evEs, evAnd, evOr, evTs, evIs, tsE, op_addi, op_subi, op_muli, op_divi, op_modi, op_powi, op_adds, op_addt, op_addl, op_rep, cm_eq, cm_ne, cm_lt, cm_le, cm_gt, cm_ge, cm_is, cm_isn, cm_isb, cm_isnb, cm_in, cm_nin, in_kd, in_tup, in_chr, in_ref, tr_non, tr_bl, tr_int, tr_str, tr_tup, tr_ref, ix_tup, ix_str, ix_kd, ix_ref, ln_str, ln_tup, ln_ref, ty_non, ty_bl, ty_int, ty_str, ty_tup, ty_ref, bf_len, bf_int, bf_intb, bf_tuple, bf_list, bf_str, sq_tup, sq_ref, wk_tup, wk_ref, to_str, to_tup, to_ref, me_app, in_non, in_bl, in_int, in_str, in_tup', in_ref', sl_tup, sl_str, sl_ref, tgA, tgsA, setSl, atI_0, atI_1, atI_2, atI_3, atI_4, List.lookup, isNonE, ptI, mulOk_r, mulOk_l, divOk_s, rngOf_1, rngOf_2, b2i, shp, pq_non_non, pq_non_bl, pq_non_int, pq_non_str, pq_non_tup, pq_bl_non, pq_bl_bl, pq_bl_int, pq_bl_str, pq_bl_tup, pq_int_non, pq_int_bl, pq_int_int, pq_int_str, pq_int_tup, pq_str_non, pq_str_bl, pq_str_int, pq_str_str, pq_str_tup, pq_tup_non, pq_tup_bl, pq_tup_int, pq_tup_str, pq_tup_tup, pqs_nn, pqs_cc, pqs_nc, pqs_cn, pur_non, pur_bl, pur_int, pur_str, pur_tup, pur_ref, pur_fn, pur_kd, purs_n, purs_c, dep_non, dep_bl, dep_int, dep_str, dep_tup, deps_n, deps_c, SZ, evE_non, evE_bl, evE_int, evE_str, evE_lv, evE_gv, evE_tup, evE_lst, evE_bop, evE_neg, evE_not, evE_cmp, evE_cmp2, evE_and, evE_or, evE_ix, evE_sl, evE_call, evE_blt, evE_calv, evE_isi, evE_bm, evE_dnew, evE_mk, evE_cm, evE_fld, evE_lc, evE_lcb, evS_asl, evS_sfl, evS_augf, evS_del, evS_lck, ix_dic', wk_str, me_ext, me_ins, me_pop, me_idx, me_dget, me_dpop, me_joinl, me_joint, tstF_ap, eltF_ap, op_rept, op_repl, q, e4, ec, chr1, z1, z2]
        simp only [Option.bind_some, wp_some]; exact (hQ _ _ trivial ⟨_, _, rfl, by simp; omega, sgn_app hg (by simpa [sgn] using hc), B4, X.trans X4⟩)
      · simp [fin_rt, fin_nx, start, evSs, evS_asg, evS_six, evS_aug, evS_exp, evS_ret, evS_brk, evS_pas, evS_ife, evS_fr, evS_whl, bodyF_ap, testF_ap, tgF_ap, evEs, evAnd, evOr, evTs, evIs, tsE, op_addi, op_subi, op_muli, op_divi, op_modi, op_powi, op_adds, op_addt, op_addl, op_rep, cm_eq, cm_ne, cm_lt, cm_le, cm_gt, cm_ge, cm_is, cm_isn, cm_isb, cm_isnb, cm_in, cm_nin, in_kd, in_tup, in_chr, in_ref, tr_non, tr_bl, tr_int, tr_str, tr_tup, tr_ref, ix_tup, ix_str, ix_kd, ix_ref, ln_str, ln_tup, ln_ref, ty_non, ty_bl, ty_int, ty_str, ty_tup, ty_ref, bf_len, bf_int, bf_intb, bf_tuple, bf_list, bf_str, sq_tup, sq_ref, wk_tup, wk_ref, to_str, to_tup, to_ref, me_app, in_non, in_bl, in_int, in_str, in_tup', in_ref', sl_tup, sl_str, sl_ref, tgA, tgsA, setSl, atI_0, atI_1, atI_2, atI_3, atI_4, List.lookup, isNonE, ptI, mulOk_r, mulOk_l, divOk_s, rngOf_1, rngOf_2, b2i, shp, pq_non_non, pq_non_bl, pq_non_int, pq_non_str, pq_non_tup, pq_bl_non, pq_bl_bl, pq_bl_int, pq_bl_str, pq_bl_tup, pq_int_non, pq_int_bl, pq_int_int, pq_int_str, pq_int_tup, pq_str_non, pq_str_bl, pq_str_int, pq_str_str, pq_str_tup, pq_tup_non, pq_tup_bl, pq_tup_int, pq_tup_str, pq_tup_tup, pqs_nn, pqs_cc, pqs_nc, pqs_cn, pur_non, pur_bl, pur_int, pur_str, pur_tup, pur_ref, pur_fn, pur_kd, purs_n, purs_c, dep_non, dep_bl, dep_int, dep_str, dep_tup, deps_n, deps_c, SZ, evE_non, evE_bl, evE_int, evE_str, evE_lv, evE_gv, evE_tup, evE_lst, evE_bop, evE_neg, evE_not, evE_cmp, evE_cmp2, evE_and, evE_or, evE_ix, evE_sl, evE_call, evE_blt, evE_calv, evE_isi, evE_bm, evE_dnew, evE_mk, evE_cm, evE_fld, evE_lc, evE_lcb, evS_asl, evS_sfl, evS_augf, evS_del, evS_lck, ix_dic', wk_str, me_ext, me_ins, me_pop, me_idx, me_dget, me_dpop, me_joinl, me_joint, tstF_ap, eltF_ap, op_rept, op_repl, q, z1]
        simp only [Option.bind_some, wp_some]; exact (hQ _ _ trivial ⟨_, _, rfl, hs, hg, B, X⟩)
    · rintro σ' h' rfl ⟨s, a4, rfl, hs, hg, B, X⟩
      simp [fin_rt, fin_nx, start, evSs, evS_asg, evS_six, evS_aug, evS_exp, evS_ret, evS_brk, evS_pas, evS_ife, evS_fr, evS_whl, bodyF_ap, testF_ap, tgF_ap, evEs, evAnd, evOr, evTs, evIs, tsE, op_addi, op_subi, op_muli, op_divi, op_modi, op_powi, op_adds, op_addt, op_addl, op_rep, cm_eq, cm_ne, cm_lt, cm_le, cm_gt, cm_ge, cm_is, cm_isn, cm_isb, cm_isnb, cm_in, cm_nin, in_kd, in_tup, in_chr, in_ref, tr_non, tr_bl, tr_int, tr_str, tr_tup, tr_ref, ix_tup, ix_str, ix_kd, ix_ref, ln_str, ln_tup, ln_ref, ty_non, ty_bl, ty_int, ty_str, ty_tup, ty_ref, bf_len, bf_int, bf_intb, bf_tuple, bf_list, bf_str, sq_tup, sq_ref, wk_tup, wk_ref, to_str, to_tup, to_ref, me_app, in_non, in_bl, in_int, in_str, in_tup', in_ref', sl_tup, sl_str, sl_ref, tgA, tgsA, setSl, atI_0, atI_1, atI_2, atI_3, atI_4, List.lookup, isNonE, ptI, mulOk_r, mulOk_l, divOk_s, rngOf_1, rngOf_2, b2i, shp, pq_non_non, pq_non_bl, pq_non_int, pq_non_str, pq_non_tup, pq_bl_non, pq_bl_bl, pq_bl_int, pq_bl_str, pq_bl_tup, pq_int_non, pq_int_bl, pq_int_int, pq_int_str, pq_int_tup, pq_str_non, pq_str_bl, pq_str_int, pq_str_str, pq_str_tup, pq_tup_non, pq_tup_bl, pq_tup_int, pq_tup_str, pq_tup_tup, pqs_nn, pqs_cc, pqs_nc, pqs_cn, pur_non, pur_bl, pur_int, pur_str, pur_tup, pur_ref, pur_fn, pur_kd, purs_n, purs_c, dep_non, dep_bl, dep_int, dep_str, dep_tup, deps_n, deps_c, SZ, evE_non, evE_bl, evE_int, evE_str, evE_lv, evE_gv, evE_tup, evE_lst, evE_bop, evE_neg, evE_not, evE_cmp, evE_cmp2, evE_and, evE_or, evE_ix, evE_sl, evE_call, evE_blt, evE_calv, evE_isi, evE_bm, evE_dnew, evE_mk, evE_cm, evE_fld, evE_lc, evE_lcb, evS_asl, evS_sfl, evS_augf, evS_del, evS_lck, ix_dic', wk_str, me_ext, me_ins, me_pop, me_idx, me_dget, me_dpop, me_joinl, me_joint, tstF_ap, eltF_ap, op_rept, op_repl]
      simp only [Option.bind_some, wp_some]; exact (hR _ ⟨_, rfl, hs, hg, B, X⟩)
  simp only [F__law_text] at tail
  by_cases q : t = 0
  · obtain ⟨v, h2, e2, v0, v1, B2, X2⟩ := draw k' (by omega) h1 b d 95 (by decide) B1
    obtain ⟨c, ec, hc⟩ := sign_get v v0 v1
    obtain ⟨w, h3, e3, w0, w1, B3, X3⟩ := draw k' (by omega) h2 b d (m + 1) (by omega) B2
    have := tail (List.replicate w.toNat [c]).flatten h3 (by rw [rep_len]; omega) (sgn_rep hc) B3 ((X1.trans X2).trans X3)
    simp [fin_rt, fin_nx, start, evSs, evS_asg, evS_six, evS_aug, evS_exp, evS_ret, evS_brk, evS_pas, evS_ife, evS_fr, evS_whl, bodyF_ap, testF_ap, tgF_ap, evEs, evAnd, evOr, evTs, evIs, tsE, op_addi, op_subi, op_muli, op_divi, op_modi, op_powi, op_adds, op_addt, op_addl, op_rep, cm_eq, cm_ne, cm_lt, cm_le, cm_gt, cm_ge, cm_is, cm_isn, cm_isb, cm_isnb, cm_in, cm_nin, in_kd, in_tup, in_chr, in_ref, tr_non, tr_bl, tr_int, tr_str, tr_tup, tr_ref, ix_tup, ix_str, ix_kd, ix_ref, ln_str, ln_tup, ln_ref, ty_non, ty_bl, ty_int, ty_str, ty_tup, ty_ref, bf_len, bf_int, bf_intb, bf_tuple, bf_list, bf_str, sq_tup, sq_ref, wk_tup, wk_ref, to_str, to_tup, to_ref, me_app, in_non, in_bl, in_int, in_str, in_tup', in_ref', sl_tup, sl_str, sl_ref, tgA, tgsA, setSl, atI_0, atI_1, atI_2, atI_3, atI_4, List.lookup, isNonE, ptI, mulOk_r, mulOk_l, divOk_s, rngOf_1, rngOf_2, b2i, shp, pq_non_non, pq_non_bl, pq_non_int, pq_non_str, pq_non_tup, pq_bl_non, pq_bl_bl, pq_bl_int, pq_bl_str, pq_bl_tup, pq_int_non, pq_int_bl, pq_int_int, pq_int_str, pq_int_tup, pq_str_non, pq_str_bl, pq_str_int, pq_str_str, pq_str_tup, pq_tup_non, pq_tup_bl, pq_tup_int, pq_tup_str, pq_tup_tup, pqs_nn, pqs_cc, pqs_nc, pqs_cn, pur_non, pur_bl, pur_int, pur_str, pur_tup, pur_ref, pur_fn, pur_kd, purs_n, purs_c, dep_non, dep_bl, dep_int, dep_str, dep_tup, deps_n, deps_c, SZ, evE_non, evE_bl, evE_int, evE_str, evE_lv, evE_gv, evE_tup, evE_lst, evE_bop, evE_neg, evE_not, evE_cmp, evE_cmp2, evE_and, evE_or, evE_ix, evE_sl, evE_call, evE_blt, evE_calv, evE_isi, evE_bm, evE_dnew, evE_mk, evE_cm, evE_fld, evE_lc, evE_lcb, evS_asl, evS_sfl, evS_augf, evS_del, evS_lck, ix_dic', wk_str, me_ext, me_ins, me_pop, me_idx, me_dget, me_dpop, me_joinl, me_joint, tstF_ap, eltF_ap, op_rept, op_repl] at this
    simp [fin_rt, fin_nx, start, evSs, evS_asg, evS_six, evS_aug, evS_exp, evS_ret, evS_brk, evS_pas, evS_ife, evS_fr, evS_whl, bodyF_ap, testF_ap, tgF_ap, evEs, evAnd, evOr, evTs, evIs, tsE, op_addi, op_subi, op_muli, op_divi, op_modi, op_powi, op_adds, op_addt, op_addl, op_rep, cm_eq, cm_ne, cm_lt, cm_le, cm_gt, cm_ge, cm_is, cm_isn, cm_isb, cm_isnb, cm_in, cm_nin, in_kd, in_tup, in_chr, in_ref, tr_non, tr_bl, tr_int, tr_str, tr_tup, tr_ref, ix_tup, ix_str, ix_kd, ix_ref, ln_str, ln_tup, ln_ref, ty_non, ty_bl, ty_int, ty_str, ty_tup, ty_ref, bf_len, bf_int, bf_intb, bf_tuple, bf_list, bf_str, sq_tup, sq_ref, wk_tup, wk_ref, to_str, to_tup, to_ref, me_app, in_non, in_bl, in_int, in_str, in_tup', in_ref', sl_tup, sl_str, sl_ref, tgA, tgsA, setSl, atI_0, atI_1, atI_2, atI_3, atI_4, List.lookup, isNonE, ptI, mulOk_r, mulOk_l, divOk_s, rngOf_1, rngOf_2, b2i, shp, pq_non_non, pq_non_bl, pq_non_int, pq_non_str, pq_non_tup, pq_bl_non, pq_bl_bl, pq_bl_int, pq_bl_str, pq_bl_tup, pq_int_non, pq_int_bl, pq_int_int, pq_int_str, pq_int_tup, pq_str_non, pq_str_bl, pq_str_int, pq_str_str, pq_str_tup, pq_tup_non, pq_tup_bl, pq_tup_int, pq_tup_str, pq_tup_tup, pqs_nn, pqs_cc, pqs_nc, pqs_cn, pur_non, pur_bl, pur_int, pur_str, pur_tup, pur_ref, pur_fn, pur_kd, purs_n, purs_c, dep_non, dep_bl, dep_int, dep_str, dep_tup, deps_n, deps_c, SZ, evE_non, evE_bl, evE_int, evE_str, evE_lv, evE_gv, evE_tup, evE_lst, evE_bop, evE_neg, evE_not, evE_cmp, evE_cmp2, evE_and, evE_or, evE_ix, evE_sl, evE_call, evE_blt, evE_calv, evE_isi, evE_bm, evE_dnew, evE_mk, evE_cm, evE_fld, evE_lc, evE_lcb, evS_asl, evS_sfl, evS_augf, evS_del, evS_lck, ix_dic', wk_str, me_ext, me_ins, me_pop, me_idx, me_dget, me_dpop, me_joinl, me_joint, tstF_ap, eltF_ap, op_rept, op_repl, F__law_text, e1, q, e2, ec, chr1, e3, show w < 4000 by omega, w0]
    exact this
  · have := tail [] h1 (by simp; omega) rfl B1 X1
    simp [fin_rt, fin_nx, start, evSs, evS_asg, evS_six, evS_aug, evS_exp, evS_ret, evS_brk, evS_pas, evS_ife, evS_fr, evS_whl, bodyF_ap, testF_ap, tgF_ap, evEs, evAnd, evOr, evTs, evIs, tsE, op_addi, op_subi, op_muli, op_divi, op_modi, op_powi, op_adds, op_addt, op_addl, op_rep, cm_eq, cm_ne, cm_lt, cm_le, cm_gt, cm_ge, cm_is, cm_isn, cm_isb, cm_isnb, cm_in, cm_nin, in_kd, in_tup, in_chr, in_ref, tr_non, tr_bl, tr_int, tr_str, tr_tup, tr_ref, ix_tup, ix_str, ix_kd, ix_ref, ln_str, ln_tup, ln_ref, ty_non, ty_bl, ty_int, ty_str, ty_tup, ty_ref, bf_len, bf_int, bf_intb, bf_tuple, bf_list, bf_str, sq_tup, sq_ref, wk_tup, wk_ref, to_str, to_tup, to_ref, me_app, in_non, in_bl, in_int, in_str, in_tup', in_ref', sl_tup, sl_str, sl_ref, tgA, tgsA, setSl, atI_0, atI_1, atI_2, atI_3, atI_4, List.lookup, isNonE, ptI, mulOk_r, mulOk_l, divOk_s, rngOf_1, rngOf_2, b2i, shp, pq_non_non, pq_non_bl, pq_non_int, pq_non_str, pq_non_tup, pq_bl_non, pq_bl_bl, pq_bl_int, pq_bl_str, pq_bl_tup, pq_int_non, pq_int_bl, pq_int_int, pq_int_str, pq_int_tup, pq_str_non, pq_str_bl, pq_str_int, pq_str_str, pq_str_tup, pq_tup_non, pq_tup_bl, pq_tup_int, pq_tup_str, pq_tup_tup, pqs_nn, pqs_cc, pqs_nc, pqs_cn, pur_non, pur_bl, pur_int, pur_str, pur_tup, pur_ref, pur_fn, pur_kd, purs_n, purs_c, dep_non, dep_bl, dep_int, dep_str, dep_tup, deps_n, deps_c, SZ, evE_non, evE_bl, evE_int, evE_str, evE_lv, evE_gv, evE_tup, evE_lst, evE_bop, evE_neg, evE_not, evE_cmp, evE_cmp2, evE_and, evE_or, evE_ix, evE_sl, evE_call, evE_blt, evE_calv, evE_isi, evE_bm, evE_dnew, evE_mk, evE_cm, evE_fld, evE_lc, evE_lcb, evS_asl, evS_sfl, evS_augf, evS_del, evS_lck, ix_dic', wk_str, me_ext, me_ins, me_pop, me_idx, me_dget, me_dpop, me_joinl, me_joint, tstF_ap, eltF_ap, op_rept, op_repl] at this
    simp [fin_rt, fin_nx, start, evSs, evS_asg, evS_six, evS_aug, evS_exp, evS_ret, evS_brk, evS_pas, evS_ife, evS_fr, evS_whl, bodyF_ap, testF_ap, tgF_ap, evEs, evAnd, evOr, evTs, evIs, tsE, op_addi, op_subi, op_muli, op_divi, op_modi, op_powi, op_adds, op_addt, op_addl, op_rep, cm_eq, cm_ne, cm_lt, cm_le, cm_gt, cm_ge, cm_is, cm_isn, cm_isb, cm_isnb, cm_in, cm_nin, in_kd, in_tup, in_chr, in_ref, tr_non, tr_bl, tr_int, tr_str, tr_tup, tr_ref, ix_tup, ix_str, ix_kd, ix_ref, ln_str, ln_tup, ln_ref, ty_non, ty_bl, ty_int, ty_str, ty_tup, ty_ref, bf_len, bf_int, bf_intb, bf_tuple, bf_list, bf_str, sq_tup, sq_ref, wk_tup, wk_ref, to_str, to_tup, to_ref, me_app, in_non, in_bl, in_int, in_str, in_tup', in_ref', sl_tup, sl_str, sl_ref, tgA, tgsA, setSl, atI_0, atI_1, atI_2, atI_3, atI_4, List.lookup, isNonE, ptI, mulOk_r, mulOk_l, divOk_s, rngOf_1, rngOf_2, b2i, shp, pq_non_non, pq_non_bl, pq_non_int, pq_non_str, pq_non_tup, pq_bl_non, pq_bl_bl, pq_bl_int, pq_bl_str, pq_bl_tup, pq_int_non, pq_int_bl, pq_int_int, pq_int_str, pq_int_tup, pq_str_non, pq_str_bl, pq_str_int, pq_str_str, pq_str_tup, pq_tup_non, pq_tup_bl, pq_tup_int, pq_tup_str, pq_tup_tup, pqs_nn, pqs_cc, pqs_nc, pqs_cn, pur_non, pur_bl, pur_int, pur_str, pur_tup, pur_ref, pur_fn, pur_kd, purs_n, purs_c, dep_non, dep_bl, dep_int, dep_str, dep_tup, deps_n, deps_c, SZ, evE_non, evE_bl, evE_int, evE_str, evE_lv, evE_gv, evE_tup, evE_lst, evE_bop, evE_neg, evE_not, evE_cmp, evE_cmp2, evE_and, evE_or, evE_ix, evE_sl, evE_call, evE_blt, evE_calv, evE_isi, evE_bm, evE_dnew, evE_mk, evE_cm, evE_fld, evE_lc, evE_lcb, evS_asl, evS_sfl, evS_augf, evS_del, evS_lck, ix_dic', wk_str, me_ext, me_ins, me_pop, me_idx, me_dget, me_dpop, me_joinl, me_joint, tstF_ap, eltF_ap, op_rept, op_repl, F__law_text, e1, q]
    exact this
/-- a value of the program -/
inductive Vl : D → Prop where
  | non : Vl (.tup [.str [110,111,110,101]])
  | bl (b : Bool) : Vl (.tup [.str [98,111,111,108], .bl b])
  | text (s : List Nat) (l : s.length ≤ 200) (g : sgn s) : Vl (.tup [.str [116,101,120,116], .str s])
  | obj (ts : List Int) (n : Int) (l : ts.length ≤ 2) : Vl (.tup [.str [111,98,106,101,99,116], .tup (ts.map D.int), .int n])
  | int (n : Int) (l : n.natAbs < 10 ^ 60) : Vl (.tup [.str [105,110,116], .int n])
theorem value_ok (k : Nat) (hk : 3 ≤ k) (h : LH) (b d : Nat) (B : Bx h b d) : ∃ v h', callN TT.pr k 884057696466372344549 [.ref b] h = some (v, h') ∧ Vl v ∧ Bx h' b d ∧ Ext b h h' := by
  suffices H : WP (fun r => Vl r.1 ∧ Bx r.2 b d ∧ Ext b h r.2) (callN TT.pr k 884057696466372344549 [.ref b] h) by
    obtain ⟨⟨v, h'⟩, e, p⟩ := H
    exact ⟨v, h', e, p⟩
  refine WP.mk fun R hR => ?_
  obtain ⟨k', hk'⟩ : ∃ k', k = k' + 1 := ⟨k - 1, by omega⟩
  subst hk'
  rw [callN_succ fn__law_value rfl]
  obtain ⟨t, h1, e1, t0, t1, B1, X1⟩ := draw k' (by omega) h b d 6 (by decide) B
  by_cases q0 : t = 0
  · simp [fin_rt, fin_nx, start, evSs, evS_asg, evS_six, evS_aug, evS_exp, evS_ret, evS_brk, evS_pas, evS_ife, evS_fr, evS_whl, bodyF_ap, testF_ap, tgF_ap, evEs, evAnd, evOr, evTs, evIs, tsE, op_addi, op_subi, op_muli, op_divi, op_modi, op_powi, op_adds, op_addt, op_addl, op_rep, cm_eq, cm_ne, cm_lt, cm_le, cm_gt, cm_ge, cm_is, cm_isn, cm_isb, cm_isnb, cm_in, cm_nin, in_kd, in_tup, in_chr, in_ref, tr_non, tr_bl, tr_int, tr_str, tr_tup, tr_ref, ix_tup, ix_str, ix_kd, ix_ref, ln_str, ln_tup, ln_ref, ty_non, ty_bl, ty_int, ty_str, ty_tup, ty_ref, bf_len, bf_int, bf_intb, bf_tuple, bf_list, bf_str, sq_tup, sq_ref, wk_tup, wk_ref, to_str, to_tup, to_ref, me_app, in_non, in_bl, in_int, in_str, in_tup', in_ref', sl_tup, sl_str, sl_ref, tgA, tgsA, setSl, atI_0, atI_1, atI_2, atI_3, atI_4, List.lookup, isNonE, ptI, mulOk_r, mulOk_l, divOk_s, rngOf_1, rngOf_2, b2i, shp, pq_non_non, pq_non_bl, pq_non_int, pq_non_str, pq_non_tup, pq_bl_non, pq_bl_bl, pq_bl_int, pq_bl_str, pq_bl_tup, pq_int_non, pq_int_bl, pq_int_int, pq_int_str, pq_int_tup, pq_str_non, pq_str_bl, pq_str_int, pq_str_str, pq_str_tup, pq_tup_non, pq_tup_bl, pq_tup_int, pq_tup_str, pq_tup_tup, pqs_nn, pqs_cc, pqs_nc, pqs_cn, pur_non, pur_bl, pur_int, pur_str, pur_tup, pur_ref, pur_fn, pur_kd, purs_n, purs_c, dep_non, dep_bl, dep_int, dep_str, dep_tup, deps_n, deps_c, SZ, evE_non, evE_bl, evE_int, evE_str, evE_lv, evE_gv, evE_tup, evE_lst, evE_bop, evE_neg, evE_not, evE_cmp, evE_cmp2, evE_and, evE_or, evE_ix, evE_sl, evE_call, evE_blt, evE_calv, evE_isi, evE_bm, evE_dnew, evE_mk, evE_cm, evE_fld, evE_lc, evE_lcb, evS_asl, evS_sfl, evS_augf, evS_del, evS_lck, ix_dic', wk_str, me_ext, me_ins, me_pop, me_idx, me_dget, me_dpop, me_joinl, me_joint, tstF_ap, eltF_ap, op_rept, op_repl, F__law_value, e1, q0]
    simp only [Option.bind_some, wp_some]; exact (hR _ ⟨.non, B1, X1⟩)
  by_cases q1 : t = 1
  · obtain ⟨u, h2, e2, u0, u1, B2, X2⟩ := draw k' (by omega) h1 b d 2 (by decide) B1
    simp [fin_rt, fin_nx, start, evSs, evS_asg, evS_six, evS_aug, evS_exp, evS_ret, evS_brk, evS_pas, evS_ife, evS_fr, evS_whl, bodyF_ap, testF_ap, tgF_ap, evEs, evAnd, evOr, evTs, evIs, tsE, op_addi, op_subi, op_muli, op_divi, op_modi, op_powi, op_adds, op_addt, op_addl, op_rep, cm_eq, cm_ne, cm_lt, cm_le, cm_gt, cm_ge, cm_is, cm_isn, cm_isb, cm_isnb, cm_in, cm_nin, in_kd, in_tup, in_chr, in_ref, tr_non, tr_bl, tr_int, tr_str, tr_tup, tr_ref, ix_tup, ix_str, ix_kd, ix_ref, ln_str, ln_tup, ln_ref, ty_non, ty_bl, ty_int, ty_str, ty_tup, ty_ref, bf_len, bf_int, bf_intb, bf_tuple, bf_list, bf_str, sq_tup, sq_ref, wk_tup, wk_ref, to_str, to_tup, to_ref, me_app, in_non, in_bl, in_int, in_str, in_tup', in_ref', sl_tup, sl_str, sl_ref, tgA, tgsA, setSl, atI_0, atI_1, atI_2, atI_3, atI_4, List.lookup, isNonE, ptI, mulOk_r, mulOk_l, divOk_s, rngOf_1, rngOf_2, b2i, shp, pq_non_non, pq_non_bl, pq_non_int, pq_non_str, pq_non_tup, pq_bl_non, pq_bl_bl, pq_bl_int, pq_bl_str, pq_bl_tup, pq_int_non, pq_int_bl, pq_int_int, pq_int_str, pq_int_tup, pq_str_non, pq_str_bl, pq_str_int, pq_str_str, pq_str_tup, pq_tup_non, pq_tup_bl, pq_tup_int, pq_tup_str, pq_tup_tup, pqs_nn, pqs_cc, pqs_nc, pqs_cn, pur_non, pur_bl, pur_int, pur_str, pur_tup, pur_ref, pur_fn, pur_kd, purs_n, purs_c, dep_non, dep_bl, dep_int, dep_str, dep_tup, deps_n, deps_c, SZ, evE_non, evE_bl, evE_int, evE_str, evE_lv, evE_gv, evE_tup, evE_lst, evE_bop, evE_neg, evE_not, evE_cmp, evE_cmp2, evE_and, evE_or, evE_ix, evE_sl, evE_call, evE_blt, evE_calv, evE_isi, evE_bm, evE_dnew, evE_mk, evE_cm, evE_fld, evE_lc, evE_lcb, evS_asl, evS_sfl, evS_augf, evS_del, evS_lck, ix_dic', wk_str, me_ext, me_ins, me_pop, me_idx, me_dget, me_dpop, me_joinl, me_joint, tstF_ap, eltF_ap, op_rept, op_repl, F__law_value, e1, q1, e2]
    simp only [Option.bind_some, wp_some]; exact (hR _ ⟨.bl _, B2, X1.trans X2⟩)
  by_cases q2 : t = 2
  · obtain ⟨s, h2, e2, l, g, B2, X2⟩ := text_ok k' (by omega) h1 b d 200 (by decide) (by decide) B1
    simp [fin_rt, fin_nx, start, evSs, evS_asg, evS_six, evS_aug, evS_exp, evS_ret, evS_brk, evS_pas, evS_ife, evS_fr, evS_whl, bodyF_ap, testF_ap, tgF_ap, evEs, evAnd, evOr, evTs, evIs, tsE, op_addi, op_subi, op_muli, op_divi, op_modi, op_powi, op_adds, op_addt, op_addl, op_rep, cm_eq, cm_ne, cm_lt, cm_le, cm_gt, cm_ge, cm_is, cm_isn, cm_isb, cm_isnb, cm_in, cm_nin, in_kd, in_tup, in_chr, in_ref, tr_non, tr_bl, tr_int, tr_str, tr_tup, tr_ref, ix_tup, ix_str, ix_kd, ix_ref, ln_str, ln_tup, ln_ref, ty_non, ty_bl, ty_int, ty_str, ty_tup, ty_ref, bf_len, bf_int, bf_intb, bf_tuple, bf_list, bf_str, sq_tup, sq_ref, wk_tup, wk_ref, to_str, to_tup, to_ref, me_app, in_non, in_bl, in_int, in_str, in_tup', in_ref', sl_tup, sl_str, sl_ref, tgA, tgsA, setSl, atI_0, atI_1, atI_2, atI_3, atI_4, List.lookup, isNonE, ptI, mulOk_r, mulOk_l, divOk_s, rngOf_1, rngOf_2, b2i, shp, pq_non_non, pq_non_bl, pq_non_int, pq_non_str, pq_non_tup, pq_bl_non, pq_bl_bl, pq_bl_int, pq_bl_str, pq_bl_tup, pq_int_non, pq_int_bl, pq_int_int, pq_int_str, pq_int_tup, pq_str_non, pq_str_bl, pq_str_int, pq_str_str, pq_str_tup, pq_tup_non, pq_tup_bl, pq_tup_int, pq_tup_str, pq_tup_tup, pqs_nn, pqs_cc, pqs_nc, pqs_cn, pur_non, pur_bl, pur_int, pur_str, pur_tup, pur_ref, pur_fn, pur_kd, purs_n, purs_c, dep_non, dep_bl, dep_int, dep_str, dep_tup, deps_n, deps_c, SZ, evE_non, evE_bl, evE_int, evE_str, evE_lv, evE_gv, evE_tup, evE_lst, evE_bop, evE_neg, evE_not, evE_cmp, evE_cmp2, evE_and, evE_or, evE_ix, evE_sl, evE_call, evE_blt, evE_calv, evE_isi, evE_bm, evE_dnew, evE_mk, evE_cm, evE_fld, evE_lc, evE_lcb, evS_asl, evS_sfl, evS_augf, evS_del, evS_lck, ix_dic', wk_str, me_ext, me_ins, me_pop, me_idx, me_dget, me_dpop, me_joinl, me_joint, tstF_ap, eltF_ap, op_rept, op_repl, F__law_value, e1, q2, e2]
    simp only [Option.bind_some, wp_some]; exact (hR _ ⟨.text s (by omega) g, B2, X1.trans X2⟩)
  by_cases q3 : t = 3
  · obtain ⟨u, h2, e2, u0, u1, B2, X2⟩ := draw k' (by omega) h1 b d 3 (by decide) B1
    simp [fin_rt, fin_nx, start, evSs, evS_asg, evS_six, evS_aug, evS_exp, evS_ret, evS_brk, evS_pas, evS_ife, evS_fr, evS_whl, bodyF_ap, testF_ap, tgF_ap, evEs, evAnd, evOr, evTs, evIs, tsE, op_addi, op_subi, op_muli, op_divi, op_modi, op_powi, op_adds, op_addt, op_addl, op_rep, cm_eq, cm_ne, cm_lt, cm_le, cm_gt, cm_ge, cm_is, cm_isn, cm_isb, cm_isnb, cm_in, cm_nin, in_kd, in_tup, in_chr, in_ref, tr_non, tr_bl, tr_int, tr_str, tr_tup, tr_ref, ix_tup, ix_str, ix_kd, ix_ref, ln_str, ln_tup, ln_ref, ty_non, ty_bl, ty_int, ty_str, ty_tup, ty_ref, bf_len, bf_int, bf_intb, bf_tuple, bf_list, bf_str, sq_tup, sq_ref, wk_tup, wk_ref, to_str, to_tup, to_ref, me_app, in_non, in_bl, in_int, in_str, in_tup', in_ref', sl_tup, sl_str, sl_ref, tgA, tgsA, setSl, atI_0, atI_1, atI_2, atI_3, atI_4, List.lookup, isNonE, ptI, mulOk_r, mulOk_l, divOk_s, rngOf_1, rngOf_2, b2i, shp, pq_non_non, pq_non_bl, pq_non_int, pq_non_str, pq_non_tup, pq_bl_non, pq_bl_bl, pq_bl_int, pq_bl_str, pq_bl_tup, pq_int_non, pq_int_bl, pq_int_int, pq_int_str, pq_int_tup, pq_str_non, pq_str_bl, pq_str_int, pq_str_str, pq_str_tup, pq_tup_non, pq_tup_bl, pq_tup_int, pq_tup_str, pq_tup_tup, pqs_nn, pqs_cc, pqs_nc, pqs_cn, pur_non, pur_bl, pur_int, pur_str, pur_tup, pur_ref, pur_fn, pur_kd, purs_n, purs_c, dep_non, dep_bl, dep_int, dep_str, dep_tup, deps_n, deps_c, SZ, evE_non, evE_bl, evE_int, evE_str, evE_lv, evE_gv, evE_tup, evE_lst, evE_bop, evE_neg, evE_not, evE_cmp, evE_cmp2, evE_and, evE_or, evE_ix, evE_sl, evE_call, evE_blt, evE_calv, evE_isi, evE_bm, evE_dnew, evE_mk, evE_cm, evE_fld, evE_lc, evE_lcb, evS_asl, evS_sfl, evS_augf, evS_del, evS_lck, ix_dic', wk_str, me_ext, me_ins, me_pop, me_idx, me_dget, me_dpop, me_joinl, me_joint, tstF_ap, eltF_ap, op_rept, op_repl, F__law_value, e1, q3, e2, show u.natAbs < 4000000 by omega]
    generalize hL : forL _ _ _ _ _ _ _ = L
    refine forL_go hL (fun i σ h' => ∃ (ts : List Int) (a3 : Option D), σ = [some (.ref b), some (.int 3), some (.tup (ts.map D.int)), a3] ∧ ts.length = i ∧ Bx h' b d ∧ Ext b h h') ⟨[], _, rfl, rfl, B2, X1.trans X2⟩ ?_ ?_
    · rintro i x σ h' hx ⟨ts, a4, rfl, hl, B, X⟩ Q hQ
      obtain ⟨rfl, hi⟩ := rng_at0 hx
      clear hx hL
      obtain ⟨v, h4, e4, v0, v1, B4, X4⟩ := draw k' (by omega) h' b d 3 (by decide) B
      simp [fin_rt, fin_nx, start, evSs, evS_asg, evS_six, evS_aug, evS_exp, evS_ret, evS_brk, evS_pas, evS_ife, evS_fr, evS_whl, bodyF_ap, testF_ap, tgF_ap, evEs, evAnd, evOr, evTs, evIs, tsE, op_addi, op_subi, op_muli, op_divi, op_modi, op_powi, op_adds, op_addt, op_addl, op_rep, cm_eq, cm_ne, cm_lt, cm_le, cm_gt, cm_ge, cm_is, cm_isn, cm_isb, cm_isnb, cm_in, cm_nin, in_kd, in_tup, in_chr, in_ref, tr_non, tr_bl, tr_int, tr_str, tr_tup, tr_ref, ix_tup, ix_str, ix_kd, ix_ref, ln_str, ln_tup, ln_ref, ty_non, ty_bl, ty_int, ty_str, ty_tup, ty_ref, bf_len, bf_int, bf_intb, bf_tuple, bf_list, bf_str, sq_tup, sq_ref, wk_tup, wk_ref, to_str, to_tup, to_ref, me_app, in_non, in_bl, in_int, in_str, in_tup', in_ref', sl_tup, sl_str, sl_ref, tgA, tgsA, setSl, atI_0, atI_1, atI_2, atI_3, atI_4, List.lookup, isNonE, ptI, mulOk_r, mulOk_l, divOk_s, rngOf_1, rngOf_2, b2i, shp, pq_non_non, pq_non_bl, pq_non_int, pq_non_str, pq_non_tup, pq_bl_non, pq_bl_bl, pq_bl_int, pq_bl_str, pq_bl_tup, pq_int_non, pq_int_bl, pq_int_int, pq_int_str, pq_int_tup, pq_str_non, pq_str_bl, pq_str_int, pq_str_str, pq_str_tup, pq_tup_non, pq_tup_bl, pq_tup_int, pq_tup_str, pq_tup_tup, pqs_nn, pqs_cc, pqs_nc, pqs_cn, pur_non, pur_bl, pur_int, pur_str, pur_tup, pur_ref, pur_fn, pur_kd, purs_n, purs_c, dep_non, dep_bl, dep_int, dep_str, dep_tup, deps_n, deps_c, SZ, evE_non, evE_bl, evE_int, evE_str, evE_lv, evE_gv, evE_tup, evE_lst, evE_bop, evE_neg, evE_not, evE_cmp, evE_cmp2, evE_and, evE_or, evE_ix, evE_sl, evE_call, evE_blt, evE_calv, evE_isi, evE_bm, evE_dnew, evE_mk, evE_cm, evE_fld, evE_lc, evE_lcb, evS_asl, evS_sfl, evS_augf, evS_del, evS_lck, ix_dic', wk_str, me_ext, me_ins, me_pop, me_idx, me_dget, me_dpop, me_joinl, me_joint, tstF_ap, eltF_ap, op_rept, op_repl, e4, show ts.length + 1 ≤ 16777216 by omega]
      simp only [Option.bind_some, wp_some]; exact (hQ _ _ trivial ⟨ts ++ [v], some (.int i), by simp, by simp; omega, B4, X.trans X4⟩)
    · rintro σ' h' rfl ⟨ts, a4, rfl, hl, B, X⟩
      obtain ⟨v, h4, e4, v0, v1, B4, X4⟩ := draw k' (by omega) h' b d 3 (by decide) B
      simp at hl
      simp [fin_rt, fin_nx, start, evSs, evS_asg, evS_six, evS_aug, evS_exp, evS_ret, evS_brk, evS_pas, evS_ife, evS_fr, evS_whl, bodyF_ap, testF_ap, tgF_ap, evEs, evAnd, evOr, evTs, evIs, tsE, op_addi, op_subi, op_muli, op_divi, op_modi, op_powi, op_adds, op_addt, op_addl, op_rep, cm_eq, cm_ne, cm_lt, cm_le, cm_gt, cm_ge, cm_is, cm_isn, cm_isb, cm_isnb, cm_in, cm_nin, in_kd, in_tup, in_chr, in_ref, tr_non, tr_bl, tr_int, tr_str, tr_tup, tr_ref, ix_tup, ix_str, ix_kd, ix_ref, ln_str, ln_tup, ln_ref, ty_non, ty_bl, ty_int, ty_str, ty_tup, ty_ref, bf_len, bf_int, bf_intb, bf_tuple, bf_list, bf_str, sq_tup, sq_ref, wk_tup, wk_ref, to_str, to_tup, to_ref, me_app, in_non, in_bl, in_int, in_str, in_tup', in_ref', sl_tup, sl_str, sl_ref, tgA, tgsA, setSl, atI_0, atI_1, atI_2, atI_3, atI_4, List.lookup, isNonE, ptI, mulOk_r, mulOk_l, divOk_s, rngOf_1, rngOf_2, b2i, shp, pq_non_non, pq_non_bl, pq_non_int, pq_non_str, pq_non_tup, pq_bl_non, pq_bl_bl, pq_bl_int, pq_bl_str, pq_bl_tup, pq_int_non, pq_int_bl, pq_int_int, pq_int_str, pq_int_tup, pq_str_non, pq_str_bl, pq_str_int, pq_str_str, pq_str_tup, pq_tup_non, pq_tup_bl, pq_tup_int, pq_tup_str, pq_tup_tup, pqs_nn, pqs_cc, pqs_nc, pqs_cn, pur_non, pur_bl, pur_int, pur_str, pur_tup, pur_ref, pur_fn, pur_kd, purs_n, purs_c, dep_non, dep_bl, dep_int, dep_str, dep_tup, deps_n, deps_c, SZ, evE_non, evE_bl, evE_int, evE_str, evE_lv, evE_gv, evE_tup, evE_lst, evE_bop, evE_neg, evE_not, evE_cmp, evE_cmp2, evE_and, evE_or, evE_ix, evE_sl, evE_call, evE_blt, evE_calv, evE_isi, evE_bm, evE_dnew, evE_mk, evE_cm, evE_fld, evE_lc, evE_lcb, evS_asl, evS_sfl, evS_augf, evS_del, evS_lck, ix_dic', wk_str, me_ext, me_ins, me_pop, me_idx, me_dget, me_dpop, me_joinl, me_joint, tstF_ap, eltF_ap, op_rept, op_repl, e4]
      simp only [Option.bind_some, wp_some]; exact (hR _ ⟨.obj ts v (by omega), B4, X.trans X4⟩)
  · obtain ⟨s, h2, e2, l, B2, X2⟩ := number_ok k' (by omega) h1 b d B1
    simp [fin_rt, fin_nx, start, evSs, evS_asg, evS_six, evS_aug, evS_exp, evS_ret, evS_brk, evS_pas, evS_ife, evS_fr, evS_whl, bodyF_ap, testF_ap, tgF_ap, evEs, evAnd, evOr, evTs, evIs, tsE, op_addi, op_subi, op_muli, op_divi, op_modi, op_powi, op_adds, op_addt, op_addl, op_rep, cm_eq, cm_ne, cm_lt, cm_le, cm_gt, cm_ge, cm_is, cm_isn, cm_isb, cm_isnb, cm_in, cm_nin, in_kd, in_tup, in_chr, in_ref, tr_non, tr_bl, tr_int, tr_str, tr_tup, tr_ref, ix_tup, ix_str, ix_kd, ix_ref, ln_str, ln_tup, ln_ref, ty_non, ty_bl, ty_int, ty_str, ty_tup, ty_ref, bf_len, bf_int, bf_intb, bf_tuple, bf_list, bf_str, sq_tup, sq_ref, wk_tup, wk_ref, to_str, to_tup, to_ref, me_app, in_non, in_bl, in_int, in_str, in_tup', in_ref', sl_tup, sl_str, sl_ref, tgA, tgsA, setSl, atI_0, atI_1, atI_2, atI_3, atI_4, List.lookup, isNonE, ptI, mulOk_r, mulOk_l, divOk_s, rngOf_1, rngOf_2, b2i, shp, pq_non_non, pq_non_bl, pq_non_int, pq_non_str, pq_non_tup, pq_bl_non, pq_bl_bl, pq_bl_int, pq_bl_str, pq_bl_tup, pq_int_non, pq_int_bl, pq_int_int, pq_int_str, pq_int_tup, pq_str_non, pq_str_bl, pq_str_int, pq_str_str, pq_str_tup, pq_tup_non, pq_tup_bl, pq_tup_int, pq_tup_str, pq_tup_tup, pqs_nn, pqs_cc, pqs_nc, pqs_cn, pur_non, pur_bl, pur_int, pur_str, pur_tup, pur_ref, pur_fn, pur_kd, purs_n, purs_c, dep_non, dep_bl, dep_int, dep_str, dep_tup, deps_n, deps_c, SZ, evE_non, evE_bl, evE_int, evE_str, evE_lv, evE_gv, evE_tup, evE_lst, evE_bop, evE_neg, evE_not, evE_cmp, evE_cmp2, evE_and, evE_or, evE_ix, evE_sl, evE_call, evE_blt, evE_calv, evE_isi, evE_bm, evE_dnew, evE_mk, evE_cm, evE_fld, evE_lc, evE_lcb, evS_asl, evS_sfl, evS_augf, evS_del, evS_lck, ix_dic', wk_str, me_ext, me_ins, me_pop, me_idx, me_dget, me_dpop, me_joinl, me_joint, tstF_ap, eltF_ap, op_rept, op_repl, F__law_value, e1, q0, q1, q2, q3, e2]
    simp only [Option.bind_some, wp_some]; exact (hR _ ⟨.int s l, B2, X1.trans X2⟩)
theorem Vl.okd2 {v : D} (V : Vl v) : okd 2 v = true := by
  cases V with
  | text s l g =>
    unfold sgn at g
    simp [okd]
    simpa using g
  | obj ts n l =>
    simp [okd]; omega
  | _ => rfl
mutual
theorem pyeq_inj : ∀ {x y : D}, keyL x = true → keyL y = true → pyeq x y = true → x = y
  | .int a, .int b, _, _, h => by simp [pyeq] at h; rw [h]
  | .int a, .tup b, _, _, h => by simp [pyeq] at h
  | .tup a, .int b, _, _, h => by simp [pyeq] at h
  | .tup a, .tup b, h1, h2, h => by
    simp only [pyeq] at h
    rw [pyeqs_inj (by simpa [keyL] using h1) (by simpa [keyL] using h2) h]
  | .non, _, h, _, _ => by cases h
  | .bl _, _, h, _, _ => by cases h
  | .str _, _, h, _, _ => by cases h
  | .ref _, _, h, _, _ => by cases h
  | .fn _, _, h, _, _ => by cases h
  | .kd _, _, h, _, _ => by cases h
  | .int _, .non, _, h, _ => by cases h
  | .int _, .bl _, _, h, _ => by cases h
  | .int _, .str _, _, h, _ => by cases h
  | .int _, .ref _, _, h, _ => by cases h
  | .int _, .fn _, _, h, _ => by cases h
  | .int _, .kd _, _, h, _ => by cases h
  | .tup _, .non, _, h, _ => by cases h
  | .tup _, .bl _, _, h, _ => by cases h
  | .tup _, .str _, _, h, _ => by cases h
  | .tup _, .ref _, _, h, _ => by cases h
  | .tup _, .fn _, _, h, _ => by cases h
  | .tup _, .kd _, _, h, _ => by cases h
theorem pyeqs_inj : ∀ {x y : List D}, keyLs x = true → keyLs y = true → pyeqs x y = true → x = y
  | [], [], _, _, _ => rfl
  | [], _ :: _, _, _, h => by simp [pyeqs] at h
  | _ :: _, [], _, _, h => by simp [pyeqs] at h
  | a :: x, b :: y, h1, h2, h => by
    have h1' : keyL a = true ∧ keyLs x = true := by simpa [keyLs] using h1
    have h2' : keyL b = true ∧ keyLs y = true := by simpa [keyLs] using h2
    simp only [pyeqs, Bool.and_eq_true] at h
    rw [pyeq_inj h1'.1 h2'.1 h.1, pyeqs_inj h1'.2 h2'.2 h.2]
end
theorem key_eq {x y : D} (h1 : keyOk x = true) (h2 : keyOk y = true) : pyeq x y = true ↔ x = y := by
  constructor
  · exact pyeq_inj (keyOk_L h1).1 (keyOk_L h2).1
  · rintro rfl
    rw [keyOk_eq h1 h1]; simp
/-- a dict that is well -/
def Gd (M : List (D × D)) : Prop := (M.map (·.1)).Nodup ∧ ∀ p ∈ M, keyOk p.1 = true
theorem look_some {M : List (D × D)} (g : Gd M) {k v : D} (hk : keyOk k = true) : dLook M k = some v ↔ (k, v) ∈ M := by
  obtain ⟨nd, ok⟩ := g
  induction M with
  | nil => simp [dLook]
  | cons p M ih =>
    have nd' : p.1 ∉ M.map (·.1) ∧ (M.map (·.1)).Nodup := by simpa using nd
    have okp := ok p (by simp)
    have ih := ih nd'.2 (fun q hq => ok q (by simp [hq]))
    by_cases q : p.1 = k
    · have e : pyeq p.1 k = true := (key_eq okp hk).mpr q
      have e2 : dLook (p :: M) k = some p.2 := by simp [dLook, List.find?, e]
      rw [e2]
      constructor
      · intro h; cases h; rw [← q]; simp
      · intro h
        rcases List.mem_cons.mp h with h | h
        · rw [← h]
        · exact (nd'.1 (by rw [q]; exact List.mem_map.mpr ⟨_, h, rfl⟩)).elim
    · have e : pyeq p.1 k = false := by
        cases h : pyeq p.1 k with
        | false => rfl
        | true => exact (q ((key_eq okp hk).mp h)).elim
      have e2 : dLook (p :: M) k = dLook M k := by simp [dLook, List.find?, e]
      rw [e2, ih]
      constructor
      · intro h; exact List.mem_cons_of_mem _ h
      · intro h
        rcases List.mem_cons.mp h with h | h
        · rw [← h] at q; exact (q rfl).elim
        · exact h
theorem key_ne {x y : D} (h1 : keyOk x = true) (h2 : keyOk y = true) (q : x ≠ y) : pyeq x y = false := by
  cases h : pyeq x y with
  | false => rfl
  | true => exact (q ((key_eq h1 h2).mp h)).elim
theorem has_key {M : List (D × D)} (g : Gd M) {k : D} (hk : keyOk k = true) : (M.any fun p => pyeq p.1 k) = true ↔ k ∈ M.map (·.1) := by
  rw [List.any_eq_true]
  constructor
  · rintro ⟨p, hp, e⟩
    exact List.mem_map.mpr ⟨p, hp, (key_eq (g.2 p hp) hk).mp e⟩
  · intro h
    obtain ⟨p, hp, e⟩ := List.mem_map.mp h
    exact ⟨p, hp, (key_eq (g.2 p hp) hk).mpr e⟩
theorem put_map {M : List (D × D)} {k v : D} : (M.map fun p => if pyeq p.1 k then (p.1, v) else p).map (·.1) = M.map (·.1) := by
  rw [List.map_map]
  apply List.map_congr_left
  intro p _
  show (if pyeq p.1 k = true then (p.1, v) else p).1 = p.1
  split <;> rfl
theorem put_gd {M : List (D × D)} (g : Gd M) {k v : D} (hk : keyOk k = true) : Gd (dPut M k v) := by
  unfold dPut
  split
  · refine ⟨by rw [put_map]; exact g.1, fun p hp => ?_⟩
    obtain ⟨q, hq, e⟩ := List.mem_map.mp hp
    have : p.1 = q.1 := by rw [← e]; split <;> rfl
    rw [this]; exact g.2 q hq
  · rename_i h
    refine ⟨?_, fun p hp => ?_⟩
    · rw [List.map_append, List.nodup_append]
      refine ⟨g.1, by simp, fun a ha b hb => ?_⟩
      simp at hb
      subst hb
      rintro rfl
      exact h ((has_key g hk).mpr ha)
    · rcases List.mem_append.mp hp with hp | hp
      · exact g.2 p hp
      · simp at hp; rw [hp]; exact hk
theorem mem_put {M : List (D × D)} (g : Gd M) {k v : D} (hk : keyOk k = true) {k' v' : D} : (k', v') ∈ dPut M k v ↔ (k' = k ∧ v' = v) ∨ (k' ≠ k ∧ (k', v') ∈ M) := by
  unfold dPut
  split
  · rename_i h
    rw [List.mem_map]
    constructor
    · rintro ⟨p, hp, e⟩
      by_cases q : p.1 = k
      · rw [if_pos ((key_eq (g.2 p hp) hk).mpr q)] at e
        cases e; exact .inl ⟨q, rfl⟩
      · rw [if_neg (by rw [key_ne (g.2 p hp) hk q]; simp)] at e
        subst e
        exact .inr ⟨q, hp⟩
    · rintro (⟨rfl, rfl⟩ | ⟨q, hp⟩)
      · obtain ⟨p, hp, e⟩ := List.mem_map.mp ((has_key g hk).mp h)
        exact ⟨p, hp, by rw [if_pos ((key_eq (g.2 p hp) hk).mpr e), e]⟩
      · exact ⟨(k', v'), hp, by rw [if_neg (by rw [key_ne (g.2 _ hp) hk q]; simp)]⟩
  · rename_i h
    rw [List.mem_append]
    constructor
    · rintro (hp | hp)
      · refine .inr ⟨?_, hp⟩
        rintro rfl
        exact h ((has_key g hk).mpr (List.mem_map.mpr ⟨_, hp, rfl⟩))
      · simp at hp; exact .inl hp
    · rintro (⟨rfl, rfl⟩ | ⟨_, hp⟩)
      · exact .inr (by simp)
      · exact .inl hp
theorem del_gd {M : List (D × D)} (g : Gd M) (k : D) : Gd (dDel M k) := by
  unfold dDel
  exact ⟨g.1.sublist (List.Sublist.map _ List.filter_sublist), fun p hp => g.2 p (List.mem_filter.mp hp).1⟩
theorem mem_del {M : List (D × D)} (g : Gd M) {k : D} (hk : keyOk k = true) {k' v' : D} : (k', v') ∈ dDel M k ↔ k' ≠ k ∧ (k', v') ∈ M := by
  unfold dDel
  rw [List.mem_filter]
  constructor
  · rintro ⟨hp, e⟩
    refine ⟨?_, hp⟩
    rintro rfl
    have := (key_eq (g.2 _ hp) hk).mpr rfl
    simp only at e this
    rw [this] at e; simp at e
  · rintro ⟨q, hp⟩
    exact ⟨hp, by simp only; rw [key_ne (g.2 _ hp) hk q]; rfl⟩
theorem put_same {M : List (D × D)} (g : Gd M) {k v : D} (hk : keyOk k = true) (h : dLook M k = some v) : dPut M k v = M := by
  have hm := (look_some g hk).mp h
  unfold dPut
  rw [if_pos ((has_key g hk).mpr (List.mem_map.mpr ⟨_, hm, rfl⟩))]
  conv => rhs; rw [← List.map_id M]
  apply List.map_congr_left
  intro p hp
  by_cases q : p.1 = k
  · rw [if_pos ((key_eq (g.2 p hp) hk).mpr q)]
    have : dLook M k = some p.2 := (look_some g hk).mpr (by rw [← q]; exact hp)
    rw [h] at this
    cases this; rfl
  · rw [if_neg (by rw [key_ne (g.2 p hp) hk q]; simp)]; rfl
def nonD : D := .tup [.str [110,111,110,101]]
def isNo : D → Bool
  | .tup [.str s] => s == [110,111,110,101]
  | _ => false
/-- one write -/
def stepW (M : List (D × D)) (p : D × D) : List (D × D) := if isNo p.2 then (if (dLook M p.1).isSome then dDel M p.1 else M) else dPut M p.1 p.2
def runW (M : List (D × D)) (W : List (D × D)) : List (D × D) := W.foldl stepW M
theorem step_gd {M : List (D × D)} (g : Gd M) {p : D × D} (hk : keyOk p.1 = true) : Gd (stepW M p) := by
  unfold stepW
  split
  · split
    · exact del_gd g _
    · exact g
  · exact put_gd g hk
theorem look_none {M : List (D × D)} (g : Gd M) {k : D} (hk : keyOk k = true) : dLook M k = none ↔ ∀ v, (k, v) ∉ M := by
  constructor
  · intro h v hm
    rw [(look_some g hk).mpr hm] at h; cases h
  · intro h
    cases e : dLook M k with
    | none => rfl
    | some v => exact (h v ((look_some g hk).mp e)).elim
theorem look_ext {M N : List (D × D)} (g : Gd M) (g2 : Gd N) {k : D} (hk : keyOk k = true) (h : ∀ v, (k, v) ∈ M ↔ (k, v) ∈ N) : dLook M k = dLook N k := by
  cases e : dLook M k with
  | none => exact ((look_none g2 hk).mpr fun v hm => (look_none g hk).mp e v ((h v).mpr hm)).symm
  | some v => exact ((look_some g2 hk).mpr ((h v).mp ((look_some g hk).mp e))).symm
theorem step_other {M : List (D × D)} (g : Gd M) {p : D × D} (hp : keyOk p.1 = true) {k : D} (hk : keyOk k = true) (q : k ≠ p.1) : dLook (stepW M p) k = dLook M k := by
  refine look_ext (step_gd g hp) g hk fun v => ?_
  unfold stepW
  split
  · split
    · rw [mem_del g hp]; exact ⟨fun h => h.2, fun h => ⟨q, h⟩⟩
    · rfl
  · rw [mem_put g hp]
    exact ⟨fun h => h.elim (fun h => (q h.1).elim) fun h => h.2, fun h => .inr ⟨q, h⟩⟩
theorem step_at {M : List (D × D)} (g : Gd M) {p : D × D} (hp : keyOk p.1 = true) : dLook (stepW M p) p.1 = if isNo p.2 then none else some p.2 := by
  unfold stepW
  split
  · split
    · rw [look_none (del_gd g _) hp]
      intro v hm
      exact ((mem_del g hp).mp hm).1 rfl
    · rename_i h
      cases e : dLook M p.1 with
      | none => rfl
      | some v => rw [e] at h; exact (h rfl).elim
  · rw [look_some (put_gd g hp) hp, mem_put g hp]; exact .inl ⟨rfl, rfl⟩
theorem run_gd : ∀ (W : List (D × D)) {M : List (D × D)}, Gd M → (∀ p ∈ W, keyOk p.1 = true) → Gd (runW M W)
  | [], _, g, _ => g
  | p :: W, _, g, h => run_gd W (step_gd g (h p (by simp))) fun q hq => h q (by simp [hq])
theorem run_other : ∀ (W : List (D × D)) {M : List (D × D)}, Gd M → (∀ p ∈ W, keyOk p.1 = true) → ∀ {k : D}, keyOk k = true → k ∉ W.map (·.1) → dLook (runW M W) k = dLook M k
  | [], _, _, _, _, _, _ => rfl
  | p :: W, M, g, h, k, hk, q => by
    have q' : k ≠ p.1 ∧ k ∉ W.map (·.1) := by simpa using q
    have := run_other W (step_gd g (h p (by simp))) (fun r hr => h r (by simp [hr])) hk q'.2
    exact this.trans (step_other g (h p (by simp)) hk q'.1)
theorem run_at : ∀ (W : List (D × D)) {M : List (D × D)}, Gd M → (∀ p ∈ W, keyOk p.1 = true) → (W.map (·.1)).Nodup → ∀ p ∈ W, dLook (runW M W) p.1 = if isNo p.2 then none else some p.2
  | [], _, _, _, _, p, hp => by cases hp
  | p :: W, M, g, h, nd, r, hr => by
    have nd' : p.1 ∉ W.map (·.1) ∧ (W.map (·.1)).Nodup := by simpa using nd
    have h' : ∀ r ∈ W, keyOk r.1 = true := fun r hr => h r (by simp [hr])
    rcases List.mem_cons.mp hr with rfl | hr
    · exact (run_other W (step_gd g (h _ (by simp))) h' (h _ (by simp)) nd'.1).trans (step_at g (h _ (by simp)))
    · exact run_at W (step_gd g (h p (by simp))) h' nd'.2 r hr
theorem run_still : ∀ (W : List (D × D)) {M : List (D × D)}, Gd M → (∀ p ∈ W, keyOk p.1 = true) → (∀ p ∈ W, dLook M p.1 = if isNo p.2 then none else some p.2) → runW M W = M
  | [], _, _, _, _ => rfl
  | p :: W, M, g, h, l => by
    have e := l p (by simp)
    have : stepW M p = M := by
      unfold stepW
      split
      · rename_i q
        rw [if_pos q] at e
        rw [e]; rfl
      · rename_i q
        rw [if_neg q] at e
        exact put_same g (h p (by simp)) e
    show runW (stepW M p) W = M
    rw [this]
    exact run_still W g (fun r hr => h r (by simp [hr])) fun r hr => l r (by simp [hr])
/-- the same writes again change nothing -/
theorem run_twice (W : List (D × D)) {M : List (D × D)} (g : Gd M) (h : ∀ p ∈ W, keyOk p.1 = true) (nd : (W.map (·.1)).Nodup) : runW (runW M W) W = runW M W :=
  run_still W (run_gd W g h) h (run_at W g h nd)
theorem step_len (M : List (D × D)) (p : D × D) : (stepW M p).length ≤ M.length + 1 := by
  unfold stepW
  split
  · split
    · have := dDel_len M p.1; omega
    · omega
  · exact dPut_len M p.1 p.2
mutual
/-- what the law's same tells -/
def sm : D → D → Bool
  | .tup xs, .tup ys => sms xs ys
  | .non, .non => true
  | .bl a, .bl b => a == b
  | .int a, .int b => a == b
  | .str a, .str b => a == b
  | _, _ => false
def sms : List D → List D → Bool
  | [], [] => true
  | x :: xs, y :: ys => sm x y && sms xs ys
  | _, _ => false
end
theorem sms_len : ∀ (xs ys : List D), xs.length ≠ ys.length → sms xs ys = false
  | [], [], h => (h rfl).elim
  | [], _ :: _, _ => rfl
  | _ :: _, [], _ => rfl
  | x :: xs, y :: ys, h => by
    have : sms xs ys = false := sms_len xs ys (by simpa using h)
    simp [sms, this]
theorem samg0 (k : Nat) (a b : D) (h : LH) (oa : okd 9 a = true) (o : okd 0 b = true) : callN TT.pr (k+1) 6906700753637242597 [a, b] h = some (.bl (sm a b), h) := by
  rw [callN_succ fn__law_same rfl]
  cases b with
  | non => cases a <;> simp [fin_rt, fin_nx, start, evSs, evS_asg, evS_six, evS_aug, evS_exp, evS_ret, evS_brk, evS_pas, evS_ife, evS_fr, evS_whl, bodyF_ap, testF_ap, tgF_ap, evEs, evAnd, evOr, evTs, evIs, tsE, op_addi, op_subi, op_muli, op_divi, op_modi, op_powi, op_adds, op_addt, op_addl, op_rep, cm_eq, cm_ne, cm_lt, cm_le, cm_gt, cm_ge, cm_is, cm_isn, cm_isb, cm_isnb, cm_in, cm_nin, in_kd, in_tup, in_chr, in_ref, tr_non, tr_bl, tr_int, tr_str, tr_tup, tr_ref, ix_tup, ix_str, ix_kd, ix_ref, ln_str, ln_tup, ln_ref, ty_non, ty_bl, ty_int, ty_str, ty_tup, ty_ref, bf_len, bf_int, bf_intb, bf_tuple, bf_list, bf_str, sq_tup, sq_ref, wk_tup, wk_ref, to_str, to_tup, to_ref, me_app, in_non, in_bl, in_int, in_str, in_tup', in_ref', sl_tup, sl_str, sl_ref, tgA, tgsA, setSl, atI_0, atI_1, atI_2, atI_3, atI_4, List.lookup, isNonE, ptI, mulOk_r, mulOk_l, divOk_s, rngOf_1, rngOf_2, b2i, shp, pq_non_non, pq_non_bl, pq_non_int, pq_non_str, pq_non_tup, pq_bl_non, pq_bl_bl, pq_bl_int, pq_bl_str, pq_bl_tup, pq_int_non, pq_int_bl, pq_int_int, pq_int_str, pq_int_tup, pq_str_non, pq_str_bl, pq_str_int, pq_str_str, pq_str_tup, pq_tup_non, pq_tup_bl, pq_tup_int, pq_tup_str, pq_tup_tup, pqs_nn, pqs_cc, pqs_nc, pqs_cn, pur_non, pur_bl, pur_int, pur_str, pur_tup, pur_ref, pur_fn, pur_kd, purs_n, purs_c, dep_non, dep_bl, dep_int, dep_str, dep_tup, deps_n, deps_c, SZ, evE_non, evE_bl, evE_int, evE_str, evE_lv, evE_gv, evE_tup, evE_lst, evE_bop, evE_neg, evE_not, evE_cmp, evE_cmp2, evE_and, evE_or, evE_ix, evE_sl, evE_call, evE_blt, evE_calv, evE_isi, evE_bm, evE_dnew, evE_mk, evE_cm, evE_fld, evE_lc, evE_lcb, evS_asl, evS_sfl, evS_augf, evS_del, evS_lck, ix_dic', wk_str, me_ext, me_ins, me_pop, me_idx, me_dget, me_dpop, me_joinl, me_joint, tstF_ap, eltF_ap, op_rept, op_repl, F__law_same, sm, in_fn, in_kd']
  | bl b =>
    cases a with
    | ref x => cases oa
    | fn x => cases oa
    | kd x => cases oa
    | _ => simp [fin_rt, fin_nx, start, evSs, evS_asg, evS_six, evS_aug, evS_exp, evS_ret, evS_brk, evS_pas, evS_ife, evS_fr, evS_whl, bodyF_ap, testF_ap, tgF_ap, evEs, evAnd, evOr, evTs, evIs, tsE, op_addi, op_subi, op_muli, op_divi, op_modi, op_powi, op_adds, op_addt, op_addl, op_rep, cm_eq, cm_ne, cm_lt, cm_le, cm_gt, cm_ge, cm_is, cm_isn, cm_isb, cm_isnb, cm_in, cm_nin, in_kd, in_tup, in_chr, in_ref, tr_non, tr_bl, tr_int, tr_str, tr_tup, tr_ref, ix_tup, ix_str, ix_kd, ix_ref, ln_str, ln_tup, ln_ref, ty_non, ty_bl, ty_int, ty_str, ty_tup, ty_ref, bf_len, bf_int, bf_intb, bf_tuple, bf_list, bf_str, sq_tup, sq_ref, wk_tup, wk_ref, to_str, to_tup, to_ref, me_app, in_non, in_bl, in_int, in_str, in_tup', in_ref', sl_tup, sl_str, sl_ref, tgA, tgsA, setSl, atI_0, atI_1, atI_2, atI_3, atI_4, List.lookup, isNonE, ptI, mulOk_r, mulOk_l, divOk_s, rngOf_1, rngOf_2, b2i, shp, pq_non_non, pq_non_bl, pq_non_int, pq_non_str, pq_non_tup, pq_bl_non, pq_bl_bl, pq_bl_int, pq_bl_str, pq_bl_tup, pq_int_non, pq_int_bl, pq_int_int, pq_int_str, pq_int_tup, pq_str_non, pq_str_bl, pq_str_int, pq_str_str, pq_str_tup, pq_tup_non, pq_tup_bl, pq_tup_int, pq_tup_str, pq_tup_tup, pqs_nn, pqs_cc, pqs_nc, pqs_cn, pur_non, pur_bl, pur_int, pur_str, pur_tup, pur_ref, pur_fn, pur_kd, purs_n, purs_c, dep_non, dep_bl, dep_int, dep_str, dep_tup, deps_n, deps_c, SZ, evE_non, evE_bl, evE_int, evE_str, evE_lv, evE_gv, evE_tup, evE_lst, evE_bop, evE_neg, evE_not, evE_cmp, evE_cmp2, evE_and, evE_or, evE_ix, evE_sl, evE_call, evE_blt, evE_calv, evE_isi, evE_bm, evE_dnew, evE_mk, evE_cm, evE_fld, evE_lc, evE_lcb, evS_asl, evS_sfl, evS_augf, evS_del, evS_lck, ix_dic', wk_str, me_ext, me_ins, me_pop, me_idx, me_dget, me_dpop, me_joinl, me_joint, tstF_ap, eltF_ap, op_rept, op_repl, F__law_same, sm]
  | int i =>
    cases a with
    | ref x => cases oa
    | fn x => cases oa
    | kd x => cases oa
    | _ => simp [fin_rt, fin_nx, start, evSs, evS_asg, evS_six, evS_aug, evS_exp, evS_ret, evS_brk, evS_pas, evS_ife, evS_fr, evS_whl, bodyF_ap, testF_ap, tgF_ap, evEs, evAnd, evOr, evTs, evIs, tsE, op_addi, op_subi, op_muli, op_divi, op_modi, op_powi, op_adds, op_addt, op_addl, op_rep, cm_eq, cm_ne, cm_lt, cm_le, cm_gt, cm_ge, cm_is, cm_isn, cm_isb, cm_isnb, cm_in, cm_nin, in_kd, in_tup, in_chr, in_ref, tr_non, tr_bl, tr_int, tr_str, tr_tup, tr_ref, ix_tup, ix_str, ix_kd, ix_ref, ln_str, ln_tup, ln_ref, ty_non, ty_bl, ty_int, ty_str, ty_tup, ty_ref, bf_len, bf_int, bf_intb, bf_tuple, bf_list, bf_str, sq_tup, sq_ref, wk_tup, wk_ref, to_str, to_tup, to_ref, me_app, in_non, in_bl, in_int, in_str, in_tup', in_ref', sl_tup, sl_str, sl_ref, tgA, tgsA, setSl, atI_0, atI_1, atI_2, atI_3, atI_4, List.lookup, isNonE, ptI, mulOk_r, mulOk_l, divOk_s, rngOf_1, rngOf_2, b2i, shp, pq_non_non, pq_non_bl, pq_non_int, pq_non_str, pq_non_tup, pq_bl_non, pq_bl_bl, pq_bl_int, pq_bl_str, pq_bl_tup, pq_int_non, pq_int_bl, pq_int_int, pq_int_str, pq_int_tup, pq_str_non, pq_str_bl, pq_str_int, pq_str_str, pq_str_tup, pq_tup_non, pq_tup_bl, pq_tup_int, pq_tup_str, pq_tup_tup, pqs_nn, pqs_cc, pqs_nc, pqs_cn, pur_non, pur_bl, pur_int, pur_str, pur_tup, pur_ref, pur_fn, pur_kd, purs_n, purs_c, dep_non, dep_bl, dep_int, dep_str, dep_tup, deps_n, deps_c, SZ, evE_non, evE_bl, evE_int, evE_str, evE_lv, evE_gv, evE_tup, evE_lst, evE_bop, evE_neg, evE_not, evE_cmp, evE_cmp2, evE_and, evE_or, evE_ix, evE_sl, evE_call, evE_blt, evE_calv, evE_isi, evE_bm, evE_dnew, evE_mk, evE_cm, evE_fld, evE_lc, evE_lcb, evS_asl, evS_sfl, evS_augf, evS_del, evS_lck, ix_dic', wk_str, me_ext, me_ins, me_pop, me_idx, me_dget, me_dpop, me_joinl, me_joint, tstF_ap, eltF_ap, op_rept, op_repl, F__law_same, sm]
  | str s =>
    rw [okd_str] at o
    cases a with
    | ref x => cases oa
    | fn x => cases oa
    | kd x => cases oa
    | str t =>
      rw [okd_str] at oa
      simp [fin_rt, fin_nx, start, evSs, evS_asg, evS_six, evS_aug, evS_exp, evS_ret, evS_brk, evS_pas, evS_ife, evS_fr, evS_whl, bodyF_ap, testF_ap, tgF_ap, evEs, evAnd, evOr, evTs, evIs, tsE, op_addi, op_subi, op_muli, op_divi, op_modi, op_powi, op_adds, op_addt, op_addl, op_rep, cm_eq, cm_ne, cm_lt, cm_le, cm_gt, cm_ge, cm_is, cm_isn, cm_isb, cm_isnb, cm_in, cm_nin, in_kd, in_tup, in_chr, in_ref, tr_non, tr_bl, tr_int, tr_str, tr_tup, tr_ref, ix_tup, ix_str, ix_kd, ix_ref, ln_str, ln_tup, ln_ref, ty_non, ty_bl, ty_int, ty_str, ty_tup, ty_ref, bf_len, bf_int, bf_intb, bf_tuple, bf_list, bf_str, sq_tup, sq_ref, wk_tup, wk_ref, to_str, to_tup, to_ref, me_app, in_non, in_bl, in_int, in_str, in_tup', in_ref', sl_tup, sl_str, sl_ref, tgA, tgsA, setSl, atI_0, atI_1, atI_2, atI_3, atI_4, List.lookup, isNonE, ptI, mulOk_r, mulOk_l, divOk_s, rngOf_1, rngOf_2, b2i, shp, pq_non_non, pq_non_bl, pq_non_int, pq_non_str, pq_non_tup, pq_bl_non, pq_bl_bl, pq_bl_int, pq_bl_str, pq_bl_tup, pq_int_non, pq_int_bl, pq_int_int, pq_int_str, pq_int_tup, pq_str_non, pq_str_bl, pq_str_int, pq_str_str, pq_str_tup, pq_tup_non, pq_tup_bl, pq_tup_int, pq_tup_str, pq_tup_tup, pqs_nn, pqs_cc, pqs_nc, pqs_cn, pur_non, pur_bl, pur_int, pur_str, pur_tup, pur_ref, pur_fn, pur_kd, purs_n, purs_c, dep_non, dep_bl, dep_int, dep_str, dep_tup, deps_n, deps_c, SZ, evE_non, evE_bl, evE_int, evE_str, evE_lv, evE_gv, evE_tup, evE_lst, evE_bop, evE_neg, evE_not, evE_cmp, evE_cmp2, evE_and, evE_or, evE_ix, evE_sl, evE_call, evE_blt, evE_calv, evE_isi, evE_bm, evE_dnew, evE_mk, evE_cm, evE_fld, evE_lc, evE_lcb, evS_asl, evS_sfl, evS_augf, evS_del, evS_lck, ix_dic', wk_str, me_ext, me_ins, me_pop, me_idx, me_dget, me_dpop, me_joinl, me_joint, tstF_ap, eltF_ap, op_rept, op_repl, F__law_same, sm, o, oa]
    | _ => simp [fin_rt, fin_nx, start, evSs, evS_asg, evS_six, evS_aug, evS_exp, evS_ret, evS_brk, evS_pas, evS_ife, evS_fr, evS_whl, bodyF_ap, testF_ap, tgF_ap, evEs, evAnd, evOr, evTs, evIs, tsE, op_addi, op_subi, op_muli, op_divi, op_modi, op_powi, op_adds, op_addt, op_addl, op_rep, cm_eq, cm_ne, cm_lt, cm_le, cm_gt, cm_ge, cm_is, cm_isn, cm_isb, cm_isnb, cm_in, cm_nin, in_kd, in_tup, in_chr, in_ref, tr_non, tr_bl, tr_int, tr_str, tr_tup, tr_ref, ix_tup, ix_str, ix_kd, ix_ref, ln_str, ln_tup, ln_ref, ty_non, ty_bl, ty_int, ty_str, ty_tup, ty_ref, bf_len, bf_int, bf_intb, bf_tuple, bf_list, bf_str, sq_tup, sq_ref, wk_tup, wk_ref, to_str, to_tup, to_ref, me_app, in_non, in_bl, in_int, in_str, in_tup', in_ref', sl_tup, sl_str, sl_ref, tgA, tgsA, setSl, atI_0, atI_1, atI_2, atI_3, atI_4, List.lookup, isNonE, ptI, mulOk_r, mulOk_l, divOk_s, rngOf_1, rngOf_2, b2i, shp, pq_non_non, pq_non_bl, pq_non_int, pq_non_str, pq_non_tup, pq_bl_non, pq_bl_bl, pq_bl_int, pq_bl_str, pq_bl_tup, pq_int_non, pq_int_bl, pq_int_int, pq_int_str, pq_int_tup, pq_str_non, pq_str_bl, pq_str_int, pq_str_str, pq_str_tup, pq_tup_non, pq_tup_bl, pq_tup_int, pq_tup_str, pq_tup_tup, pqs_nn, pqs_cc, pqs_nc, pqs_cn, pur_non, pur_bl, pur_int, pur_str, pur_tup, pur_ref, pur_fn, pur_kd, purs_n, purs_c, dep_non, dep_bl, dep_int, dep_str, dep_tup, deps_n, deps_c, SZ, evE_non, evE_bl, evE_int, evE_str, evE_lv, evE_gv, evE_tup, evE_lst, evE_bop, evE_neg, evE_not, evE_cmp, evE_cmp2, evE_and, evE_or, evE_ix, evE_sl, evE_call, evE_blt, evE_calv, evE_isi, evE_bm, evE_dnew, evE_mk, evE_cm, evE_fld, evE_lc, evE_lcb, evS_asl, evS_sfl, evS_augf, evS_del, evS_lck, ix_dic', wk_str, me_ext, me_ins, me_pop, me_idx, me_dget, me_dpop, me_joinl, me_joint, tstF_ap, eltF_ap, op_rept, op_repl, F__law_same, sm]
  | _ => cases o
theorem samg_ok (k : Nat) : ∀ (n : Nat) (a b : D) (h : LH), n ≤ 8 → okd 9 a = true → okd n a = true → okd n b = true → callN TT.pr (k+n+1) 6906700753637242597 [a, b] h = some (.bl (sm a b), h) := by
  intro n
  induction n with
  | zero => exact fun a b h _ oa _ o => samg0 k a b h oa o
  | succ n ih =>
    intro a b h hn oa oa' o
    cases b with
    | tup ys =>
      rw [callN_succ fn__law_same rfl]
      cases a with
      | tup xs =>
        have hl := okd_len o
        have hl2 := okd_len oa'
        refine (WP.mk (Q := fun r => r = (.bl (sm (.tup xs) (.tup ys)), h)) (E := fin _) fun R hR => ?_).elim fun r e => e.1.trans (congrArg some e.2)
        by_cases q : xs.length = ys.length
        · have q' : (xs.length : Int) = ys.length := by omega
          simp [fin_rt, fin_nx, start, evSs, evS_asg, evS_six, evS_aug, evS_exp, evS_ret, evS_brk, evS_pas, evS_ife, evS_fr, evS_whl, bodyF_ap, testF_ap, tgF_ap, evEs, evAnd, evOr, evTs, evIs, tsE, op_addi, op_subi, op_muli, op_divi, op_modi, op_powi, op_adds, op_addt, op_addl, op_rep, cm_eq, cm_ne, cm_lt, cm_le, cm_gt, cm_ge, cm_is, cm_isn, cm_isb, cm_isnb, cm_in, cm_nin, in_kd, in_tup, in_chr, in_ref, tr_non, tr_bl, tr_int, tr_str, tr_tup, tr_ref, ix_tup, ix_str, ix_kd, ix_ref, ln_str, ln_tup, ln_ref, ty_non, ty_bl, ty_int, ty_str, ty_tup, ty_ref, bf_len, bf_int, bf_intb, bf_tuple, bf_list, bf_str, sq_tup, sq_ref, wk_tup, wk_ref, to_str, to_tup, to_ref, me_app, in_non, in_bl, in_int, in_str, in_tup', in_ref', sl_tup, sl_str, sl_ref, tgA, tgsA, setSl, atI_0, atI_1, atI_2, atI_3, atI_4, List.lookup, isNonE, ptI, mulOk_r, mulOk_l, divOk_s, rngOf_1, rngOf_2, b2i, shp, pq_non_non, pq_non_bl, pq_non_int, pq_non_str, pq_non_tup, pq_bl_non, pq_bl_bl, pq_bl_int, pq_bl_str, pq_bl_tup, pq_int_non, pq_int_bl, pq_int_int, pq_int_str, pq_int_tup, pq_str_non, pq_str_bl, pq_str_int, pq_str_str, pq_str_tup, pq_tup_non, pq_tup_bl, pq_tup_int, pq_tup_str, pq_tup_tup, pqs_nn, pqs_cc, pqs_nc, pqs_cn, pur_non, pur_bl, pur_int, pur_str, pur_tup, pur_ref, pur_fn, pur_kd, purs_n, purs_c, dep_non, dep_bl, dep_int, dep_str, dep_tup, deps_n, deps_c, SZ, evE_non, evE_bl, evE_int, evE_str, evE_lv, evE_gv, evE_tup, evE_lst, evE_bop, evE_neg, evE_not, evE_cmp, evE_cmp2, evE_and, evE_or, evE_ix, evE_sl, evE_call, evE_blt, evE_calv, evE_isi, evE_bm, evE_dnew, evE_mk, evE_cm, evE_fld, evE_lc, evE_lcb, evS_asl, evS_sfl, evS_augf, evS_del, evS_lck, ix_dic', wk_str, me_ext, me_ins, me_pop, me_idx, me_dget, me_dpop, me_joinl, me_joint, tstF_ap, eltF_ap, op_rept, op_repl, F__law_same, hl, q']
          generalize hL : forL _ _ _ _ _ _ _ = L
          refine forL_go2 hL (fun i σ h' => ∃ a2, σ = [some (.tup xs), some (.tup ys), a2] ∧ h' = h ∧ sms xs ys = sms (xs.drop i) (ys.drop i))
            (fun fl σ h' => h' = h ∧ match fl with | .nx => sms xs ys = true | .rt d => d = .bl (sms xs ys) | .bk => False) ⟨_, rfl, rfl, rfl⟩ ?_ ?_ ?_
          · rintro i x σ h' hx ⟨a2, rfl, rfl, es⟩ Q hn' hb hr
            obtain ⟨rfl, hi⟩ := rng_at0 hx
            clear hx hL
            have hi2 : i < xs.length := by omega
            have e := List.getElem?_eq_getElem hi
            have e2 := List.getElem?_eq_getElem hi2
            have ih' := ih xs[i] ys[i] h' (by omega) (okd_mono (okd_get oa' e2) (by omega)) (okd_get oa' e2) (okd_get o e)
            rw [Nat.add_assoc] at ih'
            rw [drop_at e, drop_at e2, sms] at es
            have x1 : atI xs (i : Int) = some xs[i] := by rw [atI_of (by omega) (by omega)]; simpa using e2
            have x2 : atI ys (i : Int) = some ys[i] := by rw [atI_of (by omega) (by omega)]; simpa using e
            cases z : sm xs[i] ys[i] with
            | true =>
              rw [z] at ih' es
              simp [fin_rt, fin_nx, start, evSs, evS_asg, evS_six, evS_aug, evS_exp, evS_ret, evS_brk, evS_pas, evS_ife, evS_fr, evS_whl, bodyF_ap, testF_ap, tgF_ap, evEs, evAnd, evOr, evTs, evIs, tsE, op_addi, op_subi, op_muli, op_divi, op_modi, op_powi, op_adds, op_addt, op_addl, op_rep, cm_eq, cm_ne, cm_lt, cm_le, cm_gt, cm_ge, cm_is, cm_isn, cm_isb, cm_isnb, cm_in, cm_nin, in_kd, in_tup, in_chr, in_ref, tr_non, tr_bl, tr_int, tr_str, tr_tup, tr_ref, ix_tup, ix_str, ix_kd, ix_ref, ln_str, ln_tup, ln_ref, ty_non, ty_bl, ty_int, ty_str, ty_tup, ty_ref, bf_len, bf_int, bf_intb, bf_tuple, bf_list, bf_str, sq_tup, sq_ref, wk_tup, wk_ref, to_str, to_tup, to_ref, me_app, in_non, in_bl, in_int, in_str, in_tup', in_ref', sl_tup, sl_str, sl_ref, tgA, tgsA, setSl, atI_0, atI_1, atI_2, atI_3, atI_4, List.lookup, isNonE, ptI, mulOk_r, mulOk_l, divOk_s, rngOf_1, rngOf_2, b2i, shp, pq_non_non, pq_non_bl, pq_non_int, pq_non_str, pq_non_tup, pq_bl_non, pq_bl_bl, pq_bl_int, pq_bl_str, pq_bl_tup, pq_int_non, pq_int_bl, pq_int_int, pq_int_str, pq_int_tup, pq_str_non, pq_str_bl, pq_str_int, pq_str_str, pq_str_tup, pq_tup_non, pq_tup_bl, pq_tup_int, pq_tup_str, pq_tup_tup, pqs_nn, pqs_cc, pqs_nc, pqs_cn, pur_non, pur_bl, pur_int, pur_str, pur_tup, pur_ref, pur_fn, pur_kd, purs_n, purs_c, dep_non, dep_bl, dep_int, dep_str, dep_tup, deps_n, deps_c, SZ, evE_non, evE_bl, evE_int, evE_str, evE_lv, evE_gv, evE_tup, evE_lst, evE_bop, evE_neg, evE_not, evE_cmp, evE_cmp2, evE_and, evE_or, evE_ix, evE_sl, evE_call, evE_blt, evE_calv, evE_isi, evE_bm, evE_dnew, evE_mk, evE_cm, evE_fld, evE_lc, evE_lcb, evS_asl, evS_sfl, evS_augf, evS_del, evS_lck, ix_dic', wk_str, me_ext, me_ins, me_pop, me_idx, me_dget, me_dpop, me_joinl, me_joint, tstF_ap, eltF_ap, op_rept, op_repl, x1, x2, ih']
              simp only [Option.bind_some, wp_some]; exact (hn' _ _ trivial ⟨_, rfl, rfl, by simpa using es⟩)
            | false =>
              rw [z] at ih' es
              simp [fin_rt, fin_nx, start, evSs, evS_asg, evS_six, evS_aug, evS_exp, evS_ret, evS_brk, evS_pas, evS_ife, evS_fr, evS_whl, bodyF_ap, testF_ap, tgF_ap, evEs, evAnd, evOr, evTs, evIs, tsE, op_addi, op_subi, op_muli, op_divi, op_modi, op_powi, op_adds, op_addt, op_addl, op_rep, cm_eq, cm_ne, cm_lt, cm_le, cm_gt, cm_ge, cm_is, cm_isn, cm_isb, cm_isnb, cm_in, cm_nin, in_kd, in_tup, in_chr, in_ref, tr_non, tr_bl, tr_int, tr_str, tr_tup, tr_ref, ix_tup, ix_str, ix_kd, ix_ref, ln_str, ln_tup, ln_ref, ty_non, ty_bl, ty_int, ty_str, ty_tup, ty_ref, bf_len, bf_int, bf_intb, bf_tuple, bf_list, bf_str, sq_tup, sq_ref, wk_tup, wk_ref, to_str, to_tup, to_ref, me_app, in_non, in_bl, in_int, in_str, in_tup', in_ref', sl_tup, sl_str, sl_ref, tgA, tgsA, setSl, atI_0, atI_1, atI_2, atI_3, atI_4, List.lookup, isNonE, ptI, mulOk_r, mulOk_l, divOk_s, rngOf_1, rngOf_2, b2i, shp, pq_non_non, pq_non_bl, pq_non_int, pq_non_str, pq_non_tup, pq_bl_non, pq_bl_bl, pq_bl_int, pq_bl_str, pq_bl_tup, pq_int_non, pq_int_bl, pq_int_int, pq_int_str, pq_int_tup, pq_str_non, pq_str_bl, pq_str_int, pq_str_str, pq_str_tup, pq_tup_non, pq_tup_bl, pq_tup_int, pq_tup_str, pq_tup_tup, pqs_nn, pqs_cc, pqs_nc, pqs_cn, pur_non, pur_bl, pur_int, pur_str, pur_tup, pur_ref, pur_fn, pur_kd, purs_n, purs_c, dep_non, dep_bl, dep_int, dep_str, dep_tup, deps_n, deps_c, SZ, evE_non, evE_bl, evE_int, evE_str, evE_lv, evE_gv, evE_tup, evE_lst, evE_bop, evE_neg, evE_not, evE_cmp, evE_cmp2, evE_and, evE_or, evE_ix, evE_sl, evE_call, evE_blt, evE_calv, evE_isi, evE_bm, evE_dnew, evE_mk, evE_cm, evE_fld, evE_lc, evE_lcb, evS_asl, evS_sfl, evS_augf, evS_del, evS_lck, ix_dic', wk_str, me_ext, me_ins, me_pop, me_idx, me_dget, me_dpop, me_joinl, me_joint, tstF_ap, eltF_ap, op_rept, op_repl, x1, x2, ih']
              simp only [Option.bind_some, wp_some]; exact (hr _ _ _ ⟨rfl, by simp [es]⟩)
          · rintro σ h' ⟨a2, rfl, rfl, es⟩
            refine ⟨rfl, ?_⟩
            show sms xs ys = true
            have z1 : xs.drop ys.length = [] := List.drop_eq_nil_of_le (by omega)
            simp [z1] at es
            rw [es]
            rfl
          · rintro fl σ h' rfl ⟨rfl, p⟩
            cases fl with
            | nx =>
              simp [fin_rt, fin_nx, start, evSs, evS_asg, evS_six, evS_aug, evS_exp, evS_ret, evS_brk, evS_pas, evS_ife, evS_fr, evS_whl, bodyF_ap, testF_ap, tgF_ap, evEs, evAnd, evOr, evTs, evIs, tsE, op_addi, op_subi, op_muli, op_divi, op_modi, op_powi, op_adds, op_addt, op_addl, op_rep, cm_eq, cm_ne, cm_lt, cm_le, cm_gt, cm_ge, cm_is, cm_isn, cm_isb, cm_isnb, cm_in, cm_nin, in_kd, in_tup, in_chr, in_ref, tr_non, tr_bl, tr_int, tr_str, tr_tup, tr_ref, ix_tup, ix_str, ix_kd, ix_ref, ln_str, ln_tup, ln_ref, ty_non, ty_bl, ty_int, ty_str, ty_tup, ty_ref, bf_len, bf_int, bf_intb, bf_tuple, bf_list, bf_str, sq_tup, sq_ref, wk_tup, wk_ref, to_str, to_tup, to_ref, me_app, in_non, in_bl, in_int, in_str, in_tup', in_ref', sl_tup, sl_str, sl_ref, tgA, tgsA, setSl, atI_0, atI_1, atI_2, atI_3, atI_4, List.lookup, isNonE, ptI, mulOk_r, mulOk_l, divOk_s, rngOf_1, rngOf_2, b2i, shp, pq_non_non, pq_non_bl, pq_non_int, pq_non_str, pq_non_tup, pq_bl_non, pq_bl_bl, pq_bl_int, pq_bl_str, pq_bl_tup, pq_int_non, pq_int_bl, pq_int_int, pq_int_str, pq_int_tup, pq_str_non, pq_str_bl, pq_str_int, pq_str_str, pq_str_tup, pq_tup_non, pq_tup_bl, pq_tup_int, pq_tup_str, pq_tup_tup, pqs_nn, pqs_cc, pqs_nc, pqs_cn, pur_non, pur_bl, pur_int, pur_str, pur_tup, pur_ref, pur_fn, pur_kd, purs_n, purs_c, dep_non, dep_bl, dep_int, dep_str, dep_tup, deps_n, deps_c, SZ, evE_non, evE_bl, evE_int, evE_str, evE_lv, evE_gv, evE_tup, evE_lst, evE_bop, evE_neg, evE_not, evE_cmp, evE_cmp2, evE_and, evE_or, evE_ix, evE_sl, evE_call, evE_blt, evE_calv, evE_isi, evE_bm, evE_dnew, evE_mk, evE_cm, evE_fld, evE_lc, evE_lcb, evS_asl, evS_sfl, evS_augf, evS_del, evS_lck, ix_dic', wk_str, me_ext, me_ins, me_pop, me_idx, me_dget, me_dpop, me_joinl, me_joint, tstF_ap, eltF_ap, op_rept, op_repl]
              simp only [Option.bind_some, wp_some]; exact hR _ (by rw [sm, p])
            | bk => exact p.elim
            | rt d =>
              simp [fin_rt, fin_nx, start, evSs, evS_asg, evS_six, evS_aug, evS_exp, evS_ret, evS_brk, evS_pas, evS_ife, evS_fr, evS_whl, bodyF_ap, testF_ap, tgF_ap, evEs, evAnd, evOr, evTs, evIs, tsE, op_addi, op_subi, op_muli, op_divi, op_modi, op_powi, op_adds, op_addt, op_addl, op_rep, cm_eq, cm_ne, cm_lt, cm_le, cm_gt, cm_ge, cm_is, cm_isn, cm_isb, cm_isnb, cm_in, cm_nin, in_kd, in_tup, in_chr, in_ref, tr_non, tr_bl, tr_int, tr_str, tr_tup, tr_ref, ix_tup, ix_str, ix_kd, ix_ref, ln_str, ln_tup, ln_ref, ty_non, ty_bl, ty_int, ty_str, ty_tup, ty_ref, bf_len, bf_int, bf_intb, bf_tuple, bf_list, bf_str, sq_tup, sq_ref, wk_tup, wk_ref, to_str, to_tup, to_ref, me_app, in_non, in_bl, in_int, in_str, in_tup', in_ref', sl_tup, sl_str, sl_ref, tgA, tgsA, setSl, atI_0, atI_1, atI_2, atI_3, atI_4, List.lookup, isNonE, ptI, mulOk_r, mulOk_l, divOk_s, rngOf_1, rngOf_2, b2i, shp, pq_non_non, pq_non_bl, pq_non_int, pq_non_str, pq_non_tup, pq_bl_non, pq_bl_bl, pq_bl_int, pq_bl_str, pq_bl_tup, pq_int_non, pq_int_bl, pq_int_int, pq_int_str, pq_int_tup, pq_str_non, pq_str_bl, pq_str_int, pq_str_str, pq_str_tup, pq_tup_non, pq_tup_bl, pq_tup_int, pq_tup_str, pq_tup_tup, pqs_nn, pqs_cc, pqs_nc, pqs_cn, pur_non, pur_bl, pur_int, pur_str, pur_tup, pur_ref, pur_fn, pur_kd, purs_n, purs_c, dep_non, dep_bl, dep_int, dep_str, dep_tup, deps_n, deps_c, SZ, evE_non, evE_bl, evE_int, evE_str, evE_lv, evE_gv, evE_tup, evE_lst, evE_bop, evE_neg, evE_not, evE_cmp, evE_cmp2, evE_and, evE_or, evE_ix, evE_sl, evE_call, evE_blt, evE_calv, evE_isi, evE_bm, evE_dnew, evE_mk, evE_cm, evE_fld, evE_lc, evE_lcb, evS_asl, evS_sfl, evS_augf, evS_del, evS_lck, ix_dic', wk_str, me_ext, me_ins, me_pop, me_idx, me_dget, me_dpop, me_joinl, me_joint, tstF_ap, eltF_ap, op_rept, op_repl]
              simp only [Option.bind_some, wp_some]; exact hR _ (by rw [sm, p])
        · have q' : ¬ (xs.length : Int) = ys.length := by omega
          simp [fin_rt, fin_nx, start, evSs, evS_asg, evS_six, evS_aug, evS_exp, evS_ret, evS_brk, evS_pas, evS_ife, evS_fr, evS_whl, bodyF_ap, testF_ap, tgF_ap, evEs, evAnd, evOr, evTs, evIs, tsE, op_addi, op_subi, op_muli, op_divi, op_modi, op_powi, op_adds, op_addt, op_addl, op_rep, cm_eq, cm_ne, cm_lt, cm_le, cm_gt, cm_ge, cm_is, cm_isn, cm_isb, cm_isnb, cm_in, cm_nin, in_kd, in_tup, in_chr, in_ref, tr_non, tr_bl, tr_int, tr_str, tr_tup, tr_ref, ix_tup, ix_str, ix_kd, ix_ref, ln_str, ln_tup, ln_ref, ty_non, ty_bl, ty_int, ty_str, ty_tup, ty_ref, bf_len, bf_int, bf_intb, bf_tuple, bf_list, bf_str, sq_tup, sq_ref, wk_tup, wk_ref, to_str, to_tup, to_ref, me_app, in_non, in_bl, in_int, in_str, in_tup', in_ref', sl_tup, sl_str, sl_ref, tgA, tgsA, setSl, atI_0, atI_1, atI_2, atI_3, atI_4, List.lookup, isNonE, ptI, mulOk_r, mulOk_l, divOk_s, rngOf_1, rngOf_2, b2i, shp, pq_non_non, pq_non_bl, pq_non_int, pq_non_str, pq_non_tup, pq_bl_non, pq_bl_bl, pq_bl_int, pq_bl_str, pq_bl_tup, pq_int_non, pq_int_bl, pq_int_int, pq_int_str, pq_int_tup, pq_str_non, pq_str_bl, pq_str_int, pq_str_str, pq_str_tup, pq_tup_non, pq_tup_bl, pq_tup_int, pq_tup_str, pq_tup_tup, pqs_nn, pqs_cc, pqs_nc, pqs_cn, pur_non, pur_bl, pur_int, pur_str, pur_tup, pur_ref, pur_fn, pur_kd, purs_n, purs_c, dep_non, dep_bl, dep_int, dep_str, dep_tup, deps_n, deps_c, SZ, evE_non, evE_bl, evE_int, evE_str, evE_lv, evE_gv, evE_tup, evE_lst, evE_bop, evE_neg, evE_not, evE_cmp, evE_cmp2, evE_and, evE_or, evE_ix, evE_sl, evE_call, evE_blt, evE_calv, evE_isi, evE_bm, evE_dnew, evE_mk, evE_cm, evE_fld, evE_lc, evE_lcb, evS_asl, evS_sfl, evS_augf, evS_del, evS_lck, ix_dic', wk_str, me_ext, me_ins, me_pop, me_idx, me_dget, me_dpop, me_joinl, me_joint, tstF_ap, eltF_ap, op_rept, op_repl, F__law_same, hl, q']
          simp only [Option.bind_some, wp_some]; exact hR _ (by rw [sm, sms_len xs ys q])
      | ref x => cases oa
      | fn x => cases oa
      | kd x => cases oa
      | _ => simp [fin_rt, fin_nx, start, evSs, evS_asg, evS_six, evS_aug, evS_exp, evS_ret, evS_brk, evS_pas, evS_ife, evS_fr, evS_whl, bodyF_ap, testF_ap, tgF_ap, evEs, evAnd, evOr, evTs, evIs, tsE, op_addi, op_subi, op_muli, op_divi, op_modi, op_powi, op_adds, op_addt, op_addl, op_rep, cm_eq, cm_ne, cm_lt, cm_le, cm_gt, cm_ge, cm_is, cm_isn, cm_isb, cm_isnb, cm_in, cm_nin, in_kd, in_tup, in_chr, in_ref, tr_non, tr_bl, tr_int, tr_str, tr_tup, tr_ref, ix_tup, ix_str, ix_kd, ix_ref, ln_str, ln_tup, ln_ref, ty_non, ty_bl, ty_int, ty_str, ty_tup, ty_ref, bf_len, bf_int, bf_intb, bf_tuple, bf_list, bf_str, sq_tup, sq_ref, wk_tup, wk_ref, to_str, to_tup, to_ref, me_app, in_non, in_bl, in_int, in_str, in_tup', in_ref', sl_tup, sl_str, sl_ref, tgA, tgsA, setSl, atI_0, atI_1, atI_2, atI_3, atI_4, List.lookup, isNonE, ptI, mulOk_r, mulOk_l, divOk_s, rngOf_1, rngOf_2, b2i, shp, pq_non_non, pq_non_bl, pq_non_int, pq_non_str, pq_non_tup, pq_bl_non, pq_bl_bl, pq_bl_int, pq_bl_str, pq_bl_tup, pq_int_non, pq_int_bl, pq_int_int, pq_int_str, pq_int_tup, pq_str_non, pq_str_bl, pq_str_int, pq_str_str, pq_str_tup, pq_tup_non, pq_tup_bl, pq_tup_int, pq_tup_str, pq_tup_tup, pqs_nn, pqs_cc, pqs_nc, pqs_cn, pur_non, pur_bl, pur_int, pur_str, pur_tup, pur_ref, pur_fn, pur_kd, purs_n, purs_c, dep_non, dep_bl, dep_int, dep_str, dep_tup, deps_n, deps_c, SZ, evE_non, evE_bl, evE_int, evE_str, evE_lv, evE_gv, evE_tup, evE_lst, evE_bop, evE_neg, evE_not, evE_cmp, evE_cmp2, evE_and, evE_or, evE_ix, evE_sl, evE_call, evE_blt, evE_calv, evE_isi, evE_bm, evE_dnew, evE_mk, evE_cm, evE_fld, evE_lc, evE_lcb, evS_asl, evS_sfl, evS_augf, evS_del, evS_lck, ix_dic', wk_str, me_ext, me_ins, me_pop, me_idx, me_dget, me_dpop, me_joinl, me_joint, tstF_ap, eltF_ap, op_rept, op_repl, F__law_same, sm]
    | _ => exact samg0 (k+n+1) a _ h oa (by simpa [okd] using o)
theorem samg (k n : Nat) (hn : n ≤ 8) (hk : n < k) (a b : D) (h : LH) (oa : okd n a = true) (o : okd n b = true) : callN TT.pr k 6906700753637242597 [a, b] h = some (.bl (sm a b), h) := by
  obtain ⟨j, rfl⟩ : ∃ j, k = j + n + 1 := ⟨k - n - 1, by omega⟩
  exact samg_ok j n a b h hn (okd_mono oa (by omega)) oa o
mutual
theorem sm_comm : ∀ a b : D, sm a b = sm b a
  | .tup xs, .tup ys => by simp only [sm]; exact sms_comm xs ys
  | .non, .non => rfl
  | .bl a, .bl b => by simp only [sm]; exact Bool.beq_comm
  | .int a, .int b => by simp only [sm]; exact Bool.beq_comm
  | .str a, .str b => by simp only [sm]; exact Bool.beq_comm
  | .non, .bl _ | .non, .int _ | .non, .str _ | .non, .tup _ | .non, .ref _ | .non, .fn _ | .non, .kd _ => rfl
  | .bl _, .non | .bl _, .int _ | .bl _, .str _ | .bl _, .tup _ | .bl _, .ref _ | .bl _, .fn _ | .bl _, .kd _ => rfl
  | .int _, .non | .int _, .bl _ | .int _, .str _ | .int _, .tup _ | .int _, .ref _ | .int _, .fn _ | .int _, .kd _ => rfl
  | .str _, .non | .str _, .bl _ | .str _, .int _ | .str _, .tup _ | .str _, .ref _ | .str _, .fn _ | .str _, .kd _ => rfl
  | .tup _, .non | .tup _, .bl _ | .tup _, .int _ | .tup _, .str _ | .tup _, .ref _ | .tup _, .fn _ | .tup _, .kd _ => rfl
  | .ref _, .non | .ref _, .bl _ | .ref _, .int _ | .ref _, .str _ | .ref _, .tup _ | .ref _, .ref _ | .ref _, .fn _ | .ref _, .kd _ => rfl
  | .fn _, .non | .fn _, .bl _ | .fn _, .int _ | .fn _, .str _ | .fn _, .tup _ | .fn _, .ref _ | .fn _, .fn _ | .fn _, .kd _ => rfl
  | .kd _, .non | .kd _, .bl _ | .kd _, .int _ | .kd _, .str _ | .kd _, .tup _ | .kd _, .ref _ | .kd _, .fn _ | .kd _, .kd _ => rfl
theorem sms_comm : ∀ xs ys : List D, sms xs ys = sms ys xs
  | [], [] => rfl
  | [], _ :: _ => rfl
  | _ :: _, [] => rfl
  | x :: xs, y :: ys => by simp only [sms]; rw [sm_comm x y, sms_comm xs ys]
end
theorem Vl.shp {v : D} (V : Vl v) : pur v = true ∧ dep v ≤ 60 := by
  cases V with
  | text s l g =>
    unfold sgn at g
    simp [pur, purs, dep, deps]
    simpa using g
  | obj ts n l =>
    have a : purs (ts.map D.int) = true := by clear l; induction ts with | nil => rfl | cons t ts ih => simp [purs, pur, ih]
    have b : deps (ts.map D.int) = 0 := by clear l a; induction ts with | nil => rfl | cons t ts ih => simp [deps, dep, ih]
    simp [pur, purs, dep, deps, a, b]
  | _ => exact ⟨rfl, by simp [dep, deps]⟩
theorem sms_ints : ∀ (xs ys : List Int), sms (xs.map D.int) (ys.map D.int) = pyeqs (xs.map D.int) (ys.map D.int)
  | [], [] => rfl
  | [], _ :: _ => rfl
  | _ :: _, [] => rfl
  | x :: xs, y :: ys => by
    simp only [List.map_cons, sms, pyeqs, sms_ints xs ys]
    rfl
theorem sm_pyeq {v w : D} (V : Vl v) (W : Vl w) : sm v w = pyeq v w := by
  cases V <;> cases W <;> first | rfl | (simp only [sm, sms, pyeq, pyeqs, sms_ints]) | skip
theorem setD_len (h : LH) (a : Nat) (M : List (D × D)) : (setDic h a M).length = h.length := by simp [setDic]
theorem setD_same {h : LH} {a : Nat} {M : List (D × D)} (ha : a < h.length) : (setDic h a M)[a]? = some (.dic M) := by simp [setDic, ha]
theorem setD_ne {h : LH} {a b : Nat} {M : List (D × D)} (hb : b ≠ a) : (setDic h a M)[b]? = h[b]? := by simp [setDic, List.getElem?_set_ne (Ne.symm hb)]
theorem setD_id {h : LH} {a : Nat} {M : List (D × D)} (e : h[a]? = some (.dic M)) : setDic h a M = h := by
  apply List.ext_getElem?
  intro i
  by_cases q : i = a
  · subst q; rw [setD_same (lt_of_get e), e]
  · rw [setD_ne q]
theorem setD_setD (h : LH) (a : Nat) (M N : List (D × D)) : setDic (setDic h a M) a N = setDic h a N := by simp [setDic]
theorem setD_lk {h : LH} {a : Nat} {M N : List (D × D)} : setDic (h.set a (.dlk M)) a N = setDic h a N := by simp [setDic]
theorem bx_setD {h : LH} {b d : Nat} (B : Bx h b d) (a : Nat) (hb : a ≠ b) (hd : a ≠ d) (M : List (D × D)) : Bx (setDic h a M) b d := by
  obtain ⟨ds, t, e1, e2, n, r⟩ := B
  exact ⟨ds, t, by rw [setD_ne (Ne.symm hb), e1], by rw [setD_ne (Ne.symm hd), e2], n, r⟩
theorem Vl.noNone {v : D} (V : Vl v) : (v = .tup [.str [110,111,110,101]] ∧ isNo v = true) ∨ ∃ kd q, v = .tup (.str kd :: q) ∧ kd ≠ [110,111,110,101] ∧ (kd.all fun c => decide (c < 1114112)) = true ∧ isNo v = false := by
  cases V with
  | non => exact .inl ⟨rfl, rfl⟩
  | _ => exact .inr ⟨_, _, rfl, by decide, by decide, rfl⟩
theorem take_put {M : List (D × D)} (g : Gd M) {i : Nat} {p : D × D} (hp : M[i]? = some p) : dPut (M.take i) p.1 p.2 = M.take (i + 1) := by
  have kp := g.2 p (List.mem_of_getElem? hp)
  have gt : Gd (M.take i) := ⟨g.1.sublist (List.Sublist.map _ (List.take_sublist i M)), fun q hq => g.2 q (List.mem_of_mem_take hq)⟩
  have hi := (List.getElem?_eq_some_iff.mp hp).1
  have nin : ¬ ((M.take i).any fun q => pyeq q.1 p.1) = true := by
    rw [has_key gt kp]
    intro hm
    have nd := g.1
    rw [← List.take_append_drop i M, List.map_append, List.nodup_append] at nd
    have hd : M.drop i = p :: M.drop (i + 1) := drop_at hp
    exact nd.2.2 p.1 hm p.1 (by rw [hd]; simp) rfl
  unfold dPut
  rw [if_neg nin, List.take_add_one, hp]
  rfl
theorem keepA {h h' : LH} {a b : Nat} {o : LO} (X : Ext b h h') (ne : a ≠ b) (e : h[a]? = some o) : h'[a]? = some o := by
  rw [X.2 a (lt_of_get e) ne]; exact e
theorem Vl.isInt {v : D} (V : Vl v) : (∃ n : Int, v = .tup [.str [105,110,116], .int n] ∧ n.natAbs < 10 ^ 60) ∨ ∃ kd q, v = .tup (.str kd :: q) ∧ kd ≠ [105,110,116] ∧ (kd.all fun c => decide (c < 1114112)) = true := by
  cases V with
  | int n l => exact .inl ⟨n, rfl, l⟩
  | _ => exact .inr ⟨_, _, rfl, by decide, by decide⟩
theorem lk_same {h : LH} {c : Nat} {o : LO} (hc : c < h.length) : (h.set c o)[c]? = some o := by simp [hc]
theorem lk_ne {h : LH} {a c : Nat} {o : LO} (q : a ≠ c) : (h.set c o)[a]? = h[a]? := List.getElem?_set_ne (Ne.symm q)
theorem same_mem (k : Nat) (hk : 4 ≤ k) (h : LH) (a c : Nat) (ac : a ≠ c) (M : List (D × D)) (ha : h[a]? = some (.dic M)) (hc : h[c]? = some (.dic M)) (g : Gd M) (ok : ∀ p ∈ M, okd 2 p.2 = true) (lm : M.length ≤ 1000) : callN TT.pr k 3888126867555026207368748866468217 [.ref a, .ref c] h = some (.bl true, h) := by
  refine (WP.mk (Q := fun r => r = (.bl true, h)) (E := callN TT.pr k 3888126867555026207368748866468217 [.ref a, .ref c] h) fun R hR => ?_).elim fun r e => e.1.trans (congrArg some e.2)
  obtain ⟨k', hk'⟩ : ∃ k', k = k' + 1 := ⟨k - 1, by omega⟩
  subst hk'
  rw [callN_succ fn__law_same_memory rfl]
  have lc := lt_of_get hc
  have e1 : ∃ h1, h1 = h.set c (.dlk M) := ⟨_, rfl⟩
  obtain ⟨h1, e1⟩ := e1
  have a1 : h1[a]? = some (.dic M) := by rw [e1, lk_ne ac, ha]
  have c1 : h1[c]? = some (.dlk M) := by rw [e1, lk_same lc]
  simp [fin_rt, fin_nx, start, evSs, evS_asg, evS_six, evS_aug, evS_exp, evS_ret, evS_brk, evS_pas, evS_ife, evS_fr, evS_whl, bodyF_ap, testF_ap, tgF_ap, evEs, evAnd, evOr, evTs, evIs, tsE, op_addi, op_subi, op_muli, op_divi, op_modi, op_powi, op_adds, op_addt, op_addl, op_rep, cm_eq, cm_ne, cm_lt, cm_le, cm_gt, cm_ge, cm_is, cm_isn, cm_isb, cm_isnb, cm_in, cm_nin, in_kd, in_tup, in_chr, in_ref, tr_non, tr_bl, tr_int, tr_str, tr_tup, tr_ref, ix_tup, ix_str, ix_kd, ix_ref, ln_str, ln_tup, ln_ref, ty_non, ty_bl, ty_int, ty_str, ty_tup, ty_ref, bf_len, bf_int, bf_intb, bf_tuple, bf_list, bf_str, sq_tup, sq_ref, wk_tup, wk_ref, to_str, to_tup, to_ref, me_app, in_non, in_bl, in_int, in_str, in_tup', in_ref', sl_tup, sl_str, sl_ref, tgA, tgsA, setSl, atI_0, atI_1, atI_2, atI_3, atI_4, List.lookup, isNonE, ptI, mulOk_r, mulOk_l, divOk_s, rngOf_1, rngOf_2, b2i, shp, pq_non_non, pq_non_bl, pq_non_int, pq_non_str, pq_non_tup, pq_bl_non, pq_bl_bl, pq_bl_int, pq_bl_str, pq_bl_tup, pq_int_non, pq_int_bl, pq_int_int, pq_int_str, pq_int_tup, pq_str_non, pq_str_bl, pq_str_int, pq_str_str, pq_str_tup, pq_tup_non, pq_tup_bl, pq_tup_int, pq_tup_str, pq_tup_tup, pqs_nn, pqs_cc, pqs_nc, pqs_cn, pur_non, pur_bl, pur_int, pur_str, pur_tup, pur_ref, pur_fn, pur_kd, purs_n, purs_c, dep_non, dep_bl, dep_int, dep_str, dep_tup, deps_n, deps_c, SZ, evE_non, evE_bl, evE_int, evE_str, evE_lv, evE_gv, evE_tup, evE_lst, evE_bop, evE_neg, evE_not, evE_cmp, evE_cmp2, evE_and, evE_or, evE_ix, evE_sl, evE_call, evE_blt, evE_calv, evE_isi, evE_bm, evE_dnew, evE_mk, evE_cm, evE_fld, evE_lc, evE_lcb, evS_asl, evS_sfl, evS_augf, evS_del, evS_lck, ix_dic', wk_str, me_ext, me_ins, me_pop, me_idx, me_dget, me_dpop, me_joinl, me_joint, tstF_ap, eltF_ap, op_rept, op_repl, F__law_same_memory, ha, hc, ← e1, c1]
  generalize hL : forL _ _ _ _ _ _ _ = L
  refine forL_go hL (fun i σ h' => ∃ (a2 : Option D), σ = [some (.ref a), some (.ref c), a2] ∧ h' = h1) ⟨_, rfl, rfl⟩ ?_ ?_
  · rintro i x σ h' hx ⟨a2, rfl, rfl⟩ Q hQ
    clear hL hR
    rw [List.getElem?_map] at hx
    cases hg : M[i]? with
    | none => rw [hg] at hx; cases hx
    | some p =>
      rw [hg] at hx
      cases hx
      have hm := List.mem_of_getElem? hg
      have kp := g.2 p hm
      have lk : dLook M p.1 = some p.2 := (look_some g kp).mpr hm
      have sm := same k' 2 (by omega) p.2 h' (ok p hm)
      obtain ⟨ks, hks⟩ : ∃ ks, p.1 = .tup ks := by
        cases q : p.1 with
        | tup ks => exact ⟨ks, rfl⟩
        | _ => rw [q] at kp; cases kp
      rw [hks] at kp lk
      simp [fin_rt, fin_nx, start, evSs, evS_asg, evS_six, evS_aug, evS_exp, evS_ret, evS_brk, evS_pas, evS_ife, evS_fr, evS_whl, bodyF_ap, testF_ap, tgF_ap, evEs, evAnd, evOr, evTs, evIs, tsE, op_addi, op_subi, op_muli, op_divi, op_modi, op_powi, op_adds, op_addt, op_addl, op_rep, cm_eq, cm_ne, cm_lt, cm_le, cm_gt, cm_ge, cm_is, cm_isn, cm_isb, cm_isnb, cm_in, cm_nin, in_kd, in_tup, in_chr, in_ref, tr_non, tr_bl, tr_int, tr_str, tr_tup, tr_ref, ix_tup, ix_str, ix_kd, ix_ref, ln_str, ln_tup, ln_ref, ty_non, ty_bl, ty_int, ty_str, ty_tup, ty_ref, bf_len, bf_int, bf_intb, bf_tuple, bf_list, bf_str, sq_tup, sq_ref, wk_tup, wk_ref, to_str, to_tup, to_ref, me_app, in_non, in_bl, in_int, in_str, in_tup', in_ref', sl_tup, sl_str, sl_ref, tgA, tgsA, setSl, atI_0, atI_1, atI_2, atI_3, atI_4, List.lookup, isNonE, ptI, mulOk_r, mulOk_l, divOk_s, rngOf_1, rngOf_2, b2i, shp, pq_non_non, pq_non_bl, pq_non_int, pq_non_str, pq_non_tup, pq_bl_non, pq_bl_bl, pq_bl_int, pq_bl_str, pq_bl_tup, pq_int_non, pq_int_bl, pq_int_int, pq_int_str, pq_int_tup, pq_str_non, pq_str_bl, pq_str_int, pq_str_str, pq_str_tup, pq_tup_non, pq_tup_bl, pq_tup_int, pq_tup_str, pq_tup_tup, pqs_nn, pqs_cc, pqs_nc, pqs_cn, pur_non, pur_bl, pur_int, pur_str, pur_tup, pur_ref, pur_fn, pur_kd, purs_n, purs_c, dep_non, dep_bl, dep_int, dep_str, dep_tup, deps_n, deps_c, SZ, evE_non, evE_bl, evE_int, evE_str, evE_lv, evE_gv, evE_tup, evE_lst, evE_bop, evE_neg, evE_not, evE_cmp, evE_cmp2, evE_and, evE_or, evE_ix, evE_sl, evE_call, evE_blt, evE_calv, evE_isi, evE_bm, evE_dnew, evE_mk, evE_cm, evE_fld, evE_lc, evE_lcb, evS_asl, evS_sfl, evS_augf, evS_del, evS_lck, ix_dic', wk_str, me_ext, me_ins, me_pop, me_idx, me_dget, me_dpop, me_joinl, me_joint, tstF_ap, eltF_ap, op_rept, op_repl, hks, a1, c1, kp, lk, sm]
      simp only [Option.bind_some, wp_some]; exact hQ _ _ trivial ⟨_, rfl, rfl⟩
  · rintro σ' h' rfl ⟨a2, rfl, rfl⟩
    clear hL
    have back : setDic h' c M = h := by rw [e1, setD_lk, setD_id hc]
    simp [fin_rt, fin_nx, start, evSs, evS_asg, evS_six, evS_aug, evS_exp, evS_ret, evS_brk, evS_pas, evS_ife, evS_fr, evS_whl, bodyF_ap, testF_ap, tgF_ap, evEs, evAnd, evOr, evTs, evIs, tsE, op_addi, op_subi, op_muli, op_divi, op_modi, op_powi, op_adds, op_addt, op_addl, op_rep, cm_eq, cm_ne, cm_lt, cm_le, cm_gt, cm_ge, cm_is, cm_isn, cm_isb, cm_isnb, cm_in, cm_nin, in_kd, in_tup, in_chr, in_ref, tr_non, tr_bl, tr_int, tr_str, tr_tup, tr_ref, ix_tup, ix_str, ix_kd, ix_ref, ln_str, ln_tup, ln_ref, ty_non, ty_bl, ty_int, ty_str, ty_tup, ty_ref, bf_len, bf_int, bf_intb, bf_tuple, bf_list, bf_str, sq_tup, sq_ref, wk_tup, wk_ref, to_str, to_tup, to_ref, me_app, in_non, in_bl, in_int, in_str, in_tup', in_ref', sl_tup, sl_str, sl_ref, tgA, tgsA, setSl, atI_0, atI_1, atI_2, atI_3, atI_4, List.lookup, isNonE, ptI, mulOk_r, mulOk_l, divOk_s, rngOf_1, rngOf_2, b2i, shp, pq_non_non, pq_non_bl, pq_non_int, pq_non_str, pq_non_tup, pq_bl_non, pq_bl_bl, pq_bl_int, pq_bl_str, pq_bl_tup, pq_int_non, pq_int_bl, pq_int_int, pq_int_str, pq_int_tup, pq_str_non, pq_str_bl, pq_str_int, pq_str_str, pq_str_tup, pq_tup_non, pq_tup_bl, pq_tup_int, pq_tup_str, pq_tup_tup, pqs_nn, pqs_cc, pqs_nc, pqs_cn, pur_non, pur_bl, pur_int, pur_str, pur_tup, pur_ref, pur_fn, pur_kd, purs_n, purs_c, dep_non, dep_bl, dep_int, dep_str, dep_tup, deps_n, deps_c, SZ, evE_non, evE_bl, evE_int, evE_str, evE_lv, evE_gv, evE_tup, evE_lst, evE_bop, evE_neg, evE_not, evE_cmp, evE_cmp2, evE_and, evE_or, evE_ix, evE_sl, evE_call, evE_blt, evE_calv, evE_isi, evE_bm, evE_dnew, evE_mk, evE_cm, evE_fld, evE_lc, evE_lcb, evS_asl, evS_sfl, evS_augf, evS_del, evS_lck, ix_dic', wk_str, me_ext, me_ins, me_pop, me_idx, me_dget, me_dpop, me_joinl, me_joint, tstF_ap, eltF_ap, op_rept, op_repl, c1, back]
    simp only [Option.bind_some, wp_some]; exact hR _ rfl
theorem place_ok (k : Nat) (hk : 2 ≤ k) (h : LH) (b d : Nat) (B : Bx h b d) : ∃ p h', callN TT.pr k 884057696464784617957 [.ref b] h = some (p, h') ∧ keyOk p = true ∧ shp p = true ∧ Bx h' b d ∧ Ext b h h' := by
  suffices H : WP (fun r => keyOk r.1 = true ∧ shp r.1 = true ∧ Bx r.2 b d ∧ Ext b h r.2) (callN TT.pr k 884057696464784617957 [.ref b] h) by
    obtain ⟨⟨p, h'⟩, e, q⟩ := H
    exact ⟨p, h', e, q⟩
  refine WP.mk fun R hR => ?_
  obtain ⟨k', hk'⟩ : ∃ k', k = k' + 1 := ⟨k - 1, by omega⟩
  subst hk'
  rw [callN_succ fn__law_place rfl]
  obtain ⟨u, h2, e2, u0, u1, B2, X2⟩ := draw k' (by omega) h b d 3 (by decide) B
  simp [fin_rt, fin_nx, start, evSs, evS_asg, evS_six, evS_aug, evS_exp, evS_ret, evS_brk, evS_pas, evS_ife, evS_fr, evS_whl, bodyF_ap, testF_ap, tgF_ap, evEs, evAnd, evOr, evTs, evIs, tsE, op_addi, op_subi, op_muli, op_divi, op_modi, op_powi, op_adds, op_addt, op_addl, op_rep, cm_eq, cm_ne, cm_lt, cm_le, cm_gt, cm_ge, cm_is, cm_isn, cm_isb, cm_isnb, cm_in, cm_nin, in_kd, in_tup, in_chr, in_ref, tr_non, tr_bl, tr_int, tr_str, tr_tup, tr_ref, ix_tup, ix_str, ix_kd, ix_ref, ln_str, ln_tup, ln_ref, ty_non, ty_bl, ty_int, ty_str, ty_tup, ty_ref, bf_len, bf_int, bf_intb, bf_tuple, bf_list, bf_str, sq_tup, sq_ref, wk_tup, wk_ref, to_str, to_tup, to_ref, me_app, in_non, in_bl, in_int, in_str, in_tup', in_ref', sl_tup, sl_str, sl_ref, tgA, tgsA, setSl, atI_0, atI_1, atI_2, atI_3, atI_4, List.lookup, isNonE, ptI, mulOk_r, mulOk_l, divOk_s, rngOf_1, rngOf_2, b2i, shp, pq_non_non, pq_non_bl, pq_non_int, pq_non_str, pq_non_tup, pq_bl_non, pq_bl_bl, pq_bl_int, pq_bl_str, pq_bl_tup, pq_int_non, pq_int_bl, pq_int_int, pq_int_str, pq_int_tup, pq_str_non, pq_str_bl, pq_str_int, pq_str_str, pq_str_tup, pq_tup_non, pq_tup_bl, pq_tup_int, pq_tup_str, pq_tup_tup, pqs_nn, pqs_cc, pqs_nc, pqs_cn, pur_non, pur_bl, pur_int, pur_str, pur_tup, pur_ref, pur_fn, pur_kd, purs_n, purs_c, dep_non, dep_bl, dep_int, dep_str, dep_tup, deps_n, deps_c, SZ, evE_non, evE_bl, evE_int, evE_str, evE_lv, evE_gv, evE_tup, evE_lst, evE_bop, evE_neg, evE_not, evE_cmp, evE_cmp2, evE_and, evE_or, evE_ix, evE_sl, evE_call, evE_blt, evE_calv, evE_isi, evE_bm, evE_dnew, evE_mk, evE_cm, evE_fld, evE_lc, evE_lcb, evS_asl, evS_sfl, evS_augf, evS_del, evS_lck, ix_dic', wk_str, me_ext, me_ins, me_pop, me_idx, me_dget, me_dpop, me_joinl, me_joint, tstF_ap, eltF_ap, op_rept, op_repl, F__law_place, e2, show u.natAbs < 4000000 by omega]
  generalize hL : forL _ _ _ _ _ _ _ = L
  refine forL_go hL (fun i σ h' => ∃ (ts : List Int) (a3 : Option D), σ = [some (.ref b), some (.tup (ts.map D.int)), a3] ∧ ts.length = i ∧ Bx h' b d ∧ Ext b h h') ⟨[], _, rfl, rfl, B2, X2⟩ ?_ ?_
  · rintro i x σ h' hx ⟨ts, a4, rfl, hl, B, X⟩ Q hQ
    obtain ⟨rfl, hi⟩ := rng_at0 hx
    clear hx hL
    obtain ⟨v, h4, e4, v0, v1, B4, X4⟩ := draw k' (by omega) h' b d 2 (by decide) B
    simp [fin_rt, fin_nx, start, evSs, evS_asg, evS_six, evS_aug, evS_exp, evS_ret, evS_brk, evS_pas, evS_ife, evS_fr, evS_whl, bodyF_ap, testF_ap, tgF_ap, evEs, evAnd, evOr, evTs, evIs, tsE, op_addi, op_subi, op_muli, op_divi, op_modi, op_powi, op_adds, op_addt, op_addl, op_rep, cm_eq, cm_ne, cm_lt, cm_le, cm_gt, cm_ge, cm_is, cm_isn, cm_isb, cm_isnb, cm_in, cm_nin, in_kd, in_tup, in_chr, in_ref, tr_non, tr_bl, tr_int, tr_str, tr_tup, tr_ref, ix_tup, ix_str, ix_kd, ix_ref, ln_str, ln_tup, ln_ref, ty_non, ty_bl, ty_int, ty_str, ty_tup, ty_ref, bf_len, bf_int, bf_intb, bf_tuple, bf_list, bf_str, sq_tup, sq_ref, wk_tup, wk_ref, to_str, to_tup, to_ref, me_app, in_non, in_bl, in_int, in_str, in_tup', in_ref', sl_tup, sl_str, sl_ref, tgA, tgsA, setSl, atI_0, atI_1, atI_2, atI_3, atI_4, List.lookup, isNonE, ptI, mulOk_r, mulOk_l, divOk_s, rngOf_1, rngOf_2, b2i, shp, pq_non_non, pq_non_bl, pq_non_int, pq_non_str, pq_non_tup, pq_bl_non, pq_bl_bl, pq_bl_int, pq_bl_str, pq_bl_tup, pq_int_non, pq_int_bl, pq_int_int, pq_int_str, pq_int_tup, pq_str_non, pq_str_bl, pq_str_int, pq_str_str, pq_str_tup, pq_tup_non, pq_tup_bl, pq_tup_int, pq_tup_str, pq_tup_tup, pqs_nn, pqs_cc, pqs_nc, pqs_cn, pur_non, pur_bl, pur_int, pur_str, pur_tup, pur_ref, pur_fn, pur_kd, purs_n, purs_c, dep_non, dep_bl, dep_int, dep_str, dep_tup, deps_n, deps_c, SZ, evE_non, evE_bl, evE_int, evE_str, evE_lv, evE_gv, evE_tup, evE_lst, evE_bop, evE_neg, evE_not, evE_cmp, evE_cmp2, evE_and, evE_or, evE_ix, evE_sl, evE_call, evE_blt, evE_calv, evE_isi, evE_bm, evE_dnew, evE_mk, evE_cm, evE_fld, evE_lc, evE_lcb, evS_asl, evS_sfl, evS_augf, evS_del, evS_lck, ix_dic', wk_str, me_ext, me_ins, me_pop, me_idx, me_dget, me_dpop, me_joinl, me_joint, tstF_ap, eltF_ap, op_rept, op_repl, e4, show ts.length + 1 ≤ 16777216 by simp at hi; omega]
    simp only [Option.bind_some, wp_some]; exact (hQ _ _ trivial ⟨ts ++ [v], some (.int i), by simp, by simp; omega, B4, X.trans X4⟩)
  · rintro σ' h' rfl ⟨ts, a4, rfl, hl, B, X⟩
    obtain ⟨v, h4, e4, v0, v1, B4, X4⟩ := draw k' (by omega) h' b d 2 (by decide) B
    obtain ⟨w, h5, e5, w0, w1, B5, X5⟩ := draw k' (by omega) h4 b d 3 (by decide) B4
    simp at hl
    have hts : ts = [] ∨ (∃ a, ts = [a]) ∨ ∃ a b, ts = [a, b] := by
      have : ts.length ≤ 2 := by omega
      match ts, this with
      | [], _ => exact .inl rfl
      | [a], _ => exact .inr (.inl ⟨a, rfl⟩)
      | [a, b], _ => exact .inr (.inr ⟨a, b, rfl⟩)
    simp [fin_rt, fin_nx, start, evSs, evS_asg, evS_six, evS_aug, evS_exp, evS_ret, evS_brk, evS_pas, evS_ife, evS_fr, evS_whl, bodyF_ap, testF_ap, tgF_ap, evEs, evAnd, evOr, evTs, evIs, tsE, op_addi, op_subi, op_muli, op_divi, op_modi, op_powi, op_adds, op_addt, op_addl, op_rep, cm_eq, cm_ne, cm_lt, cm_le, cm_gt, cm_ge, cm_is, cm_isn, cm_isb, cm_isnb, cm_in, cm_nin, in_kd, in_tup, in_chr, in_ref, tr_non, tr_bl, tr_int, tr_str, tr_tup, tr_ref, ix_tup, ix_str, ix_kd, ix_ref, ln_str, ln_tup, ln_ref, ty_non, ty_bl, ty_int, ty_str, ty_tup, ty_ref, bf_len, bf_int, bf_intb, bf_tuple, bf_list, bf_str, sq_tup, sq_ref, wk_tup, wk_ref, to_str, to_tup, to_ref, me_app, in_non, in_bl, in_int, in_str, in_tup', in_ref', sl_tup, sl_str, sl_ref, tgA, tgsA, setSl, atI_0, atI_1, atI_2, atI_3, atI_4, List.lookup, isNonE, ptI, mulOk_r, mulOk_l, divOk_s, rngOf_1, rngOf_2, b2i, shp, pq_non_non, pq_non_bl, pq_non_int, pq_non_str, pq_non_tup, pq_bl_non, pq_bl_bl, pq_bl_int, pq_bl_str, pq_bl_tup, pq_int_non, pq_int_bl, pq_int_int, pq_int_str, pq_int_tup, pq_str_non, pq_str_bl, pq_str_int, pq_str_str, pq_str_tup, pq_tup_non, pq_tup_bl, pq_tup_int, pq_tup_str, pq_tup_tup, pqs_nn, pqs_cc, pqs_nc, pqs_cn, pur_non, pur_bl, pur_int, pur_str, pur_tup, pur_ref, pur_fn, pur_kd, purs_n, purs_c, dep_non, dep_bl, dep_int, dep_str, dep_tup, deps_n, deps_c, SZ, evE_non, evE_bl, evE_int, evE_str, evE_lv, evE_gv, evE_tup, evE_lst, evE_bop, evE_neg, evE_not, evE_cmp, evE_cmp2, evE_and, evE_or, evE_ix, evE_sl, evE_call, evE_blt, evE_calv, evE_isi, evE_bm, evE_dnew, evE_mk, evE_cm, evE_fld, evE_lc, evE_lcb, evS_asl, evS_sfl, evS_augf, evS_del, evS_lck, ix_dic', wk_str, me_ext, me_ins, me_pop, me_idx, me_dget, me_dpop, me_joinl, me_joint, tstF_ap, eltF_ap, op_rept, op_repl, e4, e5]
    simp only [Option.bind_some, wp_some]; exact (hR _ ⟨by rcases hts with rfl | ⟨a, rfl⟩ | ⟨a, b, rfl⟩ <;> rfl, by rcases hts with rfl | ⟨a, rfl⟩ | ⟨a, b, rfl⟩ <;> rfl, B5, (X.trans X4).trans X5⟩)
theorem memory_ok (k : Nat) (hk : 5 ≤ k) (h : LH) (b d : Nat) (B : Bx h b d) : ∃ M h', callN TT.pr k 113159385147387498199417 [.ref b] h = some (.ref h.length, h') ∧ h'[h.length]? = some (.dic M) ∧ Bx h' b d ∧ Gd M ∧ (∀ p ∈ M, Vl p.2) ∧ M.length ≤ 12 := by
  suffices H : WP (fun r => r.1 = .ref h.length ∧ ∃ M, r.2[h.length]? = some (.dic M) ∧ Bx r.2 b d ∧ Gd M ∧ (∀ p ∈ M, Vl p.2) ∧ M.length ≤ 12) (callN TT.pr k 113159385147387498199417 [.ref b] h) by
    obtain ⟨⟨_, h'⟩, e, rfl, M, q⟩ := H
    exact ⟨M, h', e, q⟩
  refine WP.mk fun R hR => ?_
  obtain ⟨k', hk'⟩ : ∃ k', k = k' + 1 := ⟨k - 1, by omega⟩
  subst hk'
  rw [callN_succ fn__law_memory rfl]
  have lb : b < h.length := by obtain ⟨_, _, e, _⟩ := B; exact lt_of_get e
  have ld : d < h.length := by obtain ⟨_, _, _, e, _⟩ := B; exact lt_of_get e
  obtain ⟨n, h2, e2, n0, n1, B2, X2⟩ := draw k' (by omega) (h ++ [.dic []]) b d 13 (by decide) (B.app _)
  have m2 : h2[h.length]? = some (.dic []) := keepA X2 (by omega) (by simp)
  simp [fin_rt, fin_nx, start, evSs, evS_asg, evS_six, evS_aug, evS_exp, evS_ret, evS_brk, evS_pas, evS_ife, evS_fr, evS_whl, bodyF_ap, testF_ap, tgF_ap, evEs, evAnd, evOr, evTs, evIs, tsE, op_addi, op_subi, op_muli, op_divi, op_modi, op_powi, op_adds, op_addt, op_addl, op_rep, cm_eq, cm_ne, cm_lt, cm_le, cm_gt, cm_ge, cm_is, cm_isn, cm_isb, cm_isnb, cm_in, cm_nin, in_kd, in_tup, in_chr, in_ref, tr_non, tr_bl, tr_int, tr_str, tr_tup, tr_ref, ix_tup, ix_str, ix_kd, ix_ref, ln_str, ln_tup, ln_ref, ty_non, ty_bl, ty_int, ty_str, ty_tup, ty_ref, bf_len, bf_int, bf_intb, bf_tuple, bf_list, bf_str, sq_tup, sq_ref, wk_tup, wk_ref, to_str, to_tup, to_ref, me_app, in_non, in_bl, in_int, in_str, in_tup', in_ref', sl_tup, sl_str, sl_ref, tgA, tgsA, setSl, atI_0, atI_1, atI_2, atI_3, atI_4, List.lookup, isNonE, ptI, mulOk_r, mulOk_l, divOk_s, rngOf_1, rngOf_2, b2i, shp, pq_non_non, pq_non_bl, pq_non_int, pq_non_str, pq_non_tup, pq_bl_non, pq_bl_bl, pq_bl_int, pq_bl_str, pq_bl_tup, pq_int_non, pq_int_bl, pq_int_int, pq_int_str, pq_int_tup, pq_str_non, pq_str_bl, pq_str_int, pq_str_str, pq_str_tup, pq_tup_non, pq_tup_bl, pq_tup_int, pq_tup_str, pq_tup_tup, pqs_nn, pqs_cc, pqs_nc, pqs_cn, pur_non, pur_bl, pur_int, pur_str, pur_tup, pur_ref, pur_fn, pur_kd, purs_n, purs_c, dep_non, dep_bl, dep_int, dep_str, dep_tup, deps_n, deps_c, SZ, evE_non, evE_bl, evE_int, evE_str, evE_lv, evE_gv, evE_tup, evE_lst, evE_bop, evE_neg, evE_not, evE_cmp, evE_cmp2, evE_and, evE_or, evE_ix, evE_sl, evE_call, evE_blt, evE_calv, evE_isi, evE_bm, evE_dnew, evE_mk, evE_cm, evE_fld, evE_lc, evE_lcb, evS_asl, evS_sfl, evS_augf, evS_del, evS_lck, ix_dic', wk_str, me_ext, me_ins, me_pop, me_idx, me_dget, me_dpop, me_joinl, me_joint, tstF_ap, eltF_ap, op_rept, op_repl, F__law_memory, alloc, e2, show n.natAbs < 4000000 by omega]
  generalize hL : forL _ _ _ _ _ _ _ = L
  refine forL_go hL (fun i σ h' => ∃ (M : List (D × D)) (a3 a4 a5 : Option D), σ = [some (.ref b), some (.ref h.length), a3, a4, a5] ∧ h'[h.length]? = some (.dic M) ∧ Bx h' b d ∧ Gd M ∧ (∀ p ∈ M, Vl p.2) ∧ M.length ≤ i) ⟨[], _, _, _, rfl, m2, B2, ⟨by simp, by simp⟩, by simp, by simp⟩ ?_ ?_
  · rintro i x σ h' hx ⟨M, a3, a4, a5, rfl, hm, B, g, hv, lm⟩ Q hQ
    obtain ⟨rfl, hi⟩ := rng_at0 hx
    have hi : i < 13 := by simp at hi; omega
    clear hx hL hR
    obtain ⟨p, h3, e3, kp, sp, B3, X3⟩ := place_ok k' (by omega) _ _ _ B
    obtain ⟨v, h4, e4, V, B4, X4⟩ := value_ok k' (by omega) _ _ _ B3
    have k4 := keepA X4 (by omega) (keepA X3 (by omega) hm)
    rcases V.noNone with ⟨rfl, -⟩ | ⟨kd, q, rfl, ne, hc, no⟩
    · simp [fin_rt, fin_nx, start, evSs, evS_asg, evS_six, evS_aug, evS_exp, evS_ret, evS_brk, evS_pas, evS_ife, evS_fr, evS_whl, bodyF_ap, testF_ap, tgF_ap, evEs, evAnd, evOr, evTs, evIs, tsE, op_addi, op_subi, op_muli, op_divi, op_modi, op_powi, op_adds, op_addt, op_addl, op_rep, cm_eq, cm_ne, cm_lt, cm_le, cm_gt, cm_ge, cm_is, cm_isn, cm_isb, cm_isnb, cm_in, cm_nin, in_kd, in_tup, in_chr, in_ref, tr_non, tr_bl, tr_int, tr_str, tr_tup, tr_ref, ix_tup, ix_str, ix_kd, ix_ref, ln_str, ln_tup, ln_ref, ty_non, ty_bl, ty_int, ty_str, ty_tup, ty_ref, bf_len, bf_int, bf_intb, bf_tuple, bf_list, bf_str, sq_tup, sq_ref, wk_tup, wk_ref, to_str, to_tup, to_ref, me_app, in_non, in_bl, in_int, in_str, in_tup', in_ref', sl_tup, sl_str, sl_ref, tgA, tgsA, setSl, atI_0, atI_1, atI_2, atI_3, atI_4, List.lookup, isNonE, ptI, mulOk_r, mulOk_l, divOk_s, rngOf_1, rngOf_2, b2i, shp, pq_non_non, pq_non_bl, pq_non_int, pq_non_str, pq_non_tup, pq_bl_non, pq_bl_bl, pq_bl_int, pq_bl_str, pq_bl_tup, pq_int_non, pq_int_bl, pq_int_int, pq_int_str, pq_int_tup, pq_str_non, pq_str_bl, pq_str_int, pq_str_str, pq_str_tup, pq_tup_non, pq_tup_bl, pq_tup_int, pq_tup_str, pq_tup_tup, pqs_nn, pqs_cc, pqs_nc, pqs_cn, pur_non, pur_bl, pur_int, pur_str, pur_tup, pur_ref, pur_fn, pur_kd, purs_n, purs_c, dep_non, dep_bl, dep_int, dep_str, dep_tup, deps_n, deps_c, SZ, evE_non, evE_bl, evE_int, evE_str, evE_lv, evE_gv, evE_tup, evE_lst, evE_bop, evE_neg, evE_not, evE_cmp, evE_cmp2, evE_and, evE_or, evE_ix, evE_sl, evE_call, evE_blt, evE_calv, evE_isi, evE_bm, evE_dnew, evE_mk, evE_cm, evE_fld, evE_lc, evE_lcb, evS_asl, evS_sfl, evS_augf, evS_del, evS_lck, ix_dic', wk_str, me_ext, me_ins, me_pop, me_idx, me_dget, me_dpop, me_joinl, me_joint, tstF_ap, eltF_ap, op_rept, op_repl, e3, e4]
      simp only [Option.bind_some, wp_some]; exact hQ _ _ trivial ⟨M, _, _, _, rfl, k4, B4, g, hv, by omega⟩
    · simp [fin_rt, fin_nx, start, evSs, evS_asg, evS_six, evS_aug, evS_exp, evS_ret, evS_brk, evS_pas, evS_ife, evS_fr, evS_whl, bodyF_ap, testF_ap, tgF_ap, evEs, evAnd, evOr, evTs, evIs, tsE, op_addi, op_subi, op_muli, op_divi, op_modi, op_powi, op_adds, op_addt, op_addl, op_rep, cm_eq, cm_ne, cm_lt, cm_le, cm_gt, cm_ge, cm_is, cm_isn, cm_isb, cm_isnb, cm_in, cm_nin, in_kd, in_tup, in_chr, in_ref, tr_non, tr_bl, tr_int, tr_str, tr_tup, tr_ref, ix_tup, ix_str, ix_kd, ix_ref, ln_str, ln_tup, ln_ref, ty_non, ty_bl, ty_int, ty_str, ty_tup, ty_ref, bf_len, bf_int, bf_intb, bf_tuple, bf_list, bf_str, sq_tup, sq_ref, wk_tup, wk_ref, to_str, to_tup, to_ref, me_app, in_non, in_bl, in_int, in_str, in_tup', in_ref', sl_tup, sl_str, sl_ref, tgA, tgsA, setSl, atI_0, atI_1, atI_2, atI_3, atI_4, List.lookup, isNonE, ptI, mulOk_r, mulOk_l, divOk_s, rngOf_1, rngOf_2, b2i, shp, pq_non_non, pq_non_bl, pq_non_int, pq_non_str, pq_non_tup, pq_bl_non, pq_bl_bl, pq_bl_int, pq_bl_str, pq_bl_tup, pq_int_non, pq_int_bl, pq_int_int, pq_int_str, pq_int_tup, pq_str_non, pq_str_bl, pq_str_int, pq_str_str, pq_str_tup, pq_tup_non, pq_tup_bl, pq_tup_int, pq_tup_str, pq_tup_tup, pqs_nn, pqs_cc, pqs_nc, pqs_cn, pur_non, pur_bl, pur_int, pur_str, pur_tup, pur_ref, pur_fn, pur_kd, purs_n, purs_c, dep_non, dep_bl, dep_int, dep_str, dep_tup, deps_n, deps_c, SZ, evE_non, evE_bl, evE_int, evE_str, evE_lv, evE_gv, evE_tup, evE_lst, evE_bop, evE_neg, evE_not, evE_cmp, evE_cmp2, evE_and, evE_or, evE_ix, evE_sl, evE_call, evE_blt, evE_calv, evE_isi, evE_bm, evE_dnew, evE_mk, evE_cm, evE_fld, evE_lc, evE_lcb, evS_asl, evS_sfl, evS_augf, evS_del, evS_lck, ix_dic', wk_str, me_ext, me_ins, me_pop, me_idx, me_dget, me_dpop, me_joinl, me_joint, tstF_ap, eltF_ap, op_rept, op_repl, e3, e4, ne, hc, k4, kp, show M.length < 16777216 by omega]
      simp only [Option.bind_some, wp_some]; exact hQ _ _ trivial ⟨dPut M p (.tup (.str kd :: q)), _, _, _, rfl, setD_same (lt_of_get k4), bx_setD B4 h.length (by omega) (by omega) _, put_gd g kp, by
        intro r hr
        have hr' : (r.1, r.2) ∈ dPut M p (.tup (.str kd :: q)) := hr
        rcases (mem_put g kp).mp hr' with ⟨_, e⟩ | ⟨_, e⟩
        · rw [e]; exact V
        · exact hv _ e, by have := dPut_len M p (.tup (.str kd :: q)); omega⟩
  · rintro σ' h' rfl ⟨M, a3, a4, a5, rfl, hm, B, g, hv, lm⟩
    simp [fin_rt, fin_nx, start, evSs, evS_asg, evS_six, evS_aug, evS_exp, evS_ret, evS_brk, evS_pas, evS_ife, evS_fr, evS_whl, bodyF_ap, testF_ap, tgF_ap, evEs, evAnd, evOr, evTs, evIs, tsE, op_addi, op_subi, op_muli, op_divi, op_modi, op_powi, op_adds, op_addt, op_addl, op_rep, cm_eq, cm_ne, cm_lt, cm_le, cm_gt, cm_ge, cm_is, cm_isn, cm_isb, cm_isnb, cm_in, cm_nin, in_kd, in_tup, in_chr, in_ref, tr_non, tr_bl, tr_int, tr_str, tr_tup, tr_ref, ix_tup, ix_str, ix_kd, ix_ref, ln_str, ln_tup, ln_ref, ty_non, ty_bl, ty_int, ty_str, ty_tup, ty_ref, bf_len, bf_int, bf_intb, bf_tuple, bf_list, bf_str, sq_tup, sq_ref, wk_tup, wk_ref, to_str, to_tup, to_ref, me_app, in_non, in_bl, in_int, in_str, in_tup', in_ref', sl_tup, sl_str, sl_ref, tgA, tgsA, setSl, atI_0, atI_1, atI_2, atI_3, atI_4, List.lookup, isNonE, ptI, mulOk_r, mulOk_l, divOk_s, rngOf_1, rngOf_2, b2i, shp, pq_non_non, pq_non_bl, pq_non_int, pq_non_str, pq_non_tup, pq_bl_non, pq_bl_bl, pq_bl_int, pq_bl_str, pq_bl_tup, pq_int_non, pq_int_bl, pq_int_int, pq_int_str, pq_int_tup, pq_str_non, pq_str_bl, pq_str_int, pq_str_str, pq_str_tup, pq_tup_non, pq_tup_bl, pq_tup_int, pq_tup_str, pq_tup_tup, pqs_nn, pqs_cc, pqs_nc, pqs_cn, pur_non, pur_bl, pur_int, pur_str, pur_tup, pur_ref, pur_fn, pur_kd, purs_n, purs_c, dep_non, dep_bl, dep_int, dep_str, dep_tup, deps_n, deps_c, SZ, evE_non, evE_bl, evE_int, evE_str, evE_lv, evE_gv, evE_tup, evE_lst, evE_bop, evE_neg, evE_not, evE_cmp, evE_cmp2, evE_and, evE_or, evE_ix, evE_sl, evE_call, evE_blt, evE_calv, evE_isi, evE_bm, evE_dnew, evE_mk, evE_cm, evE_fld, evE_lc, evE_lcb, evS_asl, evS_sfl, evS_augf, evS_del, evS_lck, ix_dic', wk_str, me_ext, me_ins, me_pop, me_idx, me_dget, me_dpop, me_joinl, me_joint, tstF_ap, eltF_ap, op_rept, op_repl]
    simp only [Option.bind_some, wp_some]; exact hR _ ⟨rfl, M, hm, B, g, hv, by simp at lm; omega⟩
/-- what the memory holds -/
def gt (M : List (D × D)) (p : D) : D := (dLook M p).getD (.tup [.str [110,111,110,101]])
theorem gt_vl {M : List (D × D)} (g : Gd M) (hv : ∀ p ∈ M, Vl p.2) {p : D} (kp : keyOk p = true) : Vl (gt M p) := by
  unfold gt
  cases e : dLook M p with
  | none => exact .non
  | some v => exact hv _ ((look_some g kp).mp e)
def rdD (r : D × D × D) : D := .tup [r.1, r.2.1, r.2.2]
theorem readings_ok (k : Nat) (hk : 5 ≤ k) (h : LH) (b d c : Nat) (cb : c ≠ b) (B : Bx h b d) (M : List (D × D)) (hm : h[c]? = some (.dic M)) (g : Gd M) (hv : ∀ p ∈ M, Vl p.2) : ∃ (rs : List (D × D × D)) (h' : LH), callN TT.pr k 1854003366257611104977662963 [.ref b, .ref c] h = some (.tup (rs.map rdD), h') ∧ h'[c]? = some (.dic M) ∧ Bx h' b d ∧ (∀ r ∈ rs, keyOk r.1 = true ∧ Vl r.2.1) ∧ rs.length ≤ 16 := by
  suffices H : WP (fun r => ∃ rs : List (D × D × D), r.1 = .tup (rs.map rdD) ∧ r.2[c]? = some (.dic M) ∧ Bx r.2 b d ∧ (∀ r ∈ rs, keyOk r.1 = true ∧ Vl r.2.1) ∧ rs.length ≤ 16) (callN TT.pr k 1854003366257611104977662963 [.ref b, .ref c] h) by
    obtain ⟨⟨_, h'⟩, e, rs, rfl, q⟩ := H
    exact ⟨rs, h', e, q⟩
  refine WP.mk fun R hR => ?_
  obtain ⟨k', hk'⟩ : ∃ k', k = k' + 1 := ⟨k - 1, by omega⟩
  subst hk'
  rw [callN_succ fn__law_readings rfl]
  obtain ⟨n, h2, e2, n0, n1, B2, X2⟩ := draw k' (by omega) h b d 17 (by decide) B
  have m2 := keepA X2 cb hm
  simp [fin_rt, fin_nx, start, evSs, evS_asg, evS_six, evS_aug, evS_exp, evS_ret, evS_brk, evS_pas, evS_ife, evS_fr, evS_whl, bodyF_ap, testF_ap, tgF_ap, evEs, evAnd, evOr, evTs, evIs, tsE, op_addi, op_subi, op_muli, op_divi, op_modi, op_powi, op_adds, op_addt, op_addl, op_rep, cm_eq, cm_ne, cm_lt, cm_le, cm_gt, cm_ge, cm_is, cm_isn, cm_isb, cm_isnb, cm_in, cm_nin, in_kd, in_tup, in_chr, in_ref, tr_non, tr_bl, tr_int, tr_str, tr_tup, tr_ref, ix_tup, ix_str, ix_kd, ix_ref, ln_str, ln_tup, ln_ref, ty_non, ty_bl, ty_int, ty_str, ty_tup, ty_ref, bf_len, bf_int, bf_intb, bf_tuple, bf_list, bf_str, sq_tup, sq_ref, wk_tup, wk_ref, to_str, to_tup, to_ref, me_app, in_non, in_bl, in_int, in_str, in_tup', in_ref', sl_tup, sl_str, sl_ref, tgA, tgsA, setSl, atI_0, atI_1, atI_2, atI_3, atI_4, List.lookup, isNonE, ptI, mulOk_r, mulOk_l, divOk_s, rngOf_1, rngOf_2, b2i, shp, pq_non_non, pq_non_bl, pq_non_int, pq_non_str, pq_non_tup, pq_bl_non, pq_bl_bl, pq_bl_int, pq_bl_str, pq_bl_tup, pq_int_non, pq_int_bl, pq_int_int, pq_int_str, pq_int_tup, pq_str_non, pq_str_bl, pq_str_int, pq_str_str, pq_str_tup, pq_tup_non, pq_tup_bl, pq_tup_int, pq_tup_str, pq_tup_tup, pqs_nn, pqs_cc, pqs_nc, pqs_cn, pur_non, pur_bl, pur_int, pur_str, pur_tup, pur_ref, pur_fn, pur_kd, purs_n, purs_c, dep_non, dep_bl, dep_int, dep_str, dep_tup, deps_n, deps_c, SZ, evE_non, evE_bl, evE_int, evE_str, evE_lv, evE_gv, evE_tup, evE_lst, evE_bop, evE_neg, evE_not, evE_cmp, evE_cmp2, evE_and, evE_or, evE_ix, evE_sl, evE_call, evE_blt, evE_calv, evE_isi, evE_bm, evE_dnew, evE_mk, evE_cm, evE_fld, evE_lc, evE_lcb, evS_asl, evS_sfl, evS_augf, evS_del, evS_lck, ix_dic', wk_str, me_ext, me_ins, me_pop, me_idx, me_dget, me_dpop, me_joinl, me_joint, tstF_ap, eltF_ap, op_rept, op_repl, F__law_readings, e2, show n.natAbs < 4000000 by omega]
  generalize hL : forL _ _ _ _ _ _ _ = L
  refine forL_go hL (fun i σ h' => ∃ (rs : List (D × D × D)) (a3 a4 a5 a6 : Option D), σ = [some (.ref b), some (.ref c), some (.tup (rs.map rdD)), a3, a4, a5, a6] ∧ h'[c]? = some (.dic M) ∧ Bx h' b d ∧ (∀ r ∈ rs, keyOk r.1 = true ∧ Vl r.2.1) ∧ rs.length = i) ⟨[], _, _, _, _, rfl, m2, B2, by simp, rfl⟩ ?_ ?_
  · rintro i x σ h' hx ⟨rs, a3, a4, a5, a6, rfl, hm, B, hr, lr⟩ Q hQ
    obtain ⟨rfl, hi⟩ := rng_at0 hx
    have hi : i < 17 := by simp at hi; omega
    clear hx hL hR
    obtain ⟨p, h3, e3, kp, sp, B3, X3⟩ := place_ok k' (by omega) _ _ _ B
    have k3 := keepA X3 cb hm
    have V0 := gt_vl g hv kp
    obtain ⟨u, h4, e4, u0, u1, B4, X4⟩ := draw k' (by omega) _ _ _ 9 (by decide) B3
    have k4 := keepA X4 cb k3
    have fin : ∀ (v : D), Vl v → ∀ (run : D) r, r ∈ rs ++ [(p, v, run)] → keyOk r.1 = true ∧ Vl r.2.1 := by
      intro v V run r hr'
      simp at hr'
      rcases hr' with hr' | rfl
      · exact hr r hr'
      · exact ⟨kp, V⟩
    have el : (dLook M p).getD (.tup [.str [110,111,110,101]]) = gt M p := rfl
    have l1 : rs.length + 1 ≤ 16777216 := by omega
    have l2 : rs.length ≤ 16777215 := by omega
    obtain ⟨run, hrun⟩ : ∃ run : D, run = .tup [.tup [.int (i : Int), .tup [], .tup [.str [111,98,106,101,99,116], .tup [], .int 0], .tup [.str [111,98,106,101,99,116], .tup [], .int 0], .tup []], .tup [], .int 0, .int 0, .int (i : Int)] := ⟨_, rfl⟩
    by_cases q0 : u = 0
    · obtain ⟨v, h5, e5, V, B5, X5⟩ := value_ok k' (by omega) _ _ _ B4
      simp [fin_rt, fin_nx, start, evSs, evS_asg, evS_six, evS_aug, evS_exp, evS_ret, evS_brk, evS_pas, evS_ife, evS_fr, evS_whl, bodyF_ap, testF_ap, tgF_ap, evEs, evAnd, evOr, evTs, evIs, tsE, op_addi, op_subi, op_muli, op_divi, op_modi, op_powi, op_adds, op_addt, op_addl, op_rep, cm_eq, cm_ne, cm_lt, cm_le, cm_gt, cm_ge, cm_is, cm_isn, cm_isb, cm_isnb, cm_in, cm_nin, in_kd, in_tup, in_chr, in_ref, tr_non, tr_bl, tr_int, tr_str, tr_tup, tr_ref, ix_tup, ix_str, ix_kd, ix_ref, ln_str, ln_tup, ln_ref, ty_non, ty_bl, ty_int, ty_str, ty_tup, ty_ref, bf_len, bf_int, bf_intb, bf_tuple, bf_list, bf_str, sq_tup, sq_ref, wk_tup, wk_ref, to_str, to_tup, to_ref, me_app, in_non, in_bl, in_int, in_str, in_tup', in_ref', sl_tup, sl_str, sl_ref, tgA, tgsA, setSl, atI_0, atI_1, atI_2, atI_3, atI_4, List.lookup, isNonE, ptI, mulOk_r, mulOk_l, divOk_s, rngOf_1, rngOf_2, b2i, shp, pq_non_non, pq_non_bl, pq_non_int, pq_non_str, pq_non_tup, pq_bl_non, pq_bl_bl, pq_bl_int, pq_bl_str, pq_bl_tup, pq_int_non, pq_int_bl, pq_int_int, pq_int_str, pq_int_tup, pq_str_non, pq_str_bl, pq_str_int, pq_str_str, pq_str_tup, pq_tup_non, pq_tup_bl, pq_tup_int, pq_tup_str, pq_tup_tup, pqs_nn, pqs_cc, pqs_nc, pqs_cn, pur_non, pur_bl, pur_int, pur_str, pur_tup, pur_ref, pur_fn, pur_kd, purs_n, purs_c, dep_non, dep_bl, dep_int, dep_str, dep_tup, deps_n, deps_c, SZ, evE_non, evE_bl, evE_int, evE_str, evE_lv, evE_gv, evE_tup, evE_lst, evE_bop, evE_neg, evE_not, evE_cmp, evE_cmp2, evE_and, evE_or, evE_ix, evE_sl, evE_call, evE_blt, evE_calv, evE_isi, evE_bm, evE_dnew, evE_mk, evE_cm, evE_fld, evE_lc, evE_lcb, evS_asl, evS_sfl, evS_augf, evS_del, evS_lck, ix_dic', wk_str, me_ext, me_ins, me_pop, me_idx, me_dget, me_dpop, me_joinl, me_joint, tstF_ap, eltF_ap, op_rept, op_repl, e3, k3, kp, el, e4, q0, e5, l1, l2]
      simp only [Option.bind_some, wp_some]; exact hQ _ _ trivial ⟨rs ++ [(p, v, run)], some (.int (i : Int)), some p, some v, some (.int 0), by simp [rdD, hrun], keepA X5 cb k4, B5, fin v V run, by simp; omega⟩
    · by_cases q1 : u = 1
      · rcases V0.isInt with ⟨m, em, lm⟩ | ⟨kd, q, em, ne, hc⟩
        · by_cases q2 : m = 0 ∨ m = 1
          · have V : Vl (.tup [.str [98,111,111,108], .bl (m == 1)]) := .bl _
            rcases q2 with rfl | rfl
            · simp [fin_rt, fin_nx, start, evSs, evS_asg, evS_six, evS_aug, evS_exp, evS_ret, evS_brk, evS_pas, evS_ife, evS_fr, evS_whl, bodyF_ap, testF_ap, tgF_ap, evEs, evAnd, evOr, evTs, evIs, tsE, op_addi, op_subi, op_muli, op_divi, op_modi, op_powi, op_adds, op_addt, op_addl, op_rep, cm_eq, cm_ne, cm_lt, cm_le, cm_gt, cm_ge, cm_is, cm_isn, cm_isb, cm_isnb, cm_in, cm_nin, in_kd, in_tup, in_chr, in_ref, tr_non, tr_bl, tr_int, tr_str, tr_tup, tr_ref, ix_tup, ix_str, ix_kd, ix_ref, ln_str, ln_tup, ln_ref, ty_non, ty_bl, ty_int, ty_str, ty_tup, ty_ref, bf_len, bf_int, bf_intb, bf_tuple, bf_list, bf_str, sq_tup, sq_ref, wk_tup, wk_ref, to_str, to_tup, to_ref, me_app, in_non, in_bl, in_int, in_str, in_tup', in_ref', sl_tup, sl_str, sl_ref, tgA, tgsA, setSl, atI_0, atI_1, atI_2, atI_3, atI_4, List.lookup, isNonE, ptI, mulOk_r, mulOk_l, divOk_s, rngOf_1, rngOf_2, b2i, shp, pq_non_non, pq_non_bl, pq_non_int, pq_non_str, pq_non_tup, pq_bl_non, pq_bl_bl, pq_bl_int, pq_bl_str, pq_bl_tup, pq_int_non, pq_int_bl, pq_int_int, pq_int_str, pq_int_tup, pq_str_non, pq_str_bl, pq_str_int, pq_str_str, pq_str_tup, pq_tup_non, pq_tup_bl, pq_tup_int, pq_tup_str, pq_tup_tup, pqs_nn, pqs_cc, pqs_nc, pqs_cn, pur_non, pur_bl, pur_int, pur_str, pur_tup, pur_ref, pur_fn, pur_kd, purs_n, purs_c, dep_non, dep_bl, dep_int, dep_str, dep_tup, deps_n, deps_c, SZ, evE_non, evE_bl, evE_int, evE_str, evE_lv, evE_gv, evE_tup, evE_lst, evE_bop, evE_neg, evE_not, evE_cmp, evE_cmp2, evE_and, evE_or, evE_ix, evE_sl, evE_call, evE_blt, evE_calv, evE_isi, evE_bm, evE_dnew, evE_mk, evE_cm, evE_fld, evE_lc, evE_lcb, evS_asl, evS_sfl, evS_augf, evS_del, evS_lck, ix_dic', wk_str, me_ext, me_ins, me_pop, me_idx, me_dget, me_dpop, me_joinl, me_joint, tstF_ap, eltF_ap, op_rept, op_repl, e3, k3, kp, el, e4, q1, em, alloc, l1, l2]
              simp only [Option.bind_some, wp_some]; exact hQ _ _ trivial ⟨rs ++ [(p, .tup [.str [98,111,111,108], .bl false], run)], some (.int (i : Int)), some p, some (.tup [.str [98,111,111,108], .bl false]), some (.int 1), by simp [rdD, hrun], by rw [List.getElem?_append_left (lt_of_get k4)]; exact k4, B4.app _, fin _ (.bl _) run, by simp; omega⟩
            · simp [fin_rt, fin_nx, start, evSs, evS_asg, evS_six, evS_aug, evS_exp, evS_ret, evS_brk, evS_pas, evS_ife, evS_fr, evS_whl, bodyF_ap, testF_ap, tgF_ap, evEs, evAnd, evOr, evTs, evIs, tsE, op_addi, op_subi, op_muli, op_divi, op_modi, op_powi, op_adds, op_addt, op_addl, op_rep, cm_eq, cm_ne, cm_lt, cm_le, cm_gt, cm_ge, cm_is, cm_isn, cm_isb, cm_isnb, cm_in, cm_nin, in_kd, in_tup, in_chr, in_ref, tr_non, tr_bl, tr_int, tr_str, tr_tup, tr_ref, ix_tup, ix_str, ix_kd, ix_ref, ln_str, ln_tup, ln_ref, ty_non, ty_bl, ty_int, ty_str, ty_tup, ty_ref, bf_len, bf_int, bf_intb, bf_tuple, bf_list, bf_str, sq_tup, sq_ref, wk_tup, wk_ref, to_str, to_tup, to_ref, me_app, in_non, in_bl, in_int, in_str, in_tup', in_ref', sl_tup, sl_str, sl_ref, tgA, tgsA, setSl, atI_0, atI_1, atI_2, atI_3, atI_4, List.lookup, isNonE, ptI, mulOk_r, mulOk_l, divOk_s, rngOf_1, rngOf_2, b2i, shp, pq_non_non, pq_non_bl, pq_non_int, pq_non_str, pq_non_tup, pq_bl_non, pq_bl_bl, pq_bl_int, pq_bl_str, pq_bl_tup, pq_int_non, pq_int_bl, pq_int_int, pq_int_str, pq_int_tup, pq_str_non, pq_str_bl, pq_str_int, pq_str_str, pq_str_tup, pq_tup_non, pq_tup_bl, pq_tup_int, pq_tup_str, pq_tup_tup, pqs_nn, pqs_cc, pqs_nc, pqs_cn, pur_non, pur_bl, pur_int, pur_str, pur_tup, pur_ref, pur_fn, pur_kd, purs_n, purs_c, dep_non, dep_bl, dep_int, dep_str, dep_tup, deps_n, deps_c, SZ, evE_non, evE_bl, evE_int, evE_str, evE_lv, evE_gv, evE_tup, evE_lst, evE_bop, evE_neg, evE_not, evE_cmp, evE_cmp2, evE_and, evE_or, evE_ix, evE_sl, evE_call, evE_blt, evE_calv, evE_isi, evE_bm, evE_dnew, evE_mk, evE_cm, evE_fld, evE_lc, evE_lcb, evS_asl, evS_sfl, evS_augf, evS_del, evS_lck, ix_dic', wk_str, me_ext, me_ins, me_pop, me_idx, me_dget, me_dpop, me_joinl, me_joint, tstF_ap, eltF_ap, op_rept, op_repl, e3, k3, kp, el, e4, q1, em, alloc, l1, l2]
              simp only [Option.bind_some, wp_some]; exact hQ _ _ trivial ⟨rs ++ [(p, .tup [.str [98,111,111,108], .bl true], run)], some (.int (i : Int)), some p, some (.tup [.str [98,111,111,108], .bl true]), some (.int 1), by simp [rdD, hrun], by rw [List.getElem?_append_left (lt_of_get k4)]; exact k4, B4.app _, fin _ (.bl _) run, by simp; omega⟩
          · have z0 : ¬ (0 : Int) = m := by omega
            have z1 : ¬ (1 : Int) = m := by omega
            simp [fin_rt, fin_nx, start, evSs, evS_asg, evS_six, evS_aug, evS_exp, evS_ret, evS_brk, evS_pas, evS_ife, evS_fr, evS_whl, bodyF_ap, testF_ap, tgF_ap, evEs, evAnd, evOr, evTs, evIs, tsE, op_addi, op_subi, op_muli, op_divi, op_modi, op_powi, op_adds, op_addt, op_addl, op_rep, cm_eq, cm_ne, cm_lt, cm_le, cm_gt, cm_ge, cm_is, cm_isn, cm_isb, cm_isnb, cm_in, cm_nin, in_kd, in_tup, in_chr, in_ref, tr_non, tr_bl, tr_int, tr_str, tr_tup, tr_ref, ix_tup, ix_str, ix_kd, ix_ref, ln_str, ln_tup, ln_ref, ty_non, ty_bl, ty_int, ty_str, ty_tup, ty_ref, bf_len, bf_int, bf_intb, bf_tuple, bf_list, bf_str, sq_tup, sq_ref, wk_tup, wk_ref, to_str, to_tup, to_ref, me_app, in_non, in_bl, in_int, in_str, in_tup', in_ref', sl_tup, sl_str, sl_ref, tgA, tgsA, setSl, atI_0, atI_1, atI_2, atI_3, atI_4, List.lookup, isNonE, ptI, mulOk_r, mulOk_l, divOk_s, rngOf_1, rngOf_2, b2i, shp, pq_non_non, pq_non_bl, pq_non_int, pq_non_str, pq_non_tup, pq_bl_non, pq_bl_bl, pq_bl_int, pq_bl_str, pq_bl_tup, pq_int_non, pq_int_bl, pq_int_int, pq_int_str, pq_int_tup, pq_str_non, pq_str_bl, pq_str_int, pq_str_str, pq_str_tup, pq_tup_non, pq_tup_bl, pq_tup_int, pq_tup_str, pq_tup_tup, pqs_nn, pqs_cc, pqs_nc, pqs_cn, pur_non, pur_bl, pur_int, pur_str, pur_tup, pur_ref, pur_fn, pur_kd, purs_n, purs_c, dep_non, dep_bl, dep_int, dep_str, dep_tup, deps_n, deps_c, SZ, evE_non, evE_bl, evE_int, evE_str, evE_lv, evE_gv, evE_tup, evE_lst, evE_bop, evE_neg, evE_not, evE_cmp, evE_cmp2, evE_and, evE_or, evE_ix, evE_sl, evE_call, evE_blt, evE_calv, evE_isi, evE_bm, evE_dnew, evE_mk, evE_cm, evE_fld, evE_lc, evE_lcb, evS_asl, evS_sfl, evS_augf, evS_del, evS_lck, ix_dic', wk_str, me_ext, me_ins, me_pop, me_idx, me_dget, me_dpop, me_joinl, me_joint, tstF_ap, eltF_ap, op_rept, op_repl, e3, k3, kp, el, e4, q1, em, alloc, z0, z1, l1, l2]
            simp only [Option.bind_some, wp_some]; exact hQ _ _ trivial ⟨rs ++ [(p, .tup [.str [105,110,116], .int m], run)], some (.int (i : Int)), some p, some (.tup [.str [105,110,116], .int m]), some (.int 1), by simp [rdD, hrun], by rw [List.getElem?_append_left (lt_of_get k4)]; exact k4, B4.app _, fin _ (.int m lm) run, by simp; omega⟩
        · simp [fin_rt, fin_nx, start, evSs, evS_asg, evS_six, evS_aug, evS_exp, evS_ret, evS_brk, evS_pas, evS_ife, evS_fr, evS_whl, bodyF_ap, testF_ap, tgF_ap, evEs, evAnd, evOr, evTs, evIs, tsE, op_addi, op_subi, op_muli, op_divi, op_modi, op_powi, op_adds, op_addt, op_addl, op_rep, cm_eq, cm_ne, cm_lt, cm_le, cm_gt, cm_ge, cm_is, cm_isn, cm_isb, cm_isnb, cm_in, cm_nin, in_kd, in_tup, in_chr, in_ref, tr_non, tr_bl, tr_int, tr_str, tr_tup, tr_ref, ix_tup, ix_str, ix_kd, ix_ref, ln_str, ln_tup, ln_ref, ty_non, ty_bl, ty_int, ty_str, ty_tup, ty_ref, bf_len, bf_int, bf_intb, bf_tuple, bf_list, bf_str, sq_tup, sq_ref, wk_tup, wk_ref, to_str, to_tup, to_ref, me_app, in_non, in_bl, in_int, in_str, in_tup', in_ref', sl_tup, sl_str, sl_ref, tgA, tgsA, setSl, atI_0, atI_1, atI_2, atI_3, atI_4, List.lookup, isNonE, ptI, mulOk_r, mulOk_l, divOk_s, rngOf_1, rngOf_2, b2i, shp, pq_non_non, pq_non_bl, pq_non_int, pq_non_str, pq_non_tup, pq_bl_non, pq_bl_bl, pq_bl_int, pq_bl_str, pq_bl_tup, pq_int_non, pq_int_bl, pq_int_int, pq_int_str, pq_int_tup, pq_str_non, pq_str_bl, pq_str_int, pq_str_str, pq_str_tup, pq_tup_non, pq_tup_bl, pq_tup_int, pq_tup_str, pq_tup_tup, pqs_nn, pqs_cc, pqs_nc, pqs_cn, pur_non, pur_bl, pur_int, pur_str, pur_tup, pur_ref, pur_fn, pur_kd, purs_n, purs_c, dep_non, dep_bl, dep_int, dep_str, dep_tup, deps_n, deps_c, SZ, evE_non, evE_bl, evE_int, evE_str, evE_lv, evE_gv, evE_tup, evE_lst, evE_bop, evE_neg, evE_not, evE_cmp, evE_cmp2, evE_and, evE_or, evE_ix, evE_sl, evE_call, evE_blt, evE_calv, evE_isi, evE_bm, evE_dnew, evE_mk, evE_cm, evE_fld, evE_lc, evE_lcb, evS_asl, evS_sfl, evS_augf, evS_del, evS_lck, ix_dic', wk_str, me_ext, me_ins, me_pop, me_idx, me_dget, me_dpop, me_joinl, me_joint, tstF_ap, eltF_ap, op_rept, op_repl, e3, k3, kp, el, e4, q1, em, ne, hc, l1, l2]
          simp only [Option.bind_some, wp_some]; exact hQ _ _ trivial ⟨rs ++ [(p, .tup (.str kd :: q), run)], some (.int (i : Int)), some p, some (.tup (.str kd :: q)), some (.int 1), by simp [rdD, hrun], k4, B4, fin _ (em ▸ V0) run, by simp; omega⟩
      · simp [fin_rt, fin_nx, start, evSs, evS_asg, evS_six, evS_aug, evS_exp, evS_ret, evS_brk, evS_pas, evS_ife, evS_fr, evS_whl, bodyF_ap, testF_ap, tgF_ap, evEs, evAnd, evOr, evTs, evIs, tsE, op_addi, op_subi, op_muli, op_divi, op_modi, op_powi, op_adds, op_addt, op_addl, op_rep, cm_eq, cm_ne, cm_lt, cm_le, cm_gt, cm_ge, cm_is, cm_isn, cm_isb, cm_isnb, cm_in, cm_nin, in_kd, in_tup, in_chr, in_ref, tr_non, tr_bl, tr_int, tr_str, tr_tup, tr_ref, ix_tup, ix_str, ix_kd, ix_ref, ln_str, ln_tup, ln_ref, ty_non, ty_bl, ty_int, ty_str, ty_tup, ty_ref, bf_len, bf_int, bf_intb, bf_tuple, bf_list, bf_str, sq_tup, sq_ref, wk_tup, wk_ref, to_str, to_tup, to_ref, me_app, in_non, in_bl, in_int, in_str, in_tup', in_ref', sl_tup, sl_str, sl_ref, tgA, tgsA, setSl, atI_0, atI_1, atI_2, atI_3, atI_4, List.lookup, isNonE, ptI, mulOk_r, mulOk_l, divOk_s, rngOf_1, rngOf_2, b2i, shp, pq_non_non, pq_non_bl, pq_non_int, pq_non_str, pq_non_tup, pq_bl_non, pq_bl_bl, pq_bl_int, pq_bl_str, pq_bl_tup, pq_int_non, pq_int_bl, pq_int_int, pq_int_str, pq_int_tup, pq_str_non, pq_str_bl, pq_str_int, pq_str_str, pq_str_tup, pq_tup_non, pq_tup_bl, pq_tup_int, pq_tup_str, pq_tup_tup, pqs_nn, pqs_cc, pqs_nc, pqs_cn, pur_non, pur_bl, pur_int, pur_str, pur_tup, pur_ref, pur_fn, pur_kd, purs_n, purs_c, dep_non, dep_bl, dep_int, dep_str, dep_tup, deps_n, deps_c, SZ, evE_non, evE_bl, evE_int, evE_str, evE_lv, evE_gv, evE_tup, evE_lst, evE_bop, evE_neg, evE_not, evE_cmp, evE_cmp2, evE_and, evE_or, evE_ix, evE_sl, evE_call, evE_blt, evE_calv, evE_isi, evE_bm, evE_dnew, evE_mk, evE_cm, evE_fld, evE_lc, evE_lcb, evS_asl, evS_sfl, evS_augf, evS_del, evS_lck, ix_dic', wk_str, me_ext, me_ins, me_pop, me_idx, me_dget, me_dpop, me_joinl, me_joint, tstF_ap, eltF_ap, op_rept, op_repl, e3, k3, kp, el, e4, q0, q1, l1, l2]
        simp only [Option.bind_some, wp_some]; exact hQ _ _ trivial ⟨rs ++ [(p, gt M p, run)], some (.int (i : Int)), some p, some (gt M p), some (.int u), by simp [rdD, hrun], k4, B4, fin _ V0 run, by simp; omega⟩
  · rintro σ' h' rfl ⟨rs, a3, a4, a5, a6, rfl, hm, B, hr, lr⟩
    simp [fin_rt, fin_nx, start, evSs, evS_asg, evS_six, evS_aug, evS_exp, evS_ret, evS_brk, evS_pas, evS_ife, evS_fr, evS_whl, bodyF_ap, testF_ap, tgF_ap, evEs, evAnd, evOr, evTs, evIs, tsE, op_addi, op_subi, op_muli, op_divi, op_modi, op_powi, op_adds, op_addt, op_addl, op_rep, cm_eq, cm_ne, cm_lt, cm_le, cm_gt, cm_ge, cm_is, cm_isn, cm_isb, cm_isnb, cm_in, cm_nin, in_kd, in_tup, in_chr, in_ref, tr_non, tr_bl, tr_int, tr_str, tr_tup, tr_ref, ix_tup, ix_str, ix_kd, ix_ref, ln_str, ln_tup, ln_ref, ty_non, ty_bl, ty_int, ty_str, ty_tup, ty_ref, bf_len, bf_int, bf_intb, bf_tuple, bf_list, bf_str, sq_tup, sq_ref, wk_tup, wk_ref, to_str, to_tup, to_ref, me_app, in_non, in_bl, in_int, in_str, in_tup', in_ref', sl_tup, sl_str, sl_ref, tgA, tgsA, setSl, atI_0, atI_1, atI_2, atI_3, atI_4, List.lookup, isNonE, ptI, mulOk_r, mulOk_l, divOk_s, rngOf_1, rngOf_2, b2i, shp, pq_non_non, pq_non_bl, pq_non_int, pq_non_str, pq_non_tup, pq_bl_non, pq_bl_bl, pq_bl_int, pq_bl_str, pq_bl_tup, pq_int_non, pq_int_bl, pq_int_int, pq_int_str, pq_int_tup, pq_str_non, pq_str_bl, pq_str_int, pq_str_str, pq_str_tup, pq_tup_non, pq_tup_bl, pq_tup_int, pq_tup_str, pq_tup_tup, pqs_nn, pqs_cc, pqs_nc, pqs_cn, pur_non, pur_bl, pur_int, pur_str, pur_tup, pur_ref, pur_fn, pur_kd, purs_n, purs_c, dep_non, dep_bl, dep_int, dep_str, dep_tup, deps_n, deps_c, SZ, evE_non, evE_bl, evE_int, evE_str, evE_lv, evE_gv, evE_tup, evE_lst, evE_bop, evE_neg, evE_not, evE_cmp, evE_cmp2, evE_and, evE_or, evE_ix, evE_sl, evE_call, evE_blt, evE_calv, evE_isi, evE_bm, evE_dnew, evE_mk, evE_cm, evE_fld, evE_lc, evE_lcb, evS_asl, evS_sfl, evS_augf, evS_del, evS_lck, ix_dic', wk_str, me_ext, me_ins, me_pop, me_idx, me_dget, me_dpop, me_joinl, me_joint, tstF_ap, eltF_ap, op_rept, op_repl]
    simp only [Option.bind_some, wp_some]; exact hR _ ⟨rs, rfl, hm, B, hr, by simp at lr; omega⟩
/-- the number of the first reading that finds another value -/
def fw (M : List (D × D)) : List (D × D × D) → Nat → Int
  | [], _ => -1
  | r :: rs, i => if pyeq (gt M r.1) r.2.1 then fw M rs (i + 1) else (i : Int)
theorem rd_at {rs : List (D × D × D)} {i : Nat} {r : D × D × D} (h : rs[i]? = some r) : atI (rs.map rdD) (i : Int) = some (rdD r) := by
  have := (List.getElem?_eq_some_iff.mp h).1
  rw [atI_of (by omega) (by simp; omega)]
  simp [h]
theorem value_at (k : Nat) (hk : 1 ≤ k) (h : LH) (c : Nat) (M : List (D × D)) (hm : h[c]? = some (.dic M)) (p : D) (kp : keyOk p = true) : callN TT.pr k 66858447487367142 [.ref c, p] h = some (gt M p, h) := by
  obtain ⟨k', hk'⟩ : ∃ k', k = k' + 1 := ⟨k - 1, by omega⟩
  subst hk'
  rw [callN_succ fn_value_of rfl]
  simp [fin_rt, fin_nx, start, evSs, evS_asg, evS_six, evS_aug, evS_exp, evS_ret, evS_brk, evS_pas, evS_ife, evS_fr, evS_whl, bodyF_ap, testF_ap, tgF_ap, evEs, evAnd, evOr, evTs, evIs, tsE, op_addi, op_subi, op_muli, op_divi, op_modi, op_powi, op_adds, op_addt, op_addl, op_rep, cm_eq, cm_ne, cm_lt, cm_le, cm_gt, cm_ge, cm_is, cm_isn, cm_isb, cm_isnb, cm_in, cm_nin, in_kd, in_tup, in_chr, in_ref, tr_non, tr_bl, tr_int, tr_str, tr_tup, tr_ref, ix_tup, ix_str, ix_kd, ix_ref, ln_str, ln_tup, ln_ref, ty_non, ty_bl, ty_int, ty_str, ty_tup, ty_ref, bf_len, bf_int, bf_intb, bf_tuple, bf_list, bf_str, sq_tup, sq_ref, wk_tup, wk_ref, to_str, to_tup, to_ref, me_app, in_non, in_bl, in_int, in_str, in_tup', in_ref', sl_tup, sl_str, sl_ref, tgA, tgsA, setSl, atI_0, atI_1, atI_2, atI_3, atI_4, List.lookup, isNonE, ptI, mulOk_r, mulOk_l, divOk_s, rngOf_1, rngOf_2, b2i, shp, pq_non_non, pq_non_bl, pq_non_int, pq_non_str, pq_non_tup, pq_bl_non, pq_bl_bl, pq_bl_int, pq_bl_str, pq_bl_tup, pq_int_non, pq_int_bl, pq_int_int, pq_int_str, pq_int_tup, pq_str_non, pq_str_bl, pq_str_int, pq_str_str, pq_str_tup, pq_tup_non, pq_tup_bl, pq_tup_int, pq_tup_str, pq_tup_tup, pqs_nn, pqs_cc, pqs_nc, pqs_cn, pur_non, pur_bl, pur_int, pur_str, pur_tup, pur_ref, pur_fn, pur_kd, purs_n, purs_c, dep_non, dep_bl, dep_int, dep_str, dep_tup, deps_n, deps_c, SZ, evE_non, evE_bl, evE_int, evE_str, evE_lv, evE_gv, evE_tup, evE_lst, evE_bop, evE_neg, evE_not, evE_cmp, evE_cmp2, evE_and, evE_or, evE_ix, evE_sl, evE_call, evE_blt, evE_calv, evE_isi, evE_bm, evE_dnew, evE_mk, evE_cm, evE_fld, evE_lc, evE_lcb, evS_asl, evS_sfl, evS_augf, evS_del, evS_lck, ix_dic', wk_str, me_ext, me_ins, me_pop, me_idx, me_dget, me_dpop, me_joinl, me_joint, tstF_ap, eltF_ap, op_rept, op_repl, F_value_of, gv_NONE, hm, kp, gt]
theorem first_ok (k : Nat) (hk : 2 ≤ k) (h : LH) (c : Nat) (M : List (D × D)) (hm : h[c]? = some (.dic M)) (g : Gd M) (hv : ∀ p ∈ M, Vl p.2) (rs : List (D × D × D)) (hr : ∀ r ∈ rs, keyOk r.1 = true ∧ Vl r.2.1) (lr : rs.length ≤ 100) : callN TT.pr k 121397079195480426805095 [.tup (rs.map rdD), .ref c] h = some (.int (fw M rs 0), h) := by
  refine (WP.mk (Q := fun r => r = (.int (fw M rs 0), h)) (E := callN TT.pr k 121397079195480426805095 [.tup (rs.map rdD), .ref c] h) fun R hR => ?_).elim fun r e => e.1.trans (congrArg some e.2)
  obtain ⟨k', hk'⟩ : ∃ k', k = k' + 1 := ⟨k - 1, by omega⟩
  subst hk'
  rw [callN_succ fn_first_wrong rfl]
  simp [fin_rt, fin_nx, start, evSs, evS_asg, evS_six, evS_aug, evS_exp, evS_ret, evS_brk, evS_pas, evS_ife, evS_fr, evS_whl, bodyF_ap, testF_ap, tgF_ap, evEs, evAnd, evOr, evTs, evIs, tsE, op_addi, op_subi, op_muli, op_divi, op_modi, op_powi, op_adds, op_addt, op_addl, op_rep, cm_eq, cm_ne, cm_lt, cm_le, cm_gt, cm_ge, cm_is, cm_isn, cm_isb, cm_isnb, cm_in, cm_nin, in_kd, in_tup, in_chr, in_ref, tr_non, tr_bl, tr_int, tr_str, tr_tup, tr_ref, ix_tup, ix_str, ix_kd, ix_ref, ln_str, ln_tup, ln_ref, ty_non, ty_bl, ty_int, ty_str, ty_tup, ty_ref, bf_len, bf_int, bf_intb, bf_tuple, bf_list, bf_str, sq_tup, sq_ref, wk_tup, wk_ref, to_str, to_tup, to_ref, me_app, in_non, in_bl, in_int, in_str, in_tup', in_ref', sl_tup, sl_str, sl_ref, tgA, tgsA, setSl, atI_0, atI_1, atI_2, atI_3, atI_4, List.lookup, isNonE, ptI, mulOk_r, mulOk_l, divOk_s, rngOf_1, rngOf_2, b2i, shp, pq_non_non, pq_non_bl, pq_non_int, pq_non_str, pq_non_tup, pq_bl_non, pq_bl_bl, pq_bl_int, pq_bl_str, pq_bl_tup, pq_int_non, pq_int_bl, pq_int_int, pq_int_str, pq_int_tup, pq_str_non, pq_str_bl, pq_str_int, pq_str_str, pq_str_tup, pq_tup_non, pq_tup_bl, pq_tup_int, pq_tup_str, pq_tup_tup, pqs_nn, pqs_cc, pqs_nc, pqs_cn, pur_non, pur_bl, pur_int, pur_str, pur_tup, pur_ref, pur_fn, pur_kd, purs_n, purs_c, dep_non, dep_bl, dep_int, dep_str, dep_tup, deps_n, deps_c, SZ, evE_non, evE_bl, evE_int, evE_str, evE_lv, evE_gv, evE_tup, evE_lst, evE_bop, evE_neg, evE_not, evE_cmp, evE_cmp2, evE_and, evE_or, evE_ix, evE_sl, evE_call, evE_blt, evE_calv, evE_isi, evE_bm, evE_dnew, evE_mk, evE_cm, evE_fld, evE_lc, evE_lcb, evS_asl, evS_sfl, evS_augf, evS_del, evS_lck, ix_dic', wk_str, me_ext, me_ins, me_pop, me_idx, me_dget, me_dpop, me_joinl, me_joint, tstF_ap, eltF_ap, op_rept, op_repl, F_first_wrong, show rs.length < 4000000 by omega]
  generalize hL : forL _ _ _ _ _ _ _ = L
  refine forL_go2 hL (fun i σ h' => ∃ (a2 a3 a4 a5 : Option D), σ = [some (.tup (rs.map rdD)), some (.ref c), a2, a3, a4, a5] ∧ fw M (rs.drop i) i = fw M rs 0 ∧ h' = h)
    (fun fl σ h' => h' = h ∧ match fl with | .nx => (∃ a2 a3 a4 a5, σ = [some (.tup (rs.map rdD)), some (.ref c), a2, a3, a4, a5]) ∧ fw M rs 0 = -1 | .rt d => d = .int (fw M rs 0) | .bk => False) ⟨_, _, _, _, rfl, rfl, rfl⟩ ?_ ?_ ?_
  · rintro i x σ h' hx0 ⟨a2, a3, a4, a5, rfl, e, rfl⟩ Q hn hb hr'
    clear hL hR hb
    obtain ⟨rfl, hi⟩ := rng_at0 hx0
    obtain ⟨r, hg⟩ : ∃ r, rs[i]? = some r := ⟨rs[i]'(by simpa using hi), List.getElem?_eq_getElem _⟩
    obtain ⟨p, v, run⟩ := r
    obtain ⟨kp, V⟩ := hr _ (List.mem_of_getElem? hg)
    simp only at kp V
    have ra := rd_at hg
    rw [drop_at hg, fw] at e
    simp only at e
    have G := (gt_vl g hv kp).shp
    have V2 := V.shp
    have vo := value_at k' (by omega) h' c M hm p kp
    cases q : pyeq (gt M p) v with
    | true =>
      rw [q] at e
      simp only [if_true] at e
      simp [fin_rt, fin_nx, start, evSs, evS_asg, evS_six, evS_aug, evS_exp, evS_ret, evS_brk, evS_pas, evS_ife, evS_fr, evS_whl, bodyF_ap, testF_ap, tgF_ap, evEs, evAnd, evOr, evTs, evIs, tsE, op_addi, op_subi, op_muli, op_divi, op_modi, op_powi, op_adds, op_addt, op_addl, op_rep, cm_eq, cm_ne, cm_lt, cm_le, cm_gt, cm_ge, cm_is, cm_isn, cm_isb, cm_isnb, cm_in, cm_nin, in_kd, in_tup, in_chr, in_ref, tr_non, tr_bl, tr_int, tr_str, tr_tup, tr_ref, ix_tup, ix_str, ix_kd, ix_ref, ln_str, ln_tup, ln_ref, ty_non, ty_bl, ty_int, ty_str, ty_tup, ty_ref, bf_len, bf_int, bf_intb, bf_tuple, bf_list, bf_str, sq_tup, sq_ref, wk_tup, wk_ref, to_str, to_tup, to_ref, me_app, in_non, in_bl, in_int, in_str, in_tup', in_ref', sl_tup, sl_str, sl_ref, tgA, tgsA, setSl, atI_0, atI_1, atI_2, atI_3, atI_4, List.lookup, isNonE, ptI, mulOk_r, mulOk_l, divOk_s, rngOf_1, rngOf_2, b2i, shp, pq_non_non, pq_non_bl, pq_non_int, pq_non_str, pq_non_tup, pq_bl_non, pq_bl_bl, pq_bl_int, pq_bl_str, pq_bl_tup, pq_int_non, pq_int_bl, pq_int_int, pq_int_str, pq_int_tup, pq_str_non, pq_str_bl, pq_str_int, pq_str_str, pq_str_tup, pq_tup_non, pq_tup_bl, pq_tup_int, pq_tup_str, pq_tup_tup, pqs_nn, pqs_cc, pqs_nc, pqs_cn, pur_non, pur_bl, pur_int, pur_str, pur_tup, pur_ref, pur_fn, pur_kd, purs_n, purs_c, dep_non, dep_bl, dep_int, dep_str, dep_tup, deps_n, deps_c, SZ, evE_non, evE_bl, evE_int, evE_str, evE_lv, evE_gv, evE_tup, evE_lst, evE_bop, evE_neg, evE_not, evE_cmp, evE_cmp2, evE_and, evE_or, evE_ix, evE_sl, evE_call, evE_blt, evE_calv, evE_isi, evE_bm, evE_dnew, evE_mk, evE_cm, evE_fld, evE_lc, evE_lcb, evS_asl, evS_sfl, evS_augf, evS_del, evS_lck, ix_dic', wk_str, me_ext, me_ins, me_pop, me_idx, me_dget, me_dpop, me_joinl, me_joint, tstF_ap, eltF_ap, op_rept, op_repl, ra, rdD, vo, q, G.1, G.2, V2.1, V2.2]
      simp only [Option.bind_some, wp_some]; exact hn _ _ trivial ⟨_, _, _, _, rfl, e, rfl⟩
    | false =>
      rw [q] at e
      simp only [Bool.false_eq_true, if_false] at e
      simp [fin_rt, fin_nx, start, evSs, evS_asg, evS_six, evS_aug, evS_exp, evS_ret, evS_brk, evS_pas, evS_ife, evS_fr, evS_whl, bodyF_ap, testF_ap, tgF_ap, evEs, evAnd, evOr, evTs, evIs, tsE, op_addi, op_subi, op_muli, op_divi, op_modi, op_powi, op_adds, op_addt, op_addl, op_rep, cm_eq, cm_ne, cm_lt, cm_le, cm_gt, cm_ge, cm_is, cm_isn, cm_isb, cm_isnb, cm_in, cm_nin, in_kd, in_tup, in_chr, in_ref, tr_non, tr_bl, tr_int, tr_str, tr_tup, tr_ref, ix_tup, ix_str, ix_kd, ix_ref, ln_str, ln_tup, ln_ref, ty_non, ty_bl, ty_int, ty_str, ty_tup, ty_ref, bf_len, bf_int, bf_intb, bf_tuple, bf_list, bf_str, sq_tup, sq_ref, wk_tup, wk_ref, to_str, to_tup, to_ref, me_app, in_non, in_bl, in_int, in_str, in_tup', in_ref', sl_tup, sl_str, sl_ref, tgA, tgsA, setSl, atI_0, atI_1, atI_2, atI_3, atI_4, List.lookup, isNonE, ptI, mulOk_r, mulOk_l, divOk_s, rngOf_1, rngOf_2, b2i, shp, pq_non_non, pq_non_bl, pq_non_int, pq_non_str, pq_non_tup, pq_bl_non, pq_bl_bl, pq_bl_int, pq_bl_str, pq_bl_tup, pq_int_non, pq_int_bl, pq_int_int, pq_int_str, pq_int_tup, pq_str_non, pq_str_bl, pq_str_int, pq_str_str, pq_str_tup, pq_tup_non, pq_tup_bl, pq_tup_int, pq_tup_str, pq_tup_tup, pqs_nn, pqs_cc, pqs_nc, pqs_cn, pur_non, pur_bl, pur_int, pur_str, pur_tup, pur_ref, pur_fn, pur_kd, purs_n, purs_c, dep_non, dep_bl, dep_int, dep_str, dep_tup, deps_n, deps_c, SZ, evE_non, evE_bl, evE_int, evE_str, evE_lv, evE_gv, evE_tup, evE_lst, evE_bop, evE_neg, evE_not, evE_cmp, evE_cmp2, evE_and, evE_or, evE_ix, evE_sl, evE_call, evE_blt, evE_calv, evE_isi, evE_bm, evE_dnew, evE_mk, evE_cm, evE_fld, evE_lc, evE_lcb, evS_asl, evS_sfl, evS_augf, evS_del, evS_lck, ix_dic', wk_str, me_ext, me_ins, me_pop, me_idx, me_dget, me_dpop, me_joinl, me_joint, tstF_ap, eltF_ap, op_rept, op_repl, ra, rdD, vo, q, G.1, G.2, V2.1, V2.2]
      simp only [Option.bind_some, wp_some]; exact hr' _ _ _ ⟨rfl, by rw [← e]⟩
  · rintro σ h' ⟨a2, a3, a4, a5, rfl, e, rfl⟩
    simp [fw] at e
    exact ⟨rfl, ⟨_, _, _, _, rfl⟩, e.symm⟩
  · rintro fl σ h' rfl ⟨rfl, p⟩
    cases fl with
    | nx =>
      obtain ⟨⟨a2, a3, a4, a5, rfl⟩, p⟩ := p
      simp [fin_rt, fin_nx, start, evSs, evS_asg, evS_six, evS_aug, evS_exp, evS_ret, evS_brk, evS_pas, evS_ife, evS_fr, evS_whl, bodyF_ap, testF_ap, tgF_ap, evEs, evAnd, evOr, evTs, evIs, tsE, op_addi, op_subi, op_muli, op_divi, op_modi, op_powi, op_adds, op_addt, op_addl, op_rep, cm_eq, cm_ne, cm_lt, cm_le, cm_gt, cm_ge, cm_is, cm_isn, cm_isb, cm_isnb, cm_in, cm_nin, in_kd, in_tup, in_chr, in_ref, tr_non, tr_bl, tr_int, tr_str, tr_tup, tr_ref, ix_tup, ix_str, ix_kd, ix_ref, ln_str, ln_tup, ln_ref, ty_non, ty_bl, ty_int, ty_str, ty_tup, ty_ref, bf_len, bf_int, bf_intb, bf_tuple, bf_list, bf_str, sq_tup, sq_ref, wk_tup, wk_ref, to_str, to_tup, to_ref, me_app, in_non, in_bl, in_int, in_str, in_tup', in_ref', sl_tup, sl_str, sl_ref, tgA, tgsA, setSl, atI_0, atI_1, atI_2, atI_3, atI_4, List.lookup, isNonE, ptI, mulOk_r, mulOk_l, divOk_s, rngOf_1, rngOf_2, b2i, shp, pq_non_non, pq_non_bl, pq_non_int, pq_non_str, pq_non_tup, pq_bl_non, pq_bl_bl, pq_bl_int, pq_bl_str, pq_bl_tup, pq_int_non, pq_int_bl, pq_int_int, pq_int_str, pq_int_tup, pq_str_non, pq_str_bl, pq_str_int, pq_str_str, pq_str_tup, pq_tup_non, pq_tup_bl, pq_tup_int, pq_tup_str, pq_tup_tup, pqs_nn, pqs_cc, pqs_nc, pqs_cn, pur_non, pur_bl, pur_int, pur_str, pur_tup, pur_ref, pur_fn, pur_kd, purs_n, purs_c, dep_non, dep_bl, dep_int, dep_str, dep_tup, deps_n, deps_c, SZ, evE_non, evE_bl, evE_int, evE_str, evE_lv, evE_gv, evE_tup, evE_lst, evE_bop, evE_neg, evE_not, evE_cmp, evE_cmp2, evE_and, evE_or, evE_ix, evE_sl, evE_call, evE_blt, evE_calv, evE_isi, evE_bm, evE_dnew, evE_mk, evE_cm, evE_fld, evE_lc, evE_lcb, evS_asl, evS_sfl, evS_augf, evS_del, evS_lck, ix_dic', wk_str, me_ext, me_ins, me_pop, me_idx, me_dget, me_dpop, me_joinl, me_joint, tstF_ap, eltF_ap, op_rept, op_repl]
      simp only [Option.bind_some, wp_some]; exact hR _ (by rw [p])
    | bk => exact p.elim
    | rt d =>
      simp [fin_rt, fin_nx, start, evSs, evS_asg, evS_six, evS_aug, evS_exp, evS_ret, evS_brk, evS_pas, evS_ife, evS_fr, evS_whl, bodyF_ap, testF_ap, tgF_ap, evEs, evAnd, evOr, evTs, evIs, tsE, op_addi, op_subi, op_muli, op_divi, op_modi, op_powi, op_adds, op_addt, op_addl, op_rep, cm_eq, cm_ne, cm_lt, cm_le, cm_gt, cm_ge, cm_is, cm_isn, cm_isb, cm_isnb, cm_in, cm_nin, in_kd, in_tup, in_chr, in_ref, tr_non, tr_bl, tr_int, tr_str, tr_tup, tr_ref, ix_tup, ix_str, ix_kd, ix_ref, ln_str, ln_tup, ln_ref, ty_non, ty_bl, ty_int, ty_str, ty_tup, ty_ref, bf_len, bf_int, bf_intb, bf_tuple, bf_list, bf_str, sq_tup, sq_ref, wk_tup, wk_ref, to_str, to_tup, to_ref, me_app, in_non, in_bl, in_int, in_str, in_tup', in_ref', sl_tup, sl_str, sl_ref, tgA, tgsA, setSl, atI_0, atI_1, atI_2, atI_3, atI_4, List.lookup, isNonE, ptI, mulOk_r, mulOk_l, divOk_s, rngOf_1, rngOf_2, b2i, shp, pq_non_non, pq_non_bl, pq_non_int, pq_non_str, pq_non_tup, pq_bl_non, pq_bl_bl, pq_bl_int, pq_bl_str, pq_bl_tup, pq_int_non, pq_int_bl, pq_int_int, pq_int_str, pq_int_tup, pq_str_non, pq_str_bl, pq_str_int, pq_str_str, pq_str_tup, pq_tup_non, pq_tup_bl, pq_tup_int, pq_tup_str, pq_tup_tup, pqs_nn, pqs_cc, pqs_nc, pqs_cn, pur_non, pur_bl, pur_int, pur_str, pur_tup, pur_ref, pur_fn, pur_kd, purs_n, purs_c, dep_non, dep_bl, dep_int, dep_str, dep_tup, deps_n, deps_c, SZ, evE_non, evE_bl, evE_int, evE_str, evE_lv, evE_gv, evE_tup, evE_lst, evE_bop, evE_neg, evE_not, evE_cmp, evE_cmp2, evE_and, evE_or, evE_ix, evE_sl, evE_call, evE_blt, evE_calv, evE_isi, evE_bm, evE_dnew, evE_mk, evE_cm, evE_fld, evE_lc, evE_lcb, evS_asl, evS_sfl, evS_augf, evS_del, evS_lck, ix_dic', wk_str, me_ext, me_ins, me_pop, me_idx, me_dget, me_dpop, me_joinl, me_joint, tstF_ap, eltF_ap, op_rept, op_repl]
      simp only [Option.bind_some, wp_some]; exact hR _ (by rw [p])
theorem law_true : ∀ ns : List Int, ns.length ≤ 63 → ∃ h', callN TT.pr 100 1782007 [.ref 0] [.scr ns] = some (.bl true, h') := by
  intro ns hn
  suffices H : WP (fun r => r.1 = .bl true) (callN TT.pr 100 1782007 [.ref 0] [.scr ns]) by
    obtain ⟨⟨_, h'⟩, e, rfl⟩ := H
    exact ⟨h', e⟩
  refine WP.mk fun R hR => ?_
  rw [callN_succ fn_law rfl]
  obtain ⟨h1, e1, ds, rfl, hd⟩ := digits 99 (by decide) 0 ns [.scr ns] rfl
  simp [fin_rt, fin_nx, start, evSs, evS_asg, evS_six, evS_aug, evS_exp, evS_ret, evS_brk, evS_pas, evS_ife, evS_fr, evS_whl, bodyF_ap, testF_ap, tgF_ap, evEs, evAnd, evOr, evTs, evIs, tsE, op_addi, op_subi, op_muli, op_divi, op_modi, op_powi, op_adds, op_addt, op_addl, op_rep, cm_eq, cm_ne, cm_lt, cm_le, cm_gt, cm_ge, cm_is, cm_isn, cm_isb, cm_isnb, cm_in, cm_nin, in_kd, in_tup, in_chr, in_ref, tr_non, tr_bl, tr_int, tr_str, tr_tup, tr_ref, ix_tup, ix_str, ix_kd, ix_ref, ln_str, ln_tup, ln_ref, ty_non, ty_bl, ty_int, ty_str, ty_tup, ty_ref, bf_len, bf_int, bf_intb, bf_tuple, bf_list, bf_str, sq_tup, sq_ref, wk_tup, wk_ref, to_str, to_tup, to_ref, me_app, in_non, in_bl, in_int, in_str, in_tup', in_ref', sl_tup, sl_str, sl_ref, tgA, tgsA, setSl, atI_0, atI_1, atI_2, atI_3, atI_4, List.lookup, isNonE, ptI, mulOk_r, mulOk_l, divOk_s, rngOf_1, rngOf_2, b2i, shp, pq_non_non, pq_non_bl, pq_non_int, pq_non_str, pq_non_tup, pq_bl_non, pq_bl_bl, pq_bl_int, pq_bl_str, pq_bl_tup, pq_int_non, pq_int_bl, pq_int_int, pq_int_str, pq_int_tup, pq_str_non, pq_str_bl, pq_str_int, pq_str_str, pq_str_tup, pq_tup_non, pq_tup_bl, pq_tup_int, pq_tup_str, pq_tup_tup, pqs_nn, pqs_cc, pqs_nc, pqs_cn, pur_non, pur_bl, pur_int, pur_str, pur_tup, pur_ref, pur_fn, pur_kd, purs_n, purs_c, dep_non, dep_bl, dep_int, dep_str, dep_tup, deps_n, deps_c, SZ, evE_non, evE_bl, evE_int, evE_str, evE_lv, evE_gv, evE_tup, evE_lst, evE_bop, evE_neg, evE_not, evE_cmp, evE_cmp2, evE_and, evE_or, evE_ix, evE_sl, evE_call, evE_blt, evE_calv, evE_isi, evE_bm, evE_dnew, evE_mk, evE_cm, evE_fld, evE_lc, evE_lcb, evS_asl, evS_sfl, evS_augf, evS_del, evS_lck, ix_dic', wk_str, me_ext, me_ins, me_pop, me_idx, me_dget, me_dpop, me_joinl, me_joint, tstF_ap, eltF_ap, op_rept, op_repl, F_law, e1, alloc]
  generalize hL : forL _ _ _ _ _ _ _ = L
  refine forL_go hL (fun i σ h' => ∃ (a2 a3 a4 a5 a6 a7 a8 : Option D), σ = [some (.ref 0), some (.ref 2), a2, a3, a4, a5, a6, a7, a8] ∧ Bx h' 2 1) ⟨_, _, _, _, _, _, _, rfl, ds, 0, rfl, rfl, by decide, hd⟩ ?_ ?_
  · rintro i x σ h' hx ⟨a2, a3, a4, a5, a6, a7, a8, rfl, B⟩ Q hQ
    clear hL hR hx
    have lb : 2 < h'.length := by obtain ⟨_, _, e, _⟩ := B; exact lt_of_get e
    obtain ⟨M, h2, e2, m2, B2, g, hv, lm⟩ := memory_ok 99 (by decide) h' 2 1 B
    obtain ⟨c, hc⟩ : ∃ c, c = h'.length := ⟨_, rfl⟩
    rw [← hc] at e2 m2
    obtain ⟨rs, h3, e3, m3, B3, hr, lr⟩ := readings_ok 99 (by decide) h2 2 1 c (by omega) B2 M m2 g hv
    simp [fin_rt, fin_nx, start, evSs, evS_asg, evS_six, evS_aug, evS_exp, evS_ret, evS_brk, evS_pas, evS_ife, evS_fr, evS_whl, bodyF_ap, testF_ap, tgF_ap, evEs, evAnd, evOr, evTs, evIs, tsE, op_addi, op_subi, op_muli, op_divi, op_modi, op_powi, op_adds, op_addt, op_addl, op_rep, cm_eq, cm_ne, cm_lt, cm_le, cm_gt, cm_ge, cm_is, cm_isn, cm_isb, cm_isnb, cm_in, cm_nin, in_kd, in_tup, in_chr, in_ref, tr_non, tr_bl, tr_int, tr_str, tr_tup, tr_ref, ix_tup, ix_str, ix_kd, ix_ref, ln_str, ln_tup, ln_ref, ty_non, ty_bl, ty_int, ty_str, ty_tup, ty_ref, bf_len, bf_int, bf_intb, bf_tuple, bf_list, bf_str, sq_tup, sq_ref, wk_tup, wk_ref, to_str, to_tup, to_ref, me_app, in_non, in_bl, in_int, in_str, in_tup', in_ref', sl_tup, sl_str, sl_ref, tgA, tgsA, setSl, atI_0, atI_1, atI_2, atI_3, atI_4, List.lookup, isNonE, ptI, mulOk_r, mulOk_l, divOk_s, rngOf_1, rngOf_2, b2i, shp, pq_non_non, pq_non_bl, pq_non_int, pq_non_str, pq_non_tup, pq_bl_non, pq_bl_bl, pq_bl_int, pq_bl_str, pq_bl_tup, pq_int_non, pq_int_bl, pq_int_int, pq_int_str, pq_int_tup, pq_str_non, pq_str_bl, pq_str_int, pq_str_str, pq_str_tup, pq_tup_non, pq_tup_bl, pq_tup_int, pq_tup_str, pq_tup_tup, pqs_nn, pqs_cc, pqs_nc, pqs_cn, pur_non, pur_bl, pur_int, pur_str, pur_tup, pur_ref, pur_fn, pur_kd, purs_n, purs_c, dep_non, dep_bl, dep_int, dep_str, dep_tup, deps_n, deps_c, SZ, evE_non, evE_bl, evE_int, evE_str, evE_lv, evE_gv, evE_tup, evE_lst, evE_bop, evE_neg, evE_not, evE_cmp, evE_cmp2, evE_and, evE_or, evE_ix, evE_sl, evE_call, evE_blt, evE_calv, evE_isi, evE_bm, evE_dnew, evE_mk, evE_cm, evE_fld, evE_lc, evE_lcb, evS_asl, evS_sfl, evS_augf, evS_del, evS_lck, ix_dic', wk_str, me_ext, me_ins, me_pop, me_idx, me_dget, me_dpop, me_joinl, me_joint, tstF_ap, eltF_ap, op_rept, op_repl, e2, e3, show rs.length < 4000000 by omega]
    generalize hL : forL _ _ _ _ _ _ _ = L
    refine forL_go hL (fun i σ h'' => ∃ (m : Int) (a6 : Option D), σ = [some (.ref 0), some (.ref 2), some x, some (.ref c), some (.tup (rs.map rdD)), some (.int m), a6, a7, a8] ∧ h'' = h3 ∧ ((m = -1 ∧ fw M (rs.drop i) i = fw M rs 0) ∨ (m ≠ -1 ∧ m = fw M rs 0))) ⟨-1, _, rfl, rfl, .inl ⟨rfl, rfl⟩⟩ ?_ ?_
    · rintro i x2 σ h'' hx ⟨m, a6, rfl, rfl, iv⟩ Q2 hQ2
      obtain ⟨rfl, hi⟩ := rng_at0 hx
      clear hL hQ hx
      obtain ⟨r, hg⟩ : ∃ r, rs[i]? = some r := ⟨rs[i]'(by simpa using hi), List.getElem?_eq_getElem _⟩
      obtain ⟨p, v, run⟩ := r
      obtain ⟨kp, V⟩ := hr _ (List.mem_of_getElem? hg)
      simp only at kp V
      have ra := rd_at hg
      rcases iv with ⟨rfl, e⟩ | ⟨hm1, e⟩
      · rw [drop_at hg, fw] at e
        simp only at e
        have G := gt_vl g hv kp
        have sm1 := samg 99 2 (by decide) (by decide) (gt M p) v h'' G.okd2 V.okd2
        rw [sm_pyeq G V] at sm1
        have el : (dLook M p).getD (.tup [.str [110,111,110,101]]) = gt M p := rfl
        cases q : pyeq (gt M p) v with
        | true =>
          rw [q] at e sm1
          simp only [if_true] at e
          simp [fin_rt, fin_nx, start, evSs, evS_asg, evS_six, evS_aug, evS_exp, evS_ret, evS_brk, evS_pas, evS_ife, evS_fr, evS_whl, bodyF_ap, testF_ap, tgF_ap, evEs, evAnd, evOr, evTs, evIs, tsE, op_addi, op_subi, op_muli, op_divi, op_modi, op_powi, op_adds, op_addt, op_addl, op_rep, cm_eq, cm_ne, cm_lt, cm_le, cm_gt, cm_ge, cm_is, cm_isn, cm_isb, cm_isnb, cm_in, cm_nin, in_kd, in_tup, in_chr, in_ref, tr_non, tr_bl, tr_int, tr_str, tr_tup, tr_ref, ix_tup, ix_str, ix_kd, ix_ref, ln_str, ln_tup, ln_ref, ty_non, ty_bl, ty_int, ty_str, ty_tup, ty_ref, bf_len, bf_int, bf_intb, bf_tuple, bf_list, bf_str, sq_tup, sq_ref, wk_tup, wk_ref, to_str, to_tup, to_ref, me_app, in_non, in_bl, in_int, in_str, in_tup', in_ref', sl_tup, sl_str, sl_ref, tgA, tgsA, setSl, atI_0, atI_1, atI_2, atI_3, atI_4, List.lookup, isNonE, ptI, mulOk_r, mulOk_l, divOk_s, rngOf_1, rngOf_2, b2i, shp, pq_non_non, pq_non_bl, pq_non_int, pq_non_str, pq_non_tup, pq_bl_non, pq_bl_bl, pq_bl_int, pq_bl_str, pq_bl_tup, pq_int_non, pq_int_bl, pq_int_int, pq_int_str, pq_int_tup, pq_str_non, pq_str_bl, pq_str_int, pq_str_str, pq_str_tup, pq_tup_non, pq_tup_bl, pq_tup_int, pq_tup_str, pq_tup_tup, pqs_nn, pqs_cc, pqs_nc, pqs_cn, pur_non, pur_bl, pur_int, pur_str, pur_tup, pur_ref, pur_fn, pur_kd, purs_n, purs_c, dep_non, dep_bl, dep_int, dep_str, dep_tup, deps_n, deps_c, SZ, evE_non, evE_bl, evE_int, evE_str, evE_lv, evE_gv, evE_tup, evE_lst, evE_bop, evE_neg, evE_not, evE_cmp, evE_cmp2, evE_and, evE_or, evE_ix, evE_sl, evE_call, evE_blt, evE_calv, evE_isi, evE_bm, evE_dnew, evE_mk, evE_cm, evE_fld, evE_lc, evE_lcb, evS_asl, evS_sfl, evS_augf, evS_del, evS_lck, ix_dic', wk_str, me_ext, me_ins, me_pop, me_idx, me_dget, me_dpop, me_joinl, me_joint, tstF_ap, eltF_ap, op_rept, op_repl, ra, rdD, m3, kp, el, sm1]
          simp only [Option.bind_some, wp_some]; exact hQ2 _ _ trivial ⟨-1, _, rfl, rfl, .inl ⟨rfl, e⟩⟩
        | false =>
          rw [q] at e sm1
          simp only [Bool.false_eq_true, if_false] at e
          simp [fin_rt, fin_nx, start, evSs, evS_asg, evS_six, evS_aug, evS_exp, evS_ret, evS_brk, evS_pas, evS_ife, evS_fr, evS_whl, bodyF_ap, testF_ap, tgF_ap, evEs, evAnd, evOr, evTs, evIs, tsE, op_addi, op_subi, op_muli, op_divi, op_modi, op_powi, op_adds, op_addt, op_addl, op_rep, cm_eq, cm_ne, cm_lt, cm_le, cm_gt, cm_ge, cm_is, cm_isn, cm_isb, cm_isnb, cm_in, cm_nin, in_kd, in_tup, in_chr, in_ref, tr_non, tr_bl, tr_int, tr_str, tr_tup, tr_ref, ix_tup, ix_str, ix_kd, ix_ref, ln_str, ln_tup, ln_ref, ty_non, ty_bl, ty_int, ty_str, ty_tup, ty_ref, bf_len, bf_int, bf_intb, bf_tuple, bf_list, bf_str, sq_tup, sq_ref, wk_tup, wk_ref, to_str, to_tup, to_ref, me_app, in_non, in_bl, in_int, in_str, in_tup', in_ref', sl_tup, sl_str, sl_ref, tgA, tgsA, setSl, atI_0, atI_1, atI_2, atI_3, atI_4, List.lookup, isNonE, ptI, mulOk_r, mulOk_l, divOk_s, rngOf_1, rngOf_2, b2i, shp, pq_non_non, pq_non_bl, pq_non_int, pq_non_str, pq_non_tup, pq_bl_non, pq_bl_bl, pq_bl_int, pq_bl_str, pq_bl_tup, pq_int_non, pq_int_bl, pq_int_int, pq_int_str, pq_int_tup, pq_str_non, pq_str_bl, pq_str_int, pq_str_str, pq_str_tup, pq_tup_non, pq_tup_bl, pq_tup_int, pq_tup_str, pq_tup_tup, pqs_nn, pqs_cc, pqs_nc, pqs_cn, pur_non, pur_bl, pur_int, pur_str, pur_tup, pur_ref, pur_fn, pur_kd, purs_n, purs_c, dep_non, dep_bl, dep_int, dep_str, dep_tup, deps_n, deps_c, SZ, evE_non, evE_bl, evE_int, evE_str, evE_lv, evE_gv, evE_tup, evE_lst, evE_bop, evE_neg, evE_not, evE_cmp, evE_cmp2, evE_and, evE_or, evE_ix, evE_sl, evE_call, evE_blt, evE_calv, evE_isi, evE_bm, evE_dnew, evE_mk, evE_cm, evE_fld, evE_lc, evE_lcb, evS_asl, evS_sfl, evS_augf, evS_del, evS_lck, ix_dic', wk_str, me_ext, me_ins, me_pop, me_idx, me_dget, me_dpop, me_joinl, me_joint, tstF_ap, eltF_ap, op_rept, op_repl, ra, rdD, m3, kp, el, sm1]
          simp only [Option.bind_some, wp_some]; exact hQ2 _ _ trivial ⟨(i : Int), _, rfl, rfl, .inr ⟨by omega, e⟩⟩
      · simp [fin_rt, fin_nx, start, evSs, evS_asg, evS_six, evS_aug, evS_exp, evS_ret, evS_brk, evS_pas, evS_ife, evS_fr, evS_whl, bodyF_ap, testF_ap, tgF_ap, evEs, evAnd, evOr, evTs, evIs, tsE, op_addi, op_subi, op_muli, op_divi, op_modi, op_powi, op_adds, op_addt, op_addl, op_rep, cm_eq, cm_ne, cm_lt, cm_le, cm_gt, cm_ge, cm_is, cm_isn, cm_isb, cm_isnb, cm_in, cm_nin, in_kd, in_tup, in_chr, in_ref, tr_non, tr_bl, tr_int, tr_str, tr_tup, tr_ref, ix_tup, ix_str, ix_kd, ix_ref, ln_str, ln_tup, ln_ref, ty_non, ty_bl, ty_int, ty_str, ty_tup, ty_ref, bf_len, bf_int, bf_intb, bf_tuple, bf_list, bf_str, sq_tup, sq_ref, wk_tup, wk_ref, to_str, to_tup, to_ref, me_app, in_non, in_bl, in_int, in_str, in_tup', in_ref', sl_tup, sl_str, sl_ref, tgA, tgsA, setSl, atI_0, atI_1, atI_2, atI_3, atI_4, List.lookup, isNonE, ptI, mulOk_r, mulOk_l, divOk_s, rngOf_1, rngOf_2, b2i, shp, pq_non_non, pq_non_bl, pq_non_int, pq_non_str, pq_non_tup, pq_bl_non, pq_bl_bl, pq_bl_int, pq_bl_str, pq_bl_tup, pq_int_non, pq_int_bl, pq_int_int, pq_int_str, pq_int_tup, pq_str_non, pq_str_bl, pq_str_int, pq_str_str, pq_str_tup, pq_tup_non, pq_tup_bl, pq_tup_int, pq_tup_str, pq_tup_tup, pqs_nn, pqs_cc, pqs_nc, pqs_cn, pur_non, pur_bl, pur_int, pur_str, pur_tup, pur_ref, pur_fn, pur_kd, purs_n, purs_c, dep_non, dep_bl, dep_int, dep_str, dep_tup, deps_n, deps_c, SZ, evE_non, evE_bl, evE_int, evE_str, evE_lv, evE_gv, evE_tup, evE_lst, evE_bop, evE_neg, evE_not, evE_cmp, evE_cmp2, evE_and, evE_or, evE_ix, evE_sl, evE_call, evE_blt, evE_calv, evE_isi, evE_bm, evE_dnew, evE_mk, evE_cm, evE_fld, evE_lc, evE_lcb, evS_asl, evS_sfl, evS_augf, evS_del, evS_lck, ix_dic', wk_str, me_ext, me_ins, me_pop, me_idx, me_dget, me_dpop, me_joinl, me_joint, tstF_ap, eltF_ap, op_rept, op_repl, hm1]
        simp only [Option.bind_some, wp_some]; exact hQ2 _ _ trivial ⟨m, _, rfl, rfl, .inr ⟨hm1, e⟩⟩
    · rintro σ' h'' rfl ⟨m, a6, rfl, rfl, iv⟩
      clear hL
      have em : m = fw M rs 0 := by
        rcases iv with ⟨rfl, e⟩ | ⟨_, e⟩
        · simp [fw] at e; exact e
        · exact e
      obtain ⟨b, hb⟩ : ∃ b, b = h''.length := ⟨_, rfl⟩
      have lc := lt_of_get m3
      have bc : b ≠ c := by omega
      obtain ⟨H, hH⟩ : ∃ H, H = h'' ++ [LO.dic []] := ⟨_, rfl⟩
      have Hc : H[c]? = some (.dic M) := by rw [hH, List.getElem?_append_left lc]; exact m3
      have Hb : H[b]? = some (.dic []) := by rw [hH, hb]; simp
      obtain ⟨H1, hH1⟩ : ∃ H1, H1 = H.set c (.dlk M) := ⟨_, rfl⟩
      have H1c : H1[c]? = some (.dlk M) := by rw [hH1]; exact lk_same (lt_of_get Hc)
      have H1b : H1[b]? = some (.dic []) := by rw [hH1, lk_ne bc]; exact Hb
      have lb1 := lt_of_get H1b
      simp [fin_rt, fin_nx, start, evSs, evS_asg, evS_six, evS_aug, evS_exp, evS_ret, evS_brk, evS_pas, evS_ife, evS_fr, evS_whl, bodyF_ap, testF_ap, tgF_ap, evEs, evAnd, evOr, evTs, evIs, tsE, op_addi, op_subi, op_muli, op_divi, op_modi, op_powi, op_adds, op_addt, op_addl, op_rep, cm_eq, cm_ne, cm_lt, cm_le, cm_gt, cm_ge, cm_is, cm_isn, cm_isb, cm_isnb, cm_in, cm_nin, in_kd, in_tup, in_chr, in_ref, tr_non, tr_bl, tr_int, tr_str, tr_tup, tr_ref, ix_tup, ix_str, ix_kd, ix_ref, ln_str, ln_tup, ln_ref, ty_non, ty_bl, ty_int, ty_str, ty_tup, ty_ref, bf_len, bf_int, bf_intb, bf_tuple, bf_list, bf_str, sq_tup, sq_ref, wk_tup, wk_ref, to_str, to_tup, to_ref, me_app, in_non, in_bl, in_int, in_str, in_tup', in_ref', sl_tup, sl_str, sl_ref, tgA, tgsA, setSl, atI_0, atI_1, atI_2, atI_3, atI_4, List.lookup, isNonE, ptI, mulOk_r, mulOk_l, divOk_s, rngOf_1, rngOf_2, b2i, shp, pq_non_non, pq_non_bl, pq_non_int, pq_non_str, pq_non_tup, pq_bl_non, pq_bl_bl, pq_bl_int, pq_bl_str, pq_bl_tup, pq_int_non, pq_int_bl, pq_int_int, pq_int_str, pq_int_tup, pq_str_non, pq_str_bl, pq_str_int, pq_str_str, pq_str_tup, pq_tup_non, pq_tup_bl, pq_tup_int, pq_tup_str, pq_tup_tup, pqs_nn, pqs_cc, pqs_nc, pqs_cn, pur_non, pur_bl, pur_int, pur_str, pur_tup, pur_ref, pur_fn, pur_kd, purs_n, purs_c, dep_non, dep_bl, dep_int, dep_str, dep_tup, deps_n, deps_c, SZ, evE_non, evE_bl, evE_int, evE_str, evE_lv, evE_gv, evE_tup, evE_lst, evE_bop, evE_neg, evE_not, evE_cmp, evE_cmp2, evE_and, evE_or, evE_ix, evE_sl, evE_call, evE_blt, evE_calv, evE_isi, evE_bm, evE_dnew, evE_mk, evE_cm, evE_fld, evE_lc, evE_lcb, evS_asl, evS_sfl, evS_augf, evS_del, evS_lck, ix_dic', wk_str, me_ext, me_ins, me_pop, me_idx, me_dget, me_dpop, me_joinl, me_joint, tstF_ap, eltF_ap, op_rept, op_repl, alloc, ← hb, ← hH, Hc, ← hH1, H1c]
      generalize hL : forL _ _ _ _ _ _ _ = L
      refine forL_go hL (fun i σ h5 => ∃ (a8 : Option D), σ = [some (.ref 0), some (.ref 2), some x, some (.ref c), some (.tup (rs.map rdD)), some (.int m), a6, some (.ref b), a8] ∧ h5 = setDic H1 b (M.take i)) ⟨_, rfl, (setD_id H1b).symm⟩ ?_ ?_
      · rintro i x2 σ h5 hx ⟨a8, rfl, rfl⟩ Q2 hQ2
        clear hL hQ
        rw [List.getElem?_map] at hx
        cases hg : M[i]? with
        | none => rw [hg] at hx; cases hx
        | some p =>
          rw [hg] at hx
          cases hx
          have hmm := List.mem_of_getElem? hg
          have kp := g.2 p hmm
          have lk : dLook M p.1 = some p.2 := (look_some g kp).mpr hmm
          have tp := take_put g hg
          have f3 : (setDic H1 b (M.take i))[c]? = some (.dlk M) := by rw [setD_ne (Ne.symm bc)]; exact H1c
          have fc : (setDic H1 b (M.take i))[b]? = some (.dic (M.take i)) := setD_same lb1
          have lt : (M.take i).length < 16777216 := by simp; omega
          obtain ⟨G, hG⟩ : ∃ G, G = setDic H1 b (M.take i) := ⟨_, rfl⟩
          obtain ⟨N, hN⟩ : ∃ N, N = M.take i := ⟨_, rfl⟩
          rw [← hG] at f3 fc
          rw [← hN] at lt tp fc
          rw [← hG]
          have sG : setDic G b (dPut N p.1 p.2) = setDic H1 b (M.take (i + 1)) := by rw [hG, setD_setD, tp]
          obtain ⟨ks, hks⟩ : ∃ ks, p.1 = .tup ks := by
            cases q : p.1 with
            | tup ks => exact ⟨ks, rfl⟩
            | _ => rw [q] at kp; cases kp
          rw [hks] at kp lk sG
          simp [fin_rt, fin_nx, start, evSs, evS_asg, evS_six, evS_aug, evS_exp, evS_ret, evS_brk, evS_pas, evS_ife, evS_fr, evS_whl, bodyF_ap, testF_ap, tgF_ap, evEs, evAnd, evOr, evTs, evIs, tsE, op_addi, op_subi, op_muli, op_divi, op_modi, op_powi, op_adds, op_addt, op_addl, op_rep, cm_eq, cm_ne, cm_lt, cm_le, cm_gt, cm_ge, cm_is, cm_isn, cm_isb, cm_isnb, cm_in, cm_nin, in_kd, in_tup, in_chr, in_ref, tr_non, tr_bl, tr_int, tr_str, tr_tup, tr_ref, ix_tup, ix_str, ix_kd, ix_ref, ln_str, ln_tup, ln_ref, ty_non, ty_bl, ty_int, ty_str, ty_tup, ty_ref, bf_len, bf_int, bf_intb, bf_tuple, bf_list, bf_str, sq_tup, sq_ref, wk_tup, wk_ref, to_str, to_tup, to_ref, me_app, in_non, in_bl, in_int, in_str, in_tup', in_ref', sl_tup, sl_str, sl_ref, tgA, tgsA, setSl, atI_0, atI_1, atI_2, atI_3, atI_4, List.lookup, isNonE, ptI, mulOk_r, mulOk_l, divOk_s, rngOf_1, rngOf_2, b2i, shp, pq_non_non, pq_non_bl, pq_non_int, pq_non_str, pq_non_tup, pq_bl_non, pq_bl_bl, pq_bl_int, pq_bl_str, pq_bl_tup, pq_int_non, pq_int_bl, pq_int_int, pq_int_str, pq_int_tup, pq_str_non, pq_str_bl, pq_str_int, pq_str_str, pq_str_tup, pq_tup_non, pq_tup_bl, pq_tup_int, pq_tup_str, pq_tup_tup, pqs_nn, pqs_cc, pqs_nc, pqs_cn, pur_non, pur_bl, pur_int, pur_str, pur_tup, pur_ref, pur_fn, pur_kd, purs_n, purs_c, dep_non, dep_bl, dep_int, dep_str, dep_tup, deps_n, deps_c, SZ, evE_non, evE_bl, evE_int, evE_str, evE_lv, evE_gv, evE_tup, evE_lst, evE_bop, evE_neg, evE_not, evE_cmp, evE_cmp2, evE_and, evE_or, evE_ix, evE_sl, evE_call, evE_blt, evE_calv, evE_isi, evE_bm, evE_dnew, evE_mk, evE_cm, evE_fld, evE_lc, evE_lcb, evS_asl, evS_sfl, evS_augf, evS_del, evS_lck, ix_dic', wk_str, me_ext, me_ins, me_pop, me_idx, me_dget, me_dpop, me_joinl, me_joint, tstF_ap, eltF_ap, op_rept, op_repl, hks, f3, fc, kp, lk, lt, sG]
          simp only [Option.bind_some, wp_some]; exact hQ2 _ _ trivial ⟨_, rfl, rfl⟩
      · rintro σ' h5 rfl ⟨a8, rfl, rfl⟩
        clear hL
        have et : M.take (M.map (·.1)).length = M := by simp
        rw [et]
        obtain ⟨K, hK⟩ : ∃ K, K = setDic (setDic H1 b M) c M := ⟨_, rfl⟩
        have f3 : (setDic H1 b M)[c]? = some (.dlk M) := by rw [setD_ne (Ne.symm bc)]; exact H1c
        have K3 : K[c]? = some (.dic M) := by rw [hK]; exact setD_same (by rw [setD_len]; exact lt_of_get H1c)
        have Kb : K[b]? = some (.dic M) := by rw [hK, setD_ne bc]; exact setD_same lb1
        have BK : Bx K 2 1 := by
          obtain ⟨ds, t, f1, f2, f3, f4⟩ := B3
          have l2 := lt_of_get f1
          have l1 := lt_of_get f2
          have c1 : ∀ j, j < h''.length → j ≠ c → K[j]? = h''[j]? := fun j hj hjc => by
            rw [hK, setD_ne hjc, setD_ne (by omega), hH1, lk_ne hjc, hH, List.getElem?_append_left hj]
          exact ⟨ds, t, by rw [c1 2 l2 (by omega)]; exact f1, by rw [c1 1 l1 (by omega)]; exact f2, f3, f4⟩
        have p1 := first_ok 99 (by decide) K c M K3 g hv rs hr (by omega)
        have p2 := same 99 0 (by decide) (.int (fw M rs 0)) K rfl
        have p3 := same_mem 99 (by decide) K c b (Ne.symm bc) M K3 Kb g (fun q hq => (hv q hq).okd2) (by omega)
        subst em
        simp [fin_rt, fin_nx, start, evSs, evS_asg, evS_six, evS_aug, evS_exp, evS_ret, evS_brk, evS_pas, evS_ife, evS_fr, evS_whl, bodyF_ap, testF_ap, tgF_ap, evEs, evAnd, evOr, evTs, evIs, tsE, op_addi, op_subi, op_muli, op_divi, op_modi, op_powi, op_adds, op_addt, op_addl, op_rep, cm_eq, cm_ne, cm_lt, cm_le, cm_gt, cm_ge, cm_is, cm_isn, cm_isb, cm_isnb, cm_in, cm_nin, in_kd, in_tup, in_chr, in_ref, tr_non, tr_bl, tr_int, tr_str, tr_tup, tr_ref, ix_tup, ix_str, ix_kd, ix_ref, ln_str, ln_tup, ln_ref, ty_non, ty_bl, ty_int, ty_str, ty_tup, ty_ref, bf_len, bf_int, bf_intb, bf_tuple, bf_list, bf_str, sq_tup, sq_ref, wk_tup, wk_ref, to_str, to_tup, to_ref, me_app, in_non, in_bl, in_int, in_str, in_tup', in_ref', sl_tup, sl_str, sl_ref, tgA, tgsA, setSl, atI_0, atI_1, atI_2, atI_3, atI_4, List.lookup, isNonE, ptI, mulOk_r, mulOk_l, divOk_s, rngOf_1, rngOf_2, b2i, shp, pq_non_non, pq_non_bl, pq_non_int, pq_non_str, pq_non_tup, pq_bl_non, pq_bl_bl, pq_bl_int, pq_bl_str, pq_bl_tup, pq_int_non, pq_int_bl, pq_int_int, pq_int_str, pq_int_tup, pq_str_non, pq_str_bl, pq_str_int, pq_str_str, pq_str_tup, pq_tup_non, pq_tup_bl, pq_tup_int, pq_tup_str, pq_tup_tup, pqs_nn, pqs_cc, pqs_nc, pqs_cn, pur_non, pur_bl, pur_int, pur_str, pur_tup, pur_ref, pur_fn, pur_kd, purs_n, purs_c, dep_non, dep_bl, dep_int, dep_str, dep_tup, deps_n, deps_c, SZ, evE_non, evE_bl, evE_int, evE_str, evE_lv, evE_gv, evE_tup, evE_lst, evE_bop, evE_neg, evE_not, evE_cmp, evE_cmp2, evE_and, evE_or, evE_ix, evE_sl, evE_call, evE_blt, evE_calv, evE_isi, evE_bm, evE_dnew, evE_mk, evE_cm, evE_fld, evE_lc, evE_lcb, evS_asl, evS_sfl, evS_augf, evS_del, evS_lck, ix_dic', wk_str, me_ext, me_ins, me_pop, me_idx, me_dget, me_dpop, me_joinl, me_joint, tstF_ap, eltF_ap, op_rept, op_repl, f3, ← hK, p1, p2, p3]
        simp only [Option.bind_some, wp_some]; exact hQ _ _ trivial ⟨_, _, _, _, _, _, _, rfl, BK⟩
  · rintro σ' h' rfl ⟨a2, a3, a4, a5, a6, a7, a8, rfl, B⟩
    simp [fin_rt, fin_nx, start, evSs, evS_asg, evS_six, evS_aug, evS_exp, evS_ret, evS_brk, evS_pas, evS_ife, evS_fr, evS_whl, bodyF_ap, testF_ap, tgF_ap, evEs, evAnd, evOr, evTs, evIs, tsE, op_addi, op_subi, op_muli, op_divi, op_modi, op_powi, op_adds, op_addt, op_addl, op_rep, cm_eq, cm_ne, cm_lt, cm_le, cm_gt, cm_ge, cm_is, cm_isn, cm_isb, cm_isnb, cm_in, cm_nin, in_kd, in_tup, in_chr, in_ref, tr_non, tr_bl, tr_int, tr_str, tr_tup, tr_ref, ix_tup, ix_str, ix_kd, ix_ref, ln_str, ln_tup, ln_ref, ty_non, ty_bl, ty_int, ty_str, ty_tup, ty_ref, bf_len, bf_int, bf_intb, bf_tuple, bf_list, bf_str, sq_tup, sq_ref, wk_tup, wk_ref, to_str, to_tup, to_ref, me_app, in_non, in_bl, in_int, in_str, in_tup', in_ref', sl_tup, sl_str, sl_ref, tgA, tgsA, setSl, atI_0, atI_1, atI_2, atI_3, atI_4, List.lookup, isNonE, ptI, mulOk_r, mulOk_l, divOk_s, rngOf_1, rngOf_2, b2i, shp, pq_non_non, pq_non_bl, pq_non_int, pq_non_str, pq_non_tup, pq_bl_non, pq_bl_bl, pq_bl_int, pq_bl_str, pq_bl_tup, pq_int_non, pq_int_bl, pq_int_int, pq_int_str, pq_int_tup, pq_str_non, pq_str_bl, pq_str_int, pq_str_str, pq_str_tup, pq_tup_non, pq_tup_bl, pq_tup_int, pq_tup_str, pq_tup_tup, pqs_nn, pqs_cc, pqs_nc, pqs_cn, pur_non, pur_bl, pur_int, pur_str, pur_tup, pur_ref, pur_fn, pur_kd, purs_n, purs_c, dep_non, dep_bl, dep_int, dep_str, dep_tup, deps_n, deps_c, SZ, evE_non, evE_bl, evE_int, evE_str, evE_lv, evE_gv, evE_tup, evE_lst, evE_bop, evE_neg, evE_not, evE_cmp, evE_cmp2, evE_and, evE_or, evE_ix, evE_sl, evE_call, evE_blt, evE_calv, evE_isi, evE_bm, evE_dnew, evE_mk, evE_cm, evE_fld, evE_lc, evE_lcb, evS_asl, evS_sfl, evS_augf, evS_del, evS_lck, ix_dic', wk_str, me_ext, me_ins, me_pop, me_idx, me_dget, me_dpop, me_joinl, me_joint, tstF_ap, eltF_ap, op_rept, op_repl]
    simp only [Option.bind_some, wp_some]; exact (hR _ rfl)

end K46
end FK
end

open PySem PySem.W PyProof.Rows
set_option maxRecDepth 100000 in
set_option maxHeartbeats 0 in
theorem PySem.Challenge.cw_foretask_k46_the_first_wrong_reading_holds : PySem.Challenge.rw_foretask_k46_the_first_wrong_reading.Holds := by
  w_on; o_law; k_head; (case hw => w_witness2)
  k_fill
  refine L2.walk_of (l := PySem.Challenge.rw_foretask_k46_the_first_wrong_reading) (n := 63) (k := 2 * 100) (x := "_law_script") (CX := fun _ => L2.CX0) (sp := fun w => FK.spLaw _) rfl (by decide) rfl ⟨rfl, by decide, by decide⟩ (fun w h Y => PySem.W.kIn_of Y) ?F (fun _ _ a ns hl hO hS => ⟨a, ns, rfl, hl, hO, hS, fun _ => rfl⟩) (fun _ _ _ _ _ h => h)
  case F =>
    intro w mg fa h KX G hmg
    refine' FK.law_all (T := FK.K46.TT) (k := 100) (F := FK.K46.F_law) (x := 1782007) KX G hmg ?_ ?_ (by rfl) rfl FK.K46.law_true ?_ ?_ ?_ ?_ ?_ ?_ (by decide)
    · kernel_rfl
    · kernel_rfl
    · kernel_rfl
    · kernel_rfl
    · kernel_rfl
    · kernel_rfl
    · kernel_rfl
    · kernel_rfl
