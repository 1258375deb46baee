import PyProof.Rows.All
import Wide.All
import OpenK.AllK
import Wide.FinOn
import HandS.ForMost
import HandS.Wide
import HandS.TupAny
import HandS.Deep
import HandS.IsInst
import HandS.CallLocal
import HandS.Flow
import HandS.More
import HandS.Strs
import HandS.Iter
import HandS.CallRecv
import KE.KDictKeyed
import KE.KDictLaw
import HandS.TupMul
import HandS.TupLen
import HandS.Defaults
import PySem.Challenge.RW_foretask_k13_code_of_programs
set_option linter.all false
set_option compiler.extract_closed false
set_option exponentiation.threshold 10000
section
set_option maxRecDepth 100000
set_option maxHeartbeats 4000000
/-! Fk0: a small language of values, expressions and statements, and what they compute. -/
namespace FK

/-- data: texts by their signs' numbers; tuples by value; `ref a`: the mutable object number a; `fn x`: the def x; `kd x`: the constant dict x -/
inductive D where
  | non | bl (b : Bool) | int (i : Int) | str (s : List Nat) | tup (xs : List D) | ref (a : Nat) | fn (x : Nat) | kd (x : Nat)
  deriving Inhabited

inductive LO where
  | lst (xs : List D) | scr (ns : List Int) | dic (kvs : List (D × D)) | dlk (kvs : List (D × D)) | ins (C : Nat) (fs : List (Nat × D))
  deriving Inhabited

abbrev LH := List LO
abbrev Lc := List (Option D)

inductive Bop where
  | add | sub | mul | fdiv | mod | pow
  deriving DecidableEq
/-- what a name of a scope is -/
inductive NK where
  | loc | cel | fre | glo
  deriving DecidableEq
abbrev Scp := List (Nat × NK)
/-- built-in functions, methods, types -/
inductive Bf where
  | len | int | tuple | list | str | sum | any | all | min | max | sorted | ord
  deriving DecidableEq
inductive Bm where
  | append | extend | pop | insert | get | index | join | split | strip | replace | isdigit
  deriving DecidableEq
inductive Ty where
  | bool | int | str | tuple | list | dict
  deriving DecidableEq
inductive Cop where
  | eq | ne | lt | le | gt | ge | is | isnot | isin | notin
  deriving DecidableEq

mutual
inductive Tg where
  | nm (i : Nat) | tp (ts : Tgs)
inductive Tgs where
  | nil | cons (t : Tg) (ts : Tgs)
end

mutual
inductive Ex where
  | non | bl (b : Bool) | int (i : Int) | str (s : List Nat)
  | lv (i : Nat) | gv (x : Nat)
  | tup (es : Exs) | lst (es : Exs)
  | bop (o : Bop) (a b : Ex) | neg (a : Ex) | not (a : Ex)
  | cmp (o : Cop) (a b : Ex) | cmp2 (o o' : Cop) (a b c : Ex)
  | and (es : Exs) | or (es : Exs)
  | ix (a i : Ex) | sl (a lo hi : Ex)
  | call (f : Nat) (es : Exs) | mk (C : Nat) (es : Exs) | dnew | blt (f : Bf) (es : Exs) | calv (i : Nat) (es : Exs)
  | isi (a : Ex) (T : Ty)
  | bm (o : Ex) (m : Bm) (es : Exs) | cm (o : Ex) (m : Nat) (es : Exs)
  | fld (o : Ex) (f : Nat)
  | lc (sc : Scp) (e : Ex) (t : Tg) (s : Is) (ts : Exs)
  | lcb (f : Bf) (sc : Scp) (e : Ex) (t : Tg) (s : Is) (ts : Exs)
inductive Exs where
  | nil | cons (e : Ex) (es : Exs)
inductive Is where
  | ex (e : Ex) | rng (es : Exs) | zip (a b : Ex) | rev (a : Ex)
end

mutual
inductive Sm where
  | asg (t : Tg) (e : Ex) | asl (i : Nat) (e : Ex) | six (o i e : Ex) | sfl (o : Ex) (f : Nat) (e : Ex)
  | aug (i : Nat) (o : Bop) (e : Ex) | augf (o : Ex) (f : Nat) (p : Bop) (e : Ex)
  | exp (e : Ex) | ret (e : Ex) | brk | pas
  | ife (c : Ex) (a b : Sms) | whl (c : Ex) (b : Sms) | fr (t : Tg) (s : Is) (b : Sms)
  | del (o i : Ex)
  | lck (i : Nat) (s : Sm)
  | stk
inductive Sms where
  | nil | cons (s : Sm) (ss : Sms)
end

noncomputable def isNonE : Ex → Bool
  | .non => true
  | _ => false

/-- a def: its slots' names (the parameters first), how many parameters, its body -/
structure Fn where
  nm : List Nat
  np : Nat
  sc : Scp
  dfs : List D := []
  body : Sms

/-- a class: its __init__, the fields that its instances may have, its methods -/
structure Cl where
  ini : Nat
  flds : List Nat
  mts : List (Nat × Nat)
structure Pr where
  fn : Nat → Option Fn
  cls : Nat → Option Cl := fun _ => none
  gv : Nat → Option D
  kd : Nat → Option (List (List Nat × D))

/-! ### data -/
noncomputable def b2i (b : Bool) : Int := if b then 1 else 0

mutual
/-- Python's == of data without objects -/
noncomputable def pyeq : D → D → Bool
  | .non, .non => true
  | .bl a, .bl b => a == b
  | .int i, .int j => i == j
  | .bl a, .int j => b2i a == j
  | .int i, .bl b => i == b2i b
  | .str s, .str t => s == t
  | .tup xs, .tup ys => pyeqs xs ys
  | _, _ => false
noncomputable def pyeqs : List D → List D → Bool
  | [], [] => true
  | x :: xs, y :: ys => pyeq x y && pyeqs xs ys
  | _, _ => false
end

mutual
/-- no object within -/
noncomputable def pur : D → Bool
  | .tup xs => purs xs
  | .str s => s.all fun c => decide (c < 1114112)
  | .ref _ => false
  | .fn _ => false
  | .kd _ => false
  | _ => true
noncomputable def purs : List D → Bool
  | [] => true
  | x :: xs => pur x && purs xs
end

mutual
/-- how deep tuples stand within one another -/
noncomputable def dep : D → Nat
  | .tup xs => deps xs + 1
  | _ => 0
noncomputable def deps : List D → Nat
  | [] => 0
  | x :: xs => max (dep x) (deps xs)
end
mutual
/-- may be a dict's key: whole numbers, and tuples of such -/
noncomputable def keyL : D → Bool
  | .int _ => true
  | .tup xs => keyLs xs
  | _ => false
noncomputable def keyLs : List D → Bool
  | [] => true
  | x :: xs => keyL x && keyLs xs
end
noncomputable def keyOk : D → Bool
  | .tup xs => keyLs xs && decide (deps xs ≤ 6)
  | _ => false
noncomputable def dLook (kvs : List (D × D)) (k : D) : Option D := (kvs.find? fun p => pyeq p.1 k).map (·.2)
noncomputable def dPut (kvs : List (D × D)) (k v : D) : List (D × D) := if kvs.any fun p => pyeq p.1 k then kvs.map fun p => if pyeq p.1 k then (p.1, v) else p else kvs ++ [(k, v)]
noncomputable def dDel (kvs : List (D × D)) (k : D) : List (D × D) := kvs.filter fun p => !pyeq p.1 k
/-- may be compared -/
noncomputable def shp (d : D) : Bool := pur d && decide (dep d ≤ 60)
noncomputable def flat : D → Bool
  | .non => true
  | .bl _ => true
  | .int _ => true
  | .str _ => true
  | _ => false
noncomputable def SZ : Nat := 16777216

noncomputable def ixN (n : Nat) (i : Int) : Option Nat := if 0 ≤ i then (if i < n then some i.toNat else none) else if -(n : Int) ≤ i then some (i + n).toNat else none
noncomputable def atI {α : Type} (xs : List α) (i : Int) : Option α := (ixN xs.length i).bind fun j => xs[j]?
noncomputable def sIx (n d : Nat) : Option Int → Nat
  | none => d
  | some v => if v < 0 then (v + n).toNat else min v.toNat n
noncomputable def cut {α : Type} (xs : List α) (lo hi : Option Int) : List α := (xs.drop (sIx xs.length 0 lo)).take (sIx xs.length xs.length hi - sIx xs.length 0 lo)

noncomputable def mulOk (i j : Int) : Bool := (decide (i.natAbs < 2 ^ 64) || decide (j.natAbs < 2 ^ 64)) || (decide (i.natAbs < 2 ^ 4000) && decide (j.natAbs < 2 ^ 4000))
noncomputable def divOk (j : Int) : Bool := j != 0 && decide (j.natAbs < 2 ^ 9000)

noncomputable def alloc (h : LH) (o : LO) : Option (D × LH) := some (.ref h.length, h ++ [o])

/-- the items of a list, the script, a tuple -/
noncomputable def seqOf (d : D) (h : LH) : Option (List D) :=
  match d with
  | .tup xs => some xs
  | .ref a => match h[a]? with
    | some (.lst xs) => some xs
    | some (.scr ns) => some (ns.map D.int)
    | _ => none
  | _ => none

noncomputable def binop (o : Bop) (a b : D) (h : LH) : Option (D × LH) :=
  match o, a, b with
  | .add, .int i, .int j => some (.int (i + j), h)
  | .add, .str s, .str t => if s.length + t.length ≤ SZ then some (.str (s ++ t), h) else none
  | .add, .tup xs, .tup ys => if xs.length + ys.length ≤ SZ then some (.tup (xs ++ ys), h) else none
  | .add, .ref p, .ref q => match h[p]?, h[q]? with
    | some (.lst xs), some (.lst ys) => if xs.length + ys.length ≤ SZ then alloc h (.lst (xs ++ ys)) else none
    | _, _ => none
  | .sub, .int i, .int j => some (.int (i - j), h)
  | .mul, .int i, .int j => if mulOk i j then some (.int (i * j), h) else none
  | .mul, .str s, .int j => if -(2 ^ 63) ≤ j ∧ j ≤ SZ ∧ s.length * j.toNat ≤ SZ then some (.str (List.replicate j.toNat s).flatten, h) else none
  | .mul, .tup xs, .int j => if (xs.length ≠ 0 ∧ xs.length ≤ 1000) ∧ 2 ≤ j ∧ j ≤ 1000 then some (.tup (List.replicate j.toNat xs).flatten, h) else none
  | .mul, .ref p, .int j => match h[p]? with
    | some (.lst xs) => if (0 ≤ j ∧ j ≤ 1000000) ∧ xs.length * j.toNat ≤ SZ then alloc h (.lst (List.replicate j.toNat xs).flatten) else none
    | _ => none
  | .fdiv, .int i, .int j => if divOk j then some (.int (i.fdiv j), h) else none
  | .mod, .int i, .int j => if j = 0 then none else some (.int (i.fmod j), h)
  | .pow, .int i, .int j => if 0 ≤ j ∧ j ≤ 1000000 ∧ i.natAbs < 2 ^ 64 then some (.int (i ^ j.toNat), h) else none
  | _, _, _ => none

noncomputable def isNon : D → Bool
  | .non => true
  | _ => false

variable (P : Pr)

noncomputable def inop (x c : D) (h : LH) : Option Bool :=
  match c with
  | .str t => match x with
    | .str s => match s with
      | [ch] => some (t.contains ch)
      | _ => none
    | _ => none
  | .kd n => match x with
    | .str s => (P.kd n).map fun kvs => (kvs.lookup s).isSome
    | _ => none
  | .ref a => match h[a]? with
    | some (.lst xs) => if shp x && xs.all shp then some (xs.any fun y => pyeq y x) else none
    | some (.dic kvs) => if keyOk x then some (dLook kvs x).isSome else none
    | some (.dlk kvs) => if keyOk x then some (dLook kvs x).isSome else none
    | _ => none
  | .tup xs => if shp x && xs.all shp then some (xs.any fun y => pyeq y x) else none
  | _ => none

noncomputable def isB : D → D → Option Bool
  | .bl x, .bl y => some (x == y)
  | _, _ => none
noncomputable def cmpop (o : Cop) (a b : D) (h : LH) : Option Bool :=
  match o with
  | .eq => if shp a && shp b then some (pyeq a b) else none
  | .ne => if shp a && shp b then some (!pyeq a b) else none
  | .lt => match a, b with
    | .int i, .int j => some (decide (i < j))
    | _, _ => none
  | .le => match a, b with
    | .int i, .int j => some (decide (i ≤ j))
    | _, _ => none
  | .gt => match a, b with
    | .int i, .int j => some (decide (j < i))
    | _, _ => none
  | .ge => match a, b with
    | .int i, .int j => some (decide (j ≤ i))
    | _, _ => none
  | .is => if isNon b then some (isNon a) else isB a b
  | .isnot => if isNon b then some (!isNon a) else (isB a b).map (!·)
  | .isin => inop P a b h
  | .notin => (inop P a b h).map (!·)

noncomputable def truth (d : D) (h : LH) : Option Bool :=
  match d with
  | .non => some false
  | .bl b => some b
  | .int i => some (i != 0)
  | .str s => if s.length ≤ SZ then some (s.length != 0) else none
  | .tup xs => some (!xs.isEmpty)
  | .ref a => match h[a]? with
    | some (.lst xs) => some (!xs.isEmpty)
    | some (.scr ns) => some (!ns.isEmpty)
    | _ => none
  | _ => none

noncomputable def chr1 (c : Nat) : D := .str [c]

noncomputable def getix (a i : D) (h : LH) : Option D :=
  match a, i with
  | .tup xs, .int i => atI xs i
  | .str s, .int i => if s.length ≤ SZ then (atI s i).map chr1 else none
  | .ref p, i => match h[p]? with
    | some (.lst xs) => match i with
      | .int i => atI xs i
      | _ => none
    | some (.scr ns) => match i with
      | .int i => (atI ns i).map D.int
      | _ => none
    | some (.dic kvs) => if keyOk i then dLook kvs i else none
    | some (.dlk kvs) => if keyOk i then dLook kvs i else none
    | _ => none
  | .kd n, .str k => (P.kd n).bind fun kvs => kvs.lookup k
  | _, _ => none

/-- a slice's end (b: it is left out) -/
noncomputable def ptI (b : Bool) (d : D) : Option (Option Int) := if b then some none else match d with
  | .int i => some (some i)
  | _ => none

noncomputable def slice (a : D) (l u : Option Int) (h : LH) : Option (D × LH) :=
  match a with
  | .tup xs => some (.tup (cut xs l u), h)
  | .str s => if s.length ≤ SZ then some (.str (cut s l u), h) else none
  | .ref p => match h[p]? with
    | some (.lst xs) => alloc h (.lst (cut xs l u))
    | _ => none
  | _ => none

noncomputable def lenOf (d : D) (h : LH) : Option Nat :=
  match d with
  | .str s => if s.length ≤ SZ then some s.length else none
  | .tup xs => some xs.length
  | .ref a => match h[a]? with
    | some (.lst xs) => some xs.length
    | some (.scr ns) => some ns.length
    | some (.dic kvs) => some kvs.length
    | some (.dlk kvs) => some kvs.length
    | _ => none
  | _ => none

noncomputable def isTy (d : D) (T : Ty) (h : LH) : Option Bool :=
  match d with
  | .non => some false
  | .bl _ => some (T == .bool || T == .int)
  | .int _ => some (T == .int)
  | .str _ => some (T == .str)
  | .tup _ => some (T == .tuple)
  | .ref a => match h[a]? with
    | some (.lst _) => some (T == .list)
    | some (.dic _) => some (T == .dict)
    | some (.dlk _) => some (T == .dict)
    | _ => none
  | _ => none

/-- a number's text -/
noncomputable def numL (i : Int) : List Nat := (toString i).toList.map Char.toNat

/-- a built-in by its name -/
noncomputable def bltin (f : Bf) (vs : List D) (h : LH) : Option (D × LH) :=
  match f, vs with
  | .len, [d] => (lenOf d h).map fun n => (.int n, h)
  | .int, [.int i] => some (.int i, h)
  | .int, [.bl b] => some (.int (b2i b), h)
  | .tuple, [d] => (seqOf d h).map fun xs => (.tup xs, h)
  | .list, [d] => (seqOf d h).bind fun xs => alloc h (.lst xs)
  | .str, [.int i] => if i.natAbs.log2 < 1920 then some (.str (numL i), h) else none
  | _, _ => none

noncomputable def setLst (h : LH) (a : Nat) (xs : List D) : LH := h.set a (.lst xs)

noncomputable def setDic (h : LH) (a : Nat) (kvs : List (D × D)) : LH := h.set a (.dic kvs)
noncomputable def setIns (h : LH) (a : Nat) (C : Nat) (fs : List (Nat × D)) : LH := h.set a (.ins C fs)
noncomputable def putL (f : Nat) (d : D) : List (Nat × D) → List (Nat × D)
  | [] => [(f, d)]
  | p :: r => if p.1 = f then (f, d) :: r else p :: putL f d r
/-- the dict, walked or not -/
noncomputable def dOf : Option LO → Option (List (D × D))
  | some (.dic kvs) => some kvs
  | some (.dlk kvs) => some kvs
  | _ => none
/-- the built-in type of a value that has methods -/
noncomputable def tyOf (d : D) (h : LH) : Option Ty :=
  match d with
  | .str _ => some .str
  | .tup _ => some .tuple
  | .ref a => match h[a]? with
    | some (.lst _) => some .list
    | some (.dic _) => some .dict
    | some (.dlk _) => some .dict
    | _ => none
  | _ => none
/-- texts alone -/
noncomputable def strsL : List D → Option (List (List Nat))
  | [] => some []
  | .str s :: r => (strsL r).map (s :: ·)
  | _ :: _ => none
noncomputable def joinL (sep : List Nat) : List (List Nat) → List Nat
  | [] => []
  | [s] => s
  | s :: r => s ++ sep ++ joinL sep r
/-- the first place of s -/
noncomputable def idxL (s : List Nat) : List (List Nat) → Option Nat
  | [] => none
  | t :: r => if t = s then some 0 else (idxL s r).map (· + 1)
/-- a method of a built-in value -/
noncomputable def method (T : Ty) (d : D) (m : Bm) (vs : List D) (h : LH) : Option (D × LH) :=
  match T, m with
  | .list, .append => match d, vs with
    | .ref a, [v] => match h[a]? with
      | some (.lst xs) => if xs.length < SZ then some (.non, setLst h a (xs ++ [v])) else none
      | _ => none
    | _, _ => none
  | .list, .extend => match d, vs with
    | .ref a, [.ref b] => match h[a]?, h[b]? with
      | some (.lst xs), some (.lst ys) => if xs.length + ys.length ≤ SZ ∧ a ≠ b then some (.non, setLst h a (xs ++ ys)) else none
      | _, _ => none
    | _, _ => none
  | .list, .insert => match d, vs with
    | .ref a, [.int i, v] => match h[a]? with
      | some (.lst xs) => if xs.length < SZ ∧ 0 ≤ i ∧ i ≤ xs.length then some (.non, setLst h a (xs.take i.toNat ++ [v] ++ xs.drop i.toNat)) else none
      | _ => none
    | _, _ => none
  | .list, .pop => match d, vs with
    | .ref a, [.int i] => match h[a]? with
      | some (.lst xs) => match xs with
        | x :: r => if i = 0 then some (x, setLst h a r) else none
        | [] => none
      | _ => none
    | _, _ => none
  | .tuple, .index => match d, vs with
    | .tup xs, [.str s] => (strsL xs).bind fun ss => (idxL s ss).map fun (j : Nat) => (D.int (j : Int), h)
    | _, _ => none
  | .dict, .get => match d, vs with
    | .ref a, [k, v] => match h[a]? with
      | some (.dic kvs) => if keyOk k then some ((dLook kvs k).getD v, h) else none
      | some (.dlk kvs) => if keyOk k then some ((dLook kvs k).getD v, h) else none
      | _ => none
    | _, _ => none
  | .dict, .pop => match d, vs with
    | .ref a, [k] => match h[a]? with
      | some (.dic kvs) => if keyOk k then (dLook kvs k).map fun v => (v, setDic h a (dDel kvs k)) else none
      | _ => none
    | _, _ => none
  | .str, .join => match d, vs with
    | .str s, [.ref a] => match h[a]? with
      | some (.lst xs) => (strsL xs).bind fun ss => if (ss.map List.length).sum + ss.length * s.length ≤ SZ then some (.str (joinL s ss), h) else none
      | _ => none
    | .str s, [.tup xs] => (strsL xs).bind fun ss => if (ss.map List.length).sum + ss.length * s.length ≤ SZ then some (.str (joinL s ss), h) else none
    | _, _ => none
  | _, _ => none
noncomputable def bls : List D → Option (List Bool)
  | [] => some []
  | .bl b :: r => (bls r).map (b :: ·)
  | _ :: _ => none
noncomputable def nums : List D → Option (List Int)
  | [] => some []
  | .int i :: r => (nums r).map (i :: ·)
  | _ :: _ => none
/-- a built-in of a list of its own -/
noncomputable def lcbF (f : Bf) (xs : List D) : Option D :=
  match f with
  | .tuple => some (.tup xs)
  | .len => some (.int xs.length)
  | .any => (bls xs).map fun bs => .bl (bs.any id)
  | .all => (bls xs).map fun bs => .bl (bs.all id)
  | .sum => (nums xs).map fun ns => .int ns.sum
  | _ => none

/-! ### loops -/
/-- how a statement ends -/
inductive Fl where
  | nx | bk | rt (d : D)

/-- a list that is walked stays as it is -/
noncomputable def stays (g : Option Nat) (xs : List D) (h : LH) : Prop := match g with
  | none => True
  | some a => seqOf (.ref a) h = some xs

open Classical in
noncomputable def forL (asg : D → Lc → Option Lc) (body : Lc → LH → Option (Fl × Lc × LH)) (g : Option Nat) (all : List D) : List D → Lc → LH → Option (Fl × Lc × LH)
  | [], σ, h => some (.nx, σ, h)
  | x :: r, σ, h => (asg x σ).bind fun σ1 => (body σ1 h).bind fun p => match p with
    | (.nx, σ2, h2) => if stays g all h2 then forL asg body g all r σ2 h2 else none
    | (.bk, σ2, h2) => some (.nx, σ2, h2)
    | (.rt d, σ2, h2) => some (.rt d, σ2, h2)

open Classical in
/-- a comprehension: the items so far, the items to come -/
noncomputable def lcL (asg : D → Lc → Option Lc) (test : Lc → LH → Option (Bool × LH)) (elt : Lc → LH → Option (D × LH)) (g : Option Nat) (all : List D) (σ : Lc) : List D → List D → LH → Option (List D × LH)
  | acc, [], h => some (acc, h)
  | acc, x :: r, h => (asg x σ).bind fun σ1 => (test σ1 h).bind fun p =>
    if p.1 then (elt σ1 p.2).bind fun q => if stays g all q.2 ∧ acc.length < SZ then lcL asg test elt g all σ (acc ++ [q.1]) r q.2 else none
    else if stays g all p.2 then lcL asg test elt g all σ acc r p.2 else none

/-- n turns at most -/
noncomputable def iterN {S B : Type} (f : S → Option (S ⊕ B)) : Nat → S → Option B
  | 0, _ => none
  | n + 1, s => match f s with
    | none => none
    | some (.inl s') => iterN f n s'
    | some (.inr b) => some b
open Classical in
noncomputable def iter {S B : Type} (f : S → Option (S ⊕ B)) (s : S) : Option B :=
  if h : ∃ n b, iterN f n s = some b then some (choose (choose_spec h)) else none

theorem iterN_det {S B : Type} {f : S → Option (S ⊕ B)} : ∀ {n m : Nat} {s : S} {b c : B}, iterN f n s = some b → iterN f m s = some c → b = c
  | 0, _, _, _, _, h, _ => by simp [iterN] at h
  | _ + 1, 0, _, _, _, _, h => by simp [iterN] at h
  | n + 1, m + 1, s, b, c, h1, h2 => by
    unfold iterN at h1 h2
    cases e : f s with
    | none => rw [e] at h1; cases h1
    | some r =>
      rw [e] at h1 h2
      cases r with
      | inl s' => exact iterN_det (n := n) (m := m) h1 h2
      | inr d => cases h1; cases h2; rfl
theorem iter_some {S B : Type} {f : S → Option (S ⊕ B)} {s : S} {b : B} : iter f s = some b ↔ ∃ n, iterN f n s = some b := by
  unfold iter
  split
  · rename_i h
    have e := Classical.choose_spec (Classical.choose_spec h)
    constructor
    · intro q
      cases q
      exact ⟨_, e⟩
    · rintro ⟨n, q⟩
      rw [iterN_det e q]
  · rename_i h
    constructor
    · intro q; cases q
    · rintro ⟨n, q⟩; exact (h ⟨n, b, q⟩).elim
/-! ### targets -/
noncomputable def setSl (i : Nat) (d : D) (σ : Lc) : Option Lc := if i < σ.length then some (σ.set i (some d)) else none
mutual
noncomputable def tgA : Tg → D → Lc → Option Lc
  | .nm i, d, σ => setSl i d σ
  | .tp ts, d, σ => match d with
    | .tup xs => tgsA ts xs σ
    | _ => none
noncomputable def tgsA : Tgs → List D → Lc → Option Lc
  | .nil, xs, σ => if xs.isEmpty then some σ else none
  | .cons t ts, xs, σ => match xs with
    | x :: r => (tgA t x σ).bind fun σ1 => tgsA ts r σ1
    | [] => none
end
mutual
noncomputable def tgSl : Tg → List Nat
  | .nm i => [i]
  | .tp ts => tgsSl ts
noncomputable def tgsSl : Tgs → List Nat
  | .nil => []
  | .cons t ts => tgSl t ++ tgsSl ts
end
/-- the slots vs hold nothing -/
noncomputable def wipe (σ : Lc) : List Nat → Lc
  | [] => σ
  | v :: vs => (wipe σ vs).set v none

/-- `if` that the kernel cannot open -/
noncomputable def cIf {α : Type} (c : Prop) (a b : α) : α := @ite α c (Classical.propDecidable c) a b
theorem cIf_pos {α : Type} {c : Prop} {a b : α} (h : c) : cIf c a b = a := if_pos h
theorem cIf_some {α : Type} {c : Prop} {a : Option α} {x : α} (h : cIf c a none = some x) : c ∧ a = some x := by
  unfold cIf at h
  split at h
  · exact ⟨by assumption, h⟩
  · cases h
noncomputable def rngOf : List D → Option (List D)
  | [.int n] => cIf (-(2 ^ 62) ≤ n ∧ n < 2 ^ 62) (some ((List.range n.toNat).map fun (k : Nat) => D.int k)) none
  | [.int a, .int b] => cIf ((-(2 ^ 62) ≤ a ∧ a < 2 ^ 62) ∧ -(2 ^ 62) ≤ b ∧ b < 2 ^ 62) (some ((List.range (b - a).toNat).map fun (k : Nat) => D.int (a + k))) none
  | _ => none

/-- what is walked: its items, the object that must stay -/
noncomputable def walkOf (d : D) (h : LH) : Option (List D × Option Nat) :=
  match d with
  | .tup xs => some (xs, none)
  | .ref a => match h[a]? with
    | some (.dlk kvs) => some (kvs.map (·.1), none)
    | _ => (seqOf (.ref a) h).map fun xs => (xs, some a)
  | .str s => if s.length ≤ SZ then some (s.map chr1, none) else none
  | _ => none

/-- the class's instances may have the field -/
noncomputable def fldOk (C f : Nat) : Bool := match P.cls C with
  | some c => c.flds.contains f
  | none => false
noncomputable def litOk (n : Nat) : Bool := decide (n ≤ 1000)

variable (cl : Nat → List D → LH → Option (D × LH))

mutual
noncomputable def evE : Ex → Lc → LH → Option (D × LH)
  | .non, _, h => some (.non, h)
  | .bl b, _, h => some (.bl b, h)
  | .int i, _, h => some (.int i, h)
  | .str s, _, h => some (.str s, h)
  | .lv i, σ, h => match σ[i]? with
    | some (some d) => some (d, h)
    | _ => none
  | .gv x, _, h => (P.gv x).map fun d => (d, h)
  | .tup es, σ, h => (evEs es σ h).bind fun p => if p.1.length ≤ SZ then some (.tup p.1, p.2) else none
  | .lst es, σ, h => (evEs es σ h).bind fun p => if p.1.length ≤ SZ then alloc p.2 (.lst p.1) else none
  | .dnew, _, h => alloc h (.dic [])
  | .mk C es, σ, h => (P.cls C).bind fun c => (evEs es σ h).bind fun p => (alloc p.2 (.ins C [])).bind fun q => (cl c.ini (q.1 :: p.1) q.2).bind fun r => if isNon r.1 then some (q.1, r.2) else none
  | .bop o a b, σ, h => (evE a σ h).bind fun p => (evE b σ p.2).bind fun q => binop o p.1 q.1 q.2
  | .neg a, σ, h => (evE a σ h).bind fun p => match p.1 with
    | .int i => some (.int (-i), p.2)
    | _ => none
  | .not a, σ, h => (evE a σ h).bind fun p => (truth p.1 p.2).map fun b => (.bl (!b), p.2)
  | .cmp o a b, σ, h => (evE a σ h).bind fun p => (evE b σ p.2).bind fun q => (cmpop P o p.1 q.1 q.2).map fun c => (.bl c, q.2)
  | .cmp2 o o' a b c, σ, h => (evE a σ h).bind fun p => (evE b σ p.2).bind fun q => (cmpop P o p.1 q.1 q.2).bind fun k =>
      if k then (evE c σ q.2).bind fun r => (cmpop P o' q.1 r.1 r.2).map fun k' => (.bl k', r.2) else some (.bl false, q.2)
  | .and es, σ, h => evAnd es σ h
  | .or es, σ, h => evOr es σ h
  | .ix a i, σ, h => (evE a σ h).bind fun p => (evE i σ p.2).bind fun q => (getix P p.1 q.1 q.2).map fun d => (d, q.2)
  | .sl a lo hi, σ, h => (evE a σ h).bind fun p => (evE lo σ p.2).bind fun q => (evE hi σ q.2).bind fun r => (ptI (isNonE lo) q.1).bind fun l => (ptI (isNonE hi) r.1).bind fun u => slice p.1 l u r.2
  | .call f es, σ, h => (evEs es σ h).bind fun p => cl f p.1 p.2
  | .blt f es, σ, h => (evEs es σ h).bind fun p => bltin f p.1 p.2
  | .calv i es, σ, h => match σ[i]? with
    | some (some (.fn f)) => (evEs es σ h).bind fun p => cl f p.1 p.2
    | _ => none
  | .isi a T, σ, h => (evE a σ h).bind fun p => (isTy p.1 T p.2).map fun b => (.bl b, p.2)
  | .bm o m es, σ, h => (evE o σ h).bind fun p => (tyOf p.1 p.2).bind fun T => (evEs es σ p.2).bind fun q => method T p.1 m q.1 q.2
  | .cm o m es, σ, h => (evE o σ h).bind fun p => match p.1 with
    | .ref a => match p.2[a]? with
      | some (.ins C _) => ((P.cls C).bind fun c => c.mts.lookup m).bind fun f => (evEs es σ p.2).bind fun q => cl f (.ref a :: q.1) q.2
      | _ => none
    | _ => none
  | .fld o f, σ, h => (evE o σ h).bind fun p => match p.1 with
    | .ref a => match p.2[a]? with
      | some (.ins _ fs) => (fs.lookup f).map fun d => (d, p.2)
      | _ => none
    | _ => none
  | .lc _ e t s ts, σ, h => (evIs s σ h).bind fun p => (lcL (tgA t) (evTs ts) (evE e) p.2.1 p.1 (wipe σ (tgSl t)) [] p.1 p.2.2).bind fun q => alloc q.2 (.lst q.1)
  | .lcb f _ e t s ts, σ, h => (evIs s σ h).bind fun p => (lcL (tgA t) (evTs ts) (evE e) p.2.1 p.1 (wipe σ (tgSl t)) [] p.1 p.2.2).bind fun q => (lcbF f q.1).map fun d => (d, q.2)
noncomputable def evEs : Exs → Lc → LH → Option (List D × LH)
  | .nil, _, h => some ([], h)
  | .cons e es, σ, h => (evE e σ h).bind fun p => (evEs es σ p.2).bind fun q => some (p.1 :: q.1, q.2)
noncomputable def evAnd : Exs → Lc → LH → Option (D × LH)
  | .nil, _, _ => none
  | .cons e .nil, σ, h => evE e σ h
  | .cons e es, σ, h => (evE e σ h).bind fun p => (truth p.1 p.2).bind fun b => if b then evAnd es σ p.2 else some p
noncomputable def evOr : Exs → Lc → LH → Option (D × LH)
  | .nil, _, _ => none
  | .cons e .nil, σ, h => evE e σ h
  | .cons e es, σ, h => (evE e σ h).bind fun p => (truth p.1 p.2).bind fun b => if b then some p else evOr es σ p.2
/-- the tests of a comprehension -/
noncomputable def evTs : Exs → Lc → LH → Option (Bool × LH)
  | .nil, _, h => some (true, h)
  | .cons e es, σ, h => (evE e σ h).bind fun p => (truth p.1 p.2).bind fun b => if b then evTs es σ p.2 else some (false, p.2)
noncomputable def evIs : Is → Lc → LH → Option (List D × Option Nat × LH)
  | .ex e, σ, h => (evE e σ h).bind fun p => (walkOf p.1 p.2).map fun w => (w.1, w.2, p.2)
  | .rng es, σ, h => (evEs es σ h).bind fun p => (rngOf p.1).map fun xs => (xs, none, p.2)
  | .zip _ _, _, _ => none
  | .rev _, _, _ => none
end

noncomputable def whlF (test : Lc → LH → Option (Bool × LH)) (body : Lc → LH → Option (Fl × Lc × LH)) (s : Lc × LH) : Option ((Lc × LH) ⊕ (Fl × Lc × LH)) :=
  (test s.1 s.2).bind fun p => if p.1 then (body s.1 p.2).bind fun q => match q with
    | (.nx, σ2, h2) => some (.inl (σ2, h2))
    | (.bk, σ2, h2) => some (.inr (.nx, σ2, h2))
    | (.rt d, σ2, h2) => some (.inr (.rt d, σ2, h2))
  else some (.inr (.nx, s.1, p.2))

noncomputable def tsE (e : Ex) (σ : Lc) (h : LH) : Option (Bool × LH) := (evE P cl e σ h).bind fun p => (truth p.1 p.2).map fun b => (b, p.2)

mutual
noncomputable def evS : Sm → Lc → LH → Option (Fl × Lc × LH)
  | .asg t e, σ, h => (evE P cl e σ h).bind fun p => (tgA t p.1 σ).map fun σ1 => (.nx, σ1, p.2)
  | .six o i e, σ, h => (evE P cl e σ h).bind fun p => (evE P cl o σ p.2).bind fun q => (evE P cl i σ q.2).bind fun r =>
      match q.1 with
      | .ref a => match r.2[a]? with
        | some (.lst xs) => match r.1 with
          | .int k => (ixN xs.length k).map fun j => (.nx, σ, setLst r.2 a (xs.set j p.1))
          | _ => none
        | some (.dic kvs) => if keyOk r.1 ∧ kvs.length < SZ then some (.nx, σ, setDic r.2 a (dPut kvs r.1 p.1)) else none
        | _ => none
      | _ => none
  | .asl i e, σ, h => (evE P cl e σ h).bind fun p => (setSl i p.1 σ).map fun σ1 => (.nx, σ1, p.2)
  | .sfl o f e, σ, h => (evE P cl e σ h).bind fun p => (evE P cl o σ p.2).bind fun q =>
      match q.1 with
      | .ref a => match q.2[a]? with
        | some (.ins C fs) => if fldOk P C f ∧ fs.length < 100 then some (.nx, σ, setIns q.2 a C (putL f p.1 fs)) else none
        | _ => none
      | _ => none
  | .aug i o e, σ, h => match σ[i]? with
    | some (some d) => (evE P cl e σ h).bind fun p => match d, p.1 with
      | .int x, .int y => (binop o (.int x) (.int y) p.2).bind fun q => (setSl i q.1 σ).map fun σ1 => (.nx, σ1, q.2)
      | _, _ => none
    | _ => none
  | .augf o f b e, σ, h => (evE P cl o σ h).bind fun q =>
      match q.1 with
      | .ref a => match q.2[a]? with
        | some (.ins C fs) => (fs.lookup f).bind fun d => (evE P cl e σ q.2).bind fun p => match d, p.1 with
          | .int x, .int y => (binop b (.int x) (.int y) p.2).bind fun z => match z.2[a]? with
            | some (.ins C' fs') => if C' = C ∧ fldOk P C f ∧ fs'.length < 100 then some (.nx, σ, setIns z.2 a C (putL f z.1 fs')) else none
            | _ => none
          | _, _ => none
        | _ => none
      | _ => none
  | .exp e, σ, h => (evE P cl e σ h).map fun p => (.nx, σ, p.2)
  | .ret e, σ, h => (evE P cl e σ h).map fun p => (.rt p.1, σ, p.2)
  | .brk, σ, h => some (.bk, σ, h)
  | .pas, σ, h => some (.nx, σ, h)
  | .ife c a b, σ, h => (tsE P cl c σ h).bind fun p => if p.1 then evSs a σ p.2 else evSs b σ p.2
  | .whl c b, σ, h => iter (whlF (tsE P cl c) (evSs b)) (σ, h)
  | .fr t s b, σ, h => (evIs P cl s σ h).bind fun p => forL (tgA t) (evSs b) p.2.1 p.1 p.1 σ p.2.2
  | .del o i, σ, h => (evE P cl o σ h).bind fun q => (evE P cl i σ q.2).bind fun r =>
      match q.1 with
      | .ref a => match r.2[a]? with
        | some (.dic kvs) => if keyOk r.1 then (dLook kvs r.1).map fun _ => (.nx, σ, setDic r.2 a (dDel kvs r.1)) else none
        | _ => none
      | _ => none
  | .lck i s, σ, h => match σ[i]? with
    | some (some (.ref a)) => match h[a]? with
      | some (.dic kvs) => (evS s σ (h.set a (.dlk kvs))).bind fun r => match r.2.2[a]? with
        | some (.dlk _) => some (r.1, r.2.1, setDic r.2.2 a kvs)
        | _ => none
      | _ => none
    | _ => none
  | .stk, _, _ => none
noncomputable def evSs : Sms → Lc → LH → Option (Fl × Lc × LH)
  | .nil, σ, h => some (.nx, σ, h)
  | .cons s ss, σ, h => (evS s σ h).bind fun p => match p with
    | (.nx, σ1, h1) => evSs ss σ1 h1
    | (.bk, σ1, h1) => some (.bk, σ1, h1)
    | (.rt d, σ1, h1) => some (.rt d, σ1, h1)
end

noncomputable def start (F : Fn) (vs : List D) : Lc := vs.map some ++ List.replicate (F.nm.length - vs.length) none
/-- the arguments, filled up by the defaults -/
noncomputable def fill (F : Fn) (vs : List D) : Option (List D) := if vs.length ≤ F.np ∧ F.np - vs.length ≤ F.dfs.length then some (vs ++ F.dfs.drop (F.dfs.length - (F.np - vs.length))) else none

/-- a call, k calls deep -/
noncomputable def callN : Nat → Nat → List D → LH → Option (D × LH)
  | 0, _, _, _ => none
  | k + 1, f, vs, h => (P.fn f).bind fun F => (fill F vs).bind fun vs' => (evSs P (callN k) F.body (start F vs') h).bind fun p => match p with
    | (.nx, _, h') => some (.non, h')
    | (.rt d, _, h') => some (d, h')
    | (.bk, _, _) => none

end FK

end
section
set_option maxRecDepth 100000
set_option maxHeartbeats 4000000
/-! Fk1: how the small language stands for the program's text, and what its values are in the machine. -/
namespace FK
open PySem PySem.Spec PyProof.Rows L2

/-! ### names and texts -/
/-- a name is its signs' numbers, read to the base 128 -/
noncomputable def dig : Nat → Nat → List Nat → List Nat
  | 0, _, acc => acc
  | f + 1, n, acc => if n = 0 then acc else dig f (n / 128) (n % 128 :: acc)
noncomputable def txS (l : List Nat) : Str := Str.ofString (String.ofList (l.map Char.ofNat))
noncomputable def nmS (n : Nat) : Str := txS (dig 64 n [])
noncomputable def ascii (l : List Nat) : Bool := l.all fun c => decide (c < 128)

theorem txS_eq {l : List Nat} (h : ascii l = true) : txS l = ⟨l.toArray⟩ := by
  unfold txS
  rw [Str.ofString_eq_toList, String.toList_ofList, List.map_map]
  have e : l.map (Char.toNat ∘ Char.ofNat) = l := by
    have h' : ∀ c ∈ l, c < 128 := fun c hc => of_decide_eq_true (List.all_eq_true.mp h c hc)
    clear h
    induction l with
    | nil => rfl
    | cons a r ih =>
      rw [List.map_cons, ih fun c hc => h' c (List.mem_cons_of_mem _ hc)]
      have ha := h' a List.mem_cons_self
      have : (Char.ofNat a).toNat = a := by
        have hv : a.isValidChar := Or.inl (by omega)
        simp [Char.ofNat, hv, Char.toNat, Char.ofNatAux]
      rw [Function.comp_apply, this]
  rw [e]

theorem dig_lt : ∀ (f n : Nat) (acc : List Nat), (∀ c ∈ acc, c < 128) → ∀ c ∈ dig f n acc, c < 128
  | 0, _, _, h => h
  | f + 1, n, acc, h => by
    unfold dig
    split
    · exact h
    · exact dig_lt f _ _ fun c hc => by
        rcases List.mem_cons.mp hc with rfl | hc
        · exact Nat.mod_lt _ (by decide)
        · exact h c hc
theorem dig_ascii (n : Nat) : ascii (dig 64 n []) = true := List.all_eq_true.mpr fun c hc => decide_eq_true (dig_lt 64 n [] (by simp) c hc)
/-- reading back -/
noncomputable def undig (l : List Nat) (a : Nat) : Nat := l.foldl (fun a c => a * 128 + c) a
theorem undig_dig : ∀ (f n : Nat) (acc : List Nat), n < 128 ^ f → undig (dig f n acc) 0 = undig acc n
  | 0, n, acc, h => by
    have : n = 0 := by simpa using h
    subst this
    rfl
  | f + 1, n, acc, h => by
    unfold dig
    split
    · rename_i e; subst e; rfl
    · rw [undig_dig f _ _ (by rw [Nat.pow_succ] at h; omega)]
      show undig acc (n / 128 * 128 + n % 128) = undig acc n
      rw [Nat.div_add_mod']
theorem nmS_inj {a b : Nat} (ha : a < 128 ^ 64) (hb : b < 128 ^ 64) (e : nmS a = nmS b) : a = b := by
  unfold nmS at e
  rw [txS_eq (dig_ascii a), txS_eq (dig_ascii b)] at e
  have e1 : dig 64 a [] = dig 64 b [] := by
    have := congrArg (fun s => s.cps.toList) e
    simpa using this
  have h1 := undig_dig 64 a [] ha
  have h2 := undig_dig 64 b [] hb
  rw [e1, h2] at h1
  exact h1.symm

/-! ### the text that an expression stands for: the positions are those of the text -/
noncomputable def bopO : Bop → Operator
  | .add => .Add | .sub => .Sub | .mul => .Mult | .fdiv => .FloorDiv | .mod => .Mod | .pow => .Pow
noncomputable def copO : Cop → CmpOp
  | .eq => .Eq | .ne => .NotEq | .lt => .Lt | .le => .LtE | .gt => .Gt | .ge => .GtE | .is => .Is | .isnot => .IsNot | .isin => .In | .notin => .NotIn
noncomputable def bfS : Bf → Str
  | .len => "len" | .int => "int" | .tuple => "tuple" | .list => "list" | .str => "str" | .sum => "sum" | .any => "any" | .all => "all" | .min => "min" | .max => "max" | .sorted => "sorted" | .ord => "ord"
noncomputable def bmS : Bm → Str
  | .append => "append" | .extend => "extend" | .pop => "pop" | .insert => "insert" | .get => "get" | .index => "index" | .join => "join" | .split => "split" | .strip => "strip" | .replace => "replace" | .isdigit => "isdigit"
noncomputable def tyS : Ty → Str
  | .bool => "bool" | .int => "int" | .str => "str" | .tuple => "tuple" | .list => "list" | .dict => "dict"
noncomputable def nkK : NK → NameKind
  | .loc => .local | .cel => .cell | .fre => .free | .glo => .globalImplicit
noncomputable def scN (sc : Scp) : List (Str × NameKind) := sc.map fun p => (nmS p.1, nkK p.2)

noncomputable def P0 : Pos := ⟨0, 0, 0, 0⟩
/-- another expression than e -/
noncomputable def bad : Expr → Expr
  | .Constant _ _ _ => .Name "" P0
  | _ => .Constant .ellipsis 0 P0
mutual
noncomputable def reT (N : List Nat) : Tg → Expr → Expr
  | .nm i, .Name _ p => .Name (nmS (N.getD i 0)) p
  | .tp ts, .Tuple l k p => .Tuple (reTs N ts l) k p
  | _, e => bad e
noncomputable def reTs (N : List Nat) : Tgs → List Expr → List Expr
  | .nil, _ => []
  | .cons t ts, e :: es => reT N t e :: reTs N ts es
  | .cons _ _, [] => [.Name "" P0]
end

/-- a part that may be left out (b: it is) -/
noncomputable def opE (b : Bool) (f : Expr → Expr) : Option Expr → Option Expr
  | none => if b then none else some (.Name "" P0)
  | some e => if b then none else some (f e)
mutual
noncomputable def reE (N : List Nat) : Ex → Expr → Expr
  | .non, .Constant _ k p => .Constant .none k p
  | .bl b, .Constant _ k p => .Constant (.bool b) k p
  | .int i, .Constant _ k p => .Constant (.int i) k p
  | .str s, .Constant _ k p => .Constant (.str (txS s)) k p
  | .lv i, .Name _ p => .Name (nmS (N.getD i 0)) p
  | .gv x, .Name _ p => .Name (nmS x) p
  | .tup es, .Tuple l k p => .Tuple (reEs N es l) k p
  | .lst es, .List l p => .List (reEs N es l) p
  | .bop o a b, .BinOp l _ r p => .BinOp (reE N a l) (bopO o) (reE N b r) p
  | .neg a, .UnaryOp _ x p => .UnaryOp .USub (reE N a x) p
  | .not a, .UnaryOp _ x p => .UnaryOp .Not (reE N a x) p
  | .cmp o a b, .Compare l _ (r :: _) p => .Compare (reE N a l) [copO o] [reE N b r] p
  | .cmp2 o o' a b c, .Compare l _ (r :: r' :: _) p => .Compare (reE N a l) [copO o, copO o'] [reE N b r, reE N c r'] p
  | .and es, .BoolOp _ l p => .BoolOp .And (reEs N es l) p
  | .or es, .BoolOp _ l p => .BoolOp .Or (reEs N es l) p
  | .ix a i, .Subscript v s p => .Subscript (reE N a v) (reE N i s) p
  | .sl a lo hi, .Subscript v (.Slice l h _ p2) p => .Subscript (reE N a v) (.Slice (opE (isNonE lo) (reE N lo) l) (opE (isNonE hi) (reE N hi) h) none p2) p
  | .call f es, .Call (.Name _ p1) l _ p => .Call (.Name (nmS f) p1) (reEs N es l) [] p
  | .mk f es, .Call (.Name _ p1) l _ p => .Call (.Name (nmS f) p1) (reEs N es l) [] p
  | .dnew, .Dict _ _ p => .Dict [] [] p
  | .blt f es, .Call (.Name _ p1) l _ p => .Call (.Name (bfS f) p1) (reEs N es l) [] p
  | .calv i es, .Call (.Name _ p1) l _ p => .Call (.Name (nmS (N.getD i 0)) p1) (reEs N es l) [] p
  | .isi a T, .Call (.Name _ p1) (x :: .Name _ p2 :: _) _ p => .Call (.Name "isinstance" p1) [reE N a x, .Name (tyS T) p2] [] p
  | .bm o m es, .Call (.Attribute v _ p1) l _ p => if (p1.endLine == p.line) = true then .Call (.Attribute (reE N o v) (bmS m) p1) (reEs N es l) [] p else .Constant .ellipsis 0 P0
  | .cm o m es, .Call (.Attribute v _ p1) l _ p => if (p1.endLine == p.line) = true then .Call (.Attribute (reE N o v) (nmS m) p1) (reEs N es l) [] p else .Constant .ellipsis 0 P0
  | .fld o f, .Attribute v _ p => .Attribute (reE N o v) (nmS f) p
  | .lc sc e t s ts, .ListComp x (⟨tg, it, ifs, _⟩ :: _) scope p => .ListComp (reE N e x) [⟨reT N t tg, reI N s it, reEs N ts ifs, 0⟩] { scope with kind := .function, names := scN sc } p
  | .lcb f sc e t s ts, .Call (.Name _ p1) (.ListComp x (⟨tg, it, ifs, _⟩ :: _) scope p2 :: _) _ p =>
      .Call (.Name (bfS f) p1) [.ListComp (reE N e x) [⟨reT N t tg, reI N s it, reEs N ts ifs, 0⟩] { scope with kind := .function, names := scN sc } p2] [] p
  | _, e => bad e
noncomputable def reEs (N : List Nat) : Exs → List Expr → List Expr
  | .nil, _ => []
  | .cons e' es', e :: es => reE N e' e :: reEs N es' es
  | .cons _ _, [] => [.Name "" P0]
noncomputable def reI (N : List Nat) : Is → Expr → Expr
  | .ex e', e => reE N e' e
  | .rng es, .Call (.Name _ p1) l _ p => .Call (.Name "range" p1) (reEs N es l) [] p
  | _, e => bad e
end

noncomputable def reR (N : List Nat) : Ex → Option Expr → Option Expr
  | e', some e => some (reE N e' e)
  | .non, none => none
  | _, none => some (.Name "" P0)

noncomputable def badS : Stmt → Stmt
  | .Pass _ => .Break P0
  | _ => .Pass P0
mutual
noncomputable def reS (N : List Nat) : Sm → Stmt → Stmt
  | .asg t e, .Assign (tg :: _) v p => .Assign [reT N t tg] (reE N e v) p
  | .six o i e, .Assign (.Subscript a b p1 :: _) v p => .Assign [.Subscript (reE N o a) (reE N i b) p1] (reE N e v) p
  | .asl i e, .Assign (.Name _ p1 :: _) v p => if (p1.line == v.pos.line) = true then .Assign [.Name (nmS (N.getD i 0)) p1] (reE N e v) p else .Pass P0
  | .sfl o f e, .Assign (.Attribute a _ p1 :: _) v p => .Assign [.Attribute (reE N o a) (nmS f) p1] (reE N e v) p
  | .augf o f b e, .AugAssign (.Attribute a _ p1) _ v p => .AugAssign (.Attribute (reE N o a) (nmS f) p1) (bopO b) (reE N e v) p
  | .del o i, .Delete (.Subscript a b p1 :: _) p => .Delete [.Subscript (reE N o a) (reE N i b) p1] p
  | .aug i o e, .AugAssign (.Name _ p1) _ v p => .AugAssign (.Name (nmS (N.getD i 0)) p1) (bopO o) (reE N e v) p
  | .exp e, .Expr v p => .Expr (reE N e v) p
  | .ret e, .Return v p => .Return (reR N e v) p
  | .brk, .Break p => .Break p
  | .pas, .Pass p => .Pass p
  | .ife c a b, .If t x y p => .If (reE N c t) (reSs N a x) (reSs N b y) p
  | .whl c b, .While t x _ p => .While (reE N c t) (reSs N b x) [] p
  | .fr t s b, .For tg it x _ p => .For (reT N t tg) (reI N s it) (reSs N b x) [] p
  | .lck _ s', s => reS N s' s
  | .stk, s => s
  | _, s => badS s
noncomputable def reSs (N : List Nat) : Sms → List Stmt → List Stmt
  | .nil, _ => []
  | .cons s' ss', s :: ss => reS N s' s :: reSs N ss' ss
  | .cons _ _, [] => [.Pass P0]
end

/-! ### data in the machine -/
abbrev MM := Nat → Option Addr
/-- a tuple stands at p, with no dict of its own -/
noncomputable def TupS (K : PySem.W.Frag) (H : Hp) (p : Addr) (vs : List V) : Prop :=
  (∃ o, H p = some (.frz o (.tup vs)) ∧ o.dict = none) ∨
    ∃ (o : Obj) (its : Array Value) (n : Nat), K.lookup p = some o ∧ o.cls = .type "tuple" ∧ o.dict = none ∧ o.data = .seq its n ∧ its.size ≤ sizeLine ∧ Vals vs its.toList
theorem TupS.sq {K : PySem.W.Frag} {H : Hp} {p : Addr} {vs : List V} (h : TupS K H p vs) : SqT K H p vs := by
  rcases h with ⟨o, h, _⟩ | ⟨o, its, n, h1, h2, h3, h4, h5, h6⟩
  · exact .inl (.inr ⟨o, h⟩)
  · exact .inr ⟨o, its, n, h1, h2, h4, h5, h6⟩
mutual
/-- the value v stands for the data -/
noncomputable def RelD (K : PySem.W.Frag) (mg : Str → Option Value) (m : MM) (H : Hp) : D → V → Prop
  | .non, v => v = .non
  | .bl b, v => v = .bl b
  | .int i, v => v = .int i
  | .str s, v => v = .str ⟨s.toArray⟩
  | .tup xs, v => ∃ p vs, v = .ref p ∧ TupS K H p vs ∧ RelDs K mg m H xs vs
  | .ref a, v => ∃ p, v = .ref p ∧ m a = some p
  | .fn x, v => ∃ p, v = .ref p ∧ mg (nmS x) = some (.ref p) ∧ x < 128 ^ 64
  | .kd x, v => ∃ p, v = .ref p ∧ mg (nmS x) = some (.ref p)
noncomputable def RelDs (K : PySem.W.Frag) (mg : Str → Option Value) (m : MM) (H : Hp) : List D → List V → Prop
  | [], vs => vs = []
  | x :: xs, vs => ∃ v r, vs = v :: r ∧ RelD K mg m H x v ∧ RelDs K mg m H xs r
end
variable {K : PySem.W.Frag} {mg : Str → Option Value}

theorem RelDs.len {m : MM} {H : Hp} : ∀ {xs : List D} {vs : List V}, RelDs K mg m H xs vs → xs.length = vs.length
  | [], _, h => by have h : _ = [] := h; subst h; rfl
  | x :: xs, _, h => by
    obtain ⟨v, r, rfl, _, h2⟩ := h
    simp [RelDs.len h2]
theorem RelDs.get {m : MM} {H : Hp} : ∀ {xs : List D} {vs : List V} {i : Nat} {x : D}, RelDs K mg m H xs vs → xs[i]? = some x → ∃ v, vs[i]? = some v ∧ RelD K mg m H x v
  | [], _, _, _, _, e => by simp at e
  | x :: xs, _, 0, y, h, e => by
    obtain ⟨v, r, rfl, h1, _⟩ := h
    simp at e; subst e
    exact ⟨v, rfl, h1⟩
  | x :: xs, _, i + 1, y, h, e => by
    obtain ⟨v, r, rfl, _, h2⟩ := h
    have e : xs[i]? = some y := by simpa using e
    obtain ⟨w, h3, h4⟩ := RelDs.get h2 e
    exact ⟨w, by simpa using h3, h4⟩
theorem RelDs.append {m : MM} {H : Hp} : ∀ {xs ys : List D} {vs ws : List V}, RelDs K mg m H xs vs → RelDs K mg m H ys ws → RelDs K mg m H (xs ++ ys) (vs ++ ws)
  | [], _, _, _, h, q => by have h : _ = [] := h; subst h; exact q
  | x :: xs, _, _, _, h, q => by
    obtain ⟨v, r, rfl, h1, h2⟩ := h
    exact ⟨v, _, rfl, h1, RelDs.append h2 q⟩
theorem RelDs.one {m : MM} {H : Hp} {x : D} {v : V} (h : RelD K mg m H x v) : RelDs K mg m H [x] [v] := ⟨v, [], rfl, h, rfl⟩
theorem RelDs.drop {m : MM} {H : Hp} : ∀ {xs : List D} {vs : List V} (n : Nat), RelDs K mg m H xs vs → RelDs K mg m H (xs.drop n) (vs.drop n)
  | _, _, 0, h => h
  | [], _, n + 1, h => by have h : _ = [] := h; subst h; exact (rfl : ([] : List V) = [])
  | x :: xs, _, n + 1, h => by
    obtain ⟨v, r, rfl, _, h2⟩ := h
    exact RelDs.drop n h2
theorem RelDs.take {m : MM} {H : Hp} : ∀ {xs : List D} {vs : List V} (n : Nat), RelDs K mg m H xs vs → RelDs K mg m H (xs.take n) (vs.take n)
  | _, _, 0, h => (rfl : ([] : List V) = [])
  | [], _, n + 1, h => by have h : _ = [] := h; subst h; exact (rfl : ([] : List V) = [])
  | x :: xs, _, n + 1, h => by
    obtain ⟨v, r, rfl, h1, h2⟩ := h
    exact ⟨v, _, rfl, h1, RelDs.take n h2⟩
theorem RelDs.set {m : MM} {H : Hp} {d : D} {w : V} (hd : RelD K mg m H d w) : ∀ {xs : List D} {vs : List V} (n : Nat), RelDs K mg m H xs vs → RelDs K mg m H (xs.set n d) (vs.set n w)
  | [], _, _, h => by have h : _ = [] := h; subst h; exact (rfl : ([] : List V) = [])
  | x :: xs, _, 0, h => by
    obtain ⟨v, r, rfl, h1, h2⟩ := h
    exact ⟨w, r, rfl, hd, h2⟩
  | x :: xs, _, n + 1, h => by
    obtain ⟨v, r, rfl, h1, h2⟩ := h
    exact ⟨v, _, rfl, h1, RelDs.set hd n h2⟩
theorem RelDs.ints {m : MM} {H : Hp} : ∀ (ns : List Int), RelDs K mg m H (ns.map D.int) (ns.map V.int)
  | [] => rfl
  | n :: ns => ⟨_, _, rfl, rfl, RelDs.ints ns⟩

/-- tuples stay -/
noncomputable def TK (K : PySem.W.Frag) (H H' : Hp) : Prop := ∀ p vs, TupS K H p vs → TupS K H' p vs
noncomputable def MLe (m m' : MM) : Prop := ∀ a p, m a = some p → m' a = some p
mutual
theorem RelD.mono {m m' : MM} {H H' : Hp} (t : TK K H H') (l : MLe m m') : ∀ {d : D} {v : V}, RelD K mg m H d v → RelD K mg m' H' d v
  | .non, _, h => h
  | .bl _, _, h => h
  | .int _, _, h => h
  | .str _, _, h => h
  | .tup xs, _, h => by
    obtain ⟨p, vs, e, h1, h2⟩ := h
    exact ⟨p, vs, e, t p vs h1, RelDs.mono t l h2⟩
  | .ref a, _, h => by
    obtain ⟨p, e, h⟩ := h
    exact ⟨p, e, l a p h⟩
  | .fn _, _, h => h
  | .kd _, _, h => h
theorem RelDs.mono {m m' : MM} {H H' : Hp} (t : TK K H H') (l : MLe m m') : ∀ {xs : List D} {vs : List V}, RelDs K mg m H xs vs → RelDs K mg m' H' xs vs
  | [], _, h => h
  | x :: xs, _, h => by
    obtain ⟨v, r, e, h1, h2⟩ := h
    exact ⟨v, r, e, RelD.mono t l h1, RelDs.mono t l h2⟩
end

/-- the script at p: known to the object, or of the written part -/
noncomputable def ScrAt (K : PySem.W.Frag) (H : Hp) (p : Addr) (xs : List V) : Prop :=
  (∃ o, H p = some (.frz o (.lst xs))) ∨
    ∃ (o : Obj) (its : Array Value) (n : Nat), K.lookup p = some o ∧ o.cls = .type "list" ∧ o.dict = none ∧ o.data = .seq its n ∧ its.size ≤ sizeLine ∧ Vals xs its.toList
theorem ScrAt.sq {H : Hp} {p : Addr} {xs : List V} (h : ScrAt K H p xs) : SqL K H p xs := by
  rcases h with ⟨o, e⟩ | h
  · exact .inl (.inr ⟨o, e⟩)
  · exact .inr h
theorem ScrAt.mono {H H' : Hp} {p : Addr} {xs : List V} (h : ScrAt K H p xs) (k : ∀ o u, H p = some (.frz o u) → H' p = some (.frz o u)) : ScrAt K H' p xs := by
  rcases h with ⟨o, e⟩ | h
  · exact .inl ⟨o, k _ _ e⟩
  · exact .inr h
/-- an instance's fields -/
noncomputable def RelF (K : PySem.W.Frag) (mg : Str → Option Value) (m : MM) (H : Hp) : List (Nat × D) → List (Str × V) → Prop
  | [], vs => vs = []
  | p :: r, vs => ∃ v s, vs = (nmS p.1, v) :: s ∧ RelD K mg m H p.2 v ∧ RelF K mg m H r s
mutual
/-- the key of a dict -/
noncomputable def keyN : D → NestedKey
  | .int i => .num i
  | .tup xs => .tup (keyNs xs)
  | _ => .none
noncomputable def keyNs : List D → List NestedKey
  | [] => []
  | x :: xs => keyN x :: keyNs xs
end
/-- a dict's entries -/
noncomputable def RelK (K : PySem.W.Frag) (mg : Str → Option Value) (m : MM) (H : Hp) : List (D × D) → List (NestedKey × Addr × Value) → Prop
  | [], xs => xs = []
  | p :: r, xs => ∃ ka u v s, xs = (keyN p.1, ka, u) :: s ∧ keyOk p.1 = true ∧ RelD K mg m H p.1 (.ref ka) ∧ RelV v u ∧ RelD K mg m H p.2 v ∧ RelK K mg m H r s
theorem RelF.mono {m m' : MM} {H H' : Hp} (t : TK K H H') (l : MLe m m') : ∀ {fs : List (Nat × D)} {vs : List (Str × V)}, RelF K mg m H fs vs → RelF K mg m' H' fs vs
  | [], _, h => h
  | p :: r, _, h => by
    obtain ⟨v, s, e, h1, h2⟩ := h
    exact ⟨v, s, e, RelD.mono t l h1, RelF.mono t l h2⟩
theorem RelK.mono {m m' : MM} {H H' : Hp} (t : TK K H H') (l : MLe m m') : ∀ {fs : List (D × D)} {vs : List (NestedKey × Addr × Value)}, RelK K mg m H fs vs → RelK K mg m' H' fs vs
  | [], _, h => h
  | p :: r, _, h => by
    obtain ⟨ka, u, v, s, e, h1, h2, h3, h4, h5⟩ := h
    exact ⟨ka, u, v, s, e, h1, RelD.mono t l h2, h3, RelD.mono t l h4, RelK.mono t l h5⟩
/-- the dict that stands at p -/
noncomputable def DAt (p : Addr) (xs : List (NestedKey × Addr × Value)) : Heap → Prop := fun h =>
  ∃ o es ep, h.get? p = some o ∧ o.ExactDict ∧ o.data = .dict es ep ∧ ∀ (prog : Program) (w : World), es.toList = xs.map (entryOfKey (nestedKind prog w))
/-- the object at p -/
noncomputable def RepO (K : PySem.W.Frag) (mg : Str → Option Value) (m : MM) (H : Hp) (p : Addr) : LO → Prop
  | .lst xs => ∃ vs, H p = some (.lst vs) ∧ RelDs K mg m H xs vs
  | .scr ns => ScrAt K H p (ns.map V.int)
  | .dic kvs => ∃ xs, H p = some (.ext (DAt p xs)) ∧ (p == sysModules) = false ∧ RelK K mg m H kvs xs ∧ (kvs.map fun q => keyN q.1).Nodup ∧ kvs.length ≤ SZ
  | .dlk kvs => ∃ xs o, H p = some (.frz o (.ext (DAt p xs))) ∧ (p == sysModules) = false ∧ RelK K mg m H kvs xs ∧ (kvs.map fun q => keyN q.1).Nodup ∧ kvs.length ≤ SZ
  | .ins C fs => ∃ Ca dx fv, H p = some (.ins Ca dx fv) ∧ mg (nmS C) = some (.ref Ca) ∧ Cls K Ca ∧ RelF K mg m H fs fv ∧ ∀ q ∈ fs, q.1 < 128 ^ 64 ∧ NoAttr K Ca (nmS q.1)
noncomputable def muO : LO → Bool
  | .scr _ => false
  | .dlk _ => false
  | _ => true
/-- stands alone at its address -/
noncomputable def unq : LO → Bool
  | .scr _ => false
  | _ => true
theorem unq_of {o : LO} (h : muO o = true) : unq o = true := by cases o <;> first | rfl | cases h
/-- may change -/
noncomputable def mutH : HO → Bool
  | .lst _ => true
  | .ins _ _ _ => true
  | .ext _ => true
  | _ => false
structure Rep (K : PySem.W.Frag) (mg : Str → Option Value) (m : MM) (h : LH) (H : Hp) : Prop where
  obj : ∀ a o, h[a]? = some o → ∃ p, m a = some p ∧ RepO K mg m H p o
  dom : ∀ a p, m a = some p → a < h.length
  inj : ∀ a b p o u, m a = some p → m b = some p → h[a]? = some o → h[b]? = some u → unq o = true → unq u = true → a = b
/-- b is the address of an object that may change -/
noncomputable def Own (m : MM) (h : LH) (b : Addr) : Prop := ∃ a o, m a = some b ∧ h[a]? = some o ∧ muO o = true
/-- what a run may do -/
structure Go (m : MM) (h : LH) (H : Hp) (m' : MM) (h' : LH) (H' : Hp) : Prop where
  le : MLe m m'
  new : ∀ b, Own m' h' b → Own m h b ∨ H b = none
  keep : ∀ b o, H b = some o → ¬ Own m h b → H' b = some o

theorem RepO.mutable {m : MM} {H : Hp} {p : Addr} {o : LO} (h : RepO K mg m H p o) (hm : muO o = true) : ∃ u, H p = some u ∧ mutH u = true := by
  cases o with
  | lst xs => obtain ⟨vs, e, _⟩ := h; exact ⟨_, e, rfl⟩
  | scr ns => cases hm
  | dlk _ => cases hm
  | dic _ => obtain ⟨vs, e, _⟩ := h; exact ⟨_, e, rfl⟩
  | ins _ _ => obtain ⟨_, _, _, e, _⟩ := h; exact ⟨_, e, rfl⟩
/-- what stands at p stands there still -/
theorem RepO.mono {m m' : MM} {H H' : Hp} {p : Addr} {o : LO} (h : RepO K mg m H p o) (t : TK K H H') (l : MLe m m') (k : ∀ u, H p = some u → H' p = some u) : RepO K mg m' H' p o := by
  cases o with
  | lst xs => obtain ⟨vs, e, r⟩ := h; exact ⟨vs, k _ e, RelDs.mono t l r⟩
  | scr ns => exact ScrAt.mono h fun o u e => k _ e
  | dlk _ => obtain ⟨xs, o, e, h1, r, h2⟩ := h; exact ⟨xs, o, k _ e, h1, RelK.mono t l r, h2⟩
  | dic _ => obtain ⟨xs, e, h1, r, h2⟩ := h; exact ⟨xs, k _ e, h1, RelK.mono t l r, h2⟩
  | ins _ _ => obtain ⟨Ca, dx, fv, e, h1, h2, r, h3⟩ := h; exact ⟨Ca, dx, fv, k _ e, h1, h2, RelF.mono t l r, h3⟩
theorem Rep.own {m : MM} {h : LH} {H : Hp} (R : Rep K mg m h H) {b : Addr} (o : Own m h b) : ∃ u, H b = some u ∧ mutH u = true := by
  obtain ⟨a, o, h1, h2, h3⟩ := o
  obtain ⟨p, e, q⟩ := R.obj a o h2
  rw [h1] at e; cases e
  exact q.mutable h3
theorem Rep.nown {m : MM} {h : LH} {H : Hp} (R : Rep K mg m h H) {b : Addr} {u : HO} (e : H b = some u) (hu : mutH u = false) : ¬ Own m h b := fun o => by
  obtain ⟨v, e1, e2⟩ := R.own o
  rw [e] at e1; cases e1
  rw [hu] at e2; cases e2
theorem Go.refl {m : MM} {h : LH} {H : Hp} : Go m h H m h H := ⟨fun _ _ e => e, fun _ o => .inl o, fun _ _ e _ => e⟩
theorem Go.trans {m m1 m2 : MM} {h h1 h2 : LH} {H H1 H2 : Hp} (a : Go m h H m1 h1 H1) (b : Go m1 h1 H1 m2 h2 H2) : Go m h H m2 h2 H2 where
  le := fun x p e => b.le x p (a.le x p e)
  new := fun c o => by
    rcases b.new c o with o | n
    · exact a.new c o
    · cases q : H c with
      | none => exact .inr rfl
      | some u =>
        by_cases ow : Own m h c
        · exact .inl ow
        · rw [a.keep c u q ow] at n; cases n
  keep := fun c u e no => b.keep c u (a.keep c u e no) fun o => by
    rcases a.new c o with o | n
    · exact no o
    · rw [n] at e; cases e
/-- tuples stay where all that may not change stays -/
theorem tk_of {H H' : Hp} (k : ∀ b u, H b = some u → mutH u = false → H' b = some u) : TK K H H' := fun p vs s => by
  rcases s with ⟨o, s, d⟩ | s
  · exact .inl ⟨o, k p _ s rfl, d⟩
  · exact .inr s
theorem Go.tk {m m' : MM} {h h' : LH} {H H' : Hp} (R : Rep K mg m h H) (g : Go m h H m' h' H') : TK K H H' := tk_of fun b u e hu => g.keep b u e (R.nown e hu)
theorem Go.rel {m m' : MM} {h h' : LH} {H H' : Hp} (R : Rep K mg m h H) (g : Go m h H m' h' H') {d : D} {v : V} (r : RelD K mg m H d v) : RelD K mg m' H' d v := r.mono (g.tk R) g.le
theorem Go.rels {m m' : MM} {h h' : LH} {H H' : Hp} (R : Rep K mg m h H) (g : Go m h H m' h' H') {d : List D} {v : List V} (r : RelDs K mg m H d v) : RelDs K mg m' H' d v := RelDs.mono (g.tk R) g.le r

/-- a new object that is none of the language's -/
theorem go_fresh {m : MM} {h : LH} {H : Hp} (R : Rep K mg m h H) {p : Addr} (n : H p = none) (u : HO) : Go m h H m h (upd H p u) ∧ Rep K mg m h (upd H p u) := by
  have g : Go m h H m h (upd H p u) := ⟨fun _ _ e => e, fun _ o => .inl o, fun b o e _ => by rw [upd_ne (ne_of_none e n)]; exact e⟩
  refine ⟨g, ⟨fun a o e => ?_, R.dom, R.inj⟩⟩
  obtain ⟨q, e1, r⟩ := R.obj a o e
  exact ⟨q, e1, r.mono (g.tk R) (fun _ _ e => e) fun u e => by rw [upd_ne (ne_of_none e n)]; exact e⟩

/-- an object that the language hasn't told yet becomes its own -/
theorem go_adopt {m m0 : MM} {h h0 : LH} {H H0 : Hp} (R : Rep K mg m h H) (g : Go m0 h0 H0 m h H) {p : Addr} (n : H0 p = none) (np : ¬ Own m h p) {o : LO} (mo : muO o = true) (r : ∀ m', MLe m m' → RepO K mg m' H p o) :
    ∃ m', Go m0 h0 H0 m' (h ++ [o]) H ∧ Rep K mg m' (h ++ [o]) H ∧ m' h.length = some p ∧ MLe m m' := by
  have old : ∀ a q, m a = some q → a ≠ h.length := fun a q e => Nat.ne_of_lt (R.dom a q e)
  let m' : MM := fun a => if a = h.length then some p else m a
  have hle : MLe m m' := fun a q e => by show (if a = h.length then some p else m a) = _; rw [if_neg (old a q e)]; exact e
  have hnew : m' h.length = some p := if_pos rfl
  have hold : ∀ a, a ≠ h.length → m' a = m a := fun a e => if_neg e
  have inv : ∀ a u, (h ++ [o])[a]? = some u → a ≠ h.length → h[a]? = some u := fun a u e ha => by
    have hlt : a < h.length := by
      have := (List.getElem?_eq_some_iff.mp e).1
      rw [List.length_append, List.length_singleton] at this
      omega
    rwa [List.getElem?_append_left hlt] at e
  have nop : ∀ a u, (h ++ [o])[a]? = some u → unq u = true → m' a = some p → a = h.length := fun a u e hm e1 => by
    by_cases ha : a = h.length
    · exact ha
    · rw [hold a ha] at e1
      by_cases hm2 : muO u = true
      · exact (np ⟨a, u, e1, inv a u e ha, hm2⟩).elim
      · cases u with
        | dlk ks =>
          obtain ⟨q, f1, xs, ob, f2, _⟩ := R.obj a _ (inv a _ e ha)
          rw [e1] at f1; cases f1
          obtain ⟨w, f3, f4⟩ := (r m' hle).mutable mo
          rw [f2] at f3; cases f3; cases f4
        | scr _ => cases hm
        | _ => exact absurd rfl hm2
  refine ⟨m', ⟨fun a q e => hle a q (g.le a q e), fun b ⟨a, u, e1, e2, e3⟩ => ?_, fun b u e no => g.keep b u e no⟩, ⟨fun a u e => ?_, fun a q e => ?_, fun a b q u u' e1 e2 e3 e4 e5 e6 => ?_⟩, hnew, hle⟩
  · by_cases ha : a = h.length
    · subst ha
      rw [hnew] at e1; cases e1
      exact .inr n
    · rw [hold a ha] at e1
      exact g.new b ⟨a, u, e1, inv a u e2 ha, e3⟩
  · by_cases ha : a = h.length
    · subst ha
      rw [List.getElem?_append_right (Nat.le_refl _), Nat.sub_self] at e
      have e : o = u := by simpa using e
      subst e
      exact ⟨p, hnew, r m' hle⟩
    · obtain ⟨q, e1, r1⟩ := R.obj a u (inv a u e ha)
      exact ⟨q, hle a q e1, r1.mono (fun _ _ s => s) hle fun u e => e⟩
  · by_cases ha : a = h.length
    · subst ha; simp
    · rw [hold a ha] at e
      have := R.dom a q e
      simp; omega
  · by_cases ha : a = h.length
    · subst ha
      rw [hnew] at e1; cases e1
      exact (nop b u' e4 e6 e2).symm
    · by_cases hb : b = h.length
      · subst hb
        rw [hnew] at e2; cases e2
        exact nop a u e3 e5 e1
      · rw [hold a ha] at e1
        rw [hold b hb] at e2
        exact R.inj a b q u u' e1 e2 (inv a u e3 ha) (inv b u' e4 hb) e5 e6
/-- a new object of the language's -/
theorem go_new {m : MM} {h : LH} {H : Hp} (R : Rep K mg m h H) {p : Addr} (n : H p = none) {o : LO} {u : HO} (mo : muO o = true) (r : ∀ m', MLe m m' → TK K H (upd H p u) → RepO K mg m' (upd H p u) p o) :
    ∃ m' : MM, Go m h H m' (h ++ [o]) (upd H p u) ∧ Rep K mg m' (h ++ [o]) (upd H p u) ∧ m' h.length = some p := by
  obtain ⟨g, R1⟩ := go_fresh R n u
  have np : ¬ Own m h p := fun ow => by obtain ⟨v, e, _⟩ := R.own ow; rw [n] at e; cases e
  obtain ⟨m', g1, R2, e, _⟩ := go_adopt R1 g n np mo fun m' l => r m' l (g.tk R)
  exact ⟨m', g1, R2, e⟩
/-- a new list of the language's -/
theorem go_alloc {m : MM} {h : LH} {H : Hp} (R : Rep K mg m h H) {p : Addr} (n : H p = none) {xs : List D} {vs : List V} (r : RelDs K mg m H xs vs) :
    ∃ m' : MM, Go m h H m' (h ++ [.lst xs]) (upd H p (.lst vs)) ∧ Rep K mg m' (h ++ [.lst xs]) (upd H p (.lst vs)) ∧ m' h.length = some p :=
  go_new R n rfl fun m' l t => ⟨vs, upd_same, RelDs.mono t l r⟩

/-- an object of the language's is changed -/
theorem go_put {m : MM} {h : LH} {H : Hp} (R : Rep K mg m h H) {a : Nat} {p : Addr} {o0 o : LO} {u : HO} (ea : h[a]? = some o0) (m0 : muO o0 = true) (em : m a = some p) (r : TK K H (upd H p u) → RepO K mg m (upd H p u) p o) :
    Go m h H m (h.set a o) (upd H p u) ∧ Rep K mg m (h.set a o) (upd H p u) := by
  have hlt : a < h.length := (List.getElem?_eq_some_iff.mp ea).1
  have own : Own m h p := ⟨a, _, em, ea, m0⟩
  obtain ⟨u0, hu0, hm0⟩ := R.own own
  have at_ : ∀ b v, (h.set a o)[b]? = some v → (b = a ∧ v = o) ∨ (b ≠ a ∧ h[b]? = some v) := fun b v e => by
    by_cases hb : b = a
    · subst hb
      rw [List.getElem?_set_self hlt] at e
      exact .inl ⟨rfl, (Option.some.inj e).symm⟩
    · rw [List.getElem?_set_ne (Ne.symm hb)] at e
      exact .inr ⟨hb, e⟩
  have g : Go m h H m (h.set a o) (upd H p u) := by
    refine ⟨fun _ _ e => e, fun b ⟨c, v, e1, e2, e3⟩ => ?_, fun b v e no => ?_⟩
    · rcases at_ c v e2 with ⟨rfl, _⟩ | ⟨_, e2⟩
      · exact .inl ⟨c, _, e1, ea, m0⟩
      · exact .inl ⟨c, v, e1, e2, e3⟩
    · rw [upd_ne]
      · exact e
      · rintro rfl; exact no own
  have t := g.tk R
  refine ⟨g, ⟨fun b v e => ?_, fun b q e => ?_, fun b c q v v' e1 e2 e3 e4 e5 e6 => ?_⟩⟩
  · rcases at_ b v e with ⟨rfl, rfl⟩ | ⟨hb, e⟩
    · exact ⟨p, em, r t⟩
    · obtain ⟨q, e1, r1⟩ := R.obj b v e
      refine ⟨q, e1, ?_⟩
      by_cases hm : muO v = true
      · refine r1.mono t (fun _ _ e => e) fun u e2 => ?_
        rw [upd_ne]
        · exact e2
        · rintro rfl
          exact hb (R.inj b a q v _ e1 em e ea (unq_of hm) (unq_of m0))
      · cases v with
        | scr ns =>
          exact ScrAt.mono r1 fun ob u e2 => by
            rw [upd_ne]
            · exact e2
            · rintro rfl; rw [hu0] at e2; cases e2; cases hm0
        | dlk _ =>
          obtain ⟨xs, ob, e2, h1, r, h2⟩ := r1
          refine ⟨xs, ob, ?_, h1, RelK.mono t (fun _ _ e => e) r, h2⟩
          rw [upd_ne]
          · exact e2
          · rintro rfl; rw [hu0] at e2; cases e2; cases hm0
        | lst _ => exact absurd rfl hm
        | dic _ => exact absurd rfl hm
        | ins _ _ => exact absurd rfl hm
  · have := R.dom b q e
    simpa using this
  · have fnd : ∀ b v, (h.set a o)[b]? = some v → unq v = true → ∃ o', h[b]? = some o' ∧ unq o' = true := fun b v e hm => by
      rcases at_ b v e with ⟨rfl, _⟩ | ⟨_, e⟩
      · exact ⟨_, ea, unq_of m0⟩
      · exact ⟨v, e, hm⟩
    obtain ⟨o', f1, f2⟩ := fnd b v e3 e5
    obtain ⟨u', f3, f4⟩ := fnd c v' e4 e6
    exact R.inj b c q o' u' e1 e2 f1 f3 f2 f4
/-- a list of the language's is changed -/
theorem go_set {m : MM} {h : LH} {H : Hp} (R : Rep K mg m h H) {a : Nat} {p : Addr} {xs ys : List D} {ws : List V} (ea : h[a]? = some (.lst xs)) (em : m a = some p) (r : RelDs K mg m H ys ws) :
    Go m h H m (setLst h a ys) (upd H p (.lst ws)) ∧ Rep K mg m (setLst h a ys) (upd H p (.lst ws)) :=
  go_put R ea rfl em fun t => ⟨ws, upd_same, RelDs.mono t (fun _ _ e => e) r⟩
/-- a list that is none of the language's is changed -/
theorem go_loose {m m0 : MM} {h h0 : LH} {H H0 : Hp} (R : Rep K mg m h H) (g : Go m0 h0 H0 m h H) {p : Addr} (n : H0 p = none) (np : ¬ Own m h p) {u0 u : HO} (e0 : H p = some u0) (hu : mutH u0 = true) :
    Go m0 h0 H0 m h (upd H p u) ∧ Rep K mg m h (upd H p u) ∧ TK K H (upd H p u) := by
  have t : TK K H (upd H p u) := tk_of fun b v e hv => by
    rw [upd_ne]
    · exact e
    · rintro rfl; rw [e0] at e; cases e; rw [hu] at hv; cases hv
  refine ⟨⟨g.le, g.new, fun b v e no => by rw [upd_ne (ne_of_none e n)]; exact g.keep b v e no⟩, ⟨fun a v e => ?_, R.dom, R.inj⟩, t⟩
  obtain ⟨q, e1, r1⟩ := R.obj a v e
  refine ⟨q, e1, ?_⟩
  by_cases hm : muO v = true
  · refine r1.mono t (fun _ _ e => e) fun w e2 => ?_
    rw [upd_ne]
    · exact e2
    · rintro rfl; exact np ⟨a, v, e1, e, hm⟩
  · cases v with
    | scr ns =>
      exact ScrAt.mono r1 fun ob w e2 => by
        rw [upd_ne]
        · exact e2
        · rintro rfl; rw [e0] at e2; cases e2; cases hu
    | dlk _ =>
      obtain ⟨xs, ob, e2, h1, r, h2⟩ := r1
      refine ⟨xs, ob, ?_, h1, RelK.mono t (fun _ _ e => e) r, h2⟩
      rw [upd_ne]
      · exact e2
      · rintro rfl; rw [e0] at e2; cases e2; cases hu
    | lst _ => exact absurd rfl hm
    | dic _ => exact absurd rfl hm
    | ins _ _ => exact absurd rfl hm
end FK

end
section
set_option maxRecDepth 100000
set_option maxHeartbeats 4000000
/-! Fk2d: dicts whose keys are tuples of whole numbers, within one another. -/
namespace FK
open PySem PySem.Spec PyProof.Rows L2

theorem SZ_line : sizeLine = SZ := by rw [sizeLine_eq]; rfl
mutual
theorem keyN_eq : ∀ {x y : D}, keyL x = true → keyL y = true → pyeq x y = NestedKey.beq (keyN x) (keyN y)
  | .int a, .int b, _, _ => by
    simp only [pyeq, keyN, NestedKey.beq]
    by_cases h : a = b <;> simp [h]
  | .int a, .tup b, _, _ => by simp [pyeq, keyN, NestedKey.beq]
  | .tup a, .int b, _, _ => by simp [pyeq, keyN, NestedKey.beq]
  | .tup a, .tup b, h1, h2 => by
    simp only [pyeq, keyN, NestedKey.beq]
    exact keyNs_eq (by simpa [keyL] using h1) (by simpa [keyL] using h2)
  | .non, _, h, _ => by cases h
  | .bl _, _, h, _ => by cases h
  | .str _, _, h, _ => by cases h
  | .ref _, _, h, _ => by cases h
  | .fn _, _, h, _ => by cases h
  | .kd _, _, h, _ => by cases h
  | .int _, .non, _, h => by cases h
  | .int _, .bl _, _, h => by cases h
  | .int _, .str _, _, h => by cases h
  | .int _, .ref _, _, h => by cases h
  | .int _, .fn _, _, h => by cases h
  | .int _, .kd _, _, h => by cases h
  | .tup _, .non, _, h => by cases h
  | .tup _, .bl _, _, h => by cases h
  | .tup _, .str _, _, h => by cases h
  | .tup _, .ref _, _, h => by cases h
  | .tup _, .fn _, _, h => by cases h
  | .tup _, .kd _, _, h => by cases h
theorem keyNs_eq : ∀ {x y : List D}, keyLs x = true → keyLs y = true → pyeqs x y = NestedKey.beqAll (keyNs x) (keyNs y)
  | [], [], _, _ => by simp [pyeqs, keyNs, NestedKey.beqAll]
  | [], _ :: _, _, _ => by simp [pyeqs, keyNs, NestedKey.beqAll]
  | _ :: _, [], _, _ => by simp [pyeqs, keyNs, NestedKey.beqAll]
  | a :: x, b :: y, h1, h2 => by
    have h1' : keyL a = true ∧ keyLs x = true := by simpa [keyLs] using h1
    have h2' : keyL b = true ∧ keyLs y = true := by simpa [keyLs] using h2
    simp only [pyeqs, keyNs, NestedKey.beqAll]
    rw [keyN_eq h1'.1 h2'.1, keyNs_eq h1'.2 h2'.2]
end
mutual
theorem keyN_dep : ∀ (x : D), keyL x = true → (keyN x).depth = dep x
  | .int a, _ => by simp [keyN, NestedKey.depth, dep]
  | .tup a, h => by simp only [keyN, NestedKey.depth, dep]; rw [keyNs_dep a (by simpa [keyL] using h)]
  | .non, h => by cases h
  | .bl _, h => by cases h
  | .str _, h => by cases h
  | .ref _, h => by cases h
  | .fn _, h => by cases h
  | .kd _, h => by cases h
theorem keyNs_dep : ∀ (x : List D), keyLs x = true → NestedKey.depthAll (keyNs x) = deps x
  | [], _ => by simp [keyNs, NestedKey.depthAll, deps]
  | a :: x, h => by
    have h' : keyL a = true ∧ keyLs x = true := by simpa [keyLs] using h
    simp only [keyNs, NestedKey.depthAll, deps]
    rw [keyN_dep a h'.1, keyNs_dep x h'.2]
end
theorem keyOk_L {k : D} (h : keyOk k = true) : keyL k = true ∧ (keyN k).depth ≤ 8 := by
  cases k with
  | tup xs =>
    have h' : keyLs xs = true ∧ deps xs ≤ 6 := by simpa [keyOk] using h
    refine ⟨by simpa [keyL] using h'.1, ?_⟩
    rw [keyN_dep (.tup xs) (by simpa [keyL] using h'.1)]
    simp only [dep]; omega
  | _ => cases h
theorem keyOk_eq {x y : D} (h1 : keyOk x = true) (h2 : keyOk y = true) : pyeq x y = decide (keyN x = keyN y) := by
  rw [NestedKey.decide_eq, keyN_eq (keyOk_L h1).1 (keyOk_L h2).1]

section
variable {X : Cx} {pins : List (Addr × Obj)} {σ : L2.St} {H : Hp} {s : Shared} {m : MM} {h : LH}
mutual
/-- the key stands in the heap -/
theorem nested_of (I : L2.Inv X pins σ H s) : ∀ {d : D} {v : V} {u : Value}, keyL d = true → RelD X.K X.mg m H d v → RelV v u → NestedIs s.heap (keyN d) u
  | .int i, v, u, _, r, rv => by
    cases (r : _ = _)
    obtain ⟨t, rfl⟩ := (show ∃ t, u = Value.int i t from rv)
    exact .int i t
  | .tup xs, v, u, k, r, rv => by
    obtain ⟨p, vs, rfl, h1, h2⟩ := r
    obtain rfl : u = Value.ref p := rv
    obtain ⟨its, r1, ⟨o, e1, e2, n, e3⟩, _⟩ := I.tuple h1.sq
    exact .tup e1 e2 e3 (nesteds_of I (by simpa [keyL] using k) h2 r1)
  | .non, _, _, h, _, _ => by cases h
  | .bl _, _, _, h, _, _ => by cases h
  | .str _, _, _, h, _, _ => by cases h
  | .ref _, _, _, h, _, _ => by cases h
  | .fn _, _, _, h, _, _ => by cases h
  | .kd _, _, _, h, _, _ => by cases h
theorem nesteds_of (I : L2.Inv X pins σ H s) : ∀ {ds : List D} {vs : List V} {us : List Value}, keyLs ds = true → RelDs X.K X.mg m H ds vs → Vals vs us → NestedAll s.heap (keyNs ds) us
  | [], vs, us, _, r, rv => by
    cases (r : _ = _)
    cases rv
    exact .nil
  | d :: ds, vs, us, k, r, rv => by
    obtain ⟨v, vr, rfl, r1, r2⟩ := r
    have k' : keyL d = true ∧ keyLs ds = true := by simpa [keyLs] using k
    cases rv with
    | cons q t => exact .cons (nested_of I k'.1 r1 q) (nesteds_of I k'.2 r2 t)
end
theorem relk_keys {K : PySem.W.Frag} {mg : Str → Option Value} : ∀ {kvs : List (D × D)} {xs : List (NestedKey × Addr × Value)}, RelK K mg m H kvs xs → xs.map (·.1) = kvs.map fun q => keyN q.1
  | [], _, r => by cases (r : _ = _); rfl
  | p :: kvs, _, r => by
    obtain ⟨ka, u, v, s, rfl, _, _, _, _, r⟩ := r
    simp [relk_keys r]
theorem relk_look {K : PySem.W.Frag} {mg : Str → Option Value} {k : D} (hk : keyOk k = true) : ∀ {kvs : List (D × D)} {xs : List (NestedKey × Addr × Value)}, RelK K mg m H kvs xs →
    (∀ d, dLook kvs k = some d → ∃ ka u v, atKey xs (keyN k) = some (ka, u) ∧ RelV v u ∧ RelD K mg m H d v) ∧ (dLook kvs k = none → atKey xs (keyN k) = none)
  | [], _, r => by
    cases (r : _ = _)
    exact ⟨fun d e => (nomatch (e : (none : Option D) = some d)), fun _ => rfl⟩
  | p :: kvs, _, r => by
    obtain ⟨ka, u, v, s, rfl, r1, r2, r3, r4, r5⟩ := r
    obtain ⟨i1, i2⟩ := relk_look hk r5
    have e := keyOk_eq r1 hk
    by_cases q : keyN p.1 = keyN k
    · have e1 : pyeq p.1 k = true := by rw [e]; exact decide_eq_true q
      have e2 : dLook (p :: kvs) k = some p.2 := by simp [dLook, List.find?, e1]
      have e3 : atKey ((keyN p.1, ka, u) :: s) (keyN k) = some (ka, u) := by simp [atKey, List.find?, q]
      refine ⟨fun d z => ?_, fun z => ?_⟩
      · rw [e2] at z; cases z; exact ⟨ka, u, v, e3, r3, r4⟩
      · rw [e2] at z; cases z
    · have e1 : pyeq p.1 k = false := by rw [e]; exact decide_eq_false q
      have e2 : dLook (p :: kvs) k = dLook kvs k := by simp [dLook, List.find?, e1]
      have e3 : atKey ((keyN p.1, ka, u) :: s) (keyN k) = atKey s (keyN k) := by simp [atKey, List.find?, q]
      rw [e2, e3]
      exact ⟨i1, i2⟩
theorem relk_app {K : PySem.W.Frag} {mg : Str → Option Value} : ∀ {kvs ks : List (D × D)} {xs ys : List (NestedKey × Addr × Value)}, RelK K mg m H kvs xs → RelK K mg m H ks ys → RelK K mg m H (kvs ++ ks) (xs ++ ys)
  | [], _, _, _, r, q => by cases (r : _ = _); exact q
  | p :: kvs, _, _, _, r, q => by
    obtain ⟨ka, u, v, s, rfl, r1, r2, r3, r4, r5⟩ := r
    exact ⟨ka, u, v, _, rfl, r1, r2, r3, r4, relk_app r5 q⟩
theorem relk_map {K : PySem.W.Frag} {mg : Str → Option Value} {k d : D} {v : V} {u : Value} (hk : keyOk k = true) (rv : RelV v u) (rd : RelD K mg m H d v) : ∀ {kvs : List (D × D)} {xs : List (NestedKey × Addr × Value)}, RelK K mg m H kvs xs →
    RelK K mg m H (kvs.map fun p => if pyeq p.1 k then (p.1, d) else p) (xs.map (putAt (keyN k) u))
  | [], _, r => by cases (r : _ = _); exact (rfl : ([] : List _) = [])
  | p :: kvs, _, r => by
    obtain ⟨ka, u', v', s, rfl, r1, r2, r3, r4, r5⟩ := r
    have e := keyOk_eq r1 hk
    have i := relk_map hk rv rd r5
    by_cases q : keyN p.1 = keyN k
    · have e1 : pyeq p.1 k = true := by rw [e]; exact decide_eq_true q
      refine ⟨ka, u, v, _, ?_, ?_, ?_, rv, ?_, i⟩
      · simp [putAt, q, e1]
      · simpa [e1] using r1
      · simpa [e1] using r2
      · simpa [e1] using rd
    · have e1 : pyeq p.1 k = false := by rw [e]; exact decide_eq_false q
      refine ⟨ka, u', v', _, ?_, ?_, ?_, r3, ?_, i⟩
      · simp [putAt, q, e1]
      · simpa [e1] using r1
      · simpa [e1] using r2
      · simpa [e1] using r4
theorem relk_any {K : PySem.W.Frag} {mg : Str → Option Value} {k : D} (hk : keyOk k = true) {kvs : List (D × D)} {xs : List (NestedKey × Addr × Value)} (r : RelK K mg m H kvs xs) : (kvs.any fun p => pyeq p.1 k) = (atKey xs (keyN k)).isSome := by
  have e0 : (kvs.any fun p => pyeq p.1 k) = (dLook kvs k).isSome := by
    unfold dLook
    rw [Option.isSome_map, List.isSome_find?]
  rw [e0]
  obtain ⟨i1, i2⟩ := relk_look hk r
  cases q : dLook kvs k with
  | none => rw [i2 q]; rfl
  | some d => obtain ⟨ka, u, v, e, _⟩ := i1 d q; rw [e]; rfl
theorem relk_put {K : PySem.W.Frag} {mg : Str → Option Value} {k d : D} {v : V} {u : Value} {ka : Addr} (hk : keyOk k = true) (rk : RelD K mg m H k (.ref ka)) (rv : RelV v u) (rd : RelD K mg m H d v) {kvs : List (D × D)} {xs : List (NestedKey × Addr × Value)} (r : RelK K mg m H kvs xs) :
    RelK K mg m H (dPut kvs k d) (storedH xs (keyN k) ka u) := by
  unfold dPut storedH
  rw [relk_any hk r]
  split
  · exact relk_map hk rv rd r
  · exact relk_app r ⟨ka, u, v, [], rfl, hk, rk, rv, rd, rfl⟩
theorem relk_del {K : PySem.W.Frag} {mg : Str → Option Value} {k : D} (hk : keyOk k = true) : ∀ {kvs : List (D × D)} {xs : List (NestedKey × Addr × Value)}, RelK K mg m H kvs xs → RelK K mg m H (dDel kvs k) (withoutH xs (keyN k))
  | [], _, r => by cases (r : _ = _); exact (rfl : ([] : List _) = [])
  | p :: kvs, _, r => by
    obtain ⟨ka, u, v, s, rfl, r1, r2, r3, r4, r5⟩ := r
    have e := keyOk_eq r1 hk
    have i := relk_del hk r5
    by_cases q : keyN p.1 = keyN k
    · have e1 : pyeq p.1 k = true := by rw [e]; exact decide_eq_true q
      have e2 : dDel (p :: kvs) k = dDel kvs k := by simp [dDel, e1]
      have e3 : withoutH ((keyN p.1, ka, u) :: s) (keyN k) = withoutH s (keyN k) := by simp [withoutH, q]
      rw [e2, e3]; exact i
    · have e1 : pyeq p.1 k = false := by rw [e]; exact decide_eq_false q
      have e2 : dDel (p :: kvs) k = p :: dDel kvs k := by simp [dDel, e1]
      have e3 : withoutH ((keyN p.1, ka, u) :: s) (keyN k) = (keyN p.1, ka, u) :: withoutH s (keyN k) := by simp [withoutH, q]
      rw [e2, e3]; exact ⟨ka, u, v, _, rfl, r1, r2, r3, r4, i⟩
theorem relk_is {I : L2.Inv X pins σ H s} : ∀ {kvs : List (D × D)} {xs : List (NestedKey × Addr × Value)}, RelK X.K X.mg m H kvs xs → ∀ x ∈ xs, (nestedKind X.prog X.w).is s.heap x.1 x.2.1
  | [], _, r, x, hx => by cases (r : _ = _); cases hx
  | p :: kvs, _, r, x, hx => by
    obtain ⟨ka, u, v, t, rfl, r1, r2, r3, r4, r5⟩ := r
    rcases List.mem_cons.mp hx with rfl | hx
    · obtain ⟨k1, k2⟩ := keyOk_L r1
      exact ⟨nested_of I k1 r2 rfl, k2⟩
    · exact relk_is (I := I) r5 x hx
theorem relk_len {K : PySem.W.Frag} {mg : Str → Option Value} {kvs : List (D × D)} {xs : List (NestedKey × Addr × Value)} (r : RelK K mg m H kvs xs) : xs.length = kvs.length := by
  have := congrArg List.length (relk_keys r)
  simpa using this
theorem dat_hash {k : NestedKey} : True := trivial
mutual
theorem hash_w (w w' : World) : ∀ {d : D}, keyL d = true → (keyN d).hash w = (keyN d).hash w'
  | .int i, _ => by simp [keyN, NestedKey.hash]
  | .tup xs, h => by simp only [keyN, NestedKey.hash]; rw [hashes_w w w' (by simpa [keyL] using h)]
  | .non, h => by cases h
  | .bl _, h => by cases h
  | .str _, h => by cases h
  | .ref _, h => by cases h
  | .fn _, h => by cases h
  | .kd _, h => by cases h
theorem hashes_w (w w' : World) : ∀ {ds : List D}, keyLs ds = true → NestedKey.hashes w (keyNs ds) = NestedKey.hashes w' (keyNs ds)
  | [], _ => by simp [keyNs, NestedKey.hashes]
  | d :: ds, h => by
    have h' : keyL d = true ∧ keyLs ds = true := by simpa [keyLs] using h
    simp only [keyNs, NestedKey.hashes]
    rw [hash_w w w' h'.1, hashes_w w w' h'.2]
end
theorem relk_ent {K : PySem.W.Frag} {mg : Str → Option Value} (P P' : Program) (w w' : World) : ∀ {kvs : List (D × D)} {xs : List (NestedKey × Addr × Value)}, RelK K mg m H kvs xs → xs.map (entryOfKey (nestedKind P w)) = xs.map (entryOfKey (nestedKind P' w'))
  | [], _, r => by cases (r : _ = _); rfl
  | p :: kvs, _, r => by
    obtain ⟨ka, u, v, t, rfl, r1, r2, r3, r4, r5⟩ := r
    rw [List.map_cons, List.map_cons, relk_ent P P' w w' r5]
    congr 1
    show DictEntry.mk ((keyN p.1).hash w) _ _ = DictEntry.mk ((keyN p.1).hash w') _ _
    rw [hash_w w w' (keyOk_L r1).1]

/-- the dict, read -/
theorem rep_dic {K : PySem.W.Frag} {mg : Str → Option Value} (R : Rep K mg m h H) {a : Nat} {kvs : List (D × D)} {v : V} (e : h[a]? = some (.dic kvs)) (r : RelD K mg m H (.ref a) v) :
    ∃ p xs, v = .ref p ∧ m a = some p ∧ H p = some (.ext (DAt p xs)) ∧ (p == sysModules) = false ∧ RelK K mg m H kvs xs ∧ (kvs.map fun q => keyN q.1).Nodup ∧ kvs.length ≤ SZ := by
  obtain ⟨p, rfl, em⟩ := r
  obtain ⟨q, eq, xs, e1, e2⟩ := R.obj a _ e
  rw [em] at eq; cases eq
  exact ⟨p, xs, rfl, em, e1, e2⟩
theorem dat_of (I : L2.Inv X pins σ H s) {p : Addr} {kvs : List (D × D)} {xs : List (NestedKey × Addr × Value)} (e : H p = some (.ext (DAt p xs))) (r : RelK X.K X.mg m H kvs xs) (nd : (kvs.map fun q => keyN q.1).Nodup) : s.heap.DictOfH (nestedKind X.prog X.w) p xs := by
  obtain ⟨⟨o, es, ep, h1, h2, h3, h4⟩, _⟩ := I.hok p _ e
  exact ⟨o, es, ep, h1, h2, h3, h4 _ _, relk_is (I := I) r, by rw [relk_keys r]; exact nd⟩
theorem dat_stay {p : Addr} {xs : List (NestedKey × Addr × Value)} {h1 h2 : Heap} (d : DAt p xs h1) (k : ∀ o, h1.get? p = some o → h2.get? p = some o) : DAt p xs h2 := by
  obtain ⟨o, es, ep, e1, e2⟩ := d
  exact ⟨o, es, ep, k o e1, e2⟩
theorem dat_ok {H' : Hp} {p : Addr} {xs : List (NestedKey × Addr × Value)} {h' : Heap} (d : DAt p xs h') : ObjOk X.prog X.w H' h' p (.ext (DAt p xs)) := by
  obtain ⟨o, es, ep, e1, e2⟩ := d
  exact ⟨⟨o, es, ep, e1, e2⟩, ⟨o, e1⟩, fun h1 h2 d k => dat_stay d k⟩
theorem dat_new {kvs : List (D × D)} {p : Addr} {xs : List (NestedKey × Addr × Value)} {h' : Heap} (d : h'.DictOfH (nestedKind X.prog X.w) p xs) (r : RelK X.K X.mg m H kvs xs) : DAt p xs h' ∧ (kvs.map fun q => keyN q.1).Nodup := by
  obtain ⟨o, es, ep, e1, e2, e3, e4, _, e5⟩ := d
  exact ⟨⟨o, es, ep, e1, e2, e3, fun P w => by rw [e4]; exact relk_ent _ _ _ _ r⟩, by rw [← relk_keys r]; exact e5⟩
/-- the dict, read, walked or not -/
theorem rep_dR (I : L2.Inv X pins σ H s) (R : Rep X.K X.mg m h H) {a : Nat} {kvs : List (D × D)} {v : V} (e : dOf h[a]? = some kvs) (r : RelD X.K X.mg m H (.ref a) v) :
    ∃ p xs, v = .ref p ∧ s.heap.DictOfH (nestedKind X.prog X.w) p xs ∧ (p == sysModules) = false ∧ RelK X.K X.mg m H kvs xs ∧ kvs.length ≤ SZ := by
  obtain ⟨p, rfl, em⟩ := r
  cases q : h[a]? with
  | none => rw [q] at e; cases e
  | some o =>
    rw [q] at e
    obtain ⟨p', ep, ro⟩ := R.obj a _ q
    rw [em] at ep; cases ep
    cases o with
    | lst _ => cases e
    | scr _ => cases e
    | ins _ _ => cases e
    | dic ks =>
      cases e
      obtain ⟨xs, e1, e2, r, nd, hl⟩ := ro
      exact ⟨p, xs, rfl, dat_of I e1 r nd, e2, r, hl⟩
    | dlk ks =>
      cases e
      obtain ⟨xs, ob, e1, e2, r, nd, hl⟩ := ro
      obtain ⟨_, ⟨o, es, ep, h1, h2, h3, h4⟩, _⟩ := I.hok p _ e1
      exact ⟨p, xs, rfl, ⟨o, es, ep, h1, h2, h3, h4 _ _, relk_is (I := I) r, by rw [relk_keys r]; exact nd⟩, e2, r, hl⟩
end

/-! ### the operations -/
section
variable {X : Cx} {pins : List (Addr × Obj)} {σ : L2.St} {H : Hp} {s : Shared} {m : MM} {h : LH}
theorem kroom (hu : X.A.units + 65 < cLine) : (nestedKind X.prog X.w).room X.A.in1 := by
  show X.A.units + 1 + 8 < cLine
  omega
theorem key_ref {K : PySem.W.Frag} {mg : Str → Option Value} {k : D} {v : V} {u : Value} (hk : keyOk k = true) (r : RelD K mg m H k v) (rv : RelV v u) : ∃ ka, v = .ref ka ∧ u = .ref ka := by
  cases k with
  | tup xs =>
    obtain ⟨p, vs, rfl, _⟩ := r
    exact ⟨p, rfl, rv⟩
  | _ => cases hk
theorem key_is (I : L2.Inv X pins σ H s) {k : D} {ka : Addr} (hk : keyOk k = true) (r : RelD X.K X.mg m H k (.ref ka)) : (nestedKind X.prog X.w).is s.heap (keyN k) ka :=
  let ⟨k1, k2⟩ := keyOk_L hk
  ⟨nested_of I k1 r rfl, k2⟩
/-- {} -/
theorem pe_dnewE {pos : Pos} : PE X (.Dict [] [] pos) (fun _ H Q => ∀ p, H p = none → (p == sysModules) = false → Q (.ref p) (upd H p (.ext (DAt p [])))) := ⟨fun pins s σ H Q I h =>
  wpAny_Dict_empty ⟨.ref s.heap.objs.size, _, I.laid (a := s.heap.objs.size) (o := .ext (DAt s.heap.objs.size [])) (t' := s.toks) (fun _ _ q => Heap.get?_push_of_some _ q) (Nat.le_refl _)
    (dat_ok ⟨_, #[], 0, Heap.get?_push_size _ rfl, ⟨rfl, rfl, rfl⟩, rfl, fun _ _ => rfl⟩), rfl,
    h _ (I.hok.fresh (Nat.le_refl _)) (beq_eq_false_iff_ne.mpr (Ne.symm (Nat.ne_of_lt I.big)))⟩⟩
/-- what is in the dict -/
theorem d_in (hu : X.A.units + 65 < cLine) (neg : Bool) {x y : V} {v u : Value} {a : Nat} {kvs : List (D × D)} {k : D} {Q : VK} (I : L2.Inv X pins σ H s) (rx : RelV x v) (ry : RelV y u) (R : Rep X.K X.mg m h H) (ea : dOf h[a]? = some kvs) (ra : RelD X.K X.mg m H (.ref a) y)
    (hk : keyOk k = true) (rk : RelD X.K X.mg m H k x) (q : Q (.bl (if neg then !(dLook kvs k).isSome else (dLook kvs k).isSome)) H) : wpAny (model X.prog X.w) X.A (compareOp (if neg then .NotIn else .In) v u) (EP X pins σ Q) X.xe s := by
  obtain ⟨p, xs, rfl, D, e2, r, _⟩ := rep_dR I R ea ra
  obtain ⟨ka, rfl, rfl⟩ := key_ref hk rk rx
  obtain rfl : u = Value.ref p := ry
  have ke := key_is I hk rk
  have hb : (dLook kvs k).isSome = (atKey xs (keyN k)).isSome := by
    rw [← relk_any hk r]
    unfold dLook
    rw [Option.isSome_map, List.isSome_find?]
  cases neg
  · exact wpAny_in_heap (kroom hu) ke e2 D ⟨.bl _, H, I.tok _, rfl, by rw [← hb]; exact q⟩
  · show wpAny _ _ (do return Value.bool (!(← contains (.ref p) (.ref ka)))) _ _ _
    exact wpAny_bind (wpAny_contains_heap (kroom hu) ke e2 D (wpAny_pure ⟨.bl _, H, I.tok _, rfl, by rw [← hb]; exact q⟩))
theorem ix_dic (hu : X.A.units + 65 < cLine) : IxR X (fun x y H Q => ∃ m h a kvs k d, Rep X.K X.mg m h H ∧ RelD X.K X.mg m H (.ref a) x ∧ RelD X.K X.mg m H k y ∧ dOf h[a]? = some kvs ∧ keyOk k = true ∧ dLook kvs k = some d ∧ ∀ v, RelD X.K X.mg m H d v → Q v H) := by
  intro value slice pins s σ H x y v u Q I rx ry ⟨m, h, a, kvs, k, d, R, ra, rk, ea, hk, hd, q⟩ hs
  obtain ⟨p, xs, rfl, D, e2, r, _⟩ := rep_dR I R ea ra
  obtain ⟨ka, rfl, rfl⟩ := key_ref hk rk ry
  obtain rfl : v = Value.ref p := rx
  obtain ⟨kb, w, vv, b1, b2, b3⟩ := (relk_look hk r).1 d hd
  exact tail_any D.typeIs slot_dict_getitem.lookup (wpAny_getItem_heap (kroom hu) (key_is I hk rk) D b1 ⟨vv, H, I.tok _, b2, q _ b3⟩) hs
/-- behind a change -/
theorem d_changed (I : L2.Inv X pins σ H s) {p : Addr} {xs ys : List (NestedKey × Addr × Value)} {h' : Heap} {t' : Nat} (e : H p = some (.ext (DAt p xs))) (d : DAt p ys h') (hs : Heap.SameBut p s.heap h') :
    L2.Inv X pins σ (upd H p (.ext (DAt p ys))) { s with heap := h', toks := t' } := by
  have he : ∃ q, h'.get? p = some q := let ⟨o, _, _, e, _⟩ := d; ⟨o, e⟩
  exact d_write I (by rw [e]; exact True.intro) hs he (dat_ok d)
theorem go_dic {mg : Str → Option Value} {K : PySem.W.Frag} (R : Rep K mg m h H) {a : Nat} {p : Addr} {o0 : LO} {ys : List (NestedKey × Addr × Value)} {kvs : List (D × D)} (ea : h[a]? = some o0) (m0 : muO o0 = true) (em : m a = some p) (e2 : (p == sysModules) = false)
    (r : RelK K mg m H kvs ys) (nd : (kvs.map fun q => keyN q.1).Nodup) (hz : kvs.length ≤ SZ) : Go m h H m (setDic h a kvs) (upd H p (.ext (DAt p ys))) ∧ Rep K mg m (setDic h a kvs) (upd H p (.ext (DAt p ys))) :=
  go_put R ea m0 em fun t => ⟨ys, upd_same, e2, r.mono t (fun _ _ e => e), nd, hz⟩
theorem dPut_len (kvs : List (D × D)) (k v : D) : (dPut kvs k v).length ≤ kvs.length + 1 := by
  unfold dPut
  split
  · rw [List.length_map]; omega
  · simp
theorem dDel_len (kvs : List (D × D)) (k : D) : (dDel kvs k).length ≤ kvs.length := List.length_filter_le _ _
/-- d[k] = v -/
theorem set_dic (hu : X.A.units + 65 < cLine) : PSet X (fun x y z H Q => ∃ m h a kvs k d, Rep X.K X.mg m h H ∧ RelD X.K X.mg m H (.ref a) x ∧ RelD X.K X.mg m H k y ∧ RelD X.K X.mg m H d z ∧ h[a]? = some (.dic kvs) ∧ keyOk k = true ∧ kvs.length < SZ ∧
    ∀ H', Go m h H m (setDic h a (dPut kvs k d)) H' → Rep X.K X.mg m (setDic h a (dPut kvs k d)) H' → Q H') := by
  intro pins s σ H x y z v u w Q I rx ry rz ⟨m, h, a, kvs, k, d, R, ra, rk, rd, ea, hk, hz, q⟩
  obtain ⟨p, xs, rfl, em, e1, e2, r, nd, hl⟩ := rep_dic R ea ra
  obtain ⟨ka, rfl, rfl⟩ := key_ref hk rk ry
  obtain rfl : v = Value.ref p := rx
  have D := dat_of I e1 r nd
  refine wpAny_setItem_heap (hsz := by rw [relk_len r, SZ_line]; exact hl) (kroom hu) (key_is I hk rk) D fun h' D' hs => ?_
  have r' := relk_put hk rk rz rd r
  obtain ⟨dd, nd'⟩ := dat_new D' r'
  have l' := dPut_len kvs k d
  obtain ⟨g, R'⟩ := go_dic R ea rfl em e2 r' nd' (by omega)
  exact ⟨_, d_changed I e1 dd hs, q _ g R'⟩
/-- d.get(k, x) -/
theorem mt_dget (hu : X.A.units + 65 < cLine) : MtR X "dict.get" (fun x ys H Q => ∃ m h a kvs k d, Rep X.K X.mg m h H ∧ RelD X.K X.mg m H (.ref a) x ∧ RelDs X.K X.mg m H [k, d] ys ∧ dOf h[a]? = some kvs ∧ keyOk k = true ∧ ∀ v, RelD X.K X.mg m H ((dLook kvs k).getD d) v → Q v H) := by
  intro pins s σ H x ys v us Q I rx rs ⟨m, h, a, kvs, k, d, R, ra, rks, ea, hk, q⟩
  obtain ⟨p, xs, rfl, D, e2, r, hl⟩ := rep_dR I R ea ra
  obtain ⟨y, _, rfl, rk, z, _, rfl, rz, rn⟩ := rks
  cases (rn : _ = _)
  obtain ⟨w1, w2, rfl, q1, q2⟩ := Vals.two rs
  obtain ⟨ka, rfl, rfl⟩ := key_ref hk rk q1
  obtain rfl : v = Value.ref p := rx
  refine call_meetsIn PySem.F.slot_dict_get D.typeIs PySem.F.entry_dict_get (PySem.F.args_dict_get_3 _ _ _) (meetsH_dict_get_default (nestedKind X.prog X.w) p ka e2 w2) ⟨kroom hu, keyN k, xs, key_is I hk rk, D, ?_⟩
  obtain ⟨i1, i2⟩ := relk_look hk r
  cases e : dLook kvs k with
  | none => rw [i2 e]; rw [e] at q; exact ⟨z, H, I.tok _, q2, q _ rz⟩
  | some dd =>
    obtain ⟨kb, w, vv, b1, b2, b3⟩ := i1 dd e
    rw [b1]; rw [e] at q
    exact ⟨vv, H, I.tok _, b2, q _ b3⟩
/-- d.pop(k), there -/
theorem mt_dpop (hu : X.A.units + 65 < cLine) : MtR X "dict.pop" (fun x ys H Q => ∃ m h a kvs k d, Rep X.K X.mg m h H ∧ RelD X.K X.mg m H (.ref a) x ∧ RelDs X.K X.mg m H [k] ys ∧ h[a]? = some (.dic kvs) ∧ keyOk k = true ∧ dLook kvs k = some d ∧
    ∀ v H', Go m h H m (setDic h a (dDel kvs k)) H' → Rep X.K X.mg m (setDic h a (dDel kvs k)) H' → RelD X.K X.mg m H' d v → Q v H') := by
  intro pins s σ H x ys v us Q I rx rs ⟨m, h, a, kvs, k, d, R, ra, rks, ea, hk, hd, q⟩
  obtain ⟨p, xs, rfl, em, e1, e2, r, nd, hl⟩ := rep_dic R ea ra
  obtain ⟨y, _, rfl, rk, rn⟩ := rks
  cases (rn : _ = _)
  obtain ⟨w1, rfl, q1⟩ := Vals.one rs
  obtain ⟨ka, rfl, rfl⟩ := key_ref hk rk q1
  obtain rfl : v = Value.ref p := rx
  have D := dat_of I e1 r nd
  obtain ⟨kb, w, vv, b1, b2, b3⟩ := (relk_look hk r).1 d hd
  refine call_pop_heap (more := []) (hsz := by rw [relk_len r, SZ_line]; exact hl) (.inl rfl) (PySem.F.args_dict_pop_2 _ _) (kroom hu) (key_is I hk rk) e2 D b1 fun h' D' hs => ?_
  have r' := relk_del hk r
  obtain ⟨dd, nd'⟩ := dat_new D' r'
  have l' := dDel_len kvs k
  obtain ⟨g, R'⟩ := go_dic R ea rfl em e2 r' nd' (by omega)
  exact ⟨vv, _, d_changed I e1 dd hs, b2, q _ _ g R' (g.rel R b3)⟩
/-- del d[k] -/
theorem ps_ddelE (hu : X.A.units + 65 < cLine) {o i : Expr} {td ty : TE} {tpos pos : Pos} (ho : PE X o td) (hi : PE X i ty) : PS X (.Delete [.Subscript o i tpos] pos) (fun E σ H => td σ H fun x H1 => ty σ H1 fun y H2 =>
    ∃ m h a kvs k d, Rep X.K X.mg m h H2 ∧ RelD X.K X.mg m H2 (.ref a) x ∧ RelD X.K X.mg m H2 k y ∧ h[a]? = some (.dic kvs) ∧ keyOk k = true ∧ dLook kvs k = some d ∧
    ∀ H', Go m h H2 m (setDic h a (dDel kvs k)) H' → Rep X.K X.mg m (setDic h a (dDel kvs k)) H' → E.nx σ H') := by
  refine ⟨fun pins s σ H D I h => ?_⟩
  refine wpAny_Delete (wpAny_deleteEach_cons (wpAny_delete_Subscript (thn (ho.run pins s σ H _ I h) fun u s1 ⟨x, H1, I1, rx, q1⟩ => thn (hi.run pins s1 σ H1 _ I1 q1) fun iv s2 ⟨y, H2, I2, ry, m, h, a, kvs, k, d, R, ra, rk, ea, hk, hd, q⟩ => ?_)))
  obtain ⟨p, xs, rfl, em, e1, e2, r, nd, hl⟩ := rep_dic R ea ra
  obtain ⟨ka, rfl, rfl⟩ := key_ref hk rk ry
  obtain rfl : u = Value.ref p := rx
  have D := dat_of I2 e1 r nd
  obtain ⟨kb, w, vv, b1, b2, b3⟩ := (relk_look hk r).1 d hd
  refine wpAny_delItem_heap (hsz := by rw [relk_len r, SZ_line]; exact hl) (kroom hu) (key_is I2 hk rk) e2 D b1 fun h' D' hs => ?_
  have r' := relk_del hk r
  obtain ⟨dd, nd'⟩ := dat_new D' r'
  have l' := dDel_len kvs k
  obtain ⟨g, R'⟩ := go_dic R ea rfl em e2 r' nd' (by omega)
  exact wpAny_deleteEach_nil ⟨σ, _, d_changed I2 e1 dd hs, q _ g R'⟩
/-- a dict is locked .. -/
theorem lock_in {K : PySem.W.Frag} {mg : Str → Option Value} {m : MM} {h : LH} {H : Hp} (R : Rep K mg m h H) {a : Nat} {p : Addr} {kvs : List (D × D)} {xs : List (NestedKey × Addr × Value)} (od : Obj) (ea : h[a]? = some (.dic kvs)) (em : m a = some p)
    (hs : (p == sysModules) = false) (rk : RelK K mg m H kvs xs) (nd : (kvs.map fun q => keyN q.1).Nodup) (hl : kvs.length ≤ SZ) :
    Go m h H m (h.set a (.dlk kvs)) (upd H p (.frz od (.ext (DAt p xs)))) ∧ Rep K mg m (h.set a (.dlk kvs)) (upd H p (.frz od (.ext (DAt p xs)))) :=
  go_put R ea rfl em fun t => ⟨xs, od, upd_same, hs, rk.mono t (fun _ _ e => e), nd, hl⟩
/-- .. and freed -/
theorem lock_out {K : PySem.W.Frag} {mg : Str → Option Value} {m : MM} {h : LH} {H : Hp} (R : Rep K mg m h H) {a : Nat} {p : Addr} {kvs : List (D × D)} {xs : List (NestedKey × Addr × Value)} (od : Obj) (ea : h[a]? = some (.dic kvs)) (em : m a = some p)
    (hs : (p == sysModules) = false) (rk : RelK K mg m H kvs xs) (nd : (kvs.map fun q => keyN q.1).Nodup) (hl : kvs.length ≤ SZ)
    {m' : MM} {h' : LH} {H' : Hp} (g : Go m (h.set a (.dlk kvs)) (upd H p (.frz od (.ext (DAt p xs)))) m' h' H') (R' : Rep K mg m' h' H') {ks : List (D × D)} (ha : h'[a]? = some (.dlk ks)) :
    H' p = some (.frz od (.ext (DAt p xs))) ∧ TK K H' (upd H' p (.ext (DAt p xs))) ∧ Go m h H m' (setDic h' a kvs) (upd H' p (.ext (DAt p xs))) ∧ Rep K mg m' (setDic h' a kvs) (upd H' p (.ext (DAt p xs))) := by
  obtain ⟨g1, R1⟩ := lock_in R od ea em hs rk nd hl
  have hlt : a < h.length := (List.getElem?_eq_some_iff.mp ea).1
  have hlt' : a < h'.length := (List.getElem?_eq_some_iff.mp ha).1
  have hp1 : upd H p (.frz od (.ext (DAt p xs))) p = some (.frz od (.ext (DAt p xs))) := upd_same
  have hp' : H' p = some (.frz od (.ext (DAt p xs))) := g.keep p _ hp1 (R1.nown hp1 rfl)
  have em' : m' a = some p := g.le a p em
  have tk : TK K H' (upd H' p (.ext (DAt p xs))) := fun q vs t => by
    rcases t with ⟨o, e, z⟩ | t
    · refine .inl ⟨o, ?_, z⟩
      rw [upd_ne]
      · exact e
      · rintro rfl; rw [hp'] at e; cases e
    · exact .inr t
  have at_ : ∀ b v, (setDic h' a kvs)[b]? = some v → (b = a ∧ v = .dic kvs) ∨ (b ≠ a ∧ h'[b]? = some v) := fun b v e => by
    unfold setDic at e
    by_cases hb : b = a
    · subst hb
      rw [List.getElem?_set_self hlt'] at e
      exact .inl ⟨rfl, (Option.some.inj e).symm⟩
    · rw [List.getElem?_set_ne (Ne.symm hb)] at e
      exact .inr ⟨hb, e⟩
  have own1 : ∀ b, Own m (h.set a (.dlk kvs)) b → Own m h b := fun b ⟨c, v, e1, e2, e3⟩ => by
    by_cases hc : c = a
    · subst hc
      rw [List.getElem?_set_self hlt] at e2
      cases e2; cases e3
    · rw [List.getElem?_set_ne (Ne.symm hc)] at e2
      exact ⟨c, v, e1, e2, e3⟩
  have ownp : Own m h p := ⟨a, _, em, ea, rfl⟩
  refine ⟨hp', tk, ⟨fun b q e => g.le b q e, fun b ⟨c, v, e1, e2, e3⟩ => ?_, fun b v e no => ?_⟩, ⟨fun b v e => ?_, fun b q e => ?_, fun b c q v v' e1 e2 e3 e4 e5 e6 => ?_⟩⟩
  · rcases at_ c v e2 with ⟨rfl, _⟩ | ⟨_, e2⟩
    · rw [em'] at e1; cases e1
      exact .inl ownp
    · rcases g.new b ⟨c, v, e1, e2, e3⟩ with o | n
      · exact .inl (own1 b o)
      · by_cases hb : b = p
        · subst hb; rw [hp1] at n; cases n
        · rw [upd_ne hb] at n; exact .inr n
  · have hb : b ≠ p := by rintro rfl; exact no ownp
    rw [upd_ne hb]
    exact g.keep b v (by rw [upd_ne hb]; exact e) fun o => no (own1 b o)
  · rcases at_ b v e with ⟨rfl, rfl⟩ | ⟨hb, e⟩
    · exact ⟨p, em', xs, upd_same, hs, (rk.mono (g1.tk R) (fun _ _ e => e)).mono (fun q vs t => tk q vs (g.tk R1 q vs t)) g.le, nd, hl⟩
    · obtain ⟨q, e1, r1⟩ := R'.obj b v e
      refine ⟨q, e1, ?_⟩
      by_cases hm : unq v = true
      · refine r1.mono tk (fun _ _ e => e) fun u e2 => ?_
        rw [upd_ne]
        · exact e2
        · rintro rfl
          exact hb (R'.inj b a q v _ e1 em' e ha hm rfl)
      · cases v with
        | scr ns =>
          rcases r1 with ⟨o, r1⟩ | r1
          · refine .inl ⟨o, ?_⟩
            rw [upd_ne]
            · exact r1
            · rintro rfl; rw [hp'] at r1; cases r1
          · exact .inr r1
        | _ => exact absurd rfl hm
  · have := R'.dom b q e
    simpa [setDic] using this
  · have fnd : ∀ b v, (setDic h' a kvs)[b]? = some v → unq v = true → ∃ o', h'[b]? = some o' ∧ unq o' = true := fun b v e hm => by
      rcases at_ b v e with ⟨rfl, _⟩ | ⟨_, e⟩
      · exact ⟨_, ha, rfl⟩
      · exact ⟨v, e, hm⟩
    obtain ⟨o', f1, f2⟩ := fnd b v e3 e5
    obtain ⟨u', f3, f4⟩ := fnd c v' e4 e6
    exact R'.inj b c q o' u' e1 e2 f1 f3 f2 f4
/-- o.m(..), o a dict -/
theorem pe_bmD {o e : Expr} {es : List Expr} {to : TE} {t : TA} {name : Str} {apos cpos : Pos} {id : String} {r : V → List V → Hp → VK → Prop} (slot : Slot "dict" name id) (hty : typeOf (.builtin id) = pure (.type "method_descriptor")) (hm : MtR X id r) (ho : PE X o to) (ha : PA X (e :: es) t)
    (hbase : attributeBase o name X.env (eval o X.env) = eval o X.env)
    (hfew : ((backTo cpos (starEach (e :: es) X.env)).all (fun x => !x.1) && (backToKw cpos (keywordEach [] X.env)).all (fun x => x.1.isSome)
      && decide ((e :: es).length + ([] : List Keyword).length + (if ([] : List Keyword).isEmpty then 0 else 1) < 30)) = true)
    (hline : (apos.endLine == cpos.line) = true) (hs : starEach (e :: es) X.env = (false, eval e X.env) :: starEach es X.env) (hplain : (backTo cpos (starEach es X.env)).any (·.1) = false) :
    PE X (.Call (.Attribute o name apos) (e :: es) [] cpos) (fun σ H Q => to σ H fun x H1 => (∃ p xs, x = .ref p ∧ (H1 p = some (.ext (DAt p xs)) ∨ ∃ o, H1 p = some (.frz o (.ext (DAt p xs))))) ∧ t σ H1 fun xs H2 => r x xs H2 Q) := by
  refine ⟨fun pins s σ H Q I h => ?_⟩
  refine wpAny_Call_method_late hbase hfew hline rfl (thn (ho.run pins s σ H _ I h) fun v s1 ⟨x, H1, I1, r1, ⟨p, xs, ex, ep⟩, q1⟩ => ?_)
  subst ex
  obtain rfl : v = Value.ref p := r1
  have hD : DAt p xs s1.heap := by
    rcases ep with ep | ⟨o, ep⟩
    · exact (I1.hok p _ ep).1
    · exact (I1.hok p _ ep).2.1
  obtain ⟨ob, es', epp, h1, h2, h3, h4⟩ := hD
  refine ⟨"dict", id, PySem.F.plainAttrs_dict, slot, hty, ⟨ob, h1, h2.1⟩, fun a ea => ?_, ?_⟩
  · cases ea; exact ⟨ob, h1, h2.2.1⟩
  have hA := ha.run cpos pins s1 σ H1 _ I1 q1
  rw [hs] at hA ⊢
  refine Calls.callWith_builtin (by show (false || (backTo cpos (starEach es X.env)).any (·.1)) = false; rw [hplain] <;> rfl) (Calls.evalArgs_plain ?_)
  exact thn hA fun us s2 ⟨vs, H2, I2, r2, q2⟩ => hm pins s2 σ H2 (.ref p) vs (.ref p) us Q I2 rfl r2 q2
end
end FK

end
section
set_option maxRecDepth 100000
set_option maxHeartbeats 4000000
/-! Fk2t: tuples that are known to have no dict of their own. -/
namespace FK
open PySem PySem.Spec PyProof.Rows L2

/-- a new tuple -/
noncomputable def tupO (us : List Value) : Obj := { cls := .type "tuple", data := .seq us.toArray }
section
variable {X : Cx} {pins : List (Addr × Obj)} {σ : L2.St} {H : Hp} {s : Shared}
/-- a new tuple is laid: known to have no dict -/
theorem laid_tup {h0 : Heap} {t' : Nat} {us : List Value} {vs : List V} (I : L2.Inv X pins σ H s) (k : ∀ b o, s.heap.get? b = some o → h0.get? b = some o) (r : Vals vs us) (z : vs.length ≤ sizeLine) :
    L2.Inv X pins σ (upd H h0.objs.size (.frz (tupO us) (.tup vs))) { s with heap := h0.push (tupO us), toks := t' } ∧ H h0.objs.size = none := by
  have I1 : L2.Inv X pins σ H { s with heap := h0 } := I.kept (t' := s.toks) k
  refine ⟨I1.laid (t' := t') (fun b o e => Heap.get?_push_of_some _ e) (Nat.le_refl _) ?_, I1.hok.fresh (Nat.le_refl _)⟩
  exact ⟨Heap.get?_push_size _ rfl, z, us, r, IsTup.new _ _⟩
theorem upd_tupS {K : PySem.W.Frag} {p : Addr} {us : List Value} {vs : List V} : TupS K (upd H p (.frz (tupO us) (.tup vs))) p vs := .inl ⟨_, upd_same, rfl⟩
/-- what follows a new tuple -/
noncomputable def NewT (K : PySem.W.Frag) (vs : List V) (H : Hp) (Q : VK) : Prop := ∀ p us, H p = none → Q (.ref p) (upd H p (.frz (tupO us) (.tup vs)))
theorem pe_tupF {es : List Expr} {t : TA} {x1 pos} (h : PA X es t) : PE X (.Tuple es x1 pos) (fun σ H Q => t σ H fun xs H1 => xs.length ≤ sizeLine ∧ NewT X.K xs H1 Q) := by
  refine ⟨fun pins s σ H Q I hq => ?_⟩
  refine wpAny_Tuple_spliced (thn (h.run pos pins s σ H _ I hq) fun us s1 ⟨xs, H1, I1, r, z, q⟩ => ⟨by rw [← r.length]; exact z, ?_⟩)
  obtain ⟨I2, hn⟩ := laid_tup (t' := s1.toks) I1 (fun _ _ e => e) r z
  exact ⟨.ref s1.heap.objs.size, _, I2, rfl, q _ us hn⟩
/-- t + u -/
noncomputable def rCatF (K : PySem.W.Frag) : R2 := fun x y H Q => ∃ a b xs ys, x = .ref a ∧ y = .ref b ∧ SqT K H a xs ∧ SqT K H b ys ∧ xs.length + ys.length ≤ sizeLine ∧
  (xs = [] → Q (.ref b) H) ∧ (xs ≠ [] → ys = [] → Q (.ref a) H) ∧ (xs ≠ [] → ys ≠ [] → NewT K (xs ++ ys) H Q)
theorem op_catF : OpR X (binaryOp .Add) (rCatF X.K) := by
  intro pins s σ H x y v u Q I rx ry h
  obtain ⟨a, b, xs, ys, rfl, rfl, ha, hb, hz, q0, q1, q2⟩ := h
  cases rx
  cases ry
  obtain ⟨its, r1, p1, _⟩ := I.tuple ha
  obtain ⟨its2, r2, p2, _⟩ := I.tuple hb
  by_cases hx : xs = []
  · subst hx
    cases r1
    exact cat_tup0 p1 p2 ⟨.ref b, H, I, rfl, q0 rfl⟩
  · refine HT.cat_tup p1 p2 (fun z => hx (r1.nil_iff.mp z)) (fun z => ⟨.ref a, H, I, rfl, q1 hx (r2.nil_iff.mp z)⟩) (fun z => ?_) (by rw [← r1.length, ← r2.length]; exact hz)
    obtain ⟨I2, hn⟩ := laid_tup (t' := s.toks) I (fun _ _ e => e) (r1.append r2) (by rw [List.length_append]; exact hz)
    exact ⟨.ref s.heap.objs.size, _, I2, rfl, q2 hx (fun w => z (r2.nil_iff.mpr w)) _ _ hn⟩
/-- t[lo:hi]: the whole of it is t itself -/
noncomputable def rSlF (K : PySem.W.Frag) : V → Option Int → Option Int → Hp → VK → Prop := fun x lo hi H Q => ∃ a xs, x = .ref a ∧ SqT K H a xs ∧
  (HT.sIx xs.length 0 lo = 0 ∧ HT.sIx xs.length xs.length hi = xs.length → Q (.ref a) H) ∧ (¬ (HT.sIx xs.length 0 lo = 0 ∧ HT.sIx xs.length xs.length hi = xs.length) → NewT K (cutV xs lo hi) H Q)
theorem sl_tupF : SlR X (rSlF X.K) := by
  intro pins s σ H x v vl vu lo hi sl Q I rx hs pl pu h
  obtain ⟨a, xs, rfl, hx, q1, q2⟩ := h
  cases rx
  obtain ⟨its, r, ht, hz⟩ := I.tuple hx
  have hlen : its.toArray.size = xs.length := by rw [List.size_toArray]; exact r.length.symm
  refine ⟨"tuple", _, PyProof.Rows.slot_tuple_getitem.lookup, ht.typeIs, ?_⟩
  by_cases hw : HT.sIx xs.length 0 lo = 0 ∧ HT.sIx xs.length xs.length hi = xs.length
  · exact getItem_tuple_whole ht hs pl pu (by rw [hlen]; exact hw) ⟨.ref a, H, I, rfl, q1 hw⟩
  · refine HT.getItem_tuple_cut ht hs pl pu (by rw [hlen]; exact hw) ?_ (by rw [hlen]; exact hz)
    rw [hlen]
    obtain ⟨I2, hn⟩ := laid_tup (t' := s.toks) I (fun _ _ e => e) ((r.drop (HT.sIx xs.length 0 lo)).take (HT.sIx xs.length xs.length hi - HT.sIx xs.length 0 lo)) (Nat.le_trans (cutV_length xs lo hi) hz)
    exact ⟨.ref s.heap.objs.size, _, I2, rfl, q2 hw _ _ hn⟩
theorem call_tupleF : CallR X (.type "tuple") (fun xs H Q => ∃ p ys, xs = [.ref p] ∧ ((SqL X.K H p ys ∧ NewT X.K ys H Q) ∨ (SqT X.K H p ys ∧ Q (.ref p) H))) := by
  intro pins s σ H xs us Q I r h
  obtain ⟨p, ys, rfl, h⟩ := h
  obtain ⟨u, rfl, rx⟩ := vals1 r
  cases rx
  rcases h with ⟨hq, q⟩ | ⟨hq, q⟩
  · obtain ⟨its, r', pl, hz⟩ := I.list hq
    have hlen := r'.length
    refine call_tuple_list pl.isList (fun h' kp => ?_) (by simp only [List.size_toArray] <;> omega)
    obtain ⟨I2, hn⟩ := laid_tup (t' := s.toks) I kp r' hz
    exact ⟨.ref h'.objs.size, _, I2, rfl, q _ _ hn⟩
  · obtain ⟨its, r', pl, hz⟩ := I.tuple hq
    exact call_tuple_same pl ⟨.ref p, H, I, rfl, q⟩
/-- o.m(..), o a tuple -/
theorem pe_bmT {o e : Expr} {es : List Expr} {to : TE} {t : TA} {name : Str} {apos cpos : Pos} {id : String} {r : V → List V → Hp → VK → Prop} (slot : Slot "tuple" name id) (hty : typeOf (.builtin id) = pure (.type "method_descriptor")) (hm : MtR X id r) (ho : PE X o to) (ha : PA X (e :: es) t)
    (hbase : attributeBase o name X.env (eval o X.env) = eval o X.env)
    (hfew : ((backTo cpos (starEach (e :: es) X.env)).all (fun x => !x.1) && (backToKw cpos (keywordEach [] X.env)).all (fun x => x.1.isSome)
      && decide ((e :: es).length + ([] : List Keyword).length + (if ([] : List Keyword).isEmpty then 0 else 1) < 30)) = true)
    (hline : (apos.endLine == cpos.line) = true) (hs : starEach (e :: es) X.env = (false, eval e X.env) :: starEach es X.env) (hplain : (backTo cpos (starEach es X.env)).any (·.1) = false) :
    PE X (.Call (.Attribute o name apos) (e :: es) [] cpos) (fun σ H Q => to σ H fun x H1 => (∃ p vs, x = .ref p ∧ TupS X.K H1 p vs) ∧ t σ H1 fun xs H2 => r x xs H2 Q) := by
  refine ⟨fun pins s σ H Q I h => ?_⟩
  refine wpAny_Call_method_late hbase hfew hline rfl (thn (ho.run pins s σ H _ I h) fun v s1 ⟨x, H1, I1, r1, ⟨p, xs, ex, ep⟩, q1⟩ => ?_)
  subst ex
  obtain rfl : v = Value.ref p := r1
  obtain ⟨ob, h1, h2, h3⟩ : ∃ ob, s1.heap.get? p = some ob ∧ ob.cls = .type "tuple" ∧ ob.dict = none := by
    rcases ep with ⟨ob, e1, e2⟩ | ⟨ob, its, n, e1, e2, e3, _⟩
    · obtain ⟨k1, _, its, _, ob', k2, k3, _⟩ := I1.hok p _ e1
      rw [k1] at k2; cases k2
      exact ⟨ob, k1, k3, e2⟩
    · exact ⟨ob, I1.kIn p ob e1, e2, e3⟩
  refine ⟨"tuple", id, PySem.F.plainAttrs_tuple, slot, hty, ⟨ob, h1, h2⟩, fun a ea => ?_, ?_⟩
  · cases ea; exact ⟨ob, h1, h3⟩
  have hA := ha.run cpos pins s1 σ H1 _ I1 q1
  rw [hs] at hA ⊢
  refine Calls.callWith_builtin (by show (false || (backTo cpos (starEach es X.env)).any (·.1)) = false; rw [hplain] <;> rfl) (Calls.evalArgs_plain ?_)
  exact thn hA fun us s2 ⟨vs, H2, I2, r2, q2⟩ => hm pins s2 σ H2 (.ref p) vs (.ref p) us Q I2 rfl r2 q2
theorem op_repF : OpR X (binaryOp .Mult) (fun x y H Q => ∃ l k xs, x = .ref l ∧ y = .int k ∧ SqT X.K H l xs ∧ xs ≠ [] ∧ 2 ≤ k ∧ k ≤ 1000 ∧ xs.length ≤ 1000 ∧ NewT X.K (List.replicate k.toNat xs).flatten H Q) := by
  intro pins s σ H x y v u Q I rx ry h
  obtain ⟨l, k, xs, rfl, rfl, hT, hne, h1, h2, hz, q⟩ := h
  cases rx
  obtain ⟨t, rfl⟩ := ry
  obtain ⟨its, r, ⟨⟨cls, dd, data, sl⟩, ho, hc, n, hd⟩, hs⟩ := I.tuple hT
  simp only at hc hd
  subst hc hd
  have hle : its.length = xs.length := r.length.symm
  have hn : its ≠ [] := fun e => hne (by
    rw [e] at hle
    exact List.eq_nil_of_length_eq_zero hle.symm)
  have hi : its.toArray.isEmpty = false := by
    cases its with
    | nil => exact absurd rfl hn
    | cons a b => rfl
  have hsz0 : its.toArray.size = xs.length := by rw [List.size_toArray, hle]
  have hm : ((its.toArray.size : Nat) : Int) * k ≤ 1000000 := by
    rw [hsz0]
    have a1 : ((xs.length : Nat) : Int) * k ≤ 1000 * k := Int.mul_le_mul_of_nonneg_right (by omega) (by omega)
    omega
  have flen : (List.replicate k.toNat its).flatten.length ≤ sizeLine := by
    rw [PyProof.Rows.lm_len_rep_flat, hle, sizeLine_eq]
    have a1 : k.toNat * xs.length ≤ 1000 * 1000 := Nat.mul_le_mul (by omega) hz
    omega
  have c0 : (decide (k < -(2 ^ 63)) || decide (k ≥ 2 ^ 63)) = false := by
    rw [decide_eq_false (by omega), decide_eq_false (by omega)] <;> rfl
  have c1 : (its.toArray.isEmpty || k == 1) = false := by
    rw [hi, Bool.false_or]
    exact beq_eq_false_iff_ne.mpr (by omega)
  have c2 : (decide (k ≤ 0) || its.toArray.isEmpty) = false := by
    rw [hi, Bool.or_false]
    exact decide_eq_false (by omega)
  have c4 : Builtin.Tuple.tupleTooMany (((its.toArray.size : Nat) : Int) * k) = false := by
    unfold Builtin.Tuple.tupleTooMany
    rw [sizeLine_eq]
    exact decide_eq_false (by omega)
  refine wpAny_binaryOp_repeat_ref (T := "tuple") (U := "int") (by decide) ⟨_, ho, rfl⟩ (fun s' => typeIs_int s' k t) noFill_tuple_mul F.fills_int_mul F.slot_int_rmul repeat_tuple F.slot_int_index.lookup
    (call_meets F.slot_int_rmul (typeIs_int s k t) F.entry_int_rmul (F.args_int_rmul_2 _ _) (int_rmul_tuple k t l its.toArray n dd sl)
      ⟨ho, rfl, ⟨_, ho, rfl⟩, call_meets F.slot_tuple_mul ⟨_, ho, rfl⟩ F.entry_tuple_mul (F.args_tuple_mul_2 _ _) (tuple_mulW l its.toArray n dd sl k t c0 c1 c2 (by omega) c4 (by rw [size_rep, List.size_toArray]; exact flen)) ⟨ho, ?_⟩⟩)
  rw [size_rep]
  obtain ⟨I2, hn2⟩ := laid_tup (t' := s.toks) I (fun _ _ e => e) (r.rep k.toNat) (by rw [PyProof.Rows.lm_len_rep_flat, sizeLine_eq]; have a1 : k.toNat * xs.length ≤ 1000 * 1000 := Nat.mul_le_mul (by omega) hz; omega)
  exact ⟨.ref s.heap.objs.size, _, I2, rfl, q _ _ hn2⟩
end
end FK

end
section
set_option maxRecDepth 100000
set_option maxHeartbeats 4000000
/-! Fk2: what the operators compute. -/
namespace FK
open PySem PySem.Spec PyProof.Rows L2

theorem str_len (s : List Nat) : (⟨s.toArray⟩ : Str).length = s.length := by show s.toArray.size = _; simp
theorem str_app (s t : List Nat) : (⟨s.toArray⟩ : Str) ++ (⟨t.toArray⟩ : Str) = ⟨(s ++ t).toArray⟩ := by
  show Str.append _ _ = _
  unfold Str.append
  simp
theorem str_beq (s t : List Nat) : ((⟨s.toArray⟩ : Str) == ⟨t.toArray⟩) = (s == t) := by
  rw [Bool.eq_iff_iff]
  simp

section
variable {K : PySem.W.Frag} {mg : Str → Option Value} {m : MM} {h : LH} {H : Hp}
/-- what an end is good for -/
noncomputable def GoE (K : PySem.W.Frag) (mg : Str → Option Value) (m : MM) (h : LH) (H : Hp) (r : Option (D × LH)) (Q : VK) : Prop :=
  ∃ d h', r = some (d, h') ∧ ∀ m' v H', Go m h H m' h' H' → Rep K mg m' h' H' → RelD K mg m' H' d v → Q v H'

theorem goe_keep {Q : VK} (R : Rep K mg m h H) {r : Option (D × LH)} {d : D} {v : V} (g : GoE K mg m h H r Q) (e : r = some (d, h)) (rd : RelD K mg m H d v) : Q v H := by
  obtain ⟨d', h', e', q⟩ := g
  rw [e] at e'; cases e'
  exact q m v H Go.refl R rd
theorem goe_tup {Q : VK} (R : Rep K mg m h H) {r : Option (D × LH)} {xs : List D} {vs : List V} (g : GoE K mg m h H r Q) (e : r = some (.tup xs, h)) (rd : RelDs K mg m H xs vs) : NewT K vs H Q := by
  obtain ⟨d', h', e', q⟩ := g
  rw [e] at e'; cases e'
  intro p us n
  obtain ⟨g1, R1⟩ := go_fresh R n (.frz (tupO us) (.tup vs))
  exact q m _ _ g1 R1 ⟨p, vs, rfl, upd_tupS, Go.rels R g1 rd⟩
theorem goe_lst {Q : VK} (R : Rep K mg m h H) {r : Option (D × LH)} {xs : List D} {vs : List V} (g : GoE K mg m h H r Q) (e : r = alloc h (.lst xs)) (rd : RelDs K mg m H xs vs) : ∀ p, H p = none → Q (.ref p) (upd H p (.lst vs)) := by
  obtain ⟨d', h', e', q⟩ := g
  rw [e] at e'; cases e'
  intro p n
  obtain ⟨m', g1, R1, em⟩ := go_alloc R n rd
  exact q m' _ _ g1 R1 ⟨p, rfl, em⟩
theorem rep_lst (R : Rep K mg m h H) {a : Nat} {xs : List D} {v : V} (e : h[a]? = some (.lst xs)) (r : RelD K mg m H (.ref a) v) : ∃ p vs, v = .ref p ∧ m a = some p ∧ H p = some (.lst vs) ∧ RelDs K mg m H xs vs := by
  obtain ⟨p, rfl, em⟩ := r
  obtain ⟨q, eq, vs, e1, e2⟩ := R.obj a _ e
  rw [em] at eq; cases eq
  exact ⟨p, vs, rfl, em, e1, e2⟩
theorem rep_scr (R : Rep K mg m h H) {a : Nat} {ns : List Int} {v : V} (e : h[a]? = some (.scr ns)) (r : RelD K mg m H (.ref a) v) : ∃ p, v = .ref p ∧ SqL K H p (ns.map V.int) := by
  obtain ⟨p, rfl, em⟩ := r
  obtain ⟨q, eq, e1⟩ := R.obj a _ e
  rw [em] at eq; cases eq
  exact ⟨p, rfl, ScrAt.sq e1⟩
/-- a list or the script, read -/
theorem rep_seq (R : Rep K mg m h H) {a : Nat} {xs : List D} {v : V} (e : seqOf (.ref a) h = some xs) (r : RelD K mg m H (.ref a) v) : ∃ p vs, v = .ref p ∧ m a = some p ∧ SqL K H p vs ∧ RelDs K mg m H xs vs := by
  unfold seqOf at e
  have r' := r
  obtain ⟨p, rfl, em⟩ := r
  cases q : h[a]? with
  | none => simp [q] at e
  | some o =>
    cases o with
    | lst ys =>
      simp [q] at e; subst e
      obtain ⟨p', vs, e1, _, e2, e3⟩ := rep_lst R q r'
      cases e1
      exact ⟨p, vs, rfl, em, SqL.of e2, e3⟩
    | scr ns =>
      simp [q] at e; subst e
      obtain ⟨p', e1, e2⟩ := rep_scr R q r'
      cases e1
      exact ⟨p, _, rfl, em, e2, RelDs.ints ns⟩
    | dic _ => simp [q] at e
    | dlk _ => simp [q] at e
    | ins _ _ => simp [q] at e

theorem RelDs.rep {xs : List D} {vs : List V} (r : RelDs K mg m H xs vs) : ∀ k : Nat, RelDs K mg m H (List.replicate k xs).flatten (List.replicate k vs).flatten
  | 0 => rfl
  | k + 1 => by
    rw [List.replicate_succ, List.flatten_cons, List.replicate_succ, List.flatten_cons]
    exact r.append (RelDs.rep r k)
end
mutual
/-- the library's data -/
noncomputable def pd : D → PyData
  | .non => .none
  | .bl b => .bool b
  | .int i => .int i
  | .str s => .str ⟨s.toArray⟩
  | .tup xs => .tuple (pds xs)
  | _ => .none
noncomputable def pds : List D → List PyData
  | [] => []
  | x :: xs => pd x :: pds xs
end
section
variable {K : PySem.W.Frag} {mg : Str → Option Value} {m : MM} {h : LH} {H : Hp}
mutual
theorem rel_dp : ∀ {d : D} {v : V}, pur d = true → RelD K mg m H d v → Dp K H v (pd d) ∧ (pd d).canLay0 = true ∧ (pd d).depth = dep d
  | .non, _, _, r => by cases (r : _ = _); exact ⟨.non, by simp [pd, PyData.canLay0], by simp [pd, PyData.depth, dep]⟩
  | .bl b, _, _, r => by cases (r : _ = _); exact ⟨.bl b, by simp [pd, PyData.canLay0], by simp [pd, PyData.depth, dep]⟩
  | .int b, _, _, r => by cases (r : _ = _); exact ⟨.int b, by simp [pd, PyData.canLay0], by simp [pd, PyData.depth, dep]⟩
  | .str s, _, p, r => by
    cases (r : _ = _)
    refine ⟨.str _, ?_, by simp [pd, PyData.depth, dep]⟩
    simp only [pd, PyData.canLay0, PyData.strOk]
    simpa [pur] using p
  | .tup xs, _, p, r => by
    obtain ⟨q, vs, rfl, h1, h2⟩ := r
    obtain ⟨e1, e2, e3⟩ := rel_dps (xs := xs) (by simpa [pur] using p) h2
    exact ⟨.tup h1.sq e1, by simpa [pd, PyData.canLay0] using e2, by simp [pd, PyData.depth, dep, e3]⟩
  | .ref _, _, p, _ => by simp [pur] at p
  | .fn _, _, p, _ => by simp [pur] at p
  | .kd _, _, p, _ => by simp [pur] at p
theorem rel_dps : ∀ {xs : List D} {vs : List V}, purs xs = true → RelDs K mg m H xs vs → DpAll K H vs (pds xs) ∧ PyData.canLayAll0 (pds xs) = true ∧ PyData.depthAll (pds xs) = deps xs
  | [], _, _, r => by cases (r : _ = _); exact ⟨.nil, by simp [pds, PyData.canLayAll0], by simp [pds, PyData.depthAll, deps]⟩
  | x :: xs, _, p, r => by
    obtain ⟨v, vs, rfl, h1, h2⟩ := r
    have p' : pur x = true ∧ purs xs = true := by simpa [purs] using p
    obtain ⟨a1, a2, a3⟩ := rel_dp p'.1 h1
    obtain ⟨b1, b2, b3⟩ := rel_dps p'.2 h2
    exact ⟨.cons a1 b1, by simp [pds, PyData.canLayAll0, a2, b2], by simp [pds, PyData.depthAll, deps, a3, b3]⟩
end
theorem purs_all : ∀ {xs : List D}, xs.all shp = true → purs xs = true ∧ deps xs ≤ 60
  | [], _ => ⟨rfl, by simp [deps]⟩
  | x :: xs, h => by
    have h' : shp x = true ∧ xs.all shp = true := by simpa using h
    have h1 : pur x = true ∧ dep x ≤ 60 := by simpa [shp] using h'.1
    obtain ⟨a, b⟩ := purs_all h'.2
    exact ⟨by simp [purs, h1.1, a], by simp only [deps]; omega⟩
theorem shp_dp {d : D} {v : V} (p : shp d = true) (r : RelD K mg m H d v) : Dp K H v (pd d) ∧ SeqAt.shaped (pd d) = true := by
  have h1 : pur d = true ∧ dep d ≤ 60 := by simpa [shp] using p
  obtain ⟨a1, a2, a3⟩ := rel_dp h1.1 r
  exact ⟨a1, by simp [SeqAt.shaped, a2, a3]; omega⟩
end

/-! ### == -/
mutual
theorem eqv_pd : ∀ {a b : D}, pur a = true → pur b = true → PyData.eqv (pd a) (pd b) = pyeq a b
  | .non, b, _, q => by cases b <;> first | (simp [pur] at q; done) | simp [pd, PyData.eqv, pyeq]
  | .bl _, b, _, q => by cases b <;> first | (simp [pur] at q; done) | simp [pd, PyData.eqv, pyeq, b2i]
  | .int _, b, _, q => by cases b <;> first | (simp [pur] at q; done) | simp [pd, PyData.eqv, pyeq, b2i]
  | .str _, b, _, q => by cases b <;> first | (simp [pur] at q; done) | simp [pd, PyData.eqv, pyeq, str_beq]
  | .tup xs, b, p, q => by
    cases b with
    | tup ys => simp only [pd, PyData.eqv, pyeq]; exact eqv_pds (by simpa [pur] using p) (by simpa [pur] using q)
    | _ => first | (simp [pur] at q; done) | simp [pd, PyData.eqv, pyeq]
  | .ref _, _, p, _ => by simp [pur] at p
  | .fn _, _, p, _ => by simp [pur] at p
  | .kd _, _, p, _ => by simp [pur] at p
theorem eqv_pds : ∀ {xs ys : List D}, purs xs = true → purs ys = true → PyData.eqvAll (pds xs) (pds ys) = pyeqs xs ys
  | [], [], _, _ => by simp [pds, PyData.eqvAll, pyeqs]
  | [], _ :: _, _, _ => by simp [pds, PyData.eqvAll, pyeqs]
  | _ :: _, [], _, _ => by simp [pds, PyData.eqvAll, pyeqs]
  | x :: xs, y :: ys, p, q => by
    have p' : pur x = true ∧ purs xs = true := by simpa [purs] using p
    have q' : pur y = true ∧ purs ys = true := by simpa [purs] using q
    simp only [pds, PyData.eqvAll, pyeqs]
    rw [eqv_pd p'.1 q'.1, eqv_pds p'.2 q'.2]
end
theorem any_pds {x : D} (p : pur x = true) : ∀ {xs : List D}, purs xs = true → ((pds xs).any fun z => PyData.eqv z (pd x)) = xs.any fun y => pyeq y x
  | [], _ => rfl
  | y :: ys, q => by
    have q' : pur y = true ∧ purs ys = true := by simpa [purs] using q
    simp only [pds, List.any_cons]
    rw [eqv_pd q'.1 p, any_pds p q'.2]

/-! ### operators -/
section
variable {X : Cx}
/-- what a rule of two values says of the language -/
abbrev rD2 (X : Cx) (f : D → D → LH → Option (D × LH)) : R2 := fun x y H Q => ∃ m h a b, Rep X.K X.mg m h H ∧ RelD X.K X.mg m H a x ∧ RelD X.K X.mg m H b y ∧ GoE X.K X.mg m h H (f a b h) Q

theorem op_bin (o : Bop) : OpR X (binaryOp (bopO o)) (rD2 X (binop o)) := by
  intro pins s σ H x y v u Q I rx ry ⟨m, h, a, b, R, ra, rb, g⟩
  have g' := g
  obtain ⟨d, h', e, q⟩ := g
  unfold binop at e
  split at e
  · -- int + int
    cases (ra : _ = _); cases (rb : _ = _)
    exact op_add pins s σ H _ _ v u Q I rx ry ⟨_, _, rfl, rfl, goe_keep R g' rfl rfl⟩
  · rename_i s' t'
    split at e
    · rename_i hz
      cases (ra : _ = _); cases (rb : _ = _)
      refine op_add_str pins s σ H _ _ v u Q I rx ry ⟨_, _, rfl, rfl, by rw [str_len, str_len, SZ_line]; exact hz, goe_keep R g' (by simp [binop, hz]; rfl) ?_⟩
      exact congrArg V.str (str_app s' t')
    · cases e
  · rename_i xs ys
    split at e
    · rename_i hz
      obtain ⟨p, vs, rfl, h1, h2⟩ := ra
      obtain ⟨p', vs', rfl, h1', h2'⟩ := rb
      have l1 := h2.len
      have l2 := h2'.len
      have er : binop .add (.tup xs) (.tup ys) h = some (.tup (xs ++ ys), h) := by simp [binop, hz]
      refine op_catF pins s σ H _ _ v u Q I rx ry ⟨p, p', vs, vs', rfl, rfl, h1.sq, h1'.sq, by rw [SZ_line]; omega, fun e1 => ?_, fun _ e1 => ?_, fun _ _ => goe_tup R g' er (h2.append h2')⟩
      · subst e1
        have : xs = [] := List.length_eq_zero_iff.mp (by simpa using l1)
        subst this
        exact goe_keep R g' er ⟨p', vs', rfl, h1', h2'⟩
      · subst e1
        have : ys = [] := List.length_eq_zero_iff.mp (by simpa using l2)
        subst this
        exact goe_keep R g' er ⟨p, vs, rfl, h1, by simpa using h2⟩
    · cases e
  · rename_i p q
    split at e
    · rename_i xs ys e1 e2
      split at e
      · rename_i hz
        obtain ⟨pa, vs, rfl, _, k1, k2⟩ := rep_lst R e1 ra
        obtain ⟨pb, ws, rfl, _, k3, k4⟩ := rep_lst R e2 rb
        have l1 := k2.len
        have l2 := k4.len
        exact op_cat pins s σ H _ _ v u Q I rx ry ⟨pa, pb, vs, ws, rfl, rfl, k1, k3, by rw [SZ_line]; omega, goe_lst R g' (by simp [binop, e1, e2, hz]) (k2.append k4)⟩
      · cases e
    · cases e
  · cases (ra : _ = _); cases (rb : _ = _)
    exact op_sub pins s σ H _ _ v u Q I rx ry ⟨_, _, rfl, rfl, goe_keep R g' rfl rfl⟩
  · rename_i i j
    split at e
    · rename_i hm
      cases (ra : _ = _); cases (rb : _ = _)
      have fin := goe_keep R g' (d := .int (i * j)) (by simp [binop, hm]) rfl
      unfold mulOk at hm
      simp only [Bool.or_eq_true, Bool.and_eq_true, decide_eq_true_eq] at hm
      rcases hm with (hm | hm) | ⟨h1, h2⟩
      · exact op_mul pins s σ H _ _ v u Q I rx ry ⟨_, _, rfl, rfl, .inl (by omega), fin⟩
      · exact op_mul pins s σ H _ _ v u Q I rx ry ⟨_, _, rfl, rfl, .inr (by omega), fin⟩
      · exact op_mulW pins s σ H _ _ v u Q I rx ry ⟨_, _, rfl, rfl, wide_mul h1 h2 (by decide) (by decide) (by decide), fin⟩
    · cases e
  · rename_i t j
    split at e
    · rename_i hz
      cases (ra : _ = _); cases (rb : _ = _)
      obtain ⟨tk, rfl⟩ := rx
      obtain ⟨tk', rfl⟩ := ry
      have fin := goe_keep R g' (d := .str (List.replicate j.toNat t).flatten) (if_pos hz) rfl
      have hS : (SZ : Int) = 16777216 := rfl
      have hS2 : SZ = 16777216 := rfl
      obtain ⟨z0, z1, z2⟩ := hz
      have fold : ∀ (k : Nat) (acc : Array Nat), (List.replicate k t.toArray).foldl (· ++ ·) acc = acc ++ (List.replicate k t).flatten.toArray := by
        intro k
        induction k with
        | zero => intro acc; simp
        | succ k ih => intro acc; rw [List.replicate_succ, List.foldl_cons, ih, List.replicate_succ, List.flatten_cons]; simp
      refine PySem.P.mul_str (by simp only [Bool.or_eq_false_iff, decide_eq_false_iff_not]; omega) (fun h1 h2 => ?_) (fun h1 h2 => ?_) ?_
      · simp only [Bool.or_eq_false_iff, beq_eq_false_iff_ne] at h2
        rw [str_len]
        have : (t.length : Int) * j ≤ SZ := by
          have e1 : ((t.length * j.toNat : Nat) : Int) = (t.length : Int) * j := by
            rw [Int.natCast_mul, Int.toNat_of_nonneg (by omega)]
          rw [← e1]; omega
        have h3 : (t.length : Int) ≤ (2 ^ 63 - 1) / j := by
          rw [Int.le_ediv_iff_mul_le (by omega)]
          omega
        omega
      · unfold Builtin.Str.tooLong
        rw [str_len]
        simp only [decide_eq_false_iff_not]
        show ¬ (sizeLine < _)
        rw [SZ_line]
        omega
      · split
        · rename_i h1
          have h0 : j.toNat = 0 := by omega
          rw [h0] at fin
          exact ⟨by decide, .str ⟨#[]⟩, H, I.tok _, ⟨_, rfl⟩, by simpa using fin⟩
        · rename_i h1
          split
          · rename_i h2
            simp only [Bool.or_eq_true, beq_iff_eq] at h2
            refine ⟨.str ⟨t.toArray⟩, H, I, ⟨_, rfl⟩, ?_⟩
            rcases h2 with h2 | h2
            · have h0 : j.toNat = 1 := by omega
              rw [h0] at fin
              simpa using fin
            · rw [str_len] at h2
              have : t = [] := List.length_eq_zero_iff.mp h2
              subst this
              have e1 : (List.replicate j.toNat ([] : List Nat)).flatten = [] := by simp
              rw [e1] at fin
              exact fin
          · have e2 : (⟨(List.replicate j.toNat (⟨t.toArray⟩ : Str).cps).foldl (· ++ ·) #[]⟩ : Str) = ⟨(List.replicate j.toNat t).flatten.toArray⟩ := by
              show Str.mk _ = Str.mk _
              rw [fold j.toNat #[]]
              simp
            rw [e2]
            refine ⟨?_, .str ⟨(List.replicate j.toNat t).flatten.toArray⟩, H, I.tok _, ⟨_, rfl⟩, fin⟩
            rw [str_len, SZ_line]
            have : (List.replicate j.toNat t).flatten.length = j.toNat * t.length := by simp
            rw [this, Nat.mul_comm]
            exact z2
    · cases e
  · rename_i ys j
    split at e
    · rename_i hz
      cases (rb : _ = _)
      obtain ⟨p, vs, rfl, h1, h2⟩ := ra
      have l1 := h2.len
      have er : binop .mul (.tup ys) (.int j) h = some (.tup (List.replicate j.toNat ys).flatten, h) := if_pos hz
      obtain ⟨⟨z1, z2⟩, z3, z4⟩ := hz
      refine op_repF pins s σ H _ _ v u Q I rx ry ⟨p, j, vs, rfl, rfl, h1.sq, ?_, z3, z4, by omega, goe_tup R g' er (RelDs.rep h2 j.toNat)⟩
      rintro rfl
      exact z1 (by simpa using l1)
    · cases e
  · rename_i p j
    split at e
    · rename_i ys e1
      split at e
      · rename_i hz
        cases (rb : _ = _)
        obtain ⟨pa, vs, rfl, _, k1, k2⟩ := rep_lst R e1 ra
        exact op_rep pins s σ H _ _ v u Q I rx ry ⟨pa, j, vs, rfl, rfl, k1, by omega, by omega, by rw [← k2.len, SZ_line]; exact hz.2, goe_lst R g' (by simp [binop, e1, hz]) (RelDs.rep k2 j.toNat)⟩
      · cases e
    · cases e
  · rename_i i j
    split at e
    · rename_i hm
      cases (ra : _ = _); cases (rb : _ = _)
      have fin := goe_keep R g' (d := .int (i.fdiv j)) (by simp [binop, hm]) rfl
      unfold divOk at hm
      simp only [Bool.and_eq_true, bne_iff_ne, ne_eq, decide_eq_true_eq] at hm
      obtain ⟨tk, rfl⟩ := rx
      obtain ⟨tk', rfl⟩ := ry
      exact floordiv_int hm.1 ⟨.int _, H, I.tok _, ⟨_, rfl⟩, fin⟩ (.inl (PyProof.noPylong_of_log2 (PySem.Flt.log2_lt_of (by decide) hm.2)))
    · cases e
  · rename_i i j
    split at e
    · cases e
    · rename_i hm
      cases (ra : _ = _); cases (rb : _ = _)
      exact op_modN pins s σ H _ _ v u Q I rx ry ⟨_, _, rfl, rfl, hm, goe_keep R g' (d := .int (i.fmod j)) (by simp [binop, hm]) rfl⟩
  · rename_i i j
    split at e
    · rename_i hm
      cases (ra : _ = _); cases (rb : _ = _)
      exact op_pow pins s σ H _ _ v u Q I rx ry ⟨_, _, rfl, rfl, hm, goe_keep R g' (d := .int (i ^ j.toNat)) (by simp [binop, hm]) rfl⟩
    · cases e
  · cases e
/-! ### comparisons -/
abbrev rC2 (X : Cx) (f : D → D → LH → Option Bool) : R2 := fun x y H Q => ∃ m h a b c, Rep X.K X.mg m h H ∧ RelD X.K X.mg m H a x ∧ RelD X.K X.mg m H b y ∧ f a b h = some c ∧ Q (.bl c) H
end

/-- the constant dicts of the module: their entries -/
noncomputable def KEnt (K : PySem.W.Frag) (mg : Str → Option Value) (p : Params) : List DictEntry → List (List Nat × D) → Prop
  | [], [] => True
  | e :: es, q :: qs => (∃ t, e.key = .str (txS q.1) t) ∧ e.hash = PyData.keyHash p (txS q.1) ∧ ascii q.1 = true ∧ (∃ v, RelV v e.val ∧ ∀ m H, RelD K mg m H q.2 v) ∧ KEnt K mg p es qs
  | _, _ => False
noncomputable def KDOk (K : PySem.W.Frag) (mg : Str → Option Value) (w : World) (n : Nat) (kvs : List (List Nat × D)) : Prop :=
  ∃ p es nn, mg (nmS n) = some (.ref p) ∧ K.lookup p = some ⟨.type "dict", none, .dict es nn, #[]⟩ ∧ (p == sysModules) = false ∧ KEnt K mg w.params es.toList kvs

theorem kent_lit {K : PySem.W.Frag} {mg : Str → Option Value} {p : Params} : ∀ {es : List DictEntry} {kvs : List (List Nat × D)}, KEnt K mg p es kvs → PySem.W.KeysLit p es
  | [], [], _ => trivial
  | e :: es, q :: qs, h => by
    obtain ⟨⟨t, h1⟩, h2, _, _, h5⟩ := h
    exact ⟨⟨_, t, h1, h2⟩, kent_lit h5⟩
  | [], _ :: _, h => h.elim
  | _ :: _, [], h => h.elim
theorem kent_find {K : PySem.W.Frag} {mg : Str → Option Value} {p : Params} (s : List Nat) : ∀ {es : List DictEntry} {kvs : List (List Nat × D)}, KEnt K mg p es kvs →
    (kvs.lookup s = none ∧ es.find? (fun e => e.key.isStr ⟨s.toArray⟩) = none ∧ es.any (fun e => e.refKey) = false) ∨
    ∃ d e v, kvs.lookup s = some d ∧ es.find? (fun e => e.key.isStr ⟨s.toArray⟩) = some e ∧ RelV v e.val ∧ ∀ m H, RelD K mg m H d v
  | [], [], _ => .inl ⟨rfl, rfl, rfl⟩
  | e :: es, q :: qs, h => by
    obtain ⟨⟨t, h1⟩, h2, h3, ⟨v, h4, h4'⟩, h5⟩ := h
    obtain ⟨k, d⟩ := q
    have key : e.key.isStr ⟨s.toArray⟩ = (s == k) := by
      rw [h1, txS_eq h3]
      show (_ == _) = _
      rw [Bool.eq_iff_iff]
      simp
      exact ⟨fun e => e.symm, fun e => e.symm⟩
    have nr : e.refKey = false := by
      unfold DictEntry.refKey
      rw [h1]
    by_cases hk : s = k
    · subst hk
      exact .inr ⟨d, e, v, by simp [List.lookup], by simp [List.find?, key], h4, h4'⟩
    · have hk' : (s == k) = false := by simpa using hk
      rcases kent_find s h5 with ⟨a1, a2, a3⟩ | ⟨d', e', v', a1, a2, a3, a4⟩
      · exact .inl ⟨by simp only [List.lookup, hk']; exact a1, by simp only [List.find?, key, hk']; exact a2, by simp only [List.any_cons, nr, a3]; rfl⟩
      · exact .inr ⟨d', e', v', by simp only [List.lookup, hk']; exact a1, by simp only [List.find?, key, hk']; exact a2, a3, a4⟩
  | [], _ :: _, h => h.elim
  | _ :: _, [], h => h.elim
theorem kd_ns {K : PySem.W.Frag} {mg : Str → Option Value} {p : Params} {es : Array DictEntry} {n : Nat} {a : Addr} {kvs : List (List Nat × D)} (l : K.lookup a = some ⟨.type "dict", none, .dict es n, #[]⟩) (h : KEnt K mg p es.toList kvs) (s : List Nat) :
    (kvs.lookup s = none ∧ PySem.W.nsIn K a ⟨s.toArray⟩ = some none) ∨ ∃ d u v, kvs.lookup s = some d ∧ PySem.W.nsIn K a ⟨s.toArray⟩ = some (some u) ∧ RelV v u ∧ ∀ m H, RelD K mg m H d v := by
  unfold PySem.W.nsIn
  rw [show List.lookup a K = K.lookup a from rfl, l]
  rcases kent_find s h with ⟨a1, a2, a3⟩ | ⟨d, e, v, a1, a2, a3, a4⟩
  · exact .inl ⟨a1, by simp only [a2, a3]; rfl⟩
  · exact .inr ⟨d, e.val, v, a1, by simp only [a2], a3, a4⟩

structure GOk (P : Pr) (K : PySem.W.Frag) (mg : Str → Option Value) (w : World) : Prop where
  gv : ∀ x d, P.gv x = some d → ∃ u v, mg (nmS x) = some u ∧ RelV v u ∧ ∀ m H, RelD K mg m H d v
  kd : ∀ x kvs, P.kd x = some kvs → KDOk K mg w x kvs
  blt : ∀ f, mg (bfS f) = none
  blt2 : mg "range" = none ∧ mg "isinstance" = none ∧ (∀ T, mg (tyS T) = none)

section
variable {X : Cx} {P : Pr}
theorem in_data (hu : X.A.units + 65 < cLine) {pins : List (Addr × Obj)} {s : Shared} {σ : L2.St} {H : Hp} {x y : V} {v u : Value} {m : MM} {h : LH} {d : D} {xs : List D} {vs : List V} {p : Addr} {Q : Value → Shared → Prop} (I : L2.Inv X pins σ H s) (rx : RelV x v) (ry : RelV y u)
    (e : y = .ref p) (hs : SqL X.K H p vs ∨ SqT X.K H p vs) (sx : (shp d && xs.all shp) = true) (rd : RelD X.K X.mg m H d x) (rs : RelDs X.K X.mg m H xs vs) (q : Q (.bool (xs.any fun y => pyeq y d)) s) :
    wpAny (model X.prog X.w) X.A (compareOp .In v u) Q X.xe s := by
  subst e
  have s1 : shp d = true ∧ xs.all shp = true := by simpa using sx
  obtain ⟨d1, d2⟩ := shp_dp s1.1 rd
  obtain ⟨p1, p2⟩ := purs_all s1.2
  obtain ⟨l1, l2, l3⟩ := rel_dps p1 rs
  have pd1 : pur d = true := by have : pur d = true ∧ dep d ≤ 60 := by simpa [shp] using s1.1
                                exact this.1
  rw [← any_pds pd1 p1] at q
  obtain ⟨as, r1⟩ := Dp.reads I (pd d) x v d1 rx
  have room : X.A.units + 1 + min (PyData.depthAll (pds xs)) (pd d).depth < cLine := by rw [l3]; omega
  rcases hs with hs | hs
  · obtain ⟨bs, r2⟩ := Dp.reads I (.list (pds xs)) _ u (.lst hs l1) ry
    exact SeqAt.in_list_reads r2 r1 l2 (SeqAt.canLay_of_shaped d2) room q
  · obtain ⟨bs, r2⟩ := Dp.reads I (.tuple (pds xs)) _ u (.tup hs l1) ry
    exact SeqAt.in_tuple_reads r2 r1 l2 (SeqAt.canLay_of_shaped d2) room q
theorem notIn_data (hu : X.A.units + 65 < cLine) {pins : List (Addr × Obj)} {s : Shared} {σ : L2.St} {H : Hp} {x y : V} {v u : Value} {m : MM} {h : LH} {d : D} {xs : List D} {vs : List V} {p : Addr} {Q : Value → Shared → Prop} (I : L2.Inv X pins σ H s) (rx : RelV x v) (ry : RelV y u)
    (e : y = .ref p) (hs : SqL X.K H p vs ∨ SqT X.K H p vs) (sx : (shp d && xs.all shp) = true) (rd : RelD X.K X.mg m H d x) (rs : RelDs X.K X.mg m H xs vs) (q : Q (.bool (!xs.any fun y => pyeq y d)) s) :
    wpAny (model X.prog X.w) X.A (compareOp .NotIn v u) Q X.xe s := by
  subst e
  have s1 : shp d = true ∧ xs.all shp = true := by simpa using sx
  obtain ⟨d1, d2⟩ := shp_dp s1.1 rd
  obtain ⟨p1, p2⟩ := purs_all s1.2
  obtain ⟨l1, l2, l3⟩ := rel_dps p1 rs
  have pd1 : pur d = true := by have : pur d = true ∧ dep d ≤ 60 := by simpa [shp] using s1.1
                                exact this.1
  rw [← any_pds pd1 p1] at q
  obtain ⟨as, r1⟩ := Dp.reads I (pd d) x v d1 rx
  have room : X.A.units + 1 + min (PyData.depthAll (pds xs)) (pd d).depth < cLine := by rw [l3]; omega
  rcases hs with hs | hs
  · obtain ⟨bs, r2⟩ := Dp.reads I (.list (pds xs)) _ u (.lst hs l1) ry
    exact SeqAt.notIn_list_reads r2 r1 l2 (SeqAt.canLay_of_shaped d2) room q
  · obtain ⟨bs, r2⟩ := Dp.reads I (.tuple (pds xs)) _ u (.tup hs l1) ry
    exact SeqAt.notIn_tuple_reads r2 r1 l2 (SeqAt.canLay_of_shaped d2) room q

/-- in, not in -/
theorem op_in (G : GOk P X.K X.mg X.w) (hu : X.A.units + 65 < cLine) (neg : Bool) {pins : List (Addr × Obj)} {s : Shared} {σ : L2.St} {H : Hp} {x y : V} {v u : Value} {m : MM} {h : LH} {a b : D} {c : Bool} {Q : VK} (I : L2.Inv X pins σ H s) (rx : RelV x v) (ry : RelV y u)
    (R : Rep X.K X.mg m h H) (ra : RelD X.K X.mg m H a x) (rb : RelD X.K X.mg m H b y) (e : inop P a b h = some c) (q : Q (.bl (if neg then !c else c)) H) :
    wpAny (model X.prog X.w) X.A (compareOp (if neg then .NotIn else .In) v u) (EP X pins σ Q) X.xe s := by
  unfold inop at e
  split at e
  · rename_i t
    split at e
    · rename_i s'
      cases (ra : _ = _); cases (rb : _ = _)
      split at e
      · rename_i ch
        cases e
        cases neg
        · exact op_in_sign pins s σ H _ _ v u Q I rx ry ⟨ch, _, rfl, rfl, by simpa [List.contains_iff_mem] using q⟩
        · exact op_notIn_sign pins s σ H _ _ v u Q I rx ry ⟨ch, _, rfl, rfl, by simpa [List.contains_iff_mem] using q⟩
      · cases e
    · cases e
  · rename_i n
    split at e
    · rename_i s'
      cases e1 : P.kd n with
      | none => rw [e1] at e; cases e
      | some kvs =>
        rw [e1] at e
        have e : (kvs.lookup s').isSome = c := by simpa using e
        obtain ⟨p, es, nn, k1, k2, k3, k4⟩ := G.kd n kvs e1
        cases (ra : _ = _)
        obtain ⟨p', rfl, k5⟩ := rb
        rw [k1] at k5; cases k5
        have D : KDict X.K X.w p es nn := ⟨k2, kent_lit k4, k3⟩
        rcases kd_ns k2 k4 s' with ⟨a1, a2⟩ | ⟨d, u', v', a1, a2, _⟩
        · rw [a1] at e; subst e
          cases neg
          · exact op_in_kd D pins s σ H _ _ v u Q I rx ry ⟨_, _, rfl, rfl, a2, q⟩
          · exact op_notIn_kd D pins s σ H _ _ v u Q I rx ry ⟨_, _, rfl, rfl, a2, q⟩
        · rw [a1] at e; subst e
          cases neg
          · exact op_in_kd D pins s σ H _ _ v u Q I rx ry ⟨_, _, rfl, rfl, a2, q⟩
          · exact op_notIn_kd D pins s σ H _ _ v u Q I rx ry ⟨_, _, rfl, rfl, a2, q⟩
    · cases e
  · rename_i a'
    split at e
    · rename_i xs e1
      split at e
      · rename_i sx
        cases e
        obtain ⟨p, vs, rfl, _, k1, k2⟩ := rep_lst R e1 rb
        cases neg
        · exact in_data (h := h) hu I rx ry rfl (.inl (SqL.of k1)) sx ra k2 ⟨.bl _, H, I, rfl, q⟩
        · exact notIn_data (h := h) hu I rx ry rfl (.inl (SqL.of k1)) sx ra k2 ⟨.bl _, H, I, rfl, q⟩
      · cases e
    · rename_i kvs e1
      split at e
      · rename_i hk
        cases e
        exact d_in hu neg I rx ry R (by rw [e1]; rfl) rb hk ra q
      · cases e
    · rename_i kvs e1
      split at e
      · rename_i hk
        cases e
        exact d_in hu neg I rx ry R (by rw [e1]; rfl) rb hk ra q
      · cases e
    · cases e
  · rename_i xs
    split at e
    · rename_i sx
      cases e
      obtain ⟨p, vs, rfl, k1, k2⟩ := rb
      cases neg
      · exact in_data (h := h) hu I rx ry rfl (.inr k1.sq) sx ra k2 ⟨.bl _, H, I, rfl, q⟩
      · exact notIn_data (h := h) hu I rx ry rfl (.inr k1.sq) sx ra k2 ⟨.bl _, H, I, rfl, q⟩
    · cases e
  · cases e
theorem isNon_iff {m : MM} {H : Hp} {d : D} {v : V} (r : RelD X.K X.mg m H d v) : decide (v = .non) = isNon d := by
  cases d with
  | non => cases (r : _ = _); rfl
  | bl _ => cases (r : _ = _); rfl
  | int _ => cases (r : _ = _); rfl
  | str _ => cases (r : _ = _); rfl
  | tup xs => obtain ⟨p, vs, rfl, _⟩ := r; rfl
  | ref _ => obtain ⟨p, rfl, _⟩ := r; rfl
  | fn _ => obtain ⟨p, rfl, _⟩ := r; rfl
  | kd _ => obtain ⟨p, rfl, _⟩ := r; rfl
theorem isNon_eq {m : MM} {H : Hp} {d : D} {v : V} (r : RelD X.K X.mg m H d v) (h : isNon d = true) : v = .non := by
  cases d <;> first | (cases h; done) | exact r

theorem isB_inv {a b : D} {c : Bool} (e : isB a b = some c) : ∃ x y, a = .bl x ∧ b = .bl y ∧ c = (x == y) := by
  cases a <;> cases b <;> first | (cases e; done) | (cases e; exact ⟨_, _, rfl, rfl, rfl⟩)
theorem op_isBB : OpR X (compareOp .Is) (fun x y H Q => ∃ m n, x = .bl m ∧ y = .bl n ∧ Q (.bl (m == n)) H) := by
  intro pins s σ H x y v u Q I rx ry h
  obtain ⟨m, n, rfl, rfl, q⟩ := h
  cases (show v = Value.bool m from rx)
  cases (show u = Value.bool n from ry)
  by_cases e : m = n
  · subst e
    exact wpAny_is_self rfl ⟨.bl true, H, I, rfl, by simpa using q⟩
  · exact wpAny_is_other rfl (fun z => e (Value.bool.inj z)) ⟨.bl false, H, I, rfl, by rw [beq_eq_false_iff_ne.mpr e] at q; exact q⟩
theorem op_notBB : OpR X (compareOp .IsNot) (fun x y H Q => ∃ m n, x = .bl m ∧ y = .bl n ∧ Q (.bl (!(m == n))) H) := by
  intro pins s σ H x y v u Q I rx ry h
  obtain ⟨m, n, rfl, rfl, q⟩ := h
  cases (show v = Value.bool m from rx)
  cases (show u = Value.bool n from ry)
  by_cases e : m = n
  · subst e
    exact wpAny_isNot_self rfl ⟨.bl false, H, I, rfl, by simpa using q⟩
  · exact wpAny_isNot_other rfl (fun z => e (Value.bool.inj z)) ⟨.bl true, H, I, rfl, by rw [beq_eq_false_iff_ne.mpr e] at q; exact q⟩
theorem op_cmp (G : GOk P X.K X.mg X.w) (hu : X.A.units + 65 < cLine) (o : Cop) : OpR X (compareOp (copO o)) (rC2 X (cmpop P o)) := by
  intro pins s σ H x y v u Q I rx ry ⟨m, h, a, b, c, R, ra, rb, e, q⟩
  have hu' : X.A.units + 64 < cLine := by omega
  cases o <;> simp only [cmpop] at e
  case eq =>
    split at e
    · rename_i hs
      cases e
      have s1 : shp a = true ∧ shp b = true := by simpa using hs
      obtain ⟨d1, d2⟩ := shp_dp s1.1 ra
      obtain ⟨d3, d4⟩ := shp_dp s1.2 rb
      have pa : pur a = true ∧ dep a ≤ 60 := by simpa [shp] using s1.1
      have pb : pur b = true ∧ dep b ≤ 60 := by simpa [shp] using s1.2
      exact op_eqD hu' pins s σ H _ _ v u Q I rx ry ⟨_, _, d1, d3, d2, d4, by rw [eqv_pd pa.1 pb.1]; exact q⟩
    · cases e
  case ne =>
    split at e
    · rename_i hs
      cases e
      have s1 : shp a = true ∧ shp b = true := by simpa using hs
      obtain ⟨d1, d2⟩ := shp_dp s1.1 ra
      obtain ⟨d3, d4⟩ := shp_dp s1.2 rb
      have pa : pur a = true ∧ dep a ≤ 60 := by simpa [shp] using s1.1
      have pb : pur b = true ∧ dep b ≤ 60 := by simpa [shp] using s1.2
      exact op_neD hu' pins s σ H _ _ v u Q I rx ry ⟨_, _, d1, d3, d2, d4, by rw [eqv_pd pa.1 pb.1]; exact q⟩
    · cases e
  case lt =>
    split at e
    · cases e; cases (ra : _ = _); cases (rb : _ = _)
      exact op_lt pins s σ H _ _ v u Q I rx ry ⟨_, _, rfl, rfl, q⟩
    · cases e
  case le =>
    split at e
    · cases e; cases (ra : _ = _); cases (rb : _ = _)
      exact op_le pins s σ H _ _ v u Q I rx ry ⟨_, _, rfl, rfl, q⟩
    · cases e
  case gt =>
    split at e
    · cases e; cases (ra : _ = _); cases (rb : _ = _)
      exact op_gt pins s σ H _ _ v u Q I rx ry ⟨_, _, rfl, rfl, q⟩
    · cases e
  case ge =>
    split at e
    · cases e; cases (ra : _ = _); cases (rb : _ = _)
      exact op_ge pins s σ H _ _ v u Q I rx ry ⟨_, _, rfl, rfl, q⟩
    · cases e
  case is =>
    split at e
    · rename_i hn
      cases e
      exact op_isN pins s σ H _ _ v u Q I rx ry ⟨isNon_eq rb hn, by rw [isNon_iff ra]; exact q⟩
    · obtain ⟨x, y, rfl, rfl, rfl⟩ := isB_inv e
      cases (ra : _ = _); cases (rb : _ = _)
      exact op_isBB pins s σ H _ _ v u Q I rx ry ⟨x, y, rfl, rfl, q⟩
  case isnot =>
    split at e
    · rename_i hn
      cases e
      exact op_notN pins s σ H _ _ v u Q I rx ry ⟨isNon_eq rb hn, by rw [isNon_iff ra]; exact q⟩
    · cases e1 : isB a b with
      | none => rw [e1] at e; cases e
      | some c' =>
        rw [e1] at e; cases e
        obtain ⟨x, y, rfl, rfl, rfl⟩ := isB_inv e1
        cases (ra : _ = _); cases (rb : _ = _)
        exact op_notBB pins s σ H _ _ v u Q I rx ry ⟨x, y, rfl, rfl, q⟩
  case isin =>
    exact op_in G hu false I rx ry R ra rb e q
  case notin =>
    cases e1 : inop P a b h with
    | none => rw [e1] at e; cases e
    | some c' =>
      rw [e1] at e; cases e
      exact op_in G hu true I rx ry R ra rb e1 q
end
end FK

end
section
set_option maxRecDepth 100000
set_option maxHeartbeats 4000000
/-! Fk3: truth, items, slices, built-ins, methods. -/
namespace FK
open PySem PySem.Spec PyProof.Rows L2

section
variable {K : PySem.W.Frag} {mg : Str → Option Value} {m : MM} {h : LH} {H : Hp}
theorem isEmpty_len {α β : Type} {xs : List α} {vs : List β} (e : xs.length = vs.length) : xs.isEmpty = vs.isEmpty := by
  cases xs <;> cases vs <;> simp_all
theorem tru_d (R : Rep K mg m h H) {d : D} {v : V} (r : RelD K mg m H d v) {b : Bool} (e : truth d h = some b) : TruV K v H b := by
  unfold truth at e
  split at e
  · cases (r : _ = _); cases e; rfl
  · cases (r : _ = _); cases e; rfl
  · cases (r : _ = _); cases e; rfl
  · rename_i s
    split at e
    · rename_i hz
      cases (r : _ = _); cases e
      refine ⟨by rw [str_len, SZ_line]; exact hz, ?_⟩
      rw [str_len, Bool.eq_iff_iff]
      simp
    · cases e
  · cases e
    obtain ⟨p, vs, rfl, h1, h2⟩ := r
    exact .inr (.inl ⟨vs, h1.sq, by rw [isEmpty_len h2.len]⟩)
  · rename_i a
    split at e
    · rename_i xs e1
      cases e
      obtain ⟨p, vs, rfl, _, k1, k2⟩ := rep_lst R e1 r
      exact .inl ⟨vs, SqL.of k1, by rw [isEmpty_len k2.len]⟩
    · rename_i ns e1
      cases e
      obtain ⟨p, rfl, k1⟩ := rep_scr R e1 r
      exact .inl ⟨_, k1, by simp⟩
    · cases e
  · cases e

theorem at_d {xs : List D} {vs : List V} {i : Int} {d : D} (r : RelDs K mg m H xs vs) (e : atI xs i = some d) : ∃ v, L2.atI vs i = some v ∧ RelD K mg m H d v := by
  unfold atI at e
  cases q : ixN xs.length i with
  | none => rw [q] at e; cases e
  | some j =>
    rw [q] at e
    obtain ⟨v, h1, h2⟩ := r.get (i := j) (x := d) (by simpa using e)
    refine ⟨v, ?_, h2⟩
    unfold L2.atI
    have q' : L2.ixN vs.length i = some j := by rw [← r.len]; exact q
    rw [q']
    exact h1
theorem atI_map {α β : Type} (f : α → β) (xs : List α) (i : Int) : atI (xs.map f) i = (atI xs i).map f := by
  unfold atI
  rw [List.length_map]
  cases ixN xs.length i <;> simp
theorem cut_d {xs : List D} {vs : List V} (r : RelDs K mg m H xs vs) (lo hi : Option Int) : RelDs K mg m H (cut xs lo hi) (cutV vs lo hi) := by
  unfold cut cutV
  rw [← r.len]
  exact (r.drop _).take _
end

section
variable {X : Cx} {P : Pr}
theorem op_ix (G : GOk P X.K X.mg X.w) (hu : X.A.units + 65 < cLine) : IxR X (fun x y H Q => ∃ m h a b d, Rep X.K X.mg m h H ∧ RelD X.K X.mg m H a x ∧ RelD X.K X.mg m H b y ∧ getix P a b h = some d ∧ ∀ v, RelD X.K X.mg m H d v → Q v H) := by
  intro value slice pins s σ H x y v u Q I rx ry ⟨m, h, a, b, d, R, ra, rb, e, q⟩ hs
  unfold getix at e
  split at e
  · rename_i xs i
    cases (rb : _ = _)
    obtain ⟨p, vs, rfl, h1, h2⟩ := ra
    obtain ⟨w, a1, a2⟩ := at_d h2 e
    exact ix_tup value slice pins s σ H _ _ v u Q I rx ry ⟨p, vs, i, w, rfl, rfl, h1.sq, a1, q _ a2⟩ hs
  · rename_i t i
    split at e
    · rename_i hz
      cases (ra : _ = _); cases (rb : _ = _)
      cases q1 : atI t i with
      | none => rw [q1] at e; cases e
      | some c =>
        rw [q1] at e
        have e : chr1 c = d := by simpa using e
        subst e
        refine ix_str value slice pins s σ H _ _ v u Q I rx ry ⟨_, i, c, rfl, rfl, by rw [str_len, SZ_line]; exact hz, ?_, q _ rfl⟩ hs
        show L2.atI t.toArray.toList i = some c
        simpa using (show L2.atI t i = some c from q1)
    · cases e
  · rename_i p i
    split at e
    · rename_i xs e1
      split at e
      · rename_i j
        cases (rb : _ = _)
        obtain ⟨p', vs, rfl, _, k1, k2⟩ := rep_lst R e1 ra
        obtain ⟨w, a1, a2⟩ := at_d k2 e
        exact ix_list value slice pins s σ H _ _ v u Q I rx ry ⟨p', vs, j, w, rfl, rfl, SqL.of k1, a1, q _ a2⟩ hs
      · cases e
    · rename_i ns e1
      split at e
      · rename_i j
        cases (rb : _ = _)
        obtain ⟨p', rfl, k1⟩ := rep_scr R e1 ra
        have e' : atI (ns.map D.int) j = some d := by rw [atI_map]; exact e
        obtain ⟨w, a1, a2⟩ := at_d (K := X.K) (mg := X.mg) (m := m) (H := H) (RelDs.ints ns) e'
        exact ix_list value slice pins s σ H _ _ v u Q I rx ry ⟨p', _, j, w, rfl, rfl, k1, a1, q _ a2⟩ hs
      · cases e
    · rename_i kvs e1
      split at e
      · rename_i hk
        exact ix_dic hu value slice pins s σ H _ _ v u Q I rx ry ⟨m, h, _, kvs, _, d, R, ra, rb, by rw [e1]; rfl, hk, e, q⟩ hs
      · cases e
    · rename_i kvs e1
      split at e
      · rename_i hk
        exact ix_dic hu value slice pins s σ H _ _ v u Q I rx ry ⟨m, h, _, kvs, _, d, R, ra, rb, by rw [e1]; rfl, hk, e, q⟩ hs
      · cases e
    · cases e
  · rename_i n k
    cases e1 : P.kd n with
    | none => rw [e1] at e; cases e
    | some kvs =>
      rw [e1] at e
      have e : kvs.lookup k = some d := by simpa using e
      obtain ⟨p, es, nn, k1, k2, k3, k4⟩ := G.kd n kvs e1
      cases (rb : _ = _)
      obtain ⟨p', rfl, k5⟩ := ra
      rw [k1] at k5; cases k5
      rcases kd_ns k2 k4 k with ⟨a1, _⟩ | ⟨d', u', v', a1, a2, a3, a4⟩
      · rw [a1] at e; cases e
      · rw [a1] at e; cases e
        exact ix_kdict value slice pins s σ H _ _ v u Q I rx ry ⟨p, _, v', rfl, rfl, ⟨es, nn, u', k2, kent_lit k4, a2, a3⟩, q _ (a4 m H)⟩ hs
  · cases e

/-- a slice -/
theorem op_sl : SlR X (fun x lo hi H Q => ∃ m h a, Rep X.K X.mg m h H ∧ RelD X.K X.mg m H a x ∧ GoE X.K X.mg m h H (slice a lo hi h) Q) := by
  intro pins s σ H x v vl vu lo hi sl Q I rx hs pl pu ⟨m, h, a, R, ra, g⟩
  have g' := g
  obtain ⟨d, h', e, q⟩ := g
  unfold slice at e
  split at e
  · rename_i xs
    obtain ⟨p, vs, rfl, h1, h2⟩ := ra
    have er : slice (.tup xs) lo hi h = some (.tup (cut xs lo hi), h) := rfl
    refine sl_tupF pins s σ H _ v vl vu lo hi sl Q I rx hs pl pu ⟨p, vs, rfl, h1.sq, fun hw => ?_, fun _ => goe_tup R g' er (cut_d h2 lo hi)⟩
    have ec : cut xs lo hi = xs := by
      unfold cut
      have h3 : FK.sIx xs.length 0 lo = 0 := by rw [h2.len]; exact hw.1
      have h4 : FK.sIx xs.length xs.length hi = xs.length := by rw [h2.len]; exact hw.2
      rw [h3, h4]
      simp
    rw [ec] at er
    exact goe_keep R g' er ⟨p, vs, rfl, h1, h2⟩
  · rename_i t
    split at e
    · rename_i hz
      cases (ra : _ = _)
      have er : slice (.str t) lo hi h = some (.str (cut t lo hi), h) := if_pos hz
      refine sl_str pins s σ H _ v vl vu lo hi sl Q I rx hs pl pu ⟨_, rfl, by rw [str_len, SZ_line]; exact hz, goe_keep R g' er ?_⟩
      show V.str _ = V.str _
      unfold cutS cut
      rw [str_len]
      simp
      rfl
    · cases e
  · rename_i p
    split at e
    · rename_i xs e1
      obtain ⟨p', vs, rfl, _, k1, k2⟩ := rep_lst R e1 ra
      have er : slice (.ref p) lo hi h = alloc h (.lst (cut xs lo hi)) := by unfold slice; simp [e1]
      exact sl_list pins s σ H _ v vl vu lo hi sl Q I rx hs pl pu ⟨p', vs, rfl, SqL.of k1, goe_lst R g' er (cut_d k2 lo hi)⟩
    · cases e
  · cases e

/-! ### built-ins -/
noncomputable def bfV : Bf → Value
  | .len => .builtin "len" | .int => .type "int" | .tuple => .type "tuple" | .list => .type "list" | .str => .type "str" | .sum => .builtin "sum" | .any => .builtin "any" | .all => .builtin "all" | .min => .builtin "min"
  | .max => .builtin "max" | .sorted => .builtin "sorted" | .ord => .builtin "ord"
theorem bf_boot (f : Bf) : bootBuiltins (bfS f) = some (bfV f) := by cases f <;> decide +kernel
theorem bf_name (f : Bf) : bfS f ≠ "__name__" := by cases f <;> decide +kernel
theorem bf_dbg (f : Bf) : (bfS f == ("__debug__" : Str)) = false := by cases f <;> decide +kernel

theorem rels1 {K : PySem.W.Frag} {mg : Str → Option Value} {m : MM} {H : Hp} {d : D} {vs : List V} (r : RelDs K mg m H [d] vs) : ∃ v, vs = [v] ∧ RelD K mg m H d v := by
  obtain ⟨v, w, rfl, h1, h2⟩ := r
  cases (h2 : _ = _)
  exact ⟨v, rfl, h1⟩
/-- what a list or tuple holds -/
theorem seq_d {K : PySem.W.Frag} {mg : Str → Option Value} {m : MM} {h : LH} {H : Hp} (R : Rep K mg m h H) {d : D} {v : V} {xs : List D} (r : RelD K mg m H d v) (e : seqOf d h = some xs) : ∃ p vs, v = .ref p ∧ RelDs K mg m H xs vs ∧ ((SqL K H p vs ∧ ∃ a, d = .ref a) ∨ (TupS K H p vs ∧ d = .tup xs)) := by
  cases d with
  | tup ys =>
    cases e
    obtain ⟨p, vs, rfl, h1, h2⟩ := r
    exact ⟨p, vs, rfl, h2, .inr ⟨h1, rfl⟩⟩
  | ref a =>
    obtain ⟨p, vs, rfl, _, k1, k2⟩ := rep_seq R e r
    exact ⟨p, vs, rfl, k2, .inl ⟨k1, a, rfl⟩⟩
  | _ => cases e

/-- what has a len: a dict, or what the hand layer knows -/
theorem len_d {K : PySem.W.Frag} {mg : Str → Option Value} {m : MM} {h : LH} {H : Hp} (R : Rep K mg m h H) {d : D} {v : V} {n : Nat} (r : RelD K mg m H d v) (e : lenOf d h = some n) : LenV K v H n ∨ ∃ a kvs, d = .ref a ∧ dOf h[a]? = some kvs ∧ n = kvs.length := by
  unfold lenOf at e
  split at e
  · split at e
    · rename_i hz
      cases (r : _ = _); cases e
      exact .inl ⟨by rw [str_len, SZ_line]; exact hz, by rw [str_len]⟩
    · cases e
  · cases e
    obtain ⟨p, vs, rfl, h1, h2⟩ := r
    exact .inl (.inr ⟨vs, h1.sq, h2.len⟩)
  · split at e
    · rename_i xs e1
      cases e
      obtain ⟨p, vs, rfl, _, k1, k2⟩ := rep_lst R e1 r
      exact .inl (.inl ⟨vs, SqL.of k1, k2.len⟩)
    · rename_i ns e1
      cases e
      obtain ⟨p, rfl, k1⟩ := rep_scr R e1 r
      exact .inl (.inl ⟨_, k1, by simp⟩)
    · rename_i kvs e1
      cases e
      exact .inr ⟨_, kvs, rfl, by rw [e1]; rfl, rfl⟩
    · rename_i kvs e1
      cases e
      exact .inr ⟨_, kvs, rfl, by rw [e1]; rfl, rfl⟩
    · cases e
  · cases e

/-- len of a dict -/
theorem call_lenD : CallR X (.builtin "len") (fun xs H Q => ∃ m h a kvs x, Rep X.K X.mg m h H ∧ RelD X.K X.mg m H (.ref a) x ∧ dOf h[a]? = some kvs ∧ xs = [x] ∧ Q (.int ((kvs.length : Nat) : Int)) H) := by
  intro pins s σ H xs us Q I r ⟨m, h, a, kvs, x, R, ra, ea, e, q⟩
  subst e
  obtain ⟨u, rfl, rx⟩ := vals1 r
  obtain ⟨p, ys, rfl, D, e2, rk, hl⟩ := rep_dR I R ea ra
  obtain rfl : u = .ref p := rx
  refine call_len_dictH e2 D (by rw [relk_len rk]; have : SZ = 16777216 := rfl; omega) ?_
  rw [relk_len rk]
  exact ⟨.int ((kvs.length : Nat) : Int), H, I.tok _, ⟨_, rfl⟩, q⟩
abbrev rBl (X : Cx) (f : List D → LH → Option (D × LH)) : List V → Hp → VK → Prop := fun vs H Q => ∃ m h ds, Rep X.K X.mg m h H ∧ RelDs X.K X.mg m H ds vs ∧ GoE X.K X.mg m h H (f ds h) Q
theorem op_blt (f : Bf) : CallR X (bfV f) (rBl X (bltin f)) := by
  intro pins s σ H vs us Q I rs ⟨m, h, ds, R, rd, g⟩
  have g' := g
  obtain ⟨d, h', e, q⟩ := g
  unfold bltin at e
  split at e
  · rename_i d'
    obtain ⟨v, rfl, rv⟩ := rels1 rd
    cases e1 : lenOf d' h with
    | none => rw [e1] at e; cases e
    | some n =>
      rcases len_d R rv e1 with hl | ⟨a, kvs, rfl, ea, rfl⟩
      · exact call_len pins s σ H _ us Q I rs ⟨v, n, rfl, hl, goe_keep R g' (d := .int n) (by simp [bltin, e1]) rfl⟩
      · exact call_lenD pins s σ H _ us Q I rs ⟨m, h, a, kvs, v, R, rv, ea, rfl, goe_keep R g' (d := .int kvs.length) (by simp [bltin, e1]) rfl⟩
  · obtain ⟨v, rfl, rv⟩ := rels1 rd
    cases (rv : _ = _)
    exact call_int1 pins s σ H _ us Q I rs (.inl ⟨_, rfl, goe_keep R g' rfl rfl⟩)
  · rename_i b
    obtain ⟨v, rfl, rv⟩ := rels1 rd
    cases (rv : _ = _)
    exact call_int1 pins s σ H _ us Q I rs (.inr ⟨_, rfl, goe_keep R g' (d := .int (b2i b)) rfl rfl⟩)
  · rename_i d'
    obtain ⟨v, rfl, rv⟩ := rels1 rd
    cases e1 : seqOf d' h with
    | none => rw [e1] at e; cases e
    | some xs =>
      have er : bltin .tuple [d'] h = some (.tup xs, h) := by simp [bltin, e1]
      obtain ⟨p, ws, rfl, k1, k2⟩ := seq_d R rv e1
      refine call_tupleF pins s σ H _ us Q I rs ⟨p, ws, rfl, ?_⟩
      rcases k2 with ⟨k2, a, rfl⟩ | ⟨k2, rfl⟩
      · exact .inl ⟨k2, goe_tup R g' er k1⟩
      · exact .inr ⟨k2.sq, goe_keep R g' er rv⟩
  · rename_i d'
    obtain ⟨v, rfl, rv⟩ := rels1 rd
    cases e1 : seqOf d' h with
    | none => rw [e1] at e; cases e
    | some xs =>
      have er : bltin .list [d'] h = alloc h (.lst xs) := by simp [bltin, e1]
      obtain ⟨p, ws, rfl, k1, k2⟩ := seq_d R rv e1
      refine call_list_of pins s σ H _ us Q I rs ⟨p, ws, rfl, ?_, goe_lst R g' er k1⟩
      rcases k2 with ⟨k2, _⟩ | ⟨k2, _⟩
      · exact .inl k2
      · exact .inr k2.sq
  · rename_i i
    split at e
    · rename_i hz
      obtain ⟨v, rfl, rv⟩ := rels1 rd
      cases (rv : _ = _)
      refine call_str_int pins s σ H _ us Q I rs ⟨i, rfl, hz, ?_⟩
      refine goe_keep R g' (d := .str (numL i)) (if_pos hz) ?_
      show V.str _ = V.str _
      rw [Str.ofString_eq_toList]
      rfl
    · cases e
  · cases e
theorem mt_app : MtR X "list.append" (fun x vs H Q => ∃ m h d ds, Rep X.K X.mg m h H ∧ RelD X.K X.mg m H d x ∧ RelDs X.K X.mg m H ds vs ∧ GoE X.K X.mg m h H (method .list d .append ds h) Q) := by
  intro pins s σ H x xs v us Q I rx rs ⟨m, h, d, ds, R, rd, rds, g⟩
  obtain ⟨d', h', e, q⟩ := g
  simp only [method] at e
  split at e
  · rename_i a y
    split at e
    · rename_i ys e1
      split at e
      · rename_i hz
        cases e
        obtain ⟨p, vs, rfl, em, k1, k2⟩ := rep_lst R e1 rd
        obtain ⟨w, rfl, rw'⟩ := rels1 rds
        obtain ⟨g1, R1⟩ := go_set R e1 em (k2.append (RelDs.one rw'))
        exact mt_append pins s σ H _ _ v us Q I rx rs ⟨p, vs, w, rfl, rfl, k1, by rw [← k2.len, SZ_line]; exact hz, q m _ _ g1 R1 rfl⟩
      · cases e
    · cases e
  · cases e
theorem ty_list {m : MM} {h : LH} {H : Hp} (R : Rep X.K X.mg m h H) {d : D} {v : V} (r : RelD X.K X.mg m H d v) (e : tyOf d h = some .list) : tyV X.K "list" v H := by
  unfold tyOf at e
  split at e <;> first | (cases e; done) | skip
  split at e <;> first | (cases e; done) | skip
  rename_i xs e1
  obtain ⟨p, vs, rfl, _, k1, k2⟩ := rep_lst R e1 r
  exact .inl ⟨rfl, vs, SqL.of k1⟩
/-- the built-in types, as isinstance asks -/
noncomputable def tyN : Ty → String
  | .bool => "bool" | .int => "int" | .str => "str" | .tuple => "tuple" | .list => "list" | .dict => "dict"
theorem ty_boot (T : Ty) : bootBuiltins (tyS T) = some (.type (tyN T)) := by cases T <;> decide +kernel
theorem ty_name (f : Ty) : tyS f ≠ "__name__" := by cases f <;> decide +kernel
theorem ty_dbg (f : Ty) : (tyS f == ("__debug__" : Str)) = false := by cases f <;> decide +kernel
theorem isty_d {m : MM} {h : LH} {H : Hp} (R : Rep X.K X.mg m h H) {d : D} {v : V} {T : Ty} {b : Bool} (r : RelD X.K X.mg m H d v) (e : isTy d T h = some b) : (∃ t, TyX X.K H v t ∧ PySem.W.kitOne X.K t (.type (tyN T)) = some b) ∨ ∃ a kvs, d = .ref a ∧ dOf h[a]? = some kvs ∧ b = (T == .dict) := by
  unfold isTy at e
  split at e
  · cases (r : _ = _); cases e
    exact .inl ⟨_, .base .non, by cases T <;> exact kit_ty (by decide +kernel)⟩
  · cases (r : _ = _); cases e
    exact .inl ⟨_, .base (.bl _), by cases T <;> exact kit_ty (by decide +kernel)⟩
  · cases (r : _ = _); cases e
    exact .inl ⟨_, .base (.int _), by cases T <;> exact kit_ty (by decide +kernel)⟩
  · cases (r : _ = _); cases e
    exact .inl ⟨_, .base (.str _), by cases T <;> exact kit_ty (by decide +kernel)⟩
  · obtain ⟨p, vs, rfl, h1, h2⟩ := r
    cases e
    refine .inl ⟨.type "tuple", ?_, by cases T <;> exact kit_ty (by decide +kernel)⟩
    rcases h1 with ⟨o, h1, _⟩ | ⟨o, its, n, h1, h3, _⟩
    · exact .fTuple h1
    · exact .kTuple h1 h3
  · split at e
    · rename_i xs e1
      cases e
      obtain ⟨p, vs, rfl, _, k1, k2⟩ := rep_lst R e1 r
      exact .inl ⟨.type "list", .base (.lst k1), by cases T <;> exact kit_ty (by decide +kernel)⟩
    · rename_i kvs e1
      cases e
      exact .inr ⟨_, kvs, rfl, by rw [e1]; rfl, rfl⟩
    · rename_i kvs e1
      cases e
      exact .inr ⟨_, kvs, rfl, by rw [e1]; rfl, rfl⟩
    · cases e
  · cases e

/-- isinstance, of a dict too -/
theorem call_isiX : CallR X (.builtin "isinstance") (fun xs H Q => ∃ (x : V) (T : Ty) (b : Bool), xs = [x, .ty (tyN T)] ∧ ((∃ t, TyX X.K H x t ∧ PySem.W.kitOne X.K t (.type (tyN T)) = some b) ∨ ∃ m h a kvs, Rep X.K X.mg m h H ∧ RelD X.K X.mg m H (.ref a) x ∧ dOf h[a]? = some kvs ∧ b = (T == .dict)) ∧ Q (.bl b) H) := by
  intro pins s σ H xs us Q I r ⟨x, T, b, e0, hh, q⟩
  subst e0
  rcases hh with ⟨t, t1, t2⟩ | ⟨m, h, a, kvs, R, ra, ea, rfl⟩
  · exact call_isi pins s σ H _ us Q I r ⟨x, _, t, _, b, rfl, .ty _, t1, t2, q⟩
  · obtain ⟨u1, u2, rfl, r1, r2⟩ := vals2 r
    cases (show u2 = Value.type (tyN T) from r2)
    obtain ⟨p, ys, rfl, ⟨o, es, ep, h1, h2, _⟩, e2, rk, hl⟩ := rep_dR I R ea ra
    cases (show u1 = Value.ref p from r1)
    exact PySem.W.kia_one PySem.W.kitx_dict I.kIn ⟨o, h1, h2.1⟩ (show PySem.W.kitOne X.K (.type "dict") (.type (tyN T)) = some (T == .dict) by cases T <;> exact kit_ty (by decide +kernel)) (fun z => nomatch z) fun tk => ⟨.bl _, H, I.tok tk, rfl, q⟩

/-! ### methods -/
abbrev rM (X : Cx) (T : Ty) (mm : Bm) : V → List V → Hp → VK → Prop := fun x vs H Q => ∃ m h d ds, Rep X.K X.mg m h H ∧ RelD X.K X.mg m H d x ∧ RelDs X.K X.mg m H ds vs ∧ GoE X.K X.mg m h H (method T d mm ds h) Q
theorem rels2 {K : PySem.W.Frag} {mg : Str → Option Value} {m : MM} {H : Hp} {d e : D} {vs : List V} (r : RelDs K mg m H [d, e] vs) : ∃ v w, vs = [v, w] ∧ RelD K mg m H d v ∧ RelD K mg m H e w := by
  obtain ⟨v, w', rfl, h1, h2⟩ := r
  obtain ⟨w, e1, h3⟩ := rels1 h2
  subst e1
  exact ⟨v, w, rfl, h1, h3⟩
theorem mt_ext : MtR X "list.extend" (rM X .list .extend) := by
  intro pins s σ H x xs v us Q I rx rs ⟨m, h, d, ds, R, rd, rds, g⟩
  obtain ⟨d', h', e, q⟩ := g
  simp only [method] at e
  split at e
  · rename_i a b
    split at e
    · rename_i ys zs e1 e2
      split at e
      · rename_i hz
        cases e
        obtain ⟨p, vs, rfl, em, k1, k2⟩ := rep_lst R e1 rd
        obtain ⟨w, rfl, rw'⟩ := rels1 rds
        obtain ⟨p2, vs2, rfl, em2, k3, k4⟩ := rep_lst R e2 rw'
        obtain ⟨g1, R1⟩ := go_set R e1 em (k2.append k4)
        exact mt_extend pins s σ H _ _ v us Q I rx rs ⟨p, p2, vs, vs2, rfl, rfl, k1, k3, by rw [← k2.len, ← k4.len, SZ_line]; exact hz.1, q m _ _ g1 R1 rfl⟩
      · cases e
    · cases e
  · cases e
theorem mt_ins : MtR X "list.insert" (rM X .list .insert) := by
  intro pins s σ H x xs v us Q I rx rs ⟨m, h, d, ds, R, rd, rds, g⟩
  obtain ⟨d', h', e, q⟩ := g
  simp only [method] at e
  split at e
  · rename_i a i y
    split at e
    · rename_i ys e1
      split at e
      · rename_i hz
        cases e
        obtain ⟨p, vs, rfl, em, k1, k2⟩ := rep_lst R e1 rd
        obtain ⟨w1, w2, rfl, q1, q2⟩ := rels2 rds
        cases (q1 : _ = _)
        obtain ⟨g1, R1⟩ := go_set R e1 em ((((k2.take i.toNat)).append (RelDs.one q2)).append (k2.drop i.toNat))
        refine mt_insert pins s σ H _ _ v us Q I rx rs ⟨p, vs, i, w2, rfl, rfl, k1, by rw [← k2.len, SZ_line]; exact hz.1, hz.2.1, ?_, q m _ _ g1 R1 rfl⟩
        have h1 := hz.1
        have h2 := hz.2.2
        unfold SZ at h1
        omega
      · cases e
    · cases e
  · cases e
theorem mt_pop0 : MtR X "list.pop" (rM X .list .pop) := by
  intro pins s σ H x xs v us Q I rx rs ⟨m, h, d, ds, R, rd, rds, g⟩
  obtain ⟨d', h', e, q⟩ := g
  simp only [method] at e
  split at e
  · rename_i a i
    split at e
    · rename_i ys e1
      split at e
      · rename_i y r
        split at e
        · rename_i hi
          subst hi
          cases e
          obtain ⟨p, vs, rfl, em, k1, k2⟩ := rep_lst R e1 rd
          obtain ⟨w1, rfl, q1⟩ := rels1 rds
          cases (q1 : _ = _)
          obtain ⟨vy, vr, rfl, k3, k4⟩ := k2
          obtain ⟨g1, R1⟩ := go_set R e1 em k4
          refine mt_popAt pins s σ H _ _ v us Q I rx rs ⟨p, vy :: vr, 0, 0, vy, rfl, rfl, k1, by decide, by decide, ?_, rfl, q m _ _ g1 R1 (g1.rel R k3)⟩
          unfold seqIndex?
          simp
        · cases e
      · cases e
    · cases e
  · cases e
theorem strs_rel {K : PySem.W.Frag} {mg : Str → Option Value} {m : MM} {H : Hp} : ∀ {xs : List D} {vs : List V} {ss : List (List Nat)}, RelDs K mg m H xs vs → strsL xs = some ss → vs = (ss.map fun s => (⟨s.toArray⟩ : Str)).map V.str
  | [], vs, ss, r, e => by cases (r : _ = _); cases e; rfl
  | d :: xs, vs, ss, r, e => by
    obtain ⟨v, vr, rfl, r1, r2⟩ := r
    cases d with
    | str s =>
      have e : (strsL xs).map (s :: ·) = some ss := e
      cases q : strsL xs with
      | none => rw [q] at e; cases e
      | some t =>
        rw [q] at e
        cases e
        cases (r1 : _ = _)
        rw [strs_rel r2 q]; rfl
    | _ => cases e
theorem idxL_at {s : List Nat} : ∀ {ss : List (List Nat)} {j : Nat}, idxL s ss = some j → ss[j]? = some s ∧ ∀ k, k < j → ss[k]? ≠ some s
  | [], j, e => by cases e
  | t :: r, j, e => by
    unfold idxL at e
    split at e
    · rename_i h
      cases e
      exact ⟨by simp [h], fun k hk => absurd hk (Nat.not_lt_zero _)⟩
    · rename_i h
      cases q : idxL s r with
      | none => rw [q] at e; cases e
      | some i =>
        rw [q] at e
        obtain ⟨a, b⟩ := idxL_at q
        have e' : i + 1 = j := Option.some.inj e
        subst e'
        refine ⟨by simpa using a, fun k hk => ?_⟩
        cases k with
        | zero => simpa using h
        | succ k => simpa using b k (by omega)
theorem str_inj {s t : List Nat} (e : (⟨s.toArray⟩ : Str) = ⟨t.toArray⟩) : s = t := by
  have := congrArg (fun z => z.cps.toList) e
  simpa using this
theorem mt_tidx : MtR X "tuple.index" (rM X .tuple .index) := by
  intro pins s σ H x xs v us Q I rx rs ⟨m, h, d, ds, R, rd, rds, g⟩
  have g' := g
  obtain ⟨d', h', e, q⟩ := g
  simp only [method] at e
  split at e
  · rename_i ys t
    obtain ⟨p, vs, rfl, k1, k2⟩ := rd
    obtain ⟨w, rfl, rw'⟩ := rels1 rds
    cases (rw' : _ = _)
    cases q1 : strsL ys with
    | none => rw [q1] at e; cases e
    | some ss =>
      rw [q1] at e
      simp only [Option.bind_some] at e
      cases q2 : idxL t ss with
      | none => rw [q2] at e; cases e
      | some j =>
        rw [q2] at e
        cases e
        have ev := strs_rel k2 q1
        subst ev
        obtain ⟨a, b⟩ := idxL_at q2
        refine mt_tup_index pins s σ H _ _ v us Q I rx rs ⟨p, ss.map fun s => (⟨s.toArray⟩ : Str), ⟨t.toArray⟩, j, rfl, rfl, k1.sq, by simp [a], fun k hk e => ?_, q m _ _ Go.refl R rfl⟩
        rw [List.getElem?_map] at e
        cases q3 : ss[k]? with
        | none => rw [q3] at e; cases e
        | some z =>
          rw [q3] at e
          exact b k hk (by rw [q3, str_inj (Option.some.inj e)])
  · cases e
theorem mt_dg (hu : X.A.units + 65 < cLine) : MtR X "dict.get" (rM X .dict .get) := by
  intro pins s σ H x xs v us Q I rx rs ⟨m, h, d, ds, R, rd, rds, g⟩
  obtain ⟨d', h', e, q⟩ := g
  simp only [method] at e
  split at e
  · rename_i a k y
    split at e
    · rename_i kvs e1
      split at e
      · rename_i hk
        cases e
        exact mt_dget hu pins s σ H _ _ v us Q I rx rs ⟨m, h, a, kvs, k, y, R, rd, rds, by rw [e1]; rfl, hk, fun w rw' => q m w H Go.refl R rw'⟩
      · cases e
    · rename_i kvs e1
      split at e
      · rename_i hk
        cases e
        exact mt_dget hu pins s σ H _ _ v us Q I rx rs ⟨m, h, a, kvs, k, y, R, rd, rds, by rw [e1]; rfl, hk, fun w rw' => q m w H Go.refl R rw'⟩
      · cases e
    · cases e
  · cases e
theorem mt_dp (hu : X.A.units + 65 < cLine) : MtR X "dict.pop" (rM X .dict .pop) := by
  intro pins s σ H x xs v us Q I rx rs ⟨m, h, d, ds, R, rd, rds, g⟩
  obtain ⟨d', h', e, q⟩ := g
  simp only [method] at e
  split at e
  · rename_i a k
    split at e
    · rename_i kvs e1
      split at e
      · rename_i hk
        cases q1 : dLook kvs k with
        | none => rw [q1] at e; cases e
        | some y =>
          rw [q1] at e
          cases e
          exact mt_dpop hu pins s σ H _ _ v us Q I rx rs ⟨m, h, a, kvs, k, _, R, rd, rds, e1, hk, q1, fun w H' g1 R1 rw' => q m w H' g1 R1 rw'⟩
      · cases e
    · cases e
  · cases e
theorem join_str (s : List Nat) : ∀ ss : List (List Nat), Txt.join ⟨s.toArray⟩ (ss.map fun t => (⟨t.toArray⟩ : Str)) = ⟨(FK.joinL s ss).toArray⟩ := by
  intro ss
  rw [TL.join_eq]
  induction ss with
  | nil => rfl
  | cons a r ih =>
    cases r with
    | nil => rfl
    | cons b r =>
      show (⟨a.toArray⟩ : Str) ++ ⟨s.toArray⟩ ++ Str.join ⟨s.toArray⟩ ((b :: r).map fun t => (⟨t.toArray⟩ : Str)) = _
      rw [ih, str_app, str_app]
      rfl
theorem mt_jn : MtR X "str.join" (rM X .str .join) := by
  intro pins s σ H x xs v us Q I rx rs ⟨m, h, d, ds, R, rd, rds, g⟩
  obtain ⟨d', h', e, q⟩ := g
  have key : ∀ {t : List Nat} {ys : List D} {p : Addr} {vs : List V}, x = .str ⟨t.toArray⟩ → xs = [.ref p] → RelDs X.K X.mg m H ys vs → (SqL X.K H p vs ∨ SqT X.K H p vs) →
      ((strsL ys).bind fun ss => if (ss.map List.length).sum + ss.length * t.length ≤ SZ then some (D.str (FK.joinL t ss), h) else none) = some (d', h') → wpAny (model X.prog X.w) X.A (call (.builtin "str.join") (v :: us)) (EP X pins σ Q) X.xe s := by
    intro t ys p vs ex exs k2 k1 e
    subst ex exs
    cases q1 : strsL ys with
    | none => rw [q1] at e; cases e
    | some ss =>
      rw [q1] at e
      simp only [Option.bind_some] at e
      split at e
      · rename_i hz
        cases e
        have ev := strs_rel k2 q1
        subst ev
        refine mt_join pins s σ H _ _ v us Q I rx rs ⟨_, p, ss.map fun s => (⟨s.toArray⟩ : Str), rfl, rfl, k1, ?_, ?_⟩
        · rw [List.map_map, List.length_map, str_len]
          have : (fun (s : List Nat) => (⟨s.toArray⟩ : Str).length) = List.length := by funext s; exact str_len s
          show (List.map (fun (s : List Nat) => (⟨s.toArray⟩ : Str).length) ss).sum + _ ≤ _
          rw [this]
          exact hz
        · rw [join_str]
          exact q m _ _ Go.refl R rfl
      · cases e
  simp only [method] at e
  split at e
  · rename_i t a
    split at e
    · rename_i ys e1
      obtain ⟨w, rfl, rw'⟩ := rels1 rds
      obtain ⟨p, vs, rfl, em, k1, k2⟩ := rep_lst R e1 rw'
      exact key rd rfl k2 (.inl (SqL.of k1)) e
    · cases e
  · rename_i t ys
    obtain ⟨w, rfl, rw'⟩ := rels1 rds
    obtain ⟨p, vs, rfl, k1, k2⟩ := rw'
    exact key rd rfl k2 (.inr k1.sq) e
  · cases e
end
end FK

end
section
set_option maxRecDepth 100000
set_option maxHeartbeats 4000000
/-! Fk4: expressions. -/
namespace FK
open PySem PySem.Spec PyProof.Rows L2

/-! ### slots -/
noncomputable def SRel (K : PySem.W.Frag) (mg : Str → Option Value) (m : MM) (H : Hp) : Lc → L2.St → Prop
  | [], [] => True
  | a :: l, b :: r => (∀ d, a = some d → ∃ v, b = some v ∧ RelD K mg m H d v) ∧ SRel K mg m H l r
  | _, _ => False
section
variable {K : PySem.W.Frag} {mg : Str → Option Value} {m m' : MM} {h h' : LH} {H H' : Hp}
theorem SRel.get : ∀ {l : Lc} {σ : L2.St} {i : Nat} {d : D}, SRel K mg m H l σ → l[i]? = some (some d) → ∃ v, σ[i]? = some (some v) ∧ RelD K mg m H d v
  | [], _, _, _, _, e => by simp at e
  | _ :: _, [], _, _, s, _ => s.elim
  | a :: l, b :: r, 0, d, s, e => by
    obtain ⟨v, h1, h2⟩ := s.1 d (by simpa using e)
    exact ⟨v, by simp [h1], h2⟩
  | a :: l, b :: r, i + 1, d, s, e => by
    obtain ⟨v, h1, h2⟩ := SRel.get (i := i) s.2 (by simpa using e)
    exact ⟨v, by simpa using h1, h2⟩
theorem SRel.len : ∀ {l : Lc} {σ : L2.St}, SRel K mg m H l σ → l.length = σ.length
  | [], [], _ => rfl
  | [], _ :: _, s => s.elim
  | _ :: _, [], s => s.elim
  | _ :: _, _ :: _, s => by simp [SRel.len s.2]
theorem SRel.mono (t : TK K H H') (l : MLe m m') : ∀ {σl : Lc} {σ : L2.St}, SRel K mg m H σl σ → SRel K mg m' H' σl σ
  | [], [], _ => trivial
  | [], _ :: _, s => s.elim
  | _ :: _, [], s => s.elim
  | _ :: _, _ :: _, s => ⟨fun d e => let ⟨v, h1, h2⟩ := s.1 d e; ⟨v, h1, RelD.mono t l h2⟩, SRel.mono t l s.2⟩
theorem SRel.set {d : D} {v : V} (r : RelD K mg m H d v) : ∀ {σl : Lc} {σ : L2.St} (i : Nat), SRel K mg m H σl σ → SRel K mg m H (σl.set i (some d)) (σ.set i (some v))
  | [], [], _, _ => trivial
  | [], _ :: _, _, s => s.elim
  | _ :: _, [], _, s => s.elim
  | _ :: _, _ :: _, 0, s => ⟨fun e h => by cases h; exact ⟨v, rfl, r⟩, s.2⟩
  | _ :: _, _ :: _, i + 1, s => ⟨s.1, SRel.set r i s.2⟩
theorem SRel.unset : ∀ {σl : Lc} {σ : L2.St} (i : Nat), SRel K mg m H σl σ → SRel K mg m H (σl.set i none) (σ.set i none)
  | [], [], _, _ => trivial
  | [], _ :: _, _, s => s.elim
  | _ :: _, [], _, s => s.elim
  | _ :: _, _ :: _, 0, s => ⟨fun _ h => (nomatch h), s.2⟩
  | _ :: _, _ :: _, i + 1, s => ⟨s.1, SRel.unset i s.2⟩
theorem SRel.wipe {σl : Lc} {σ : L2.St} (s : SRel K mg m H σl σ) : ∀ vs : List Nat, SRel K mg m H (FK.wipe σl vs) (L2.wipe σ vs)
  | [] => s
  | v :: vs => SRel.unset v (SRel.wipe s vs)
theorem Go.slots {σl : Lc} {σ : L2.St} (R : Rep K mg m h H) (g : Go m h H m' h' H') (s : SRel K mg m H σl σ) : SRel K mg m' H' σl σ := s.mono (g.tk R) g.le

theorem GoE.bind {r : Option (D × LH)} {f : D × LH → Option (D × LH)} {Q : VK} (g : GoE K mg m h H (r.bind f) Q) : ∃ d1 h1, r = some (d1, h1) ∧ ∀ m1 H1, Go m h H m1 h1 H1 → GoE K mg m1 h1 H1 (f (d1, h1)) Q := by
  obtain ⟨d, h', e, q⟩ := g
  cases r with
  | none => cases e
  | some p =>
    obtain ⟨d1, h1⟩ := p
    exact ⟨d1, h1, rfl, fun m1 H1 g1 => ⟨d, h', e, fun m' v H' g2 R2 r2 => q m' v H' (g1.trans g2) R2 r2⟩⟩
theorem GoE.binds {r : Option (List D × LH)} {f : List D × LH → Option (D × LH)} {Q : VK} (g : GoE K mg m h H (r.bind f) Q) : ∃ d1 h1, r = some (d1, h1) ∧ ∀ m1 H1, Go m h H m1 h1 H1 → GoE K mg m1 h1 H1 (f (d1, h1)) Q := by
  obtain ⟨d, h', e, q⟩ := g
  cases r with
  | none => cases e
  | some p =>
    obtain ⟨d1, h1⟩ := p
    exact ⟨d1, h1, rfl, fun m1 H1 g1 => ⟨d, h', e, fun m' v H' g2 R2 r2 => q m' v H' (g1.trans g2) R2 r2⟩⟩
theorem GoE.mono {r : Option (D × LH)} {Q Q' : VK} (g : GoE K mg m h H r Q) (k : ∀ v H', Q v H' → Q' v H') : GoE K mg m h H r Q' := by
  obtain ⟨d, h', e, q⟩ := g
  exact ⟨d, h', e, fun m' v H' g R r => k _ _ (q m' v H' g R r)⟩
end

/-! ### readings -/
section
variable (P : Pr) (cl : Nat → List D → LH → Option (D × LH)) (K : PySem.W.Frag) (mg : Str → Option Value)
noncomputable def tI (e : Ex) : TE := fun σ H Q => ∃ m σl h, Rep K mg m h H ∧ SRel K mg m H σl σ ∧ GoE K mg m h H (evE P cl e σl h) Q
noncomputable def tAndI (es : Exs) : TE := fun σ H Q => ∃ m σl h, Rep K mg m h H ∧ SRel K mg m H σl σ ∧ GoE K mg m h H (evAnd P cl es σl h) Q
noncomputable def tOrI (es : Exs) : TE := fun σ H Q => ∃ m σl h, Rep K mg m h H ∧ SRel K mg m H σl σ ∧ GoE K mg m h H (evOr P cl es σl h) Q
/-- a test's end -/
noncomputable def GoB (m : MM) (h : LH) (H : Hp) (r : Option (D × LH)) (Q : Bool → Hp → Prop) : Prop :=
  ∃ d h' b, r = some (d, h') ∧ truth d h' = some b ∧ ∀ m' H', Go m h H m' h' H' → Rep K mg m' h' H' → Q b H'
noncomputable def tT (e : Ex) : TT := fun σ H Q => ∃ m σl h, Rep K mg m h H ∧ SRel K mg m H σl σ ∧ GoB K mg m h H (evE P cl e σl h) Q
noncomputable def tAndT' (es : Exs) : TT := fun σ H Q => ∃ m σl h, Rep K mg m h H ∧ SRel K mg m H σl σ ∧ GoB K mg m h H (evAnd P cl es σl h) Q
noncomputable def tOrT' (es : Exs) : TT := fun σ H Q => ∃ m σl h, Rep K mg m h H ∧ SRel K mg m H σl σ ∧ GoB K mg m h H (evOr P cl es σl h) Q
noncomputable def tIs (es : Exs) : TA := fun σ H Q => ∃ m σl h ds h', Rep K mg m h H ∧ SRel K mg m H σl σ ∧ evEs P cl es σl h = some (ds, h') ∧ ∀ m' vs H', Go m h H m' h' H' → Rep K mg m' h' H' → RelDs K mg m' H' ds vs → Q vs H'
/-- a def's promise -/
noncomputable def spI (f : Nat) : Sp := fun vs H Q _ => ∃ m h ds, Rep K mg m h H ∧ RelDs K mg m H ds vs ∧ (∃ F, P.fn f = some F ∧ ds.length = F.np) ∧ GoE K mg m h H (cl f ds h) Q
end

/-- what is known of the classes: AD tells where a def stands -/
structure COk (P : Pr) (AD : Nat → Option Addr) (K : PySem.W.Frag) (mg : Str → Option Value) : Prop where
  cls : ∀ C c, P.cls C = some c → ∃ Ca, mg (nmS C) = some (.ref Ca) ∧ Cls K Ca ∧ (∀ f ∈ c.flds, f < 128 ^ 64 ∧ NoAttr K Ca (nmS f)) ∧ (∀ x f, c.mts.lookup x = some f → ∃ p, AD f = some p ∧ Meth K Ca (nmS x) p) ∧ ∃ p, AD c.ini = some p ∧ Mk K Ca p
/-- what is known of a def -/
structure FnG (P : Pr) (AD : Nat → Option Addr) (cl : Nat → List D → LH → Option (D × LH)) (X : Cx) (f : Nat) (F : Fn) (k : Nat) (p : Addr) (fd : FuncData) (ps : List Str) : Prop where
  at_ : AD f = some p
  ok : FnOk X.prog X.w X.K X.mg X.base CX0 k p fd ps (spI P cl X.K X.mg f)
  room : Room (k + 1) X.A
  glo : f < 128 ^ 64 → X.mg (nmS f) = some (.ref p) ∧ PySem.W.keepIn X.K (.ref p) = true
  bnd : ∀ j, j ≤ F.dfs.length → ∃ dvs ds, Vals dvs ds ∧ Binds X.K fd ps ds ∧ ∀ m H, RelDs X.K X.mg m H (F.dfs.drop j) dvs
/-- what a context knows -/
structure XG (P : Pr) (AD : Nat → Option Addr) (cl : Nat → List D → LH → Option (D × LH)) (N : List Nat) (X : Cx) : Prop where
  N : X.N = N.map nmS
  nd : X.N.Nodup
  calm : X.calm = true
  G : GOk P X.K X.mg X.w
  hu : X.A.units + 65 < cLine
  C : COk P AD X.K X.mg
  dom : ∀ f vs h r, cl f vs h = some r → ∃ F vs', P.fn f = some F ∧ fill F vs = some vs' ∧ vs'.length = F.np ∧ cl f vs' h = some r
  fns : ∀ f F, P.fn f = some F → ∃ k p fd ps, FnG P AD cl X f F k p fd ps

/-- a scope's names, by their kinds -/
noncomputable def ScOk (sc : Scp) (X : Cx) : Prop := ∀ x k, sc.lookup x = some k → (X.env.scope.names.lookup (nmS x) = some (nkK k) ∨ (k = .fre ∧ X.env.scope.names.lookup (nmS x) = some .cell)) ∧ (k = .cel → X.fn (nmS x) = true)
theorem ScOk.glo {sc : Scp} {X : Cx} (S : ScOk sc X) {x : Nat} (e : sc.lookup x = some .glo) : Gl X (nmS x) := by
  rcases (S x .glo e).1 with z | ⟨z, _⟩
  · exact z
  · cases z
theorem ScOk.vis {sc : Scp} {X : Cx} (S : ScOk sc X) {x : Nat} {k : NK} (e : sc.lookup x = some k) (hk : k ≠ .glo) : Vis X.env.scope (nmS x) := by
  rcases (S x k e).1 with z | ⟨_, z⟩
  · cases k with
    | glo => exact absurd rfl hk
    | loc => exact .inl z
    | cel => exact .inr (.inl z)
    | fre => exact .inr (.inr z)
  · exact .inr (.inl z)
theorem ScOk.loc {sc : Scp} {X : Cx} (S : ScOk sc X) {x : Nat} {k : NK} (e : sc.lookup x = some k) (hk : k = .loc ∨ k = .cel) : Loc X.env.scope (nmS x) ∧ (X.fn (nmS x) = true ∨ X.env.scope.names.lookup (nmS x) = some .local) := by
  obtain ⟨z, f⟩ := S x k e
  rcases hk with rfl | rfl
  · rcases z with z | ⟨z, _⟩
    · exact ⟨.inl z, .inr z⟩
    · cases z
  · rcases z with z | ⟨z, _⟩
    · exact ⟨.inr z, .inl (f rfl)⟩
    · cases z
theorem lookup_mem {α : Type} {sc : List (Nat × α)} {x : Nat} {k : α} (h : sc.lookup x = some k) : (x, k) ∈ sc := by
  induction sc with
  | nil => cases h
  | cons p r ih =>
    obtain ⟨y, k'⟩ := p
    by_cases e : x = y
    · subst e
      simp [List.lookup] at h
      subst h
      exact List.mem_cons_self
    · have e1 : (x == y) = false := by simpa using e
      simp only [List.lookup, e1] at h
      exact List.mem_cons_of_mem _ (ih h)
theorem lookup_nodup {α : Type} {sc : List (Nat × α)} (nd : (sc.map (·.1)).Nodup) {p : Nat × α} (h : p ∈ sc) : sc.lookup p.1 = some p.2 := by
  induction sc with
  | nil => cases h
  | cons q r ih =>
    rw [List.map_cons, List.nodup_cons] at nd
    rcases List.mem_cons.mp h with e | h'
    · subst e
      obtain ⟨a, b⟩ := p
      simp [List.lookup]
    · have ne : (p.1 == q.1) = false := by
        rw [beq_eq_false_iff_ne]
        intro e
        exact nd.1 (List.mem_map.mpr ⟨p, h', e⟩)
      obtain ⟨a, b⟩ := q
      have i := ih nd.2 h'
      simp only [List.lookup, ne]
      exact i
theorem lookup_scN' {sc : Scp} (h : ∀ p ∈ sc, p.1 < 128 ^ 64) {x : Nat} (hx : x < 128 ^ 64) : (scN sc).lookup (nmS x) = (sc.lookup x).map nkK := by
  induction sc with
  | nil => rfl
  | cons p r ih =>
    obtain ⟨y, k⟩ := p
    have hy := h (y, k) List.mem_cons_self
    have ih := ih fun p hp => h p (List.mem_cons_of_mem _ hp)
    show List.lookup (nmS x) ((nmS y, nkK k) :: scN r) = _
    by_cases e : x = y
    · subst e; simp [List.lookup]
    · have e1 : (x == y) = false := by simpa using e
      have e2 : (nmS x == nmS y) = false := by
        rw [beq_eq_false_iff_ne]
        exact fun z => e (nmS_inj hx hy z)
      simp only [List.lookup, e1, e2]
      exact ih

/-! ### names that may be used -/
noncomputable def cBf : Bf → Nat
  | .len => 1782510 | .int => 1734516 | .tuple => 31385728613 | .list => 228227572 | .str => 1899122 | .sum => 1899245 | .any => 1603449 | .all => 1603180 | .min => 1799406 | .max => 1798392 | .sorted => 3981407236836 | .ord => 1833316
noncomputable def cTy : Ty → Nat
  | .bool => 207353836 | .int => 1734516 | .str => 1899122 | .tuple => 31385728613 | .list => 228227572 | .dict => 211448308
theorem bf_nm (f : Bf) : bfS f = nmS (cBf f) := by cases f <;> kernel_rfl
theorem ty_nm (f : Ty) : tyS f = nmS (cTy f) := by cases f <;> kernel_rfl
theorem n_debug : ("__debug__" : Str) = nmS 6899394980716605407 := by kernel_rfl
theorem n_cdict : ("__classdict__" : Str) = nmS 1852041121671626177078177759 := by kernel_rfl
theorem n_super : ("super" : Str) = nmS 31117292274 := by kernel_rfl
theorem n_range : ("range" : Str) = nmS 30806881253 := by kernel_rfl
theorem n_isi : ("isinstance" : Str) = nmS 976800284697052295653 := by kernel_rfl
noncomputable def okN (x : Nat) : Bool := decide (x < 128 ^ 64) && decide (x ≠ 6899394980716605407) && decide (x ≠ 1852041121671626177078177759) && decide (x ≠ 53901865833295839) && decide (x ≠ 31117292274)
theorem okN_ne {x y : Nat} (h : okN x = true) (hy : y < 128 ^ 64) (ne : x ≠ y) : nmS x ≠ nmS y := fun e => by
  simp only [okN, Bool.and_eq_true, decide_eq_true_eq] at h
  exact ne (nmS_inj h.1.1.1.1 hy e)
theorem okN_debug {x : Nat} (h : okN x = true) : (nmS x == ("__debug__" : Str)) = false := by
  rw [n_debug, beq_eq_false_iff_ne]
  have h' := h
  simp only [okN, Bool.and_eq_true, decide_eq_true_eq] at h'
  exact okN_ne h (by decide) h'.1.1.1.2
theorem okN_cdict {x : Nat} (h : okN x = true) : (nmS x == ("__classdict__" : Str)) = false := by
  rw [n_cdict, beq_eq_false_iff_ne]
  have h' := h
  simp only [okN, Bool.and_eq_true, decide_eq_true_eq] at h'
  exact okN_ne h (by decide) h'.1.1.2
theorem okN_super {x : Nat} (h : okN x = true) : nmS x ≠ ("super" : Str) := by
  rw [n_super]
  have h' := h
  simp only [okN, Bool.and_eq_true, decide_eq_true_eq] at h'
  exact okN_ne h (by decide) h'.2

noncomputable def isGlo (sc : Scp) (x : Nat) : Bool := match sc.lookup x with
  | some .glo => true
  | _ => false
noncomputable def isVis (sc : Scp) (N : List Nat) (i : Nat) : Bool := match N[i]? with
  | some x => okN x && match sc.lookup x with
    | some .glo => false
    | none => false
    | _ => true
  | none => false
noncomputable def isLoc (sc : Scp) (N : List Nat) (i : Nat) : Bool := match N[i]? with
  | some x => match sc.lookup x with
    | some .loc => true
    | some .cel => true
    | _ => false
  | none => false
noncomputable def exsLen : Exs → Nat
  | .nil => 0
  | .cons _ es => exsLen es + 1

mutual
noncomputable def okT (sc : Scp) (N : List Nat) : Tg → Bool
  | .nm i => isLoc sc N i
  | .tp ts => okTs sc N ts
noncomputable def okTs (sc : Scp) (N : List Nat) : Tgs → Bool
  | .nil => true
  | .cons t ts => okT sc N t && okTs sc N ts
end
/-- a comprehension's own scope -/
noncomputable def okLc (sc : Scp) (N : List Nat) (sc' : Scp) (t : Tg) : Bool :=
  okT sc' N t && (sc'.all fun q => decide (q.1 < 128 ^ 64)) && decide (sc'.map (·.1)).Nodup && (N.all fun x => decide (x < 128 ^ 64)) && (sc.all fun q => decide (q.1 < 128 ^ 64)) && ((tgSl t).all fun i => decide (i < N.length)) &&
    sc'.all fun q => match q.2 with
      | .fre => match sc.lookup q.1 with
        | some .cel => true
        | some .fre => true
        | _ => false
      | .loc => ((tgSl t).any fun i => N.getD i 0 == q.1) || !N.contains q.1
      | .cel => ((tgSl t).any fun i => N.getD i 0 == q.1) || !N.contains q.1
      | .glo => true
mutual
noncomputable def okE (sc : Scp) (N : List Nat) : Ex → Bool
  | .non => true
  | .bl _ => true
  | .int _ => true
  | .str s => ascii s
  | .lv i => isVis sc N i
  | .gv x => okN x && isGlo sc x
  | .tup es => okEs sc N es
  | .lst es => okEs sc N es
  | .dnew => true
  | .mk C es => okN C && isGlo sc C && okEs sc N es
  | .bop _ a b => okE sc N a && okE sc N b
  | .neg a => okE sc N a
  | .not a => okE sc N a
  | .cmp _ a b => okE sc N a && okE sc N b
  | .cmp2 _ _ a b c => okE sc N a && okE sc N b && okE sc N c
  | .and es => okEs sc N es
  | .or es => okEs sc N es
  | .ix a i => okE sc N a && okE sc N i
  | .sl a lo hi => okE sc N a && okE sc N lo && okE sc N hi
  | .call f es => okN f && isGlo sc f && okEs sc N es
  | .blt f es => isGlo sc (cBf f) && okEs sc N es && decide (0 < exsLen es)
  | .calv i es => isVis sc N i && okEs sc N es && decide (0 < exsLen es)
  | .isi a T => isGlo sc 976800284697052295653 && isGlo sc (cTy T) && okE sc N a
  | .bm o m es => okE sc N o && okEs sc N es && match m with
    | .append => decide (exsLen es = 1)
    | .extend => decide (exsLen es = 1)
    | .insert => decide (exsLen es = 2)
    | .pop => decide (exsLen es = 1)
    | .index => decide (exsLen es = 1)
    | .get => decide (exsLen es = 2)
    | .join => decide (exsLen es = 1)
    | _ => false
  | .cm o m es => okE sc N o && okEs sc N es && decide (exsLen es < 20)
  | .fld o f => okE sc N o
  | .lc sc' e t s ts => okI sc N s && okLc sc N sc' t && okE sc' N e && okEs sc' N ts && decide (exsLen ts < 2)
  | .lcb f sc' e t s ts => isGlo sc (cBf f) && okI sc N s && okLc sc N sc' t && okE sc' N e && okEs sc' N ts && decide (exsLen ts < 2) && match f with
    | .tuple => true
    | .len => true
    | .any => true
    | .all => true
    | .sum => true
    | _ => false
noncomputable def okEs (sc : Scp) (N : List Nat) : Exs → Bool
  | .nil => true
  | .cons e es => okE sc N e && okEs sc N es
noncomputable def okI (sc : Scp) (N : List Nat) : Is → Bool
  | .ex e => okE sc N e
  | .rng es => isGlo sc 30806881253 && okEs sc N es
  | _ => false
end

/-! ### the text's forms -/
structure Pln (e : Expr) : Prop where
  star : ∀ es env, starEach (e :: es) env = (false, eval e env) :: starEach es env
  ix : PlainIx e
  fold : ∀ env x, foldedSetIterable e env x = pure x
  mark : ∀ op, behindInMarks op e = false
theorem pln_of {N : List Nat} {e' : Ex} {e : Expr} (h : reE N e' e = e) : Pln e := by
  cases e with
  | Starred v p => cases e' <;> cases h
  | Set l k p => cases e' <;> cases h
  | Slice l u s p => cases e' <;> cases h
  | _ => exact ⟨fun _ _ => rfl, fun _ _ => rfl, fun _ _ => rfl, fun _ => rfl⟩

section
variable {N : List Nat} {e : Expr}
theorem inv_non (h : reE N .non e = e) : ∃ k p, e = .Constant .none k p := by
  cases e with
  | Constant c k p => exact ⟨k, p, h.symm⟩
  | _ => cases h
theorem inv_bl {b} (h : reE N (.bl b) e = e) : ∃ k p, e = .Constant (.bool b) k p := by
  cases e with
  | Constant c k p => exact ⟨k, p, h.symm⟩
  | _ => cases h
theorem inv_int {i} (h : reE N (.int i) e = e) : ∃ k p, e = .Constant (.int i) k p := by
  cases e with
  | Constant c k p => exact ⟨k, p, h.symm⟩
  | _ => cases h
theorem inv_str {s} (h : reE N (.str s) e = e) : ∃ k p, e = .Constant (.str (txS s)) k p := by
  cases e with
  | Constant c k p => exact ⟨k, p, h.symm⟩
  | _ => cases h
theorem inv_lv {i} (h : reE N (.lv i) e = e) : ∃ p, e = .Name (nmS (N.getD i 0)) p := by
  cases e with
  | Name x p => exact ⟨p, h.symm⟩
  | _ => cases h
theorem inv_gv {x} (h : reE N (.gv x) e = e) : ∃ p, e = .Name (nmS x) p := by
  cases e with
  | Name x p => exact ⟨p, h.symm⟩
  | _ => cases h
theorem inv_tup {es} (h : reE N (.tup es) e = e) : ∃ l k p, e = .Tuple l k p ∧ reEs N es l = l := by
  cases e with
  | Tuple l k p => injection h with h1; exact ⟨l, k, p, rfl, h1⟩
  | _ => cases h
theorem inv_lst {es} (h : reE N (.lst es) e = e) : ∃ l p, e = .List l p ∧ reEs N es l = l := by
  cases e with
  | List l p => injection h with h1; exact ⟨l, p, rfl, h1⟩
  | _ => cases h
theorem inv_bop {o a b} (h : reE N (.bop o a b) e = e) : ∃ l r p, e = .BinOp l (bopO o) r p ∧ reE N a l = l ∧ reE N b r = r := by
  cases e with
  | BinOp l o' r p => injection h with h1 h2 h3; exact ⟨l, r, p, by rw [← h2], h1, h3⟩
  | _ => cases h
theorem inv_neg {a} (h : reE N (.neg a) e = e) : ∃ x p, e = .UnaryOp .USub x p ∧ reE N a x = x := by
  cases e with
  | UnaryOp o x p => injection h with h1 h2; exact ⟨x, p, by rw [← h1], h2⟩
  | _ => cases h
theorem inv_not {a} (h : reE N (.not a) e = e) : ∃ x p, e = .UnaryOp .Not x p ∧ reE N a x = x := by
  cases e with
  | UnaryOp o x p => injection h with h1 h2; exact ⟨x, p, by rw [← h1], h2⟩
  | _ => cases h
theorem inv_cmp {o a b} (h : reE N (.cmp o a b) e = e) : ∃ l r p, e = .Compare l [copO o] [r] p ∧ reE N a l = l ∧ reE N b r = r := by
  cases e with
  | Compare l os rs p =>
    cases rs with
    | nil => cases h
    | cons r rs =>
      injection h with h1 h2 h3
      injection h3 with h3 h4
      exact ⟨l, r, p, by rw [← h2, ← h4], h1, h3⟩
  | _ => cases h
theorem inv_cmp2 {o o' a b c} (h : reE N (.cmp2 o o' a b c) e = e) : ∃ l r r' p, e = .Compare l [copO o, copO o'] [r, r'] p ∧ reE N a l = l ∧ reE N b r = r ∧ reE N c r' = r' := by
  cases e with
  | Compare l os rs p =>
    cases rs with
    | nil => cases h
    | cons r rs =>
      cases rs with
      | nil => cases h
      | cons r' rs =>
        injection h with h1 h2 h3
        injection h3 with h3 h4
        injection h4 with h4 h5
        exact ⟨l, r, r', p, by rw [← h2, ← h5], h1, h3, h4⟩
  | _ => cases h
theorem inv_and {es} (h : reE N (.and es) e = e) : ∃ l p, e = .BoolOp .And l p ∧ reEs N es l = l := by
  cases e with
  | BoolOp o l p => injection h with h1 h2; exact ⟨l, p, by rw [← h1], h2⟩
  | _ => cases h
theorem inv_or {es} (h : reE N (.or es) e = e) : ∃ l p, e = .BoolOp .Or l p ∧ reEs N es l = l := by
  cases e with
  | BoolOp o l p => injection h with h1 h2; exact ⟨l, p, by rw [← h1], h2⟩
  | _ => cases h
theorem inv_ix {a i} (h : reE N (.ix a i) e = e) : ∃ v s p, e = .Subscript v s p ∧ reE N a v = v ∧ reE N i s = s := by
  cases e with
  | Subscript v s p => injection h with h1 h2; exact ⟨v, s, p, rfl, h1, h2⟩
  | _ => cases h
theorem inv_sl {a lo hi} (h : reE N (.sl a lo hi) e = e) : ∃ v l u p2 p, e = .Subscript v (.Slice l u none p2) p ∧ reE N a v = v ∧ opE (isNonE lo) (reE N lo) l = l ∧ opE (isNonE hi) (reE N hi) u = u := by
  cases e with
  | Subscript v s p =>
    cases s with
    | Slice l u st p2 =>
      injection h with h1 h2
      injection h2 with h2 h3 h4
      exact ⟨v, l, u, p2, p, by rw [← h4], h1, h2, h3⟩
    | _ => cases h
  | _ => cases h
theorem inv_call {f es} (h : reE N (.call f es) e = e) : ∃ p1 l p, e = .Call (.Name (nmS f) p1) l [] p ∧ reEs N es l = l := by
  cases e with
  | Call g l ks p =>
    cases g with
    | Name x p1 =>
      injection h with h1 h2 h3
      exact ⟨p1, l, p, by rw [← h1, ← h3], h2⟩
    | _ => cases h
  | _ => cases h
theorem inv_blt {f es} (h : reE N (.blt f es) e = e) : ∃ p1 l p, e = .Call (.Name (bfS f) p1) l [] p ∧ reEs N es l = l := by
  cases e with
  | Call g l ks p =>
    cases g with
    | Name x p1 =>
      injection h with h1 h2 h3
      exact ⟨p1, l, p, by rw [← h1, ← h3], h2⟩
    | _ => cases h
  | _ => cases h
theorem inv_calv {i es} (h : reE N (.calv i es) e = e) : ∃ p1 l p, e = .Call (.Name (nmS (N.getD i 0)) p1) l [] p ∧ reEs N es l = l := by
  cases e with
  | Call g l ks p =>
    cases g with
    | Name x p1 =>
      injection h with h1 h2 h3
      exact ⟨p1, l, p, by rw [← h1, ← h3], h2⟩
    | _ => cases h
  | _ => cases h
theorem inv_isi {a T} (h : reE N (.isi a T) e = e) : ∃ p1 x p2 p, e = .Call (.Name "isinstance" p1) [x, .Name (tyS T) p2] [] p ∧ reE N a x = x := by
  cases e with
  | Call g l ks p =>
    cases g with
    | Name y p1 =>
      cases l with
      | nil => cases h
      | cons x l =>
        cases l with
        | nil => cases h
        | cons t l =>
          cases t with
          | Name z p2 =>
            injection h with h1 h2 h3
            injection h2 with h2 h4
            exact ⟨p1, x, p2, p, by rw [← h1, ← h3, ← h4], h2⟩
          | _ => cases h
    | _ => cases h
  | _ => cases h
theorem inv_bm {o m es} (h : reE N (.bm o m es) e = e) : ∃ v p1 l p, e = .Call (.Attribute v (bmS m) p1) l [] p ∧ (p1.endLine == p.line) = true ∧ reE N o v = v ∧ reEs N es l = l := by
  cases e with
  | Call g l ks p =>
    cases g with
    | Attribute v x p1 =>
      have h' : (if (p1.endLine == p.line) = true then Expr.Call (.Attribute (reE N o v) (bmS m) p1) (reEs N es l) [] p else .Constant .ellipsis 0 P0) = .Call (.Attribute v x p1) l ks p := h
      by_cases hl : (p1.endLine == p.line) = true
      · rw [if_pos hl] at h'
        injection h' with h1 h2 h3
        injection h1 with h1 h4
        exact ⟨v, p1, l, p, by rw [← h4, ← h3], hl, h1, h2⟩
      · rw [if_neg hl] at h'; cases h'
    | _ => cases h
  | _ => cases h
theorem inv_mk {f es} (h : reE N (.mk f es) e = e) : ∃ p1 l p, e = .Call (.Name (nmS f) p1) l [] p ∧ reEs N es l = l := by
  cases e with
  | Call g l ks p =>
    cases g with
    | Name x p1 =>
      injection h with h1 h2 h3
      exact ⟨p1, l, p, by rw [← h1, ← h3], h2⟩
    | _ => cases h
  | _ => cases h
theorem inv_dnew (h : reE N .dnew e = e) : ∃ p, e = .Dict [] [] p := by
  cases e with
  | Dict a b p => exact ⟨p, h.symm⟩
  | _ => cases h
theorem inv_fld {o f} (h : reE N (.fld o f) e = e) : ∃ v p, e = .Attribute v (nmS f) p ∧ reE N o v = v := by
  cases e with
  | Attribute v x p => injection h with h1 h2; exact ⟨v, p, by rw [← h2], h1⟩
  | _ => cases h
theorem inv_cm {o m es} (h : reE N (.cm o m es) e = e) : ∃ v p1 l p, e = .Call (.Attribute v (nmS m) p1) l [] p ∧ (p1.endLine == p.line) = true ∧ reE N o v = v ∧ reEs N es l = l := by
  cases e with
  | Call g l ks p =>
    cases g with
    | Attribute v x p1 =>
      have h' : (if (p1.endLine == p.line) = true then Expr.Call (.Attribute (reE N o v) (nmS m) p1) (reEs N es l) [] p else .Constant .ellipsis 0 P0) = .Call (.Attribute v x p1) l ks p := h
      by_cases hl : (p1.endLine == p.line) = true
      · rw [if_pos hl] at h'
        injection h' with h1 h2 h3
        injection h1 with h1 h4
        exact ⟨v, p1, l, p, by rw [← h4, ← h3], hl, h1, h2⟩
      · rw [if_neg hl] at h'; cases h'
    | _ => cases h
  | _ => cases h
/-- a comprehension's text -/
structure LcAt (N : List Nat) (sc : Scp) (e : Ex) (t : Tg) (s : Is) (ts : Exs) (x tg it : Expr) (ifs : List Expr) (scope : Scope) : Prop where
  e : reE N e x = x
  t : reT N t tg = tg
  s : reI N s it = it
  ts : reEs N ts ifs = ifs
  kind : scope.kind = .function
  names : scope.names = scN sc
theorem inv_lc {sc e' t s ts} (h : reE N (.lc sc e' t s ts) e = e) : ∃ x tg it ifs scope p, e = .ListComp x [⟨tg, it, ifs, 0⟩] scope p ∧ LcAt N sc e' t s ts x tg it ifs scope := by
  cases e with
  | ListComp x gs scope p =>
    cases gs with
    | nil => cases h
    | cons g gs =>
      obtain ⟨tg, it, ifs, as⟩ := g
      injection h with h1 h2 h3
      injection h2 with h2 h4
      injection h2 with h5 h6 h7 h8
      refine ⟨x, tg, it, ifs, scope, p, by rw [← h4, ← h8], h1, h5, h6, h7, ?_, ?_⟩
      · rw [← h3]
      · rw [← h3]
  | _ => cases h
theorem inv_lcb {f sc e' t s ts} (h : reE N (.lcb f sc e' t s ts) e = e) : ∃ p1 x tg it ifs scope p2 p, e = .Call (.Name (bfS f) p1) [.ListComp x [⟨tg, it, ifs, 0⟩] scope p2] [] p ∧ LcAt N sc e' t s ts x tg it ifs scope := by
  cases e with
  | Call g l ks p =>
    cases g with
    | Name y p1 =>
      cases l with
      | nil => cases h
      | cons a l =>
        cases a with
        | ListComp x gs scope p2 =>
          cases gs with
          | nil => cases h
          | cons g gs =>
            obtain ⟨tg, it, ifs, as⟩ := g
            injection h with h1 h2 h3
            injection h2 with h2 h4
            injection h2 with h5 h6 h7 h8
            injection h6 with h6 h9
            injection h6 with ha hb hc hd
            refine ⟨p1, x, tg, it, ifs, scope, p2, p, by rw [← h1, ← h3, ← h4, ← h9, ← hd], h5, ha, hb, hc, ?_, ?_⟩
            · rw [← h7]
            · rw [← h7]
        | _ => cases h
    | _ => cases h
  | _ => cases h
theorem inv_nil {l : List Expr} (h : reEs N .nil l = l) : l = [] := h.symm
theorem inv_cons {e' es'} {l : List Expr} (h : reEs N (.cons e' es') l = l) : ∃ x xs, l = x :: xs ∧ reE N e' x = x ∧ reEs N es' xs = xs := by
  cases l with
  | nil => cases h
  | cons x xs => injection h with h1 h2; exact ⟨x, xs, rfl, h1, h2⟩
end
end FK

end
section
set_option maxRecDepth 100000
set_option maxHeartbeats 4000000
/-! Fk4b: targets; what is walked. -/
namespace FK
open PySem PySem.Spec PyProof.Rows L2

theorem wipe_get (σ : L2.St) : ∀ (vs : List Nat) (j : Nat), (L2.wipe σ vs)[j]? = if j ∈ vs then (if j < σ.length then some none else none) else σ[j]?
  | [], j => by simp [L2.wipe]
  | v :: vs, j => by
    unfold L2.wipe
    by_cases h : j = v
    · subst h
      by_cases hl : j < σ.length
      · rw [List.getElem?_set_self (by rw [L2.wipe_length]; exact hl)]; simp [hl]
      · rw [List.getElem?_eq_none (by rw [List.length_set, L2.wipe_length]; omega)]; simp [hl]
    · rw [List.getElem?_set_ne (Ne.symm h), wipe_get σ vs j]
      simp [h]
theorem wipe_set {σ : L2.St} {vs : List Nat} {i : Nat} {x : Option V} (h : i ∈ vs) : L2.wipe (σ.set i x) vs = L2.wipe σ vs := by
  apply List.ext_getElem?
  intro j
  rw [wipe_get, wipe_get]
  by_cases hj : j ∈ vs
  · simp [hj]
  · rw [if_neg hj, if_neg hj, List.getElem?_set_ne]
    rintro rfl; exact hj h

section
variable (P : Pr) (cl : Nat → List D → LH → Option (D × LH)) (K : PySem.W.Frag) (mg : Str → Option Value)
noncomputable def gI (vs : List Nat) (t : Tg) : TG := fun v σ H Q => ∃ m h σl d σl', Rep K mg m h H ∧ SRel K mg m H σl σ ∧ RelD K mg m H d v ∧ tgA t d σl = some σl' ∧ ∀ σ', SRel K mg m H σl' σ' → L2.wipe σ' vs = L2.wipe σ vs → Q σ' H
noncomputable def gsI (ws : List Nat) (ts : Tgs) : TGs := fun vs σ H Q => ∃ m h σl ds σl', Rep K mg m h H ∧ SRel K mg m H σl σ ∧ RelDs K mg m H ds vs ∧ tgsA ts ds σl = some σl' ∧ ∀ σ', SRel K mg m H σl' σ' → L2.wipe σ' ws = L2.wipe σ ws → Q σ' H
/-- what walks a dict's keys -/
noncomputable def ItD (p : Addr) (o : Obj) (ys : List (NestedKey × Addr × Value)) : It :=
  ⟨fun i H => H p = some (.frz o (.ext (DAt p ys))) ∧ i < ys.length, fun i H x H' => H' = H ∧ ∃ k, ys[i]? = some k ∧ x = .ref k.2.1, fun i H => H p = some (.frz o (.ext (DAt p ys))) ∧ ys.length ≤ i⟩
/-- what walks the items -/
noncomputable def JRel (m : MM) (H : Hp) (xs : List D) (g : Option Nat) (J : It) : Prop :=
  (∃ a vs, J = Itt K a ∧ TupS K H a vs ∧ RelDs K mg m H xs vs ∧ g = none) ∨ (∃ b a, J = Itl K a ∧ g = some b ∧ m b = some a) ∨ (∃ (lo : Int) (n : Nat), J = Itr lo n ∧ xs = (List.range n).map (fun (k : Nat) => D.int (lo + k)) ∧ g = none) ∨
    (∃ s : List Nat, J = Its ⟨s.toArray⟩ ∧ xs = s.map chr1 ∧ g = none) ∨
    ∃ p o ys kvs, J = ItD p o ys ∧ H p = some (.frz o (.ext (DAt p ys))) ∧ RelK K mg m H kvs ys ∧ xs = kvs.map (·.1) ∧ g = none
noncomputable def iI (s : Is) : TI := fun σ H R => ∃ m σl h xs g h', Rep K mg m h H ∧ SRel K mg m H σl σ ∧ evIs P cl s σl h = some (xs, g, h') ∧ ∀ m' H' J, Go m h H m' h' H' → Rep K mg m' h' H' → JRel K mg m' H' xs g J → R J H'
end
section
variable {K : PySem.W.Frag} {mg : Str → Option Value}
theorem tgs_len : ∀ {ts : Tgs} {ds : List D} {σ σ' : Lc}, tgsA ts ds σ = some σ' → ∀ {N : List Nat} {es : List Expr}, reTs N ts es = es → ds.length = es.length
  | .nil, ds, σ, σ', h, N, es, e => by
    have : es = [] := e.symm
    subst this
    unfold tgsA at h
    cases ds with
    | nil => rfl
    | cons a b => simp at h
  | .cons t ts, ds, σ, σ', h, N, es, e => by
    cases es with
    | nil => cases e
    | cons x xs =>
      injection e with e1 e2
      cases ds with
      | nil => unfold tgsA at h; cases h
      | cons d ds =>
        unfold tgsA at h
        simp only at h
        cases q : tgA t d σ with
        | none => rw [q] at h; cases h
        | some σ1 =>
          rw [q] at h
          have := tgs_len (ts := ts) (ds := ds) h e2
          simp [this]
end

section
variable {P : Pr} {AD : Nat → Option Addr} {cl : Nat → List D → LH → Option (D × LH)} {N : List Nat} {X : Cx} {sc : Scp}
theorem loc_name (G : XG P AD cl N X) (S : ScOk sc X) {i : Nat} (h : isLoc sc N i = true) : ∃ x, N.getD i 0 = x ∧ X.N[i]? = some (nmS x) ∧ Loc X.env.scope (nmS x) ∧ (X.fn (nmS x) = true ∨ X.env.scope.names.lookup (nmS x) = some .local) := by
  unfold isLoc at h
  cases e : N[i]? with
  | none => rw [e] at h; cases h
  | some x =>
    rw [e] at h
    simp only at h
    refine ⟨x, by simp [List.getD, e], by rw [G.N, List.getElem?_map, e]; rfl, ?_⟩
    cases q : sc.lookup x with
    | none => rw [q] at h; cases h
    | some k =>
      rw [q] at h
      exact S.loc q (by cases k <;> first | (cases h; done) | simp)
theorem assign_each : ∀ {ts : Tgs} {es : List Expr} {env : Env}, reTs N ts es = es → (assignEach es env).length = es.length ∧ (assignEach es env).findIdx? (·.1) = none ∧
    ∀ e es', es = e :: es' → (assignEach (e :: es') env).map (·.2) = assign e env :: (assignEach es' env).map (·.2)
  | .nil, es, env, h => by
    have : es = [] := h.symm
    subst this
    exact ⟨rfl, rfl, fun _ _ z => nomatch z⟩
  | .cons t ts, es, env, h => by
    cases es with
    | nil => cases h
    | cons e es =>
      injection h with h1 h2
      obtain ⟨i1, i2, _⟩ := assign_each (ts := ts) (env := env) h2
      have key : assignEach (e :: es) env = (false, assign e env) :: assignEach es env := by
        cases t with
        | nm i => cases e <;> first | rfl | cases h1
        | tp ts => cases e <;> first | rfl | cases h1
      refine ⟨by rw [key]; simp [i1], by rw [key]; simp [List.findIdx?_cons, i2], fun e' es' z => ?_⟩
      cases z
      rw [key]; rfl
mutual
theorem pg_of : ∀ (t : Tg) {sc : Scp} {X : Cx} {e : Expr} {ws : List Nat}, XG P AD cl N X → ScOk sc X → okT sc N t = true → reT N t e = e → (∀ i ∈ tgSl t, i ∈ ws) → PG X e (gI X.K X.mg ws t)
  | .nm i, sc, X, e, ws, G, S, ok, h, hw => by
    obtain ⟨p, rfl⟩ : ∃ p, e = .Name (nmS (N.getD i 0)) p := by
      cases e with
      | Name x p => exact ⟨p, h.symm⟩
      | _ => cases h
    obtain ⟨x, n1, n2, n3, n4⟩ := loc_name G S ok
    rw [n1]
    refine ⟨fun pins s σ H v u Q I r ⟨m, h, σl, d, σl', R, Sl, rd, e, k⟩ => (pg_name (i := i) G.nd n2 n3 n4).run pins s σ H v u Q I r ?_⟩
    have e : (if i < σl.length then some (σl.set i (some d)) else none) = some σl' := e
    split at e
    · cases e; exact k _ (Sl.set rd i) (wipe_set (hw i (by simp [tgSl])))
    · cases e
  | .tp ts, sc, X, e, ws, G, S, ok, h, hw => by
    obtain ⟨l, kk, p, rfl, h1⟩ : ∃ l k p, e = .Tuple l k p ∧ reTs N ts l = l := by
      cases e with
      | Tuple l k p => injection h with h1; exact ⟨l, k, p, rfl, h1⟩
      | _ => cases h
    have ih := pgs_of ts G S ok h1 (ws := ws) hw
    obtain ⟨a1, a2, _⟩ := assign_each (N := N) (ts := ts) (env := X.env) h1
    refine ⟨fun pins s σ H v u Q I r ⟨m, h, σl, d, σl', R, Sl, rd, e, k⟩ => (pg_tup (n := l.length) G.calm ih a1 a2).run pins s σ H v u Q I r ?_⟩
    cases d with
    | tup xs =>
      obtain ⟨q, vs, rfl, k1, k2⟩ := rd
      have e : tgsA ts xs σl = some σl' := e
      exact ⟨q, vs, rfl, k1.sq, by rw [← k2.len]; exact tgs_len e h1, m, h, σl, xs, σl', R, Sl, k2, e, k⟩
    | _ => cases e
theorem pgs_of : ∀ (t : Tgs) {sc : Scp} {X : Cx} {es : List Expr} {ws : List Nat}, XG P AD cl N X → ScOk sc X → okTs sc N t = true → reTs N t es = es → (∀ i ∈ tgsSl t, i ∈ ws) → PGs X es (gsI X.K X.mg ws t)
  | .nil, sc, X, es, ws, G, S, ok, h, hw => by
    have : es = [] := h.symm
    subst this
    refine ⟨fun pins s σ H vs us Q I r ⟨m, h, σl, ds, σl', R, Sl, rd, e, k⟩ => pgs_nil.run pins s σ H vs us Q I r ?_⟩
    have e : (if ds.isEmpty then some σl else none) = some σl' := e
    split at e
    · rename_i he
      cases e
      have : ds = [] := by simpa using he
      subst this
      exact ⟨rd, k _ Sl rfl⟩
    · cases e
  | .cons t ts, sc, X, es, ws, G, S, ok, h, hw => by
    cases es with
    | nil => cases h
    | cons e es =>
      injection h with h1 h2
      have ok' : okT sc N t = true ∧ okTs sc N ts = true := by simpa [okTs] using ok
      have i1 := pg_of t G S ok'.1 h1 (ws := ws) fun i hi => hw i (by simp [tgsSl, hi])
      have i2 := pgs_of ts G S ok'.2 h2 (ws := ws) fun i hi => hw i (by simp [tgsSl, hi])
      obtain ⟨_, _, a3⟩ := assign_each (N := N) (ts := .cons t ts) (es := e :: es) (env := X.env) (by show reT N t e :: reTs N ts es = _; rw [h1, h2])
      refine ⟨fun pins s σ H vs us Q I r ⟨m, h, σl, ds, σl', R, Sl, rd, e', k⟩ => (pgs_cons i1 i2 (a3 _ _ rfl)).run pins s σ H vs us Q I r ?_⟩
      cases ds with
      | nil => cases e'
      | cons d ds =>
        obtain ⟨v, vr, rfl, r1, r2⟩ := rd
        have e' : ((tgA t d σl).bind fun σ1 => tgsA ts ds σ1) = some σl' := e'
        cases q : tgA t d σl with
        | none => rw [q] at e'; cases e'
        | some σ1 =>
          rw [q] at e'
          exact ⟨v, vr, rfl, m, h, σl, d, σ1, R, Sl, r1, q, fun σ' Sl' w1 => ⟨m, h, σ1, ds, σl', R, Sl', r2, e', fun σ2 S2 w2 => k σ2 S2 (w2.trans w1)⟩⟩
end

theorem relk_at {K : PySem.W.Frag} {mg : Str → Option Value} {m : MM} {H : Hp} : ∀ {kvs : List (D × D)} {ys : List (NestedKey × Addr × Value)}, RelK K mg m H kvs ys → ∀ {i : Nat} {kv : D × D}, kvs[i]? = some kv → ∃ ka u, ys[i]? = some (keyN kv.1, ka, u) ∧ RelD K mg m H kv.1 (.ref ka)
  | [], _, _, i, kv, e => by simp at e
  | p :: kvs, _, r, i, kv, e => by
    obtain ⟨ka, u, v, s, rfl, _, r2, _, _, r5⟩ := r
    cases i with
    | zero => simp at e; subst e; exact ⟨ka, u, rfl, r2⟩
    | succ i =>
      obtain ⟨ka', u', e1, e2⟩ := relk_at r5 (i := i) (by simpa using e)
      exact ⟨ka', u', by simpa using e1, e2⟩
section
variable {X : Cx}
/-- a dict's keys, one by one -/
theorem turn_D {P : Program} {w : World} {K : PySem.W.Frag} {tg : Expr} {d : Addr} {o : Obj} {es : Array DictEntry} {ep : Nat} {ys : List (NestedKey × Addr × Value)} (it : Addr) (hod : o.data = .dict es ep) (hsz0 : es.size = ys.length) : Turn P w K tg (ItD d o ys) [it] it (fun i h => h.IsKeyIter it d i ys.length ep) where
  mem := by simp
  obj := fun i h st b hb => by
    have e : b = it := by simpa using hb
    subst e
    obtain ⟨oi, e, c, dd⟩ := st
    exact ⟨oi, e, fun v z => by rw [dd] at z; cases z⟩
  keep := fun i h h' st k => st.at fun oi e => k it (by simp) oi e
  item := by
    intro X hP hw hK hc i pins s σ H E I hf st hg
    subst hP hw hK
    obtain ⟨hd, hi⟩ := hg
    obtain ⟨f0, f1, f2, f3, f4, f5⟩ := hf it (by simp)
    obtain ⟨hgd, ⟨o', es', ep', h1, hx, hdt, ent⟩, _⟩ := I.hok d _ hd
    rw [hgd] at h1; cases h1
    obtain ⟨rfl, rfl⟩ := dict_ep hod hdt
    obtain ⟨kv, hkv⟩ : ∃ p, ys[i]? = some p := ⟨ys[i], List.getElem?_eq_getElem hi⟩
    have hen : es'[i]? = some (entryOfKey (nestedKind X.prog X.w) kv) := by
      rw [← Array.getElem?_toList, ent X.prog X.w, List.getElem?_map, hkv]; rfl
    refine next_key_item st hgd hdt hsz0 hen fun h' st' sb => ?_
    have I1 : L2.Inv X pins σ H { s with heap := h' } := I.turned (t' := s.toks) (fun b ob hb e => (sb.2 b hb).trans e) f0 f1 f3 f4 f5
    obtain ⟨oi, e, c, dd⟩ := id st'
    exact ⟨_, rfl, go_of (s := { s with heap := h' }) e c dd (by decide) ⟨.ref kv.2.1, H, I1, rfl, ⟨rfl, kv, hkv, rfl⟩, st', fun b hb => (hf b hb).1⟩⟩
  done := by
    intro X hP hw hK hc i pins s σ H E I hf st hg
    subst hP hw hK
    obtain ⟨hd, hi⟩ := hg
    obtain ⟨f0, f1, f2, f3, f4, f5⟩ := hf it (by simp)
    obtain ⟨hgd, ⟨o', es', ep', h1, hx, hdt, ent⟩, _⟩ := I.hok d _ hd
    rw [hgd] at h1; cases h1
    obtain ⟨rfl, rfl⟩ := dict_ep hod hdt
    exact next_key_end (I.ok.hd hc) st hgd hdt hsz0 hi fun h' eb => ⟨rfl, I.turned (t' := s.toks) (fun b ob hb e => eb b ob hb e) f0 f1 f3 f4 f5⟩
  self := fun A i s Q E st h => by
    refine wpAny_pyIter_slot st.typeIs F.slot_dict_keyiterator_iter (wpAny_call_entry F.slot_dict_keyiterator_iter st.typeIs F.entry_dict_keyiterator_iter ?_ (F.args_dict_keyiterator_iter_1 _))
    show wpAny _ _ (ret (.ref it)) _ _ s
    exact wpAny_pure ⟨_, rfl, "dict_keyiterator", _, st.typeIs, F.slot_dict_keyiterator_next.lookup, h⟩
/-- for k in d, d being walked -/
theorem pi_D {tg e : Expr} {td : TE} (he : PE X e td) : PI X tg e (fun σ H R => td σ H fun x H1 => ∃ p o ys, x = .ref p ∧ H1 p = some (.frz o (.ext (DAt p ys))) ∧ (p == sysModules) = false ∧ R (ItD p o ys) H1) := by
  refine ⟨fun pins s σ H R I h => ?_⟩
  refine thn (he.run pins s σ H _ I h) fun u s1 ⟨x, H1, I1, rx, p, o, ys, ex, hd, hs, q⟩ => ?_
  subst ex
  obtain rfl : u = Value.ref p := rx
  obtain ⟨hgd, ⟨o', es, ep, h1, hx, hdt, ent⟩, _⟩ := I1.hok p _ hd
  rw [hgd] at h1; cases h1
  have hsz : es.size = ys.length := by
    have := congrArg List.length (ent X.prog X.w)
    simpa using this
  refine iter_keys hs hgd hx hdt (pi_one (tk := s1.toks) I1 _ (turn_D _ hdt hsz) ⟨_, Heap.get?_push_size _ rfl, rfl, ?_⟩ q)
  rw [hsz] <;> rfl
end
/-- the i-th item comes -/
theorem jrel_go {m m' : MM} {h h' : LH} {H H' : Hp} {xs : List D} {g : Option Nat} {J : It} (R : Rep X.K X.mg m h H) (R' : Rep X.K X.mg m' h' H') (go : Go m h H m' h' H') (j : JRel X.K X.mg m H xs g J) (st : stays g xs h') {i : Nat} {x : D} (e : xs[i]? = some x) :
    J.go i H' ∧ ∀ v H'', J.yld i H' v H'' → H'' = H' ∧ RelD X.K X.mg m' H' x v := by
  rcases j with ⟨a, vs, rfl, k1, k2, rfl⟩ | ⟨b, a, rfl, rfl, em⟩ | ⟨lo, n, rfl, rfl, rfl⟩ | ⟨z, rfl, rfl, rfl⟩ | ⟨p, o, ys, kvs, rfl, hp, rk, rfl, rfl⟩
  · have k1' := (go.tk R a vs k1).sq
    obtain ⟨v, e1, e2⟩ := (go.rels R k2).get e
    exact ⟨⟨vs, v, k1', e1⟩, fun w H'' y => ⟨y.1, by have := (y.2 vs k1').symm.trans e1; cases this; exact e2⟩⟩
  · have em' := go.le b a em
    obtain ⟨a', vs, q1, q2, k1, k2⟩ := rep_seq R' (v := .ref a) st ⟨a, rfl, em'⟩
    cases q1
    obtain ⟨v, e1, e2⟩ := k2.get e
    exact ⟨⟨vs, v, k1, e1⟩, fun w H'' y => ⟨y.1, by have := (y.2 vs k1).symm.trans e1; cases this; exact e2⟩⟩
  · rw [List.getElem?_map] at e
    cases q : (List.range n)[i]? with
    | none => rw [q] at e; cases e
    | some k =>
      rw [q] at e
      have hi : i < n := by have := (List.getElem?_eq_some_iff.mp q).1; simpa using this
      have : k = i := by rw [List.getElem?_range hi] at q; exact (Option.some.inj q).symm
      subst this
      have e : D.int (lo + k) = x := by simpa using e
      subst e
      exact ⟨hi, fun w H'' y => ⟨y.1, y.2⟩⟩
  · rw [List.getElem?_map] at e
    cases q : z[i]? with
    | none => rw [q] at e; cases e
    | some c =>
      rw [q] at e
      have hi : i < z.length := (List.getElem?_eq_some_iff.mp q).1
      have e : chr1 c = x := by simpa using e
      subst e
      refine ⟨by show i < z.toArray.size; simpa using hi, fun w H'' y => ⟨y.1, ?_⟩⟩
      obtain ⟨c', q1, q2⟩ := y.2
      have q1 : z.toArray[i]? = some c' := q1
      simp only [List.getElem?_toArray] at q1
      rw [q] at q1; cases q1
      exact q2
  · have hp' : H' p = some (.frz o (.ext (DAt p ys))) := go.keep p _ hp (R.nown hp rfl)
    rw [List.getElem?_map] at e
    cases q : kvs[i]? with
    | none => rw [q] at e; cases e
    | some kv =>
      rw [q] at e
      have e : kv.1 = x := by simpa using e
      subst e
      obtain ⟨ka, u, e1, e2⟩ := relk_at rk q
      refine ⟨⟨hp', by have := (List.getElem?_eq_some_iff.mp e1).1; exact this⟩, fun w H'' y => ⟨y.1, ?_⟩⟩
      obtain ⟨k, y1, y2⟩ := y.2
      rw [e1] at y1; cases y1
      subst y2
      exact go.rel R e2
theorem jrel_stop {m m' : MM} {h h' : LH} {H H' : Hp} {xs : List D} {g : Option Nat} {J : It} (R : Rep X.K X.mg m h H) (R' : Rep X.K X.mg m' h' H') (go : Go m h H m' h' H') (j : JRel X.K X.mg m H xs g J) (st : stays g xs h') : J.stop xs.length H' := by
  rcases j with ⟨a, vs, rfl, k1, k2, rfl⟩ | ⟨b, a, rfl, rfl, em⟩ | ⟨lo, n, rfl, rfl, rfl⟩ | ⟨z, rfl, rfl, rfl⟩ | ⟨p, o, ys, kvs, rfl, hp, rk, rfl, rfl⟩
  · exact ⟨vs, (go.tk R a vs k1).sq, by rw [k2.len]; exact Nat.le_refl _⟩
  · have em' := go.le b a em
    obtain ⟨a', vs, q1, q2, k1, k2⟩ := rep_seq R' (v := .ref a) st ⟨a, rfl, em'⟩
    cases q1
    exact ⟨vs, k1, by rw [k2.len]; exact Nat.le_refl _⟩
  · show n ≤ _
    simp
  · show z.toArray.size ≤ _
    simp
  · exact ⟨go.keep p _ hp (R.nown hp rfl), by rw [relk_len rk]; simp⟩
end
end FK

end
section
set_option maxRecDepth 100000
set_option maxHeartbeats 4000000
/-! Fk5: the evaluator's answers are the machine's: expressions. -/
namespace FK
open PySem PySem.Spec PyProof.Rows L2

section
variable {P : Pr} {AD : Nat → Option Addr} {cl : Nat → List D → LH → Option (D × LH)} {N : List Nat} {X : Cx} {sc : Scp}

theorem vis_name (G : XG P AD cl N X) (S : ScOk sc X) {i : Nat} (h : isVis sc N i = true) : ∃ x, N[i]? = some x ∧ N.getD i 0 = x ∧ okN x = true ∧ X.N[i]? = some (nmS x) ∧ Vis X.env.scope (nmS x) := by
  unfold isVis at h
  cases e : N[i]? with
  | none => rw [e] at h; cases h
  | some x =>
    rw [e] at h
    simp only [Bool.and_eq_true] at h
    refine ⟨x, rfl, by simp [List.getD, e], h.1, by rw [G.N, List.getElem?_map, e]; rfl, ?_⟩
    cases q : sc.lookup x with
    | none => rw [q] at h; cases h.2
    | some k =>
      rw [q] at h
      exact S.vis q (by rintro rfl; cases h.2)
theorem glo_name (S : ScOk sc X) {x : Nat} (h : isGlo sc x = true) : Gl X (nmS x) := by
  unfold isGlo at h
  cases q : sc.lookup x with
  | none => rw [q] at h; cases h
  | some k =>
    rw [q] at h
    cases k with
    | glo => exact S.glo q
    | _ => cases h

/-- a list of arguments, all plain -/
noncomputable def Plns (es : List Expr) : Prop := ∀ e ∈ es, Pln e
theorem plns_star {es : List Expr} (h : Plns es) (env : Env) : starEach es env = es.map fun e => (false, eval e env) := by
  induction es with
  | nil => rfl
  | cons e es ih => rw [(h e List.mem_cons_self).star, ih fun x hx => h x (List.mem_cons_of_mem _ hx)]; rfl
theorem plns_any {es : List Expr} (h : Plns es) (env : Env) (pos : Pos) : (backTo pos (starEach es env)).any (·.1) = false := by
  rw [plns_star h]
  unfold backTo
  rw [List.map_map, List.any_map]
  simp [List.any_eq_false]
theorem plns_of : ∀ {es' : Exs} {es : List Expr}, reEs N es' es = es → Plns es
  | .nil, _, h => by rw [inv_nil h]; intro e he; cases he
  | .cons e' es', _, h => by
    obtain ⟨x, xs, rfl, h1, h2⟩ := inv_cons h
    intro e he
    rcases List.mem_cons.mp he with rfl | he
    · exact pln_of h1
    · exact plns_of h2 e he

/-- the readings' beginnings -/
theorem tI_op {a b : Ex} {f : D → D → LH → Option (D × LH)} {σ : L2.St} {H : Hp} {Q : VK} {m : MM} {σl : Lc} {h : LH} (R : Rep X.K X.mg m h H) (S : SRel X.K X.mg m H σl σ)
    (g : GoE X.K X.mg m h H ((evE P cl a σl h).bind fun p => (evE P cl b σl p.2).bind fun q => f p.1 q.1 q.2) Q) :
    tOp (rD2 X f) (tI P cl X.K X.mg a) (tI P cl X.K X.mg b) σ H Q := by
  obtain ⟨d1, h1, e1, k1⟩ := g.bind
  refine ⟨m, σl, h, R, S, d1, h1, e1, fun m1 x H1 g1 R1 r1 => ?_⟩
  obtain ⟨d2, h2, e2, k2⟩ := (k1 m1 H1 g1).bind
  exact ⟨m1, σl, h1, R1, g1.slots R S, d2, h2, e2, fun m2 y H2 g2 R2 r2 => ⟨m2, h2, d1, d2, R2, g2.rel R1 r1, r2, k2 m2 H2 g2⟩⟩

theorem evAnd_cons {e e2 : Ex} {es : Exs} {σ : Lc} {h : LH} : evAnd P cl (.cons e (.cons e2 es)) σ h = (evE P cl e σ h).bind fun p => (truth p.1 p.2).bind fun b => if b then evAnd P cl (.cons e2 es) σ p.2 else some p := by rfl
theorem evOr_cons {e e2 : Ex} {es : Exs} {σ : Lc} {h : LH} : evOr P cl (.cons e (.cons e2 es)) σ h = (evE P cl e σ h).bind fun p => (truth p.1 p.2).bind fun b => if b then some p else evOr P cl (.cons e2 es) σ p.2 := by rfl

/-- a test by its truth -/
theorem pt_plain {e' : Ex} {e : Expr} (he : PE X e (tI P cl X.K X.mg e')) (hs : ∀ whole, isTrue e X.env whole = (do let v ← whole; standAt e.pos; holding [v] (truthy v))) : PT X e (tT P cl X.K X.mg e') := by
  refine ⟨fun pins s σ H Q I hq => (pt_truth he hs).run pins s σ H Q I ?_⟩
  obtain ⟨m, σl, h, R, S, d, h', b, e1, e2, k⟩ := hq
  exact ⟨m, σl, h, R, S, d, h', e1, fun m' v H' g R' r' => ⟨b, tru_d R' r' e2, k m' H' g R'⟩⟩

noncomputable def tO (P : Pr) (cl : Nat → List D → LH → Option (D × LH)) (K : PySem.W.Frag) (mg : Str → Option Value) (lo : Ex) : TO := fun σ H Q => ∃ m σl h d h' o, Rep K mg m h H ∧ SRel K mg m H σl σ ∧ evE P cl lo σl h = some (d, h') ∧ ptI (isNonE lo) d = some o ∧
  ∀ m' H', Go m h H m' h' H' → Rep K mg m' h' H' → Q o H'
theorem po_of {lo : Ex} {l : Option Expr} (h : opE (isNonE lo) (reE N lo) l = l) (hp : ∀ e, reE N lo e = e → PE X e (tI P cl X.K X.mg lo)) : PO X l (tO P cl X.K X.mg lo) := by
  cases l with
  | none =>
    have hb : isNonE lo = true := by
      cases q : isNonE lo with
      | true => rfl
      | false => rw [q] at h; cases h
    have e0 : lo = .non := by cases lo <;> first | rfl | cases hb
    subst e0
    refine ⟨fun pins s σ H Q I ⟨m, σl, h, d, h', o, R, Sl, e1, e2, k⟩ => po_none.run pins s σ H Q I ?_⟩
    cases e1; cases e2
    exact k m H Go.refl R
  | some e =>
    have hb : isNonE lo = false := by
      cases q : isNonE lo with
      | false => rfl
      | true => rw [q] at h; cases h
    rw [hb] at h
    have he : reE N lo e = e := by injection h
    refine ⟨fun pins s σ H Q I ⟨m, σl, h, d, h', o, R, Sl, e1, e2, k⟩ => (po_some (hp e he)).run pins s σ H Q I ?_⟩
    refine ⟨m, σl, h, R, Sl, d, h', e1, fun m1 x H1 g1 R1 r1 => ?_⟩
    rw [hb] at e2
    cases d with
    | int i => cases (r1 : _ = _); cases e2; exact ⟨i, rfl, k m1 H1 g1 R1⟩
    | _ => cases e2

/-- one more operand of and, or -/
theorem bool_of {e' : Ex} {es' : Exs} {x : Expr} {xs : List Expr} {pos : Pos} (h2 : reEs N es' xs = xs) (hE : PE X x (tI P cl X.K X.mg e')) (hT : PT X x (tT P cl X.K X.mg e'))
    (ih : es' ≠ .nil → PE X (.BoolOp .And xs pos) (tAndI P cl X.K X.mg es') ∧ PW X (.BoolOp .And xs pos) (tAndT' P cl X.K X.mg es') ∧ PE X (.BoolOp .Or xs pos) (tOrI P cl X.K X.mg es') ∧ PW X (.BoolOp .Or xs pos) (tOrT' P cl X.K X.mg es')) :
    PE X (.BoolOp .And (x :: xs) pos) (tAndI P cl X.K X.mg (.cons e' es')) ∧ PW X (.BoolOp .And (x :: xs) pos) (tAndT' P cl X.K X.mg (.cons e' es')) ∧
      PE X (.BoolOp .Or (x :: xs) pos) (tOrI P cl X.K X.mg (.cons e' es')) ∧ PW X (.BoolOp .Or (x :: xs) pos) (tOrT' P cl X.K X.mg (.cons e' es')) := by
  cases es' with
  | nil =>
    rw [inv_nil h2]
    exact ⟨pe_one hE, pw_and1 hT, pe_one hE, pw_or1 hT⟩
  | cons e2 es2 =>
    obtain ⟨y, ys, rfl, _, _⟩ := inv_cons h2
    obtain ⟨a1, a2, a3, a4⟩ := ih fun z => nomatch z
    refine ⟨⟨fun pins s σ H Q I ⟨m, σl, h, R, Sl, g⟩ => (pe_andT hE a1).run pins s σ H Q I ?_⟩, ⟨fun wh pins s σ H Q I ⟨m, σl, h, R, Sl, d, h', b, e1, e2, k⟩ => (pw_and hT a2).run wh pins s σ H Q I ?_⟩,
      ⟨fun pins s σ H Q I ⟨m, σl, h, R, Sl, g⟩ => (pe_orT hE a3).run pins s σ H Q I ?_⟩, ⟨fun wh pins s σ H Q I ⟨m, σl, h, R, Sl, d, h', b, e1, e2, k⟩ => (pw_or hT a4).run wh pins s σ H Q I ?_⟩⟩
    · rw [evAnd_cons] at g
      obtain ⟨d1, h1, e1, k1⟩ := g.bind
      refine ⟨m, σl, h, R, Sl, d1, h1, e1, fun m1 x H1 g1 R1 r1 => ?_⟩
      have k2 := k1 m1 H1 g1
      cases q : truth d1 h1 with
      | none => obtain ⟨_, _, z, _⟩ := k2; rw [q] at z; cases z
      | some c =>
        rw [q] at k2
        refine ⟨c, tru_d R1 r1 q, ?_⟩
        cases c with
        | true => exact ⟨m1, σl, h1, R1, g1.slots R Sl, k2⟩
        | false => exact goe_keep R1 k2 rfl r1
    · rw [evAnd_cons] at e1
      cases q1 : evE P cl e' σl h with
      | none => rw [q1] at e1; cases e1
      | some p1 =>
        obtain ⟨d1, h1⟩ := p1
        rw [q1] at e1
        simp only [Option.bind_some] at e1
        cases q : truth d1 h1 with
        | none => rw [q] at e1; cases e1
        | some c =>
          rw [q] at e1
          simp only [Option.bind_some] at e1
          refine ⟨m, σl, h, R, Sl, d1, h1, c, q1, q, fun m1 H1 g1 R1 => ?_⟩
          cases c with
          | true => exact ⟨m1, σl, h1, R1, g1.slots R Sl, d, h', b, e1, e2, fun m2 H2 g2 R2 => k m2 H2 (g1.trans g2) R2⟩
          | false =>
            cases e1
            rw [q] at e2; cases e2
            exact k m1 H1 g1 R1
    · rw [evOr_cons] at g
      obtain ⟨d1, h1, e1, k1⟩ := g.bind
      refine ⟨m, σl, h, R, Sl, d1, h1, e1, fun m1 x H1 g1 R1 r1 => ?_⟩
      have k2 := k1 m1 H1 g1
      cases q : truth d1 h1 with
      | none => obtain ⟨_, _, z, _⟩ := k2; rw [q] at z; cases z
      | some c =>
        rw [q] at k2
        refine ⟨c, tru_d R1 r1 q, ?_⟩
        cases c with
        | false => exact ⟨m1, σl, h1, R1, g1.slots R Sl, k2⟩
        | true => exact goe_keep R1 k2 rfl r1
    · rw [evOr_cons] at e1
      cases q1 : evE P cl e' σl h with
      | none => rw [q1] at e1; cases e1
      | some p1 =>
        obtain ⟨d1, h1⟩ := p1
        rw [q1] at e1
        simp only [Option.bind_some] at e1
        cases q : truth d1 h1 with
        | none => rw [q] at e1; cases e1
        | some c =>
          rw [q] at e1
          simp only [Option.bind_some] at e1
          refine ⟨m, σl, h, R, Sl, d1, h1, c, q1, q, fun m1 H1 g1 R1 => ?_⟩
          cases c with
          | false => exact ⟨m1, σl, h1, R1, g1.slots R Sl, d, h', b, e1, e2, fun m2 H2 g2 R2 => k m2 H2 (g1.trans g2) R2⟩
          | true =>
            cases e1
            rw [q] at e2; cases e2
            exact k m1 H1 g1 R1
/-- o.name: o is no super() -/
theorem attr_base {o : Ex} {v : Expr} {f : Str} (G : XG P AD cl N X) (S : ScOk sc X) (ok : okE sc N o = true) (h : reE N o v = v) : attributeBase v f X.env (eval v X.env) = eval v X.env := by
  cases o with
  | call g es =>
    obtain ⟨p1, l, p, rfl, h1⟩ := inv_call h
    have ok' : (okN g = true ∧ isGlo sc g = true) ∧ okEs sc N es = true := by simpa [okE] using ok
    cases l with
    | cons x xs => rfl
    | nil =>
      unfold attributeBase
      have : (nmS g != ("super" : Str)) = true := by simpa using okN_super ok'.1.1
      simp [this]
  | blt g es =>
    obtain ⟨p1, l, p, rfl, h1⟩ := inv_blt h
    have ok' : (isGlo sc (cBf g) = true ∧ okEs sc N es = true) ∧ 0 < exsLen es := by simpa [okE] using ok
    cases l with
    | cons x xs => rfl
    | nil =>
      cases es with
      | nil => exact absurd ok'.2 (by simp [exsLen])
      | cons a b => cases h1
  | calv i es =>
    obtain ⟨p1, l, p, rfl, h1⟩ := inv_calv h
    have ok' : (isVis sc N i = true ∧ okEs sc N es = true) ∧ 0 < exsLen es := by simpa [okE] using ok
    cases l with
    | cons x xs => rfl
    | nil =>
      cases es with
      | nil => exact absurd ok'.2 (by simp [exsLen])
      | cons a b => cases h1
  | isi a T => obtain ⟨p1, x, p2, p, rfl, h1⟩ := inv_isi h; rfl
  | bm a b c => obtain ⟨v, p1, l, p, rfl, hl, h1, h2⟩ := inv_bm h; rfl
  | cm a b c => obtain ⟨v, p1, l, p, rfl, hl, h1, h2⟩ := inv_cm h; rfl
  | lcb _ _ _ _ _ _ => obtain ⟨p1, x, tg, it, ifs, scope, p2, p, rfl, L⟩ := inv_lcb h; rfl
  | mk g es =>
    obtain ⟨p1, l, p, rfl, h1⟩ := inv_mk h
    have ok' : (okN g = true ∧ isGlo sc g = true) ∧ okEs sc N es = true := by simpa [okE] using ok
    cases l with
    | cons x xs => rfl
    | nil =>
      unfold attributeBase
      have : (nmS g != ("super" : Str)) = true := by simpa using okN_super ok'.1.1
      simp [this]
  | non => obtain ⟨_, _, rfl⟩ := inv_non h; rfl
  | bl _ => obtain ⟨_, _, rfl⟩ := inv_bl h; rfl
  | int _ => obtain ⟨_, _, rfl⟩ := inv_int h; rfl
  | str _ => obtain ⟨_, _, rfl⟩ := inv_str h; rfl
  | lv _ => obtain ⟨_, rfl⟩ := inv_lv h; rfl
  | gv _ => obtain ⟨_, rfl⟩ := inv_gv h; rfl
  | tup _ => obtain ⟨_, _, _, rfl, _⟩ := inv_tup h; rfl
  | lst _ => obtain ⟨_, _, rfl, _⟩ := inv_lst h; rfl
  | dnew => obtain ⟨_, rfl⟩ := inv_dnew h; rfl
  | bop _ _ _ => obtain ⟨_, _, _, rfl, _⟩ := inv_bop h; rfl
  | neg _ => obtain ⟨_, _, rfl, _⟩ := inv_neg h; rfl
  | not _ => obtain ⟨_, _, rfl, _⟩ := inv_not h; rfl
  | cmp _ _ _ => obtain ⟨_, _, _, rfl, _⟩ := inv_cmp h; rfl
  | cmp2 _ _ _ _ _ => obtain ⟨_, _, _, _, rfl, _⟩ := inv_cmp2 h; rfl
  | and _ => obtain ⟨_, _, rfl, _⟩ := inv_and h; rfl
  | or _ => obtain ⟨_, _, rfl, _⟩ := inv_or h; rfl
  | ix _ _ => obtain ⟨_, _, _, rfl, _⟩ := inv_ix h; rfl
  | sl _ _ _ => obtain ⟨_, _, _, _, _, rfl, _⟩ := inv_sl h; rfl
  | fld _ _ => obtain ⟨_, _, rfl, _⟩ := inv_fld h; rfl
  | lc _ _ _ _ _ => obtain ⟨x, tg, it, ifs, scope, p, rfl, L⟩ := inv_lc h; rfl


/-- a call's arguments, filled up -/
theorem call_fill (G : XG P AD cl N X) {f : Nat} {ds : List D} {h : LH} {r : D × LH} (e : cl f ds h = some r) : ∃ F k p fd ps dvs dsV ds', P.fn f = some F ∧ FnG P AD cl X f F k p fd ps ∧ Vals dvs dsV ∧ Binds X.K fd ps dsV ∧
    ds'.length = F.np ∧ cl f ds' h = some r ∧ ∀ m H vs, RelDs X.K X.mg m H ds vs → RelDs X.K X.mg m H ds' (vs ++ dvs) := by
  obtain ⟨F, ds', hF, hf, hl, e'⟩ := G.dom _ _ _ _ e
  obtain ⟨k, p, fd, ps, A⟩ := G.fns f F hF
  unfold fill at hf
  split at hf
  · cases hf
    obtain ⟨dvs, dsV, b1, b2, b3⟩ := A.bnd (F.dfs.length - (F.np - ds.length)) (by omega)
    exact ⟨F, k, p, fd, ps, dvs, dsV, _, hF, A, b1, b2, hl, e', fun m H vs r => r.append (b3 m H)⟩
  · cases hf
theorem goe_some {K : PySem.W.Frag} {mg : Str → Option Value} {m : MM} {h : LH} {H : Hp} {r r' : Option (D × LH)} {Q : VK} (g : GoE K mg m h H r Q) (e : ∀ q, r = some q → r' = some q) : GoE K mg m h H r' Q := by
  obtain ⟨d, h', e1, q⟩ := g
  exact ⟨d, h', e _ e1, q⟩
theorem evEs_len : ∀ {es : Exs} {ds : List D} {σl : Lc} {h h1 : LH}, evEs P cl es σl h = some (ds, h1) → ds.length = exsLen es := by
  intro es
  induction es using Exs.rec (motive_1 := fun _ => True) (motive_3 := fun _ => True) with
  | nil => intro ds σl h h1 e; cases e; rfl
  | cons e es _ ih =>
    intro ds σl h h1 q
    have q : ((evE P cl e σl h).bind fun p => (evEs P cl es σl p.2).bind fun q => some (p.1 :: q.1, q.2)) = some (ds, h1) := q
    cases q1 : evE P cl e σl h with
    | none => rw [q1] at q; cases q
    | some p =>
      rw [q1] at q
      simp only [Option.bind_some] at q
      cases q2 : evEs P cl es σl p.2 with
      | none => rw [q2] at q; cases q
      | some p2 =>
        rw [q2] at q
        cases q
        simp [exsLen, ih (h1 := p2.2) (ds := p2.1) q2]
  | _ => trivial
theorem reEs_len : ∀ {es : Exs} {l : List Expr}, reEs N es l = l → l.length = exsLen es := by
  intro es
  induction es using Exs.rec (motive_1 := fun _ => True) (motive_3 := fun _ => True) with
  | nil => intro l e; rw [inv_nil e]; rfl
  | cons e es _ ih =>
    intro l q
    obtain ⟨x, xs, rfl, _, h2⟩ := inv_cons q
    simp [exsLen, ih h2]
  | _ => trivial
/-- few plain arguments -/
theorem few_of {es : List Expr} (h : Plns es) (hl : es.length < 20) (cpos : Pos) (env : Env) : ((backTo cpos (starEach es env)).all (fun x => !x.1) && (backToKw cpos (keywordEach [] env)).all (fun x => x.1.isSome)
      && decide (es.length + ([] : List Keyword).length + (if ([] : List Keyword).isEmpty then 0 else 1) < 30)) = true := by
  have a : (backTo cpos (starEach es env)).all (fun x => !x.1) = true := by
    rw [plns_star h]
    unfold backTo
    rw [List.map_map, List.all_map]
    simp
  have b : (backToKw cpos (keywordEach [] env)).all (fun x => x.1.isSome) = true := rfl
  have c : (backToKw cpos (keywordEach [] env)).isEmpty = true := rfl
  rw [a, b]
  simp
  omega
/-- the tree of a method's call -/
theorem mcall_tree {o : Expr} {m : Str} {apos pos : Pos} {args : List Expr} {env : Env} (hb : attributeBase o m env (eval o env) = eval o env) (hp : Plns args) (hl : args.length < 20) (hline : (apos.endLine == pos.line) = true) :
    eval (.Call (.Attribute o m apos) args [] pos) env = (do
      let ov ← eval o env
      standAt apos.atName
      let (f, first) ← holding [ov] (getMethod ov m (do return (← importBound o env).getD true))
      callWith pos f first (backTo pos (starEach args env)) (backToKw pos (keywordEach [] env))) := by
  refine mcall_of hb fun ov => ?_
  have hf : methodCallForm (args.length + ([] : List Keyword).length) (backTo pos (starEach args env)) (backToKw pos (keywordEach [] env)) = true := few_of hp hl pos env
  unfold methodCall calleeOf methodCallPos
  rw [hf]
  simp [hline]

/-- a comprehension's scope, within its frame -/
theorem lookup_rel {names : List (Str × NameKind)} {env : Env} {x : Str} {k : NameKind} (e : names.lookup x = some k) : ((names.map fun (n, k) => if (k == .free && env.scope.kind == .function && env.kindOf n == some .cell) then (n, NameKind.cell) else (n, k)).lookup x = some k) ∨ (k = .free ∧ (names.map fun (n, k) => if (k == .free && env.scope.kind == .function && env.kindOf n == some .cell) then (n, NameKind.cell) else (n, k)).lookup x = some .cell) := by
  induction names with
  | nil => cases e
  | cons p r ih =>
    obtain ⟨n, k'⟩ := p
    by_cases hx : x = n
    · subst hx
      have e : some k' = some k := by simpa [List.lookup] using e
      cases e
      simp only [List.map_cons]
      by_cases hc : (k == .free && env.scope.kind == .function && env.kindOf x == some .cell) = true
      · rw [if_pos hc]
        refine .inr ⟨?_, by simp [List.lookup]⟩
        simp only [Bool.and_eq_true] at hc
        exact beq_iff_eq.mp hc.1.1
      · rw [if_neg hc]
        exact .inl (by simp [List.lookup])
    · have hb : (x == n) = false := by simpa using hx
      have e' : r.lookup x = some k := by simpa [List.lookup, hb] using e
      simp only [List.map_cons]
      have key : ∀ q : Str × NameKind, q.1 = n → ∀ l, List.lookup x (q :: l) = List.lookup x l := fun q hq l => by
        obtain ⟨q1, q2⟩ := q
        cases hq
        simp [List.lookup, hb]
      rw [key _ (by split <;> rfl)]
      exact ih e'
/-- the context within a comprehension -/
theorem lc_ctx {sc' : Scp} {t : Tg} {scope : Scope} (G : XG P AD cl N X) (ok : okLc sc N sc' t = true) (hn : scope.names = scN sc') (s : Shared) (H : Hp) (C : Addr) (cl' : List (Str × Addr)) (fp : List Addr) :
    XG P AD cl N (X.blk s H scope (compEnvC scope cl' C X.env) fp) ∧ ScOk sc' (X.blk s H scope (compEnvC scope cl' C X.env) fp) := by
  refine ⟨⟨G.N, G.nd, G.calm, G.G, G.hu, G.C, G.dom, fun f F hf => ?_⟩, fun x k hx => ?_⟩
  · obtain ⟨k, p, fd, ps, A⟩ := G.fns f F hf
    exact ⟨k, p, fd, ps, A.at_, A.ok, A.room, A.glo, A.bnd⟩
  · simp only [okLc, Bool.and_eq_true] at ok
    have big' : ∀ p ∈ sc', p.1 < 128 ^ 64 := fun p hp => of_decide_eq_true (List.all_eq_true.mp ok.1.1.1.1.1.2 p hp)
    have hb : x < 128 ^ 64 := big' _ (lookup_mem hx)
    have e : scope.names.lookup (nmS x) = some (nkK k) := by rw [hn, lookup_scN' big' hb, hx]; rfl
    have rl := lookup_rel (env := X.env) e
    refine ⟨?_, fun z => ?_⟩
    · rcases rl with z | ⟨z, z2⟩
      · exact .inl z
      · refine .inr ⟨?_, z2⟩
        cases k <;> first | rfl | cases z
    · subst z
      show (scope.names.lookup (nmS x) == some .cell) = true
      rw [e]; rfl
theorem lc_blk {sc' : Scp} {t : Tg} {scope : Scope} (G : XG P AD cl N X) (S : ScOk sc X) (ok : okLc sc N sc' t = true) (hk : scope.kind = .function) (hn : scope.names = scN sc') :
    BlkOk X.N X.env.scope scope ((tgSl t).map fun i => (nmS (N.getD i 0), i)) := by
  simp only [okLc, Bool.and_eq_true] at ok
  obtain ⟨⟨⟨⟨⟨⟨_, o2⟩, o3⟩, o4⟩, o5⟩, o6⟩, o7⟩ := ok
  have big' : ∀ p ∈ sc', p.1 < 128 ^ 64 := fun p hp => of_decide_eq_true (List.all_eq_true.mp o2 p hp)
  have bigN : ∀ x ∈ N, x < 128 ^ 64 := fun p hp => of_decide_eq_true (List.all_eq_true.mp o4 p hp)
  have nd : (sc'.map (·.1)).Nodup := of_decide_eq_true o3
  have memx : ∀ y ∈ scope.names, ∃ p ∈ sc', y = (nmS p.1, nkK p.2) := fun y hy => by
    rw [hn] at hy
    obtain ⟨p, hp, rfl⟩ := List.mem_map.mp hy
    exact ⟨p, hp, rfl⟩
  have lk : ∀ p ∈ sc', sc'.lookup p.1 = some p.2 := fun p hp => lookup_nodup nd hp
  have inN : ∀ i, i < N.length → N.getD i 0 ∈ N := fun i hi => by
    have : N.getD i 0 = N[i] := by simp [List.getD, hi]
    rw [this]; exact List.getElem_mem hi
  refine ⟨hk, fun y hy => ?_, fun p hp => ?_, fun y hy e => ?_, fun y hy e => ?_⟩
  · obtain ⟨p, hp, rfl⟩ := memx y hy
    rw [hn, lookup_scN' big' (big' p hp), lk p hp]; rfl
  · obtain ⟨i, hi, rfl⟩ := List.mem_map.mp hp
    have hl : i < N.length := of_decide_eq_true (List.all_eq_true.mp o6 i hi)
    have : N.getD i 0 = N[i] := by simp [List.getD, hl]
    rw [G.N, List.getElem?_map, List.getElem?_eq_getElem hl, this]; rfl
  · obtain ⟨p, hp, rfl⟩ := memx y hy
    have o := List.all_eq_true.mp o7 p hp
    obtain ⟨x, k⟩ := p
    cases k <;> first | (cases e; done) | skip
    simp only at o
    cases q : sc.lookup x with
    | none => rw [q] at o; cases o
    | some k' =>
      rw [q] at o
      have z := (S x k' q).1
      cases k' with
      | cel =>
        rcases z with z | ⟨z, _⟩
        · exact .inl z
        · cases z
      | fre =>
        rcases z with z | ⟨_, z⟩
        · exact .inr z
        · exact .inl z
      | _ => cases o
  · obtain ⟨p, hp, rfl⟩ := memx y hy
    have o := List.all_eq_true.mp o7 p hp
    obtain ⟨x, k⟩ := p
    have key : (((tgSl t).any fun i => N.getD i 0 == x) || !N.contains x) = true → nmS x ∈ ((tgSl t).map fun i => (nmS (N.getD i 0), i)).map (·.1) ∨ nmS x ∉ X.N := fun h => by
      rcases Bool.or_eq_true_iff.mp h with h | h
      · obtain ⟨i, hi, e⟩ := List.any_eq_true.mp h
        have e : N.getD i 0 = x := by simpa using e
        exact .inl (by rw [List.map_map]; exact List.mem_map.mpr ⟨i, hi, by show nmS (N.getD i 0) = _; rw [e]⟩)
      · refine .inr fun hm => ?_
        rw [G.N] at hm
        obtain ⟨z, hz, e2⟩ := List.mem_map.mp hm
        have := nmS_inj (bigN z hz) (big' _ hp) e2
        subst this
        simp [hz] at h
    cases k with
    | loc => exact key o
    | cel => exact key o
    | fre => rcases e with e | e <;> cases e
    | glo => rcases e with e | e <;> cases e

/-- the tests of a comprehension -/
noncomputable def tTsI (P : Pr) (cl : Nat → List D → LH → Option (D × LH)) (K : PySem.W.Frag) (mg : Str → Option Value) (ts : Exs) : TT := fun σ H Q => ∃ m σl h b h', Rep K mg m h H ∧ SRel K mg m H σl σ ∧ evTs P cl ts σl h = some (b, h') ∧
  ∀ m' H', Go m h H m' h' H' → Rep K mg m' h' H' → Q b H'
theorem lcL_cons {asg : D → Lc → Option Lc} {test : Lc → LH → Option (Bool × LH)} {elt : Lc → LH → Option (D × LH)} {g : Option Nat} {all : List D} {σ : Lc} {acc : List D} {x : D} {r : List D} {h : LH} {ys : List D} {hf : LH}
    (e : lcL asg test elt g all σ acc (x :: r) h = some (ys, hf)) : ∃ σ1 b h1, asg x σ = some σ1 ∧ test σ1 h = some (b, h1) ∧
      ((b = true ∧ ∃ y h2, elt σ1 h1 = some (y, h2) ∧ stays g all h2 ∧ acc.length < SZ ∧ lcL asg test elt g all σ (acc ++ [y]) r h2 = some (ys, hf)) ∨ (b = false ∧ stays g all h1 ∧ lcL asg test elt g all σ acc r h1 = some (ys, hf))) := by
  unfold lcL at e
  cases q : asg x σ with
  | none => rw [q] at e; cases e
  | some σ1 =>
    rw [q] at e
    simp only [Option.bind_some] at e
    cases q2 : test σ1 h with
    | none => rw [q2] at e; cases e
    | some p =>
      obtain ⟨b, h1⟩ := p
      rw [q2] at e
      simp only [Option.bind_some] at e
      refine ⟨σ1, b, h1, rfl, q2, ?_⟩
      cases b with
      | true =>
        simp only [if_true] at e
        cases q3 : elt σ1 h1 with
        | none => rw [q3] at e; cases e
        | some p =>
          obtain ⟨y, h2⟩ := p
          rw [q3] at e
          simp only [Option.bind_some] at e
          split at e
          · rename_i hs
            exact .inl ⟨rfl, y, h2, rfl, hs.1, hs.2, e⟩
          · cases e
      | false =>
        simp only [Bool.false_eq_true, if_false] at e
        split at e
        · rename_i hs
          exact .inr ⟨rfl, hs, e⟩
        · cases e
/-- a comprehension's turns -/
theorem lc_run {t : Tg} {ts : Exs} {e : Ex} {g : Option Nat} {xs : List D} {m1 : MM} {h1 hf : LH} {H1 : Hp} {σl : Lc} {σ : L2.St} {J : It} {ys : List D} {Q : VK}
    (R1 : Rep X.K X.mg m1 h1 H1) (Sl : SRel X.K X.mg m1 H1 σl σ) (j : JRel X.K X.mg m1 H1 xs g J) (st : stays g xs h1) (eq : lcL (tgA t) (evTs P cl ts) (evE P cl e) g xs (FK.wipe σl (tgSl t)) [] xs h1 = some (ys, hf))
    (kont : ∀ D m2 H2 vs, H1 D = none → Go m1 h1 H1 m2 hf H2 → Rep X.K X.mg m2 hf H2 → ¬ Own m2 hf D → H2 D = some (.lst vs) → RelDs X.K X.mg m2 H2 ys vs → Q (.ref D) H2) :
    ∀ D, H1 D = none → ∃ W : Nat → Nat → Hp → Prop, (∃ m, W 0 m (upd H1 D (.lst []))) ∧ ∀ i m H, W i m H →
      (J.stop i H ∧ Q (.ref D) H) ∨ (J.go i H ∧ ∃ Nx : Hp → Prop, (∀ H', Nx H' → ∃ m', m' < m ∧ W (i + 1) m' H') ∧ ∀ x H', J.yld i H x H' → gI X.K X.mg (tgSl t) t x (L2.wipe σ (tgSl t)) H' fun σ2 H2 => L2.wipe σ2 (tgSl t) = L2.wipe σ (tgSl t) ∧ tTsI P cl X.K X.mg ts σ2 H2 fun b H3 =>
        if b = true then tI P cl X.K X.mg e σ2 H3 fun y H4 => ∃ acc, H4 D = some (.lst acc) ∧ acc.length < sizeLine ∧ Nx (upd H4 D (.lst (acc ++ [y]))) else Nx H3) := by
  intro D hD
  obtain ⟨g0, R0⟩ := go_fresh R1 hD (.lst [])
  have nown : ∀ {mm : MM} {hh : LH} {H : Hp}, Rep X.K X.mg mm hh H → Go m1 h1 H1 mm hh H → ¬ Own m1 h1 D := fun R go ow => by
    obtain ⟨u, e, _⟩ := R1.own ow
    rw [hD] at e; cases e
  let WW : Nat → Hp → Prop := fun i H => ∃ mm hh acc vs, i ≤ xs.length ∧ Rep X.K X.mg mm hh H ∧ Go m1 h1 H1 mm hh H ∧ ¬ Own mm hh D ∧ H D = some (.lst vs) ∧ RelDs X.K X.mg mm H acc vs ∧ stays g xs hh ∧
    lcL (tgA t) (evTs P cl ts) (evE P cl e) g xs (FK.wipe σl (tgSl t)) acc (xs.drop i) hh = some (ys, hf)
  refine ⟨fun i n H => n = xs.length - i ∧ WW i H, ⟨xs.length, by simp, m1, h1, [], [], Nat.zero_le _, R0, g0, nown R0 g0, upd_same, rfl, st, by simpa using eq⟩, ?_⟩
  rintro i n H ⟨rfl, mm, hh, acc, vs, hi, R, go, no, eD, racc, st, el⟩
  by_cases hlt : i < xs.length
  · obtain ⟨x, hx⟩ : ∃ x, xs[i]? = some x := ⟨xs[i], by simp [hlt]⟩
    have hd : xs.drop i = x :: xs.drop (i + 1) := by
      have := List.getElem_cons_drop hlt
      rw [← this]
      congr 1
      rw [List.getElem?_eq_getElem hlt] at hx
      exact Option.some.inj hx
    rw [hd] at el
    obtain ⟨σ1, b, h2, e1, e2, e3⟩ := lcL_cons el
    obtain ⟨j1, j2⟩ := jrel_go R1 R go j st hx
    refine .inr ⟨j1, WW (i + 1), fun H' w => ⟨xs.length - (i + 1), by omega, rfl, w⟩, fun v H' y => ?_⟩
    obtain ⟨rfl, rv⟩ := j2 v H' y
    have Sw : SRel X.K X.mg mm H' (FK.wipe σl (tgSl t)) (L2.wipe σ (tgSl t)) := (go.slots R1 Sl).wipe _
    refine ⟨mm, hh, FK.wipe σl (tgSl t), x, σ1, R, Sw, rv, e1, fun σ2 S2 w2 => ⟨?_, mm, σ1, hh, b, h2, R, S2, e2, fun m2 H2 g2 R2 => ?_⟩⟩
    · rw [w2]
      apply List.ext_getElem?
      intro k
      rw [wipe_get, wipe_get, L2.wipe_length]
      by_cases hk : k ∈ tgSl t <;> simp [hk]
    · have eD2 : H2 D = some (.lst vs) := g2.keep D _ eD no
      have no2 : ¬ Own m2 h2 D := fun ow => by
        rcases g2.new D ow with o | o
        · exact no o
        · rw [eD] at o; cases o
      rcases e3 with ⟨rfl, yv, h3, e4, st3, hz, e5⟩ | ⟨rfl, st3, e5⟩
      · show tI P cl X.K X.mg e σ2 H2 _
        refine ⟨m2, σ1, h2, R2, g2.slots R S2, yv, h3, e4, fun m3 w H3 g3 R3 rw' => ?_⟩
        have eD3 : H3 D = some (.lst vs) := g3.keep D _ eD2 no2
        have no3 : ¬ Own m3 h3 D := fun ow => by
          rcases g3.new D ow with o | o
          · exact no2 o
          · rw [eD2] at o; cases o
        have racc3 := g3.rels R2 (g2.rels R racc)
        have go3 := (go.trans g2).trans g3
        obtain ⟨g4, R4, t4⟩ := go_loose R3 go3 hD no3 (u := .lst (vs ++ [w])) eD3 rfl
        refine ⟨vs, eD3, by rw [← racc3.len, SZ_line]; exact hz, m3, h3, acc ++ [yv], vs ++ [w], hlt, R4, g4, no3, upd_same, ?_, st3, e5⟩
        exact RelDs.mono t4 (fun _ _ z => z) (racc3.append (RelDs.one rw'))
      · exact ⟨m2, h2, acc, vs, hlt, R2, go.trans g2, no2, eD2, g2.rels R racc, st3, e5⟩
  · have hi' : i = xs.length := by omega
    subst hi'
    refine .inl ⟨jrel_stop R1 R go j st, ?_⟩
    rw [List.drop_length] at el
    cases el
    exact kont D mm H vs hD go R no eD racc

/-! ### instances -/
theorem rep_ins {K : PySem.W.Frag} {mg : Str → Option Value} {m : MM} {h : LH} {H : Hp} (R : Rep K mg m h H) {a C : Nat} {fs : List (Nat × D)} {v : V} (e : h[a]? = some (.ins C fs)) (r : RelD K mg m H (.ref a) v) :
    ∃ p Ca dx fv, v = .ref p ∧ m a = some p ∧ H p = some (.ins Ca dx fv) ∧ mg (nmS C) = some (.ref Ca) ∧ Cls K Ca ∧ RelF K mg m H fs fv ∧ ∀ q ∈ fs, q.1 < 128 ^ 64 ∧ NoAttr K Ca (nmS q.1) := by
  obtain ⟨p, rfl, em⟩ := r
  obtain ⟨q, eq, Ca, dx, fv, e1⟩ := R.obj a _ e
  rw [em] at eq; cases eq
  exact ⟨p, Ca, dx, fv, rfl, em, e1⟩
theorem relf_look {K : PySem.W.Frag} {mg : Str → Option Value} {m : MM} {H : Hp} {f : Nat} {d : D} : ∀ {fs : List (Nat × D)} {fv : List (Str × V)}, RelF K mg m H fs fv → (∀ q ∈ fs, q.1 < 128 ^ 64) → fs.lookup f = some d →
    f < 128 ^ 64 ∧ ∃ v, fv.lookup (nmS f) = some v ∧ RelD K mg m H d v
  | [], _, _, _, e => by cases e
  | p :: r, _, rf, hb, e => by
    obtain ⟨v, s, rfl, r1, r2⟩ := rf
    obtain ⟨y, d'⟩ := p
    have hy := hb (y, d') List.mem_cons_self
    by_cases h : f = y
    · subst h
      have e : d' = d := by simpa [List.lookup] using e
      subst e
      exact ⟨hy, v, by simp [List.lookup], r1⟩
    · have h1 : (f == y) = false := by simpa using h
      have e : r.lookup f = some d := by simpa [List.lookup, h1] using e
      obtain ⟨i1, w, i2, i3⟩ := relf_look r2 (fun q hq => hb q (List.mem_cons_of_mem _ hq)) e
      have h2 : (nmS f == nmS y) = false := by
        rw [beq_eq_false_iff_ne]
        exact fun z => h (nmS_inj i1 hy z)
      exact ⟨i1, w, by simpa [List.lookup, h2] using i2, i3⟩
theorem lookup_in {d : D} {f : Nat} : ∀ {fs : List (Nat × D)}, fs.lookup f = some d → ∃ q ∈ fs, q.1 = f := fun {fs} e => ⟨(f, d), lookup_mem e, rfl⟩
theorem relf_none {K : PySem.W.Frag} {mg : Str → Option Value} {m : MM} {H : Hp} {Ca p : Addr} {x : Str} (M : Meth K Ca x p) : ∀ {fs : List (Nat × D)} {fv : List (Str × V)}, RelF K mg m H fs fv → (∀ q ∈ fs, NoAttr K Ca (nmS q.1)) → fv.lookup x = none
  | [], _, rf, _ => by cases (rf : _ = _); rfl
  | q :: r, _, rf, hn => by
    obtain ⟨v, s, rfl, r1, r2⟩ := rf
    have ne : (x == nmS q.1) = false := by
      rw [beq_eq_false_iff_ne]
      rintro rfl
      have a := M.at_
      have b : PySem.W.findIn K (.ref Ca) (nmS q.1) = some none := hn q List.mem_cons_self
      rw [b] at a; cases a
    simp only [List.lookup, ne]
    exact relf_none M r2 fun z hz => hn z (List.mem_cons_of_mem _ hz)
theorem relf_put {K : PySem.W.Frag} {mg : Str → Option Value} {m : MM} {H : Hp} {f : Nat} {d : D} {v : V} (hf : f < 128 ^ 64) (rd : RelD K mg m H d v) : ∀ {fs : List (Nat × D)} {fv : List (Str × V)}, RelF K mg m H fs fv → (∀ q ∈ fs, q.1 < 128 ^ 64) →
    RelF K mg m H (putL f d fs) (putF (nmS f) v fv)
  | [], _, rf, _ => by cases (rf : _ = _); exact ⟨v, [], rfl, rd, rfl⟩
  | q :: r, _, rf, hb => by
    obtain ⟨w, s, rfl, r1, r2⟩ := rf
    have hq := hb q List.mem_cons_self
    unfold putL putF
    by_cases h : q.1 = f
    · rw [if_pos h]
      have h2 : (nmS q.1 = nmS f) = True := by rw [h]; simp
      simp only [h2, if_true]
      exact ⟨v, s, by rw [h], rd, r2⟩
    · rw [if_neg h]
      have h2 : ¬ nmS q.1 = nmS f := fun z => h (nmS_inj hq hf z)
      simp only [h2, if_false]
      exact ⟨w, _, rfl, r1, relf_put hf rd r2 fun z hz => hb z (List.mem_cons_of_mem _ hz)⟩
theorem putL_mem {f : Nat} {d : D} {q : Nat × D} : ∀ {fs : List (Nat × D)}, q ∈ putL f d fs → q.1 = f ∨ q ∈ fs
  | [], h => by
    have : q = (f, d) := by simpa [putL] using h
    exact .inl (by rw [this])
  | p :: r, h => by
    unfold putL at h
    split at h
    · rcases List.mem_cons.mp h with rfl | h
      · exact .inl rfl
      · exact .inr (List.mem_cons_of_mem _ h)
    · rcases List.mem_cons.mp h with rfl | h
      · exact .inr List.mem_cons_self
      · rcases putL_mem h with e | e
        · exact .inl e
        · exact .inr (List.mem_cons_of_mem _ e)
theorem relf_len {K : PySem.W.Frag} {mg : Str → Option Value} {m : MM} {H : Hp} : ∀ {fs : List (Nat × D)} {fv : List (Str × V)}, RelF K mg m H fs fv → fv.length = fs.length
  | [], _, r => by cases (r : _ = _); rfl
  | q :: r, _, rf => by
    obtain ⟨w, s, rfl, r1, r2⟩ := rf
    simp [relf_len r2]
/-- a field is stored -/
theorem go_fld {AD : Nat → Option Addr} {K : PySem.W.Frag} {mg : Str → Option Value} (CO : COk P AD K mg) {m : MM} {h : LH} {H : Hp} (R : Rep K mg m h H) {a C f : Nat} {fs : List (Nat × D)} {p : Addr} {d : D} {v : V} (ea : h[a]? = some (.ins C fs)) (ra : RelD K mg m H (.ref a) (.ref p)) (rd : RelD K mg m H d v)
    (hf : fldOk P C f = true) : ∃ Ca dx fv, H p = some (.ins Ca dx fv) ∧ Cls K Ca ∧ NoAttr K Ca (nmS f) ∧ fv.length = fs.length ∧
      Go m h H m (setIns h a C (putL f d fs)) (upd H p (.ins Ca dx (putF (nmS f) v fv))) ∧ Rep K mg m (setIns h a C (putL f d fs)) (upd H p (.ins Ca dx (putF (nmS f) v fv))) := by
  obtain ⟨p', Ca, dx, fv, ep, em, e1, e2, e3, rf, hq⟩ := rep_ins R ea ra
  cases ep
  have hfl : f < 128 ^ 64 ∧ NoAttr K Ca (nmS f) := by
    unfold fldOk at hf
    cases q : P.cls C with
    | none => rw [q] at hf; cases hf
    | some c =>
      rw [q] at hf
      obtain ⟨Ca', c1, _, c3, _⟩ := CO.cls C c q
      rw [e2] at c1; cases c1
      exact c3 f (by simpa using hf)
  obtain ⟨g, R'⟩ := go_put R (o := .ins C (putL f d fs)) (u := .ins Ca dx (putF (nmS f) v fv)) ea rfl em fun t => ⟨Ca, dx, _, upd_same, e2, e3, RelF.mono t (fun _ _ z => z) (relf_put hfl.1 rd rf fun q h => (hq q h).1), fun q h => by
    rcases putL_mem h with e | e
    · rw [e]; exact hfl
    · exact hq q e⟩
  exact ⟨Ca, dx, fv, e1, e3, hfl.2, relf_len rf, g, R'⟩
/-- a built-in's answer about a list of its own -/
abbrev rLb (X : Cx) (f : Bf) : List V → Hp → VK → Prop := fun vs H Q => ∃ m h D xs ws, vs = [.ref D] ∧ H D = some (.lst ws) ∧ Rep X.K X.mg m h H ∧ RelDs X.K X.mg m H xs ws ∧ GoE X.K X.mg m h H ((lcbF f xs).map fun d => (d, h)) Q
theorem bls_rel {K : PySem.W.Frag} {mg : Str → Option Value} {m : MM} {H : Hp} : ∀ {xs : List D} {vs : List V} {bs : List Bool}, RelDs K mg m H xs vs → bls xs = some bs → vs = bs.map V.bl
  | [], vs, ss, r, e => by cases (r : _ = _); cases e; rfl
  | d :: xs, vs, ss, r, e => by
    obtain ⟨v, vr, rfl, r1, r2⟩ := r
    cases d with
    | bl b =>
      have e : (bls xs).map (b :: ·) = some ss := e
      cases q : bls xs with
      | none => rw [q] at e; cases e
      | some t =>
        rw [q] at e; cases e
        cases (r1 : _ = _)
        rw [bls_rel r2 q]; rfl
    | _ => cases e
theorem nums_rel {K : PySem.W.Frag} {mg : Str → Option Value} {m : MM} {H : Hp} : ∀ {xs : List D} {vs : List V} {bs : List Int}, RelDs K mg m H xs vs → nums xs = some bs → vs = bs.map V.int
  | [], vs, ss, r, e => by cases (r : _ = _); cases e; rfl
  | d :: xs, vs, ss, r, e => by
    obtain ⟨v, vr, rfl, r1, r2⟩ := r
    cases d with
    | int b =>
      have e : (nums xs).map (b :: ·) = some ss := e
      cases q : nums xs with
      | none => rw [q] at e; cases e
      | some t =>
        rw [q] at e; cases e
        cases (r1 : _ = _)
        rw [nums_rel r2 q]; rfl
    | _ => cases e
theorem op_lcb (hc : X.calm = true) (f : Bf) : CallR X (bfV f) (rLb X f) := by
  rintro pins s σ H vs us Q I rs ⟨m, h, D, xs, ws, rfl, eD, R, rd, g⟩
  have g' := g
  obtain ⟨d, h', e, q⟩ := g
  cases f with
  | tuple => exact call_tupleF pins s σ H _ us Q I rs ⟨D, ws, rfl, .inl ⟨SqL.of eD, goe_tup R g' rfl rd⟩⟩
  | len => exact call_len pins s σ H _ us Q I rs ⟨.ref D, xs.length, rfl, .inl ⟨ws, SqL.of eD, rd.len⟩, goe_keep R g' (d := .int xs.length) rfl rfl⟩
  | any =>
    cases q1 : bls xs with
    | none => simp [lcbF, q1] at e
    | some bs =>
      have := bls_rel rd q1
      subst this
      exact cr_any hc pins s σ H _ us Q I rs ⟨D, bs, rfl, SqL.of eD, goe_keep R g' (d := .bl (bs.any id)) (by simp [lcbF, q1]) rfl⟩
  | all =>
    cases q1 : bls xs with
    | none => simp [lcbF, q1] at e
    | some bs =>
      have := bls_rel rd q1
      subst this
      exact cr_all hc pins s σ H _ us Q I rs ⟨D, bs, rfl, SqL.of eD, goe_keep R g' (d := .bl (bs.all id)) (by simp [lcbF, q1]) rfl⟩
  | sum =>
    cases q1 : nums xs with
    | none => simp [lcbF, q1] at e
    | some bs =>
      have := nums_rel rd q1
      subst this
      exact cr_sum hc pins s σ H _ us Q I rs ⟨D, bs, rfl, SqL.of eD, goe_keep R g' (d := .int bs.sum) (by simp [lcbF, q1]) rfl⟩
  | _ => simp [lcbF] at e

end
end FK

end
section
set_option maxRecDepth 100000
set_option maxHeartbeats 4000000
namespace FK
open PySem PySem.Spec PyProof.Rows L2
section
variable {P : Pr} {AD : Nat → Option Addr} {cl : Nat → List D → LH → Option (D × LH)} {N : List Nat} {X : Cx} {sc : Scp}
theorem stays_of (it : Is) {σl : Lc} {h h1 : LH} {xs : List D} {g : Option Nat} (q : evIs P cl it σl h = some (xs, g, h1)) : stays g xs h1 := by
  cases it with
  | ex e =>
    have q : ((evE P cl e σl h).bind fun p => (walkOf p.1 p.2).map fun w => (w.1, w.2, p.2)) = some (xs, g, h1) := q
    cases q1 : evE P cl e σl h with
    | none => rw [q1] at q; cases q
    | some p =>
      rw [q1] at q
      simp only [Option.bind_some] at q
      cases q2 : walkOf p.1 p.2 with
      | none => rw [q2] at q; cases q
      | some w =>
        rw [q2] at q
        cases q
        unfold walkOf at q2
        split at q2
        · cases q2; trivial
        · rename_i a _
          split at q2
          · cases q2; trivial
          · cases q3 : seqOf (.ref a) p.2 with
            | none => rw [q3] at q2; cases q2
            | some ys => rw [q3] at q2; cases q2; exact q3
        · split at q2
          · cases q2; trivial
          · cases q2
        · cases q2
  | rng es =>
    have q : ((evEs P cl es σl h).bind fun p => (rngOf p.1).map fun xs => (xs, none, p.2)) = some (xs, g, h1) := q
    cases q1 : evEs P cl es σl h with
    | none => rw [q1] at q; cases q
    | some p =>
      rw [q1] at q
      simp only [Option.bind_some] at q
      cases q2 : rngOf p.1 with
      | none => rw [q2] at q; cases q
      | some w => rw [q2] at q; cases q; trivial
  | zip _ _ => cases q
  | rev _ => cases q

theorem bmS_append : bmS .append = ("append" : Str) := rfl

mutual
theorem pe_of : ∀ (e' : Ex) {sc : Scp} {X : Cx} {e : Expr}, XG P AD cl N X → ScOk sc X → okE sc N e' = true → reE N e' e = e → PE X e (tI P cl X.K X.mg e') ∧ PT X e (tT P cl X.K X.mg e')
  | .non, sc, X, e, G, S, ok, h => by
    obtain ⟨k, p, rfl⟩ := inv_non h
    have hp : PE X (.Constant .none k p) (tI P cl X.K X.mg .non) := ⟨fun pins s σ H Q I ⟨m, σl, h, R, Sl, g⟩ => pe_non.run pins s σ H Q I (goe_keep R g rfl rfl)⟩
    exact ⟨hp, pt_plain hp fun _ => rfl⟩
  | .bl b, sc, X, e, G, S, ok, h => by
    obtain ⟨k, p, rfl⟩ := inv_bl h
    have hp : PE X (.Constant (.bool b) k p) (tI P cl X.K X.mg (.bl b)) := ⟨fun pins s σ H Q I ⟨m, σl, h, R, Sl, g⟩ => pe_bl.run pins s σ H Q I (goe_keep R g rfl rfl)⟩
    exact ⟨hp, pt_plain hp fun _ => rfl⟩
  | .int b, sc, X, e, G, S, ok, h => by
    obtain ⟨k, p, rfl⟩ := inv_int h
    have hp : PE X (.Constant (.int b) k p) (tI P cl X.K X.mg (.int b)) := ⟨fun pins s σ H Q I ⟨m, σl, h, R, Sl, g⟩ => pe_int.run pins s σ H Q I (goe_keep R g rfl rfl)⟩
    exact ⟨hp, pt_plain hp fun _ => rfl⟩
  | .str t, sc, X, e, G, S, ok, h => by
    obtain ⟨k, p, rfl⟩ := inv_str h
    have hp : PE X (.Constant (.str (txS t)) k p) (tI P cl X.K X.mg (.str t)) := ⟨fun pins s σ H Q I ⟨m, σl, h, R, Sl, g⟩ => pe_str.run pins s σ H Q I (goe_keep R g (d := .str t) rfl (by rw [txS_eq ok]; rfl))⟩
    exact ⟨hp, pt_plain hp fun _ => rfl⟩
  | .lv i, sc, X, e, G, S, ok, h => by
    obtain ⟨p, rfl⟩ := inv_lv h
    obtain ⟨x, e1, e2, e3, e4, e5⟩ := vis_name G S ok
    rw [e2]
    have hp : PE X (.Name (nmS x) p) (tI P cl X.K X.mg (.lv i)) := ⟨fun pins s σ H Q I ⟨m, σl, h, R, Sl, g⟩ => (pe_var e4 e5 (okN_debug e3) (okN_cdict e3)).run pins s σ H Q I (by
      have g' := g
      obtain ⟨d, h', ed, q⟩ := g
      have ed : (match σl[i]? with | some (some d) => some (d, h) | _ => none) = some (d, h') := ed
      split at ed
      · rename_i d' ei
        cases ed
        obtain ⟨v, q1, q2⟩ := Sl.get ei
        exact ⟨v, q1, q m v H Go.refl R q2⟩
      · cases ed)⟩
    exact ⟨hp, pt_plain hp fun _ => rfl⟩
  | .gv x, sc, X, e, G, S, ok, h => by
    obtain ⟨p, rfl⟩ := inv_gv h
    have ok' : okN x = true ∧ isGlo sc x = true := by simpa [okE] using ok
    have hp : PE X (.Name (nmS x) p) (tI P cl X.K X.mg (.gv x)) := ⟨fun pins s σ H Q I ⟨m, σl, h, R, Sl, g⟩ => by
      have g' := g
      obtain ⟨d, h', ed, q⟩ := g
      have ed : (P.gv x).map (fun d => (d, h)) = some (d, h') := ed
      cases e1 : P.gv x with
      | none => rw [e1] at ed; cases ed
      | some d' =>
        rw [e1] at ed; cases ed
        obtain ⟨u, v, a1, a2, a3⟩ := G.G.gv x d e1
        exact (pe_glob (glo_name S ok'.2) a1 a2 (okN_debug ok'.1)).run pins s σ H Q I (q m v H Go.refl R (a3 m H))⟩
    exact ⟨hp, pt_plain hp fun _ => rfl⟩
  | .tup es, sc, X, e, G, S, ok, h => by
    obtain ⟨l, k, p, rfl, h1⟩ := inv_tup h
    have ih := pas_of es G S ok h1
    have hp : PE X (.Tuple l k p) (tI P cl X.K X.mg (.tup es)) := ⟨fun pins s σ H Q I ⟨m, σl, h, R, Sl, g⟩ => by
      refine (pe_tupF ih.1).run pins s σ H Q I ?_
      have g : GoE X.K X.mg m h H ((evEs P cl es σl h).bind fun p => if p.1.length ≤ SZ then some (.tup p.1, p.2) else none) Q := g
      obtain ⟨ds, h1, e1, k1⟩ := g.binds
      refine ⟨m, σl, h, ds, h1, R, Sl, e1, fun m1 vs H1 g1 R1 r1 => ?_⟩
      have k2 := k1 m1 H1 g1
      by_cases hz : ds.length ≤ SZ
      · exact ⟨by rw [← r1.len, SZ_line]; exact hz, goe_tup R1 k2 (if_pos hz) r1⟩
      · obtain ⟨_, _, e2, _⟩ := k2
        rw [if_neg hz] at e2; cases e2⟩
    exact ⟨hp, pt_plain hp fun _ => rfl⟩
  | .lst es, sc, X, e, G, S, ok, h => by
    obtain ⟨l, p, rfl, h1⟩ := inv_lst h
    have ih := pas_of es G S ok h1
    have hp : PE X (.List l p) (tI P cl X.K X.mg (.lst es)) := ⟨fun pins s σ H Q I ⟨m, σl, h, R, Sl, g⟩ => by
      refine (pe_lst ih.1).run pins s σ H Q I ?_
      have g : GoE X.K X.mg m h H ((evEs P cl es σl h).bind fun p => if p.1.length ≤ SZ then alloc p.2 (.lst p.1) else none) Q := g
      obtain ⟨ds, h1, e1, k1⟩ := g.binds
      refine ⟨m, σl, h, ds, h1, R, Sl, e1, fun m1 vs H1 g1 R1 r1 => ?_⟩
      have k2 := k1 m1 H1 g1
      by_cases hz : ds.length ≤ SZ
      · exact ⟨by rw [← r1.len, SZ_line]; exact hz, goe_lst R1 k2 (if_pos hz) r1⟩
      · obtain ⟨_, _, e2, _⟩ := k2
        rw [if_neg hz] at e2; cases e2⟩
    exact ⟨hp, pt_plain hp fun _ => rfl⟩
  | .dnew, sc, X, e, G, S, ok, h => by
    obtain ⟨p, rfl⟩ := inv_dnew h
    have hp : PE X (.Dict [] [] p) (tI P cl X.K X.mg .dnew) := ⟨fun pins s σ H Q I ⟨m, σl, h, R, Sl, g⟩ => by
      refine pe_dnewE.run pins s σ H Q I fun q n hq => ?_
      obtain ⟨d, h', e, k⟩ := g
      cases e
      obtain ⟨m', g1, R1, em⟩ := go_new R n (o := .dic []) (u := .ext (DAt q [])) rfl fun m' l t => ⟨[], upd_same, hq, rfl, List.nodup_nil, Nat.zero_le _⟩
      exact k m' _ _ g1 R1 ⟨q, rfl, em⟩⟩
    exact ⟨hp, pt_plain hp fun _ => rfl⟩
  | .bop o a b, sc, X, e, G, S, ok, h => by
    obtain ⟨l, r, p, rfl, h1, h2⟩ := inv_bop h
    have ok' : okE sc N a = true ∧ okE sc N b = true := by simpa [okE] using ok
    have i1 := pe_of a G S ok'.1 h1
    have i2 := pe_of b G S ok'.2 h2
    have hp : PE X (.BinOp l (bopO o) r p) (tI P cl X.K X.mg (.bop o a b)) := ⟨fun pins s σ H Q I ⟨m, σl, h, R, Sl, g⟩ => (pe_op (op_bin o) i1.1 i2.1).run pins s σ H Q I (tI_op R Sl g)⟩
    exact ⟨hp, pt_plain hp fun _ => rfl⟩
  | .neg a, sc, X, e, G, S, ok, h => by
    obtain ⟨x, p, rfl, h1⟩ := inv_neg h
    have i1 := pe_of a G S ok h1
    have hp : PE X (.UnaryOp .USub x p) (tI P cl X.K X.mg (.neg a)) := ⟨fun pins s σ H Q I ⟨m, σl, h, R, Sl, g⟩ => by
      refine (pe_un un_neg i1.1).run pins s σ H Q I ?_
      obtain ⟨d1, h1, e1, k1⟩ := GoE.bind (r := evE P cl a σl h) g
      refine ⟨m, σl, h, R, Sl, d1, h1, e1, fun m1 x H1 g1 R1 r1 => ?_⟩
      have k2 := k1 m1 H1 g1
      cases d1 with
      | int i =>
        cases (r1 : _ = _)
        exact ⟨i, rfl, goe_keep R1 k2 rfl rfl⟩
      | _ => obtain ⟨_, _, z, _⟩ := k2; cases z⟩
    exact ⟨hp, pt_plain hp fun _ => rfl⟩
  | .not a, sc, X, e, G, S, ok, h => by
    obtain ⟨x, p, rfl, h1⟩ := inv_not h
    have i1 := pe_of a G S ok h1
    have hp : PE X (.UnaryOp .Not x p) (tI P cl X.K X.mg (.not a)) := ⟨fun pins s σ H Q I ⟨m, σl, h, R, Sl, g⟩ => by
      refine (pe_notT i1.1).run pins s σ H Q I ?_
      obtain ⟨d1, h1, e1, k1⟩ := GoE.bind (r := evE P cl a σl h) g
      refine ⟨m, σl, h, R, Sl, d1, h1, e1, fun m1 x H1 g1 R1 r1 => ?_⟩
      have k2 := k1 m1 H1 g1
      cases e2 : truth d1 h1 with
      | none => obtain ⟨_, _, z, _⟩ := k2; rw [e2] at z; cases z
      | some b => exact ⟨b, tru_d R1 r1 e2, goe_keep R1 k2 (d := .bl (!b)) (by rw [e2]; rfl) rfl⟩⟩
    refine ⟨hp, ⟨fun pins s σ H Q I ⟨m, σl, h, R, Sl, d, h', b, e1, e2, k⟩ => ?_⟩⟩
    refine (pt_not i1.2).run pins s σ H Q I ?_
    have e1 : ((evE P cl a σl h).bind fun p => (truth p.1 p.2).map fun b => (D.bl (!b), p.2)) = some (d, h') := e1
    cases q : evE P cl a σl h with
    | none => rw [q] at e1; cases e1
    | some p1 =>
      obtain ⟨d1, h1⟩ := p1
      rw [q] at e1
      cases q2 : truth d1 h1 with
      | none => simp [q2] at e1
      | some c =>
        simp [q2] at e1
        obtain ⟨rfl, rfl⟩ := e1
        cases e2
        exact ⟨m, σl, h, R, Sl, d1, h1, c, q, q2, fun m' H' g R' => k m' H' g R'⟩
  | .cmp o a b, sc, X, e, G, S, ok, h => by
    obtain ⟨l, r, p, rfl, h1, h2⟩ := inv_cmp h
    have ok' : okE sc N a = true ∧ okE sc N b = true := by simpa [okE] using ok
    have i1 := pe_of a G S ok'.1 h1
    have i2 := pe_of b G S ok'.2 h2
    have mk := (pln_of h2).mark (copO o)
    refine ⟨⟨fun pins s σ H Q I ⟨m, σl, h, R, Sl, g⟩ => (pe_cmpR (op_cmp G.G G.hu o) i1.1 i2.1 mk).run pins s σ H Q I ?_⟩, ⟨fun pins s σ H Q I ⟨m, σl, h, R, Sl, d, h', b', e1, e2, k⟩ => (pt_cmpR (op_cmp G.G G.hu o) i1.1 i2.1 mk).run pins s σ H Q I ?_⟩⟩
    · obtain ⟨d1, h1, e1, k1⟩ := GoE.bind (r := evE P cl a σl h) g
      refine ⟨m, σl, h, R, Sl, d1, h1, e1, fun m1 x H1 g1 R1 r1 => ?_⟩
      obtain ⟨d2, h2, e2, k2⟩ := GoE.bind (r := evE P cl b σl h1) (k1 m1 H1 g1)
      refine ⟨m1, σl, h1, R1, g1.slots R Sl, d2, h2, e2, fun m2 y H2 g2 R2 r2 => ?_⟩
      have k3 := k2 m2 H2 g2
      cases e3 : cmpop P o d1 d2 h2 with
      | none => obtain ⟨_, _, z, _⟩ := k3; rw [e3] at z; cases z
      | some c => exact ⟨m2, h2, d1, d2, c, R2, g2.rel R1 r1, r2, e3, goe_keep R2 k3 (d := .bl c) (by rw [e3]; rfl) rfl⟩
    · have e1 : ((evE P cl a σl h).bind fun p => (evE P cl b σl p.2).bind fun q => (cmpop P o p.1 q.1 q.2).map fun c => (D.bl c, q.2)) = some (d, h') := e1
      cases q1 : evE P cl a σl h with
      | none => rw [q1] at e1; cases e1
      | some p1 =>
        obtain ⟨d1, h1⟩ := p1
        rw [q1] at e1
        cases q2 : evE P cl b σl h1 with
        | none => simp [q2] at e1
        | some p2 =>
          obtain ⟨d2, h2⟩ := p2
          simp only [Option.bind_some, q2] at e1
          cases q3 : cmpop P o d1 d2 h2 with
          | none => simp [q3] at e1
          | some c =>
            simp [q3] at e1
            obtain ⟨rfl, rfl⟩ := e1
            cases e2
            exact ⟨m, σl, h, R, Sl, d1, h1, q1, fun m1 x H1 g1 R1 r1 => ⟨m1, σl, h1, R1, g1.slots R Sl, d2, h2, q2, fun m2 y H2 g2 R2 r2 => ⟨m2, h2, d1, d2, _, R2, g2.rel R1 r1, r2, q3, _, rfl, k m2 H2 (g1.trans g2) R2⟩⟩⟩
  | .cmp2 o o' a b c0, sc, X, e, G, S, ok, h => by
    obtain ⟨l, r, r', p, rfl, h1, h2, h3⟩ := inv_cmp2 h
    have ok' : (okE sc N a = true ∧ okE sc N b = true) ∧ okE sc N c0 = true := by simpa [okE] using ok
    have i1 := pe_of a G S ok'.1.1 h1
    have i2 := pe_of b G S ok'.1.2 h2
    have i3 := pe_of c0 G S ok'.2 h3
    have mk := (pln_of h2).mark (copO o)
    have mk' := (pln_of h3).mark (copO o')
    have main : ∀ (σ : L2.St) (H : Hp) (Q : VK) (m : MM) (σl : Lc) (h : LH), Rep X.K X.mg m h H → SRel X.K X.mg m H σl σ → GoE X.K X.mg m h H (evE P cl (.cmp2 o o' a b c0) σl h) Q →
        tChain (rC2 X (cmpop P o)) (rC2 X (cmpop P o')) (tI P cl X.K X.mg a) (tI P cl X.K X.mg b) (tI P cl X.K X.mg c0) σ H Q := by
      intro σ H Q m σl h R Sl g
      obtain ⟨d1, h1, e1, k1⟩ := GoE.bind (r := evE P cl a σl h) g
      refine ⟨m, σl, h, R, Sl, d1, h1, e1, fun m1 x H1 g1 R1 r1 => ?_⟩
      obtain ⟨d2, h2, e2, k2⟩ := GoE.bind (r := evE P cl b σl h1) (k1 m1 H1 g1)
      refine ⟨m1, σl, h1, R1, g1.slots R Sl, d2, h2, e2, fun m2 y H2 g2 R2 r2 => ?_⟩
      have k3 := k2 m2 H2 g2
      cases e3 : cmpop P o d1 d2 h2 with
      | none => obtain ⟨_, _, z, _⟩ := k3; rw [e3] at z; cases z
      | some c' =>
        refine ⟨m2, h2, d1, d2, c', R2, g2.rel R1 r1, r2, e3, c', rfl, ?_⟩
        rw [e3] at k3
        cases c' with
        | false => exact goe_keep R2 k3 (d := .bl false) rfl rfl
        | true =>
          obtain ⟨d3, h3, e4, k4⟩ := GoE.bind (r := evE P cl c0 σl h2) k3
          refine ⟨m2, σl, h2, R2, g2.slots R1 (g1.slots R Sl), d3, h3, e4, fun m3 z H3 g3 R3 r3 => ?_⟩
          have k5 := k4 m3 H3 g3
          cases e5 : cmpop P o' d2 d3 h3 with
          | none => obtain ⟨_, _, z, _⟩ := k5; rw [e5] at z; cases z
          | some c'' => exact ⟨m3, h3, d2, d3, c'', R3, g3.rel R2 r2, r3, e5, goe_keep R3 k5 (d := .bl c'') (by rw [e5]; rfl) rfl⟩
    refine ⟨⟨fun pins s σ H Q I ⟨m, σl, h, R, Sl, g⟩ => (pe_chain (op_cmp G.G G.hu o) (op_cmp G.G G.hu o') i1.1 i2.1 i3.1 (by exact mk')).run pins s σ H Q I (main σ H Q m σl h R Sl g)⟩, ⟨fun pins s σ H Q I ⟨m, σl, h, R, Sl, d, h', b', e1, e2, k⟩ => ?_⟩⟩
    refine (pt_chain (op_cmp G.G G.hu o) (op_cmp G.G G.hu o') i1.1 i2.1 i3.1 (by exact mk')).run pins s σ H Q I ?_
    refine main σ H _ m σl h R Sl ⟨d, h', e1, fun m' v H' g' R' r' => ?_⟩
    -- the answer is a bool
    have hb : d = .bl b' := by
      cases q1 : evE P cl a σl h with
      | none => have e1 : (evE P cl a σl h).bind _ = _ := e1; rw [q1] at e1; cases e1
      | some p1 =>
        have e1 : ((evE P cl a σl h).bind fun p => (evE P cl b σl p.2).bind fun q => (cmpop P o p.1 q.1 q.2).bind fun k =>
          if k then (evE P cl c0 σl q.2).bind fun r => (cmpop P o' q.1 r.1 r.2).map fun k' => (D.bl k', r.2) else some (D.bl false, q.2)) = some (d, h') := e1
        rw [q1] at e1
        simp only [Option.bind_some] at e1
        cases q2 : evE P cl b σl p1.2 with
        | none => rw [q2] at e1; cases e1
        | some p2 =>
          rw [q2] at e1
          simp only [Option.bind_some] at e1
          cases q3 : cmpop P o p1.1 p2.1 p2.2 with
          | none => rw [q3] at e1; cases e1
          | some c =>
            rw [q3] at e1
            simp only [Option.bind_some] at e1
            cases c with
            | false => simp at e1; obtain ⟨rfl, rfl⟩ := e1; cases e2; rfl
            | true =>
              simp only [if_true] at e1
              cases q4 : evE P cl c0 σl p2.2 with
              | none => rw [q4] at e1; cases e1
              | some p3 =>
                rw [q4] at e1
                simp only [Option.bind_some] at e1
                cases q5 : cmpop P o' p2.1 p3.1 p3.2 with
                | none => rw [q5] at e1; cases e1
                | some c2 => rw [q5] at e1; simp at e1; obtain ⟨rfl, rfl⟩ := e1; cases e2; rfl
    subst hb
    cases (r' : _ = _)
    exact ⟨b', rfl, k m' H' g' R'⟩
  | .and es, sc, X, e, G, S, ok, h => by
    obtain ⟨l, p, rfl, h1⟩ := inv_and h
    have ih := pas_of es G S ok h1
    cases es with
    | nil =>
      rw [inv_nil h1]
      exact ⟨⟨fun pins s σ H Q I ⟨m, σl, h, R, Sl, d, h', z, _⟩ => nomatch z⟩, ⟨fun pins s σ H Q I ⟨m, σl, h, R, Sl, d, h', b, z, _⟩ => nomatch z⟩⟩
    | cons e2 es => exact ⟨(ih.2 p (fun z => nomatch z)).1, (ih.2 p (fun z => nomatch z)).2.1.pt⟩
  | .or es, sc, X, e, G, S, ok, h => by
    obtain ⟨l, p, rfl, h1⟩ := inv_or h
    have ih := pas_of es G S ok h1
    cases es with
    | nil =>
      rw [inv_nil h1]
      exact ⟨⟨fun pins s σ H Q I ⟨m, σl, h, R, Sl, d, h', z, _⟩ => nomatch z⟩, ⟨fun pins s σ H Q I ⟨m, σl, h, R, Sl, d, h', b, z, _⟩ => nomatch z⟩⟩
    | cons e2 es => exact ⟨(ih.2 p (fun z => nomatch z)).2.2.1, (ih.2 p (fun z => nomatch z)).2.2.2.pt⟩
  | .ix a i, sc, X, e, G, S, ok, h => by
    obtain ⟨l, r, p, rfl, h1, h2⟩ := inv_ix h
    have ok' : okE sc N a = true ∧ okE sc N i = true := by simpa [okE] using ok
    have i1 := pe_of a G S ok'.1 h1
    have i2 := pe_of i G S ok'.2 h2
    have hp : PE X (.Subscript l r p) (tI P cl X.K X.mg (.ix a i)) := ⟨fun pins s σ H Q I ⟨m, σl, h, R, Sl, g⟩ => by
      refine (pe_ix (op_ix G.G G.hu) i1.1 i2.1 (pln_of h2).ix).run pins s σ H Q I ?_
      obtain ⟨d1, h1, e1, k1⟩ := GoE.bind (r := evE P cl a σl h) g
      refine ⟨m, σl, h, R, Sl, d1, h1, e1, fun m1 x H1 g1 R1 r1 => ?_⟩
      obtain ⟨d2, h2, e2, k2⟩ := GoE.bind (r := evE P cl i σl h1) (k1 m1 H1 g1)
      refine ⟨m1, σl, h1, R1, g1.slots R Sl, d2, h2, e2, fun m2 y H2 g2 R2 r2 => ?_⟩
      have k3 := k2 m2 H2 g2
      cases e3 : getix P d1 d2 h2 with
      | none => obtain ⟨_, _, z, _⟩ := k3; rw [e3] at z; cases z
      | some d => exact ⟨m2, h2, d1, d2, d, R2, g2.rel R1 r1, r2, e3, fun v rv => goe_keep R2 k3 (by rw [e3]; rfl) rv⟩⟩
    exact ⟨hp, pt_plain hp fun _ => rfl⟩
  | .sl a lo hi, sc, X, e, G, S, ok, h => by
    obtain ⟨v, l, u, p2, p, rfl, h1, h2, h3⟩ := inv_sl h
    have ok' : (okE sc N a = true ∧ okE sc N lo = true) ∧ okE sc N hi = true := by simpa [okE] using ok
    have i1 := pe_of a G S ok'.1.1 h1
    have i2 : PO X l (tO P cl X.K X.mg lo) := po_of h2 (fun e he => (pe_of lo G S ok'.1.2 he).1)
    have i3 : PO X u (tO P cl X.K X.mg hi) := po_of h3 (fun e he => (pe_of hi G S ok'.2 he).1)
    have hp : PE X (.Subscript v (.Slice l u none p2) p) (tI P cl X.K X.mg (.sl a lo hi)) := ⟨fun pins s σ H Q I ⟨m, σl, h, R, Sl, g⟩ => by
      refine (pe_slice op_sl i1.1 i2 i3).run pins s σ H Q I ?_
      obtain ⟨d1, h1, e1, k1⟩ := GoE.bind (r := evE P cl a σl h) g
      refine ⟨m, σl, h, R, Sl, d1, h1, e1, fun m1 x H1 g1 R1 r1 => ?_⟩
      obtain ⟨d2, h2, e2, k2⟩ := GoE.bind (r := evE P cl lo σl h1) (k1 m1 H1 g1)
      cases q1 : ptI (isNonE lo) d2 with
      | none =>
        obtain ⟨_, _, z, _⟩ := k1 m1 H1 g1
        have z : ((evE P cl lo σl h1).bind fun q => (evE P cl hi σl q.2).bind fun r => (ptI (isNonE lo) q.1).bind fun l => (ptI (isNonE hi) r.1).bind fun u => slice d1 l u r.2) = _ := z
        rw [e2] at z
        simp only [Option.bind_some, q1, Option.bind_none] at z
        cases q3 : evE P cl hi σl h2 with
        | none => rw [q3] at z; cases z
        | some _ => rw [q3] at z; cases z
      | some o1 =>
        refine ⟨m1, σl, h1, d2, h2, o1, R1, g1.slots R Sl, e2, q1, fun m2 H2 g2 R2 => ?_⟩
        obtain ⟨d3, h3, e3, k3⟩ := GoE.bind (r := evE P cl hi σl h2) (k2 m2 H2 g2)
        cases q2 : ptI (isNonE hi) d3 with
        | none =>
          obtain ⟨_, _, z, _⟩ := k2 m2 H2 g2
          simp only [e3, q1, q2, Option.bind_some, Option.bind_none] at z
          cases z
        | some o2 =>
          refine ⟨m2, σl, h2, d3, h3, o2, R2, g2.slots R1 (g1.slots R Sl), e3, q2, fun m3 H3 g3 R3 => ?_⟩
          have k4 := k3 m3 H3 g3
          simp only [q1, q2, Option.bind_some] at k4
          exact ⟨m3, h3, d1, R3, g3.rel R2 (g2.rel R1 r1), k4⟩⟩
    exact ⟨hp, pt_plain hp fun _ => rfl⟩
  | .call f es, sc, X, e, G, S, ok, h => by
    obtain ⟨p1, l, p, rfl, h1⟩ := inv_call h
    have ok' : (okN f = true ∧ isGlo sc f = true) ∧ okEs sc N es = true := by simpa [okE] using ok
    have ih := pas_of es G S ok'.2 h1
    have pl := plns_of h1
    have hb : f < 128 ^ 64 := by have := ok'.1.1; simp only [okN, Bool.and_eq_true, decide_eq_true_eq] at this; exact this.1.1.1.1
    have hp : PE X (.Call (.Name (nmS f) p1) l [] p) (tI P cl X.K X.mg (.call f es)) := ⟨fun pins s σ H Q I ⟨m, σl, h, R, Sl, g⟩ => by
      obtain ⟨ds, h1, e1, k1⟩ := GoE.binds (r := evEs P cl es σl h) g
      obtain ⟨_, _, z, _⟩ := g
      have z : (evEs P cl es σl h).bind (fun p => cl f p.1 p.2) = _ := z
      rw [e1] at z
      obtain ⟨F, k, a, fd, ps, dvs, dsV, ds', hF, A, b1, b2, hl, e2, b3⟩ := call_fill G z
      obtain ⟨a1, a2⟩ := A.glo hb
      have fin : tIs P cl X.K X.mg es σ H (fun vs H1 => spI P cl X.K X.mg f (vs ++ dvs) H1 Q E0) := by
        refine ⟨m, σl, h, ds, h1, R, Sl, e1, fun m1 vs H1 g1 R1 r1 => ?_⟩
        exact ⟨m1, h1, ds', R1, b3 _ _ _ r1, ⟨F, hF, hl⟩, goe_some (k1 m1 H1 g1) fun q eq => by
          have z : cl f ds h1 = _ := z
          rw [show cl f ds h1 = some q from eq] at z; cases z; exact e2⟩
      have rk : Room k X.A := A.room.mono (by omega)
      cases l with
      | nil =>
        refine (pe_call0 A.ok rk (glo_name S ok'.1.2) a1 a2 b2 b1 pass0 (okN_debug ok'.1.1)).run pins s σ H Q I ?_
        have : es = .nil := by
          cases es with
          | nil => rfl
          | cons a b => cases h1
        subst this
        obtain ⟨m, σl, h, ds, h1, R, Sl, e1, k⟩ := fin
        cases e1
        exact k m [] H Go.refl R rfl
      | cons x xs =>
        exact (pe_call A.ok rk (glo_name S ok'.1.2) a1 a2 b2 b1 pass0 ih.1 (okN_debug ok'.1.1) ((pl x List.mem_cons_self).star _ _) (plns_any (fun e he => pl e (List.mem_cons_of_mem _ he)) _ _)).run pins s σ H Q I fin⟩
    exact ⟨hp, pt_plain hp fun _ => rfl⟩
  | .mk C es, sc, X, e, G, S, ok, h => by
    obtain ⟨p1, l, p, rfl, h1⟩ := inv_mk h
    have ok' : (okN C = true ∧ isGlo sc C = true) ∧ okEs sc N es = true := by simpa [okE] using ok
    have ih := pas_of es G S ok'.2 h1
    have pl := plns_of h1
    have hp : PE X (.Call (.Name (nmS C) p1) l [] p) (tI P cl X.K X.mg (.mk C es)) := ⟨fun pins s σ H Q I ⟨m, σl, h, R, Sl, g⟩ => by
      obtain ⟨dr, hr, er, kr⟩ := g
      have er : ((P.cls C).bind fun c => (evEs P cl es σl h).bind fun p => (alloc p.2 (.ins C [])).bind fun q => (cl c.ini (q.1 :: p.1) q.2).bind fun r => if isNon r.1 then some (q.1, r.2) else none) = some (dr, hr) := er
      cases ec : P.cls C with
      | none => rw [ec] at er; cases er
      | some c =>
        rw [ec] at er
        simp only [Option.bind_some] at er
        cases e1 : evEs P cl es σl h with
        | none => rw [e1] at er; cases er
        | some p1' =>
          obtain ⟨ds, h1⟩ := p1'
          rw [e1] at er
          simp only [alloc, Option.bind_some] at er
          cases e2 : cl c.ini (.ref h1.length :: ds) (h1 ++ [.ins C []]) with
          | none => rw [e2] at er; cases er
          | some r =>
            rw [e2] at er
            simp only [Option.bind_some] at er
            split at er
            · rename_i hn
              cases er
              obtain ⟨Ca, c1, c2, c3, c4, a, c5, c6⟩ := G.C.cls C c ec
              obtain ⟨F, k, a', fd, ps, dvs, dsV, ds', hF, A, b1, b2, hl, e3, b3⟩ := call_fill G e2
              have : a' = a := by have := A.at_; rw [c5] at this; exact (Option.some.inj this).symm
              subst this
              have fin : tIs P cl X.K X.mg es σ H (fun vs H1 => ∀ x dx, H1 x = none → H1 dx = none → dx ≠ x → spI P cl X.K X.mg c.ini (.ref x :: (vs ++ dvs)) (upd (upd H1 dx (.own x)) x (.ins Ca dx [])) (fun v H2 => v = .non ∧ Q (.ref x) H2) E0) := by
                refine ⟨m, σl, h, ds, h1, R, Sl, e1, fun m1 vs H1 g1 R1 r1 x dx nx ndx ne => ?_⟩
                obtain ⟨g2, R2⟩ := go_fresh R1 ndx (.own x)
                have nx2 : (upd H1 dx (.own x)) x = none := by rw [upd_ne (Ne.symm ne)]; exact nx
                obtain ⟨m3, g3, R3, em⟩ := go_new R2 nx2 (o := .ins C []) (u := .ins Ca dx []) rfl fun m' l t => ⟨Ca, dx, [], upd_same, c1, c2, rfl, fun q hq => by cases hq⟩
                have r3 : RelDs X.K X.mg m3 _ ds vs := g3.rels R2 (g2.rels R1 r1)
                refine ⟨m3, _, ds', R3, b3 m3 _ (.ref x :: vs) ⟨_, _, rfl, ⟨x, rfl, em⟩, r3⟩, ⟨F, hF, hl⟩, r.1, r.2, e3, fun m' v H' g4 R4 r4 => ⟨?_, ?_⟩⟩
                · have : r.1 = .non := by cases q : r.1 <;> rw [q] at hn <;> first | rfl | cases hn
                  rw [this] at r4; exact r4
                · exact kr m' (.ref x) H' ((g1.trans g2).trans (g3.trans g4)) R4 ⟨x, rfl, g4.le _ _ em⟩
              cases l with
              | nil =>
                have : es = .nil := by
                  cases es with
                  | nil => rfl
                  | cons a b => cases h1
                subst this
                refine (pe_make0 c6 A.ok A.room (glo_name S ok'.1.2) c1 b2 b1 pass0 (okN_debug ok'.1.1)).run pins s σ H Q I ?_
                obtain ⟨m, σl, h, ds, h1, R, Sl, e1, k⟩ := fin
                cases e1
                exact k m [] H Go.refl R rfl
              | cons x xs =>
                exact (pe_make c6 A.ok A.room (glo_name S ok'.1.2) c1 b2 b1 pass0 ih.1 (okN_debug ok'.1.1) ((pl x List.mem_cons_self).star _ _) (plns_any (fun e he => pl e (List.mem_cons_of_mem _ he)) _ _)).run pins s σ H Q I fin
            · cases er⟩
    exact ⟨hp, pt_plain hp fun _ => rfl⟩
  | .blt f es, sc, X, e, G, S, ok, hre => by
    obtain ⟨p1, l, p, rfl, h1⟩ := inv_blt hre
    have ok' : (isGlo sc (cBf f) = true ∧ okEs sc N es = true) ∧ 0 < exsLen es := by simpa [okE] using ok
    have ih := pas_of es G S ok'.1.2 h1
    have pl := plns_of h1
    have hg : Gl X (bfS f) := by rw [bf_nm]; exact glo_name S ok'.1.1
    have hp : PE X (.Call (.Name (bfS f) p1) l [] p) (tI P cl X.K X.mg (.blt f es)) := ⟨fun pins s σ H Q I ⟨m, σl, h, R, Sl, g⟩ => by
      cases l with
      | nil =>
        cases es with
        | nil => exact absurd ok'.2 (by simp [exsLen])
        | cons a b => cases h1
      | cons x xs =>
        obtain ⟨ds, h1, e1, k1⟩ := GoE.binds (r := evEs P cl es σl h) g
        have fin : tIs P cl X.K X.mg es σ H (fun vs H1 => rBl X (bltin f) vs H1 Q) :=
          ⟨m, σl, h, ds, h1, R, Sl, e1, fun m1 vs H1 g1 R1 r1 => ⟨m1, h1, ds, R1, r1, k1 m1 H1 g1⟩⟩
        have st := (pl x List.mem_cons_self).star xs X.env
        have an := plns_any (fun e he => pl e (List.mem_cons_of_mem _ he)) X.env p
        have ty : ∀ T, bfV f = .type T → wpAny (model X.prog X.w) X.A (eval (.Call (.Name (bfS f) p1) (x :: xs) [] p) X.env) (EP X pins σ Q) X.xe s := fun T e => by
          have c : CallR X (.type T) (rBl X (bltin f)) := by rw [← e]; exact op_blt f
          exact (pe_callTy c hg (G.G.blt f) (by rw [bf_boot, e]) ih.1 (bf_name f) (bf_dbg f) st an).run pins s σ H Q I fin
        have bl : ∀ T, bfV f = .builtin T → wpAny (model X.prog X.w) X.A (eval (.Call (.Name (bfS f) p1) (x :: xs) [] p) X.env) (EP X pins σ Q) X.xe s := fun T e => by
          have c : CallR X (.builtin T) (rBl X (bltin f)) := by rw [← e]; exact op_blt f
          exact (pe_callB c hg (G.G.blt f) (by rw [bf_boot, e]) ih.1 (bf_name f) (bf_dbg f) st an).run pins s σ H Q I fin
        cases f <;> first | exact ty _ rfl | exact bl _ rfl⟩
    exact ⟨hp, pt_plain hp fun _ => rfl⟩
  | .calv i es, sc, X, e, G, S, ok, hre => by
    obtain ⟨p1, l, p, rfl, h1⟩ := inv_calv hre
    have ok' : (isVis sc N i = true ∧ okEs sc N es = true) ∧ 0 < exsLen es := by simpa [okE] using ok
    have ih := pas_of es G S ok'.1.2 h1
    have pl := plns_of h1
    obtain ⟨x', n1, n2, n3, n4, n5⟩ := vis_name G S ok'.1.1
    rw [n2]
    have hp : PE X (.Call (.Name (nmS x') p1) l [] p) (tI P cl X.K X.mg (.calv i es)) := ⟨fun pins s σ H Q I ⟨m, σl, h, R, Sl, g⟩ => by
      cases l with
      | nil =>
        cases es with
        | nil => exact absurd ok'.2 (by simp [exsLen])
        | cons a b => cases h1
      | cons x xs =>
        have g0 := g
        obtain ⟨d, h', ed, q⟩ := g
        have ed : (match σl[i]? with | some (some (.fn f)) => (evEs P cl es σl h).bind fun p => cl f p.1 p.2 | _ => none) = some (d, h') := ed
        split at ed
        · rename_i f ei
          have g : GoE X.K X.mg m h H ((evEs P cl es σl h).bind fun p => cl f p.1 p.2) Q := ⟨d, h', ed, q⟩
          obtain ⟨ds, h1, e1, k1⟩ := g.binds
          rw [e1] at ed
          obtain ⟨F, k, a, fd, ps, dvs, dsV, ds', hF, A, b1, b2, hl, e2, b3⟩ := call_fill G ed
          have rk : Room k X.A := A.room.mono (by omega)
          obtain ⟨v, q1, q2⟩ := Sl.get ei
          obtain ⟨a', rfl, q3, hb⟩ := q2
          obtain ⟨a1, a2⟩ := A.glo hb
          rw [a1] at q3; cases q3
          refine (pe_callL (i := i) A.ok rk n4 n5 a2 b2 b1 pass0 ih.1 (okN_debug n3) (okN_cdict n3) ((pl x List.mem_cons_self).star _ _) (plns_any (fun e he => pl e (List.mem_cons_of_mem _ he)) _ _)).run pins s σ H Q I ⟨q1, ?_⟩
          refine ⟨m, σl, h, ds, h1, R, Sl, e1, fun m1 vs H1 g1 R1 r1 => ?_⟩
          exact ⟨m1, h1, ds', R1, b3 _ _ _ r1, ⟨F, hF, hl⟩, goe_some (k1 m1 H1 g1) fun q eq => by
            have ed : cl f ds h1 = _ := ed
            rw [show cl f ds h1 = some q from eq] at ed; cases ed; exact e2⟩
        · cases ed⟩
    exact ⟨hp, pt_plain hp fun _ => rfl⟩
  | .isi a T, sc, X, e, G, S, ok, h => by
    obtain ⟨p1, x, p2, p, rfl, h1⟩ := inv_isi h
    have ok' : (isGlo sc 976800284697052295653 = true ∧ isGlo sc (cTy T) = true) ∧ okE sc N a = true := by simpa [okE] using ok
    have i1 := pe_of a G S ok'.2 h1
    have hg : Gl X "isinstance" := by rw [n_isi]; exact glo_name S ok'.1.1
    have hT : Gl X (tyS T) := by rw [ty_nm]; exact glo_name S ok'.1.2
    have it : PE X (.Name (tyS T) p2) (tC (.ty (tyN T))) := pe_bltn hT (G.G.blt2.2.2 T) (ty_boot T) rfl (ty_name T) (ty_dbg T)
    have hp : PE X (.Call (.Name "isinstance" p1) [x, .Name (tyS T) p2] [] p) (tI P cl X.K X.mg (.isi a T)) := ⟨fun pins s σ H Q I ⟨m, σl, h, R, Sl, g⟩ => by
      refine (pe_callB call_isiX hg G.G.blt2.2.1 (by decide +kernel) (pa_cons i1.1 (pa_cons it pa_nil) ((pln_of h1).star _ _)) (by decide) (by decide) ((pln_of h1).star _ _)).run pins s σ H Q I ?_
      obtain ⟨d1, h1, e1, k1⟩ := GoE.bind (r := evE P cl a σl h) g
      refine ⟨m, σl, h, R, Sl, d1, h1, e1, fun m1 x H1 g1 R1 r1 => ?_⟩
      have k2 := k1 m1 H1 g1
      cases e2 : isTy d1 T h1 with
      | none => obtain ⟨_, _, z, _⟩ := k2; rw [e2] at z; cases z
      | some b =>
        have kk := goe_keep R1 k2 (d := .bl b) (by rw [e2]; rfl) rfl
        rcases isty_d R1 r1 e2 with t | ⟨a', kvs, rfl, ea, eb⟩
        · exact ⟨_, T, b, rfl, .inl t, kk⟩
        · exact ⟨_, T, b, rfl, .inr ⟨m1, h1, a', kvs, R1, r1, ea, eb⟩, kk⟩⟩
    exact ⟨hp, pt_plain hp fun _ => rfl⟩
  | .bm o mm es, sc, X, e, G, S, ok, h => by
    obtain ⟨v, p1, l, p, rfl, hl, h1, h2⟩ := inv_bm h
    have ok1 : okE sc N o = true ∧ okEs sc N es = true := by
      simp only [okE, Bool.and_eq_true] at ok
      exact ok.1
    have hlen : 0 < exsLen es ∧ exsLen es < 20 := by
      simp only [okE, Bool.and_eq_true] at ok
      have o := ok.2
      cases mm <;> simp at o <;> omega
    have i1 := pe_of o G S ok1.1 h1
    have ih := pas_of es G S ok1.2 h2
    have pl := plns_of h2
    have hl2 := reEs_len h2
    have hp : PE X (.Call (.Attribute v (bmS mm) p1) l [] p) (tI P cl X.K X.mg (.bm o mm es)) := ⟨fun pins s σ H Q I ⟨m, σl, hh, R, Sl, g⟩ => by
      cases l with
      | nil => rw [List.length_nil] at hl2; omega
      | cons x xs =>
        have hbase : attributeBase v (bmS mm) X.env (eval v X.env) = eval v X.env := attr_base G S ok1.1 h1
        have hfew := few_of pl (by rw [hl2]; exact hlen.2) p X.env
        have st := (pl x List.mem_cons_self).star xs X.env
        have an := plns_any (fun e he => pl e (List.mem_cons_of_mem _ he)) X.env p
        obtain ⟨d1, h1, e1, k1⟩ := GoE.bind (r := evE P cl o σl hh) g
        obtain ⟨dr, hr, z, _⟩ := g
        have z : ((evE P cl o σl hh).bind fun p => (tyOf p.1 p.2).bind fun T => (evEs P cl es σl p.2).bind fun q => method T p.1 mm q.1 q.2) = some (dr, hr) := z
        rw [e1] at z
        simp only [Option.bind_some] at z
        cases eT : tyOf d1 h1 with
        | none => rw [eT] at z; cases z
        | some T =>
          rw [eT] at z
          simp only [eT, Option.bind_some] at k1 z
          have lst : ∀ {id : String} (slot : Slot "list" (bmS mm) id) (hty : typeOf (.builtin id) = pure (.type "method_descriptor")) (hm : MtR X id (rM X .list mm)), T = .list → wpAny (model X.prog X.w) X.A (eval (.Call (.Attribute v (bmS mm) p1) (x :: xs) [] p) X.env) (EP X pins σ Q) X.xe s := by
            intro id slot hty hm hT
            subst hT
            refine (pe_bm PySem.F.plainAttrs_list slot hty hm i1.1 ih.1 hbase hfew hl st an).run pins s σ H Q I ⟨m, σl, hh, R, Sl, d1, h1, e1, fun m1 y H1 g1 R1 r1 => ?_⟩
            obtain ⟨ds, h2, e2, k2⟩ := GoE.binds (r := evEs P cl es σl h1) (k1 m1 H1 g1)
            exact ⟨ty_list R1 r1 eT, m1, σl, h1, ds, h2, R1, g1.slots R Sl, e2, fun m2 vs H2 g2 R2 r2 => ⟨m2, h2, d1, ds, R2, g2.rel R1 r1, r2, k2 m2 H2 g2⟩⟩
          have str : ∀ {id : String} (slot : Slot "str" (bmS mm) id) (hty : typeOf (.builtin id) = pure (.type "method_descriptor")) (hm : MtR X id (rM X .str mm)), T = .str → wpAny (model X.prog X.w) X.A (eval (.Call (.Attribute v (bmS mm) p1) (x :: xs) [] p) X.env) (EP X pins σ Q) X.xe s := by
            intro id slot hty hm hT
            subst hT
            refine (pe_bm PySem.F.plainAttrs_str slot hty hm i1.1 ih.1 hbase hfew hl st an).run pins s σ H Q I ⟨m, σl, hh, R, Sl, d1, h1, e1, fun m1 y H1 g1 R1 r1 => ?_⟩
            obtain ⟨ds, h2, e2, k2⟩ := GoE.binds (r := evEs P cl es σl h1) (k1 m1 H1 g1)
            refine ⟨?_, m1, σl, h1, ds, h2, R1, g1.slots R Sl, e2, fun m2 vs H2 g2 R2 r2 => ⟨m2, h2, d1, ds, R2, g2.rel R1 r1, r2, k2 m2 H2 g2⟩⟩
            cases d1 with
            | str t => cases (r1 : _ = _); rfl
            | ref a =>
              exfalso
              unfold tyOf at eT
              simp only at eT
              split at eT <;> cases eT
            | _ => cases eT
          have tup : ∀ {id : String} (slot : Slot "tuple" (bmS mm) id) (hty : typeOf (.builtin id) = pure (.type "method_descriptor")) (hm : MtR X id (rM X .tuple mm)), T = .tuple → wpAny (model X.prog X.w) X.A (eval (.Call (.Attribute v (bmS mm) p1) (x :: xs) [] p) X.env) (EP X pins σ Q) X.xe s := by
            intro id slot hty hm hT
            subst hT
            refine (pe_bmT slot hty hm i1.1 ih.1 hbase hfew hl st an).run pins s σ H Q I ⟨m, σl, hh, R, Sl, d1, h1, e1, fun m1 y H1 g1 R1 r1 => ?_⟩
            obtain ⟨ds, h2, e2, k2⟩ := GoE.binds (r := evEs P cl es σl h1) (k1 m1 H1 g1)
            refine ⟨?_, m1, σl, h1, ds, h2, R1, g1.slots R Sl, e2, fun m2 vs H2 g2 R2 r2 => ⟨m2, h2, d1, ds, R2, g2.rel R1 r1, r2, k2 m2 H2 g2⟩⟩
            cases d1 with
            | tup t => obtain ⟨q, vs, e3, e4, _⟩ := r1; exact ⟨q, vs, e3, e4⟩
            | ref a =>
              exfalso
              unfold tyOf at eT
              simp only at eT
              split at eT <;> cases eT
            | _ => cases eT
          have dic : ∀ {id : String} (slot : Slot "dict" (bmS mm) id) (hty : typeOf (.builtin id) = pure (.type "method_descriptor")) (hm : MtR X id (rM X .dict mm)), T = .dict → wpAny (model X.prog X.w) X.A (eval (.Call (.Attribute v (bmS mm) p1) (x :: xs) [] p) X.env) (EP X pins σ Q) X.xe s := by
            intro id slot hty hm hT
            subst hT
            refine (pe_bmD slot hty hm i1.1 ih.1 hbase hfew hl st an).run pins s σ H Q I ⟨m, σl, hh, R, Sl, d1, h1, e1, fun m1 y H1 g1 R1 r1 => ?_⟩
            obtain ⟨ds, h2, e2, k2⟩ := GoE.binds (r := evEs P cl es σl h1) (k1 m1 H1 g1)
            refine ⟨?_, m1, σl, h1, ds, h2, R1, g1.slots R Sl, e2, fun m2 vs H2 g2 R2 r2 => ⟨m2, h2, d1, ds, R2, g2.rel R1 r1, r2, k2 m2 H2 g2⟩⟩
            cases d1 with
            | ref a =>
              unfold tyOf at eT
              simp only at eT
              split at eT <;> first | (cases eT; done) | skip
              · rename_i kvs ea
                obtain ⟨q, ys, e3, _, e4, _⟩ := rep_dic R1 ea r1
                exact ⟨q, ys, e3, .inl e4⟩
              · rename_i kvs ea
                obtain ⟨q, rfl, em⟩ := r1
                obtain ⟨q', eq, ys, o, hp, _⟩ := R1.obj a _ ea
                rw [em] at eq; cases eq
                exact ⟨q, ys, rfl, .inr ⟨o, hp⟩⟩
            | _ => cases eT
          cases e2 : evEs P cl es σl h1 with
          | none => rw [e2] at z; cases z
          | some q2 =>
            rw [e2] at z
            simp only [Option.bind_some] at z
            cases mm with
            | append => cases T <;> first | (cases z; done) | exact lst PySem.F.slot_list_append PySem.F.type_list_append mt_app rfl
            | extend => cases T <;> first | (cases z; done) | exact lst PySem.F.slot_list_extend PySem.F.type_list_extend mt_ext rfl
            | insert => cases T <;> first | (cases z; done) | exact lst PySem.F.slot_list_insert PySem.F.type_list_insert mt_ins rfl
            | pop => cases T <;> first | (cases z; done) | exact lst PySem.F.slot_list_pop PySem.F.type_list_pop mt_pop0 rfl | exact dic PySem.F.slot_dict_pop PySem.F.type_dict_pop (mt_dp G.hu) rfl
            | index => cases T <;> first | (cases z; done) | exact tup PySem.F.slot_tuple_index PySem.F.type_tuple_index mt_tidx rfl
            | get => cases T <;> first | (cases z; done) | exact dic PySem.F.slot_dict_get PySem.F.type_dict_get (mt_dg G.hu) rfl
            | join => cases T <;> first | (cases z; done) | exact str PySem.F.slot_str_join PySem.F.type_str_join mt_jn rfl
            | _ => cases T <;> cases z⟩
    exact ⟨hp, pt_plain hp fun _ => rfl⟩
  | .cm o mm es, sc, X, e, G, S, ok, h => by
    obtain ⟨v, p1, l, p, rfl, hline, h1, h2⟩ := inv_cm h
    have ok' : (okE sc N o = true ∧ okEs sc N es = true) ∧ exsLen es < 20 := by simpa [okE] using ok
    have i1 := pe_of o G S ok'.1.1 h1
    have ih := pas_of es G S ok'.1.2 h2
    have pl := plns_of h2
    have hl2 := reEs_len h2
    have hbase : attributeBase v (nmS mm) X.env (eval v X.env) = eval v X.env := attr_base G S ok'.1.1 h1
    have hp : PE X (.Call (.Attribute v (nmS mm) p1) l [] p) (tI P cl X.K X.mg (.cm o mm es)) := ⟨fun pins s σ H Q I ⟨m, σl, hh, R, Sl, g⟩ => by
      obtain ⟨d1, h1, e1, k1⟩ := GoE.bind (r := evE P cl o σl hh) g
      obtain ⟨dr, hr, z, _⟩ := id g
      have z : ((evE P cl o σl hh).bind fun p => match p.1 with
        | .ref a => match p.2[a]? with
          | some (.ins C _) => ((P.cls C).bind fun c => c.mts.lookup mm).bind fun f => (evEs P cl es σl p.2).bind fun q => cl f (.ref a :: q.1) q.2
          | _ => none
        | _ => none) = some (dr, hr) := z
      rw [e1] at z
      simp only [Option.bind_some] at z
      split at z
      · rename_i a
        split at z
        · rename_i C fs ea
          simp only [ea] at k1
          cases ec : P.cls C with
          | none => rw [ec] at z; cases z
          | some c =>
            simp only [ec, Option.bind_some] at z k1
            cases em : c.mts.lookup mm with
            | none => rw [em] at z; cases z
            | some f =>
              simp only [em, Option.bind_some] at z k1
              cases e2 : evEs P cl es σl h1 with
              | none => rw [e2] at z; cases z
              | some p2 =>
                obtain ⟨ds, h2⟩ := p2
                simp only [e2, Option.bind_some] at z k1
                obtain ⟨F, k, q, fd, ps, dvs, dsV, ds', hF, A, b1, b2, hl, e3, b3⟩ := call_fill G z
                obtain ⟨Ca, c1, c2, c3, c4, _⟩ := G.C.cls C c ec
                obtain ⟨q', c5, M⟩ := c4 mm f em
                have : q = q' := by have := A.at_; rw [c5] at this; exact (Option.some.inj this).symm
                subst this
                have rk : Room k X.A := A.room.mono (by omega)
                have tr := mcall_tree (pos := p) hbase pl (by rw [hl2]; exact ok'.2) hline
                have body : ∀ m1 x H1, Go m hh H m1 h1 H1 → Rep X.K X.mg m1 h1 H1 → RelD X.K X.mg m1 H1 (.ref a) x → ∃ pa dx fv, x = .ref pa ∧ H1 pa = some (.ins Ca dx fv) ∧ fv.lookup (nmS mm) = none := by
                  intro m1 x H1 g1 R1 r1
                  obtain ⟨pa, Ca', dx, fv, ep, _, e5, e6, _, rf, hq⟩ := rep_ins R1 ea r1
                  rw [c1] at e6; cases e6
                  exact ⟨pa, dx, fv, ep, e5, relf_none M rf fun z hz => (hq z hz).2⟩
                have args : ∀ m1 pa H1, Go m hh H m1 h1 H1 → Rep X.K X.mg m1 h1 H1 → RelD X.K X.mg m1 H1 (.ref a) (.ref pa) → tIs P cl X.K X.mg es σ H1 (fun vs H2 => spI P cl X.K X.mg f (.ref pa :: (vs ++ dvs)) H2 Q E0) := by
                  intro m1 pa H1 g1 R1 r1
                  refine ⟨m1, σl, h1, ds, h2, R1, g1.slots R Sl, e2, fun m2 vs H2 g2 R2 r2 => ⟨m2, h2, ds', R2, b3 m2 H2 (.ref pa :: vs) ⟨_, _, rfl, g2.rel R1 r1, r2⟩, ⟨F, hF, hl⟩, ?_⟩⟩
                  obtain ⟨d', h', ez, kz⟩ := k1 m1 H1 g1
                  have ez : cl f (.ref a :: ds) h2 = some (d', h') := ez
                  have z : cl f (.ref a :: ds) h2 = some (dr, hr) := z
                  rw [z] at ez; cases ez
                  exact ⟨dr, hr, e3, fun m3 v H3 g3 R3 r3 => kz m3 v H3 (g2.trans g3) R3 r3⟩
                cases l with
                | nil =>
                  have : es = .nil := by
                    cases es with
                    | nil => rfl
                    | cons a b => cases h2
                  subst this
                  refine (pe_meth0 i1.1 c2 M A.ok rk b2 b1 pass0 tr).run pins s σ H Q I ⟨m, σl, hh, R, Sl, _, h1, e1, fun m1 x H1 g1 R1 r1 => ?_⟩
                  obtain ⟨pa, dx, fv, rfl, e5, e6⟩ := body m1 x H1 g1 R1 r1
                  refine ⟨pa, dx, fv, rfl, e5, e6, ?_⟩
                  obtain ⟨m', σl', h', ds'', h'', R', Sl', e1', k'⟩ := args m1 pa H1 g1 R1 r1
                  cases e1'
                  exact k' m' [] H1 Go.refl R' rfl
                | cons y ys =>
                  refine (pe_meth i1.1 c2 M A.ok rk b2 b1 pass0 ih.1 ((pl y List.mem_cons_self).star _ _) (plns_any (fun e he => pl e (List.mem_cons_of_mem _ he)) _ _) tr).run pins s σ H Q I ⟨m, σl, hh, R, Sl, _, h1, e1, fun m1 x H1 g1 R1 r1 => ?_⟩
                  obtain ⟨pa, dx, fv, rfl, e5, e6⟩ := body m1 x H1 g1 R1 r1
                  exact ⟨pa, dx, fv, rfl, e5, e6, args m1 pa H1 g1 R1 r1⟩
        · cases z
      · cases z⟩
    exact ⟨hp, pt_plain hp fun _ => rfl⟩
  | .fld o f, sc, X, e, G, S, ok, h => by
    obtain ⟨v, p, rfl, h1⟩ := inv_fld h
    have i1 := pe_of o G S ok h1
    have hbase : attributeBase v (nmS f) X.env (eval v X.env) = eval v X.env := attr_base (o := o) G S ok h1
    have hp : PE X (.Attribute v (nmS f) p) (tI P cl X.K X.mg (.fld o f)) := ⟨fun pins s σ H Q I ⟨m, σl, h, R, Sl, g⟩ => by
      refine (pe_fld i1.1 hbase).run pins s σ H Q I ?_
      obtain ⟨d1, h1, e1, k1⟩ := GoE.bind (r := evE P cl o σl h) g
      refine ⟨m, σl, h, R, Sl, d1, h1, e1, fun m1 x H1 g1 R1 r1 => ?_⟩
      have k2 := k1 m1 H1 g1
      obtain ⟨dr, hr, z, kz⟩ := id k2
      simp only at z
      split at z
      · rename_i a
        split at z
        · rename_i C fs ea
          cases el : fs.lookup f with
          | none => rw [el] at z; cases z
          | some d =>
            rw [el] at z
            cases z
            obtain ⟨pa, Ca, dx, fv, rfl, _, e5, e6, e7, rf, hq⟩ := rep_ins R1 ea r1
            obtain ⟨_, w, l1, l2⟩ := relf_look rf (fun q h => (hq q h).1) el
            obtain ⟨q, hq1, hq2⟩ := lookup_in el
            refine ⟨pa, Ca, dx, fv, w, rfl, e5, e7, ?_, l1, kz m1 w H1 Go.refl R1 l2⟩
            rw [← hq2]; exact (hq q hq1).2
        · cases z
      · cases z⟩
    exact ⟨hp, pt_plain hp fun _ => rfl⟩
  | .lc sc' e' t s ts, sc, X, e, G, S, ok, h => by
    obtain ⟨x, tg, it, ifs, scope, p, rfl, L⟩ := inv_lc h
    have ok' : (((okI sc N s = true ∧ okLc sc N sc' t = true) ∧ okE sc' N e' = true) ∧ okEs sc' N ts = true) ∧ exsLen ts < 2 := by simpa [okE] using ok
    have hp : PE X (.ListComp x [⟨tg, it, ifs, 0⟩] scope p) (tI P cl X.K X.mg (.lc sc' e' t s ts)) := ⟨fun pins s0 σ H Q I ⟨m, σl, h, R, Sl, g⟩ => by
      have ih := pis_of s (tg := tg) G S ok'.1.1.1.1 L.s
      have okt : okT sc' N t = true := by have := ok'.1.1.1.2; simp only [okLc, Bool.and_eq_true] at this; exact this.1.1.1.1.1.1
      have C := fun s H C cl' fp => lc_ctx (scope := scope) G ok'.1.1.1.2 L.names s H C cl' fp
      have hv : ((tgSl t).map fun i => (nmS (N.getD i 0), i)).map (·.2) = tgSl t := by rw [List.map_map]; exact List.map_id _
      have pl := pe_lc (te := tI P cl X.K X.mg e') (tt := tTsI P cl X.K X.mg ts) (g := gI X.K X.mg (tgSl t) t) (own := (tgSl t).map fun i => (nmS (N.getD i 0), i)) (pos := p) G.calm G.nd ih.1 (lc_blk G S ok'.1.1.1.2 L.kind L.names) (fun s H Cx cl' fp => pg_of (ws := tgSl t) t (C s H Cx cl' fp).1 (C s H Cx cl' fp).2 okt L.t fun _ h => h)
        (fun s H Cx cl' fp => pts_of ts (C s H Cx cl' fp).1 (C s H Cx cl' fp).2 ok'.1.2 ok'.2 L.ts) (fun s H Cx cl' fp => (pe_of e' (C s H Cx cl' fp).1 (C s H Cx cl' fp).2 ok'.1.1.2 L.e).1) (fun z => ih.2 _ _)
      rw [hv] at pl
      refine pl.run pins s0 σ H Q I ?_
      obtain ⟨dr, hr, z, kz⟩ := g
      have z : ((evIs P cl s σl h).bind fun p => (lcL (tgA t) (evTs P cl ts) (evE P cl e') p.2.1 p.1 (FK.wipe σl (tgSl t)) [] p.1 p.2.2).bind fun q => alloc q.2 (.lst q.1)) = some (dr, hr) := z
      cases q1 : evIs P cl s σl h with
      | none => rw [q1] at z; cases z
      | some p1 =>
        obtain ⟨xs, gg, h1⟩ := p1
        rw [q1] at z
        simp only [Option.bind_some] at z
        cases q2 : lcL (tgA t) (evTs P cl ts) (evE P cl e') gg xs (FK.wipe σl (tgSl t)) [] xs h1 with
        | none => rw [q2] at z; cases z
        | some p2 =>
          obtain ⟨ys, hf⟩ := p2
          rw [q2] at z
          cases z
          refine ⟨m, σl, h, xs, gg, h1, R, Sl, q1, fun m1 H1 J g1 R1 j => ?_⟩
          refine lc_run R1 (g1.slots R Sl) j (stays_of s q1) q2 fun D m2 H2 vs hD g2 R2 no eD rys => ?_
          obtain ⟨m3, g3, R3, em, _⟩ := go_adopt R2 g2 hD no (o := .lst ys) rfl fun m' l => ⟨vs, eD, RelDs.mono (fun _ _ z => z) l rys⟩
          exact kz m3 (.ref D) H2 (g1.trans g3) R3 ⟨D, rfl, em⟩⟩
    exact ⟨hp, pt_plain hp fun _ => rfl⟩
  | .lcb f sc' e' t s ts, sc, X, e, G, S, ok, h => by
    obtain ⟨p1, x, tg, it, ifs, scope, p2, p, rfl, L⟩ := inv_lcb h
    have ok1 : (((((isGlo sc (cBf f) = true ∧ okI sc N s = true) ∧ okLc sc N sc' t = true) ∧ okE sc' N e' = true) ∧ okEs sc' N ts = true) ∧ exsLen ts < 2) := by
      simp only [okE, Bool.and_eq_true, decide_eq_true_eq] at ok; exact ok.1
    have hg : Gl X (bfS f) := by rw [bf_nm]; exact glo_name S ok1.1.1.1.1.1
    have hp : PE X (.Call (.Name (bfS f) p1) [.ListComp x [⟨tg, it, ifs, 0⟩] scope p2] [] p) (tI P cl X.K X.mg (.lcb f sc' e' t s ts)) := ⟨fun pins s0 σ H Q I ⟨m, σl, h, R, Sl, g⟩ => by
      have ih := pis_of s (tg := tg) G S ok1.1.1.1.1.2 L.s
      have okt : okT sc' N t = true := by have := ok1.1.1.1.2; simp only [okLc, Bool.and_eq_true] at this; exact this.1.1.1.1.1.1
      have C := fun s H C cl' fp => lc_ctx (scope := scope) G ok1.1.1.1.2 L.names s H C cl' fp
      have hv : ((tgSl t).map fun i => (nmS (N.getD i 0), i)).map (·.2) = tgSl t := by rw [List.map_map]; exact List.map_id _
      have pl := pe_lc (te := tI P cl X.K X.mg e') (tt := tTsI P cl X.K X.mg ts) (g := gI X.K X.mg (tgSl t) t) (own := (tgSl t).map fun i => (nmS (N.getD i 0), i)) (pos := p2) G.calm G.nd ih.1 (lc_blk G S ok1.1.1.1.2 L.kind L.names) (fun s H Cx cl' fp => pg_of (ws := tgSl t) t (C s H Cx cl' fp).1 (C s H Cx cl' fp).2 okt L.t fun _ h => h)
        (fun s H Cx cl' fp => pts_of ts (C s H Cx cl' fp).1 (C s H Cx cl' fp).2 ok1.1.2 ok1.2 L.ts) (fun s H Cx cl' fp => (pe_of e' (C s H Cx cl' fp).1 (C s H Cx cl' fp).2 ok1.1.1.2 L.e).1) (fun z => ih.2 _ _)
      rw [hv] at pl
      obtain ⟨dr, hr, z, kz⟩ := g
      have z : ((evIs P cl s σl h).bind fun p => (lcL (tgA t) (evTs P cl ts) (evE P cl e') p.2.1 p.1 (FK.wipe σl (tgSl t)) [] p.1 p.2.2).bind fun q => (lcbF f q.1).map fun d => (d, q.2)) = some (dr, hr) := z
      cases q1 : evIs P cl s σl h with
      | none => rw [q1] at z; cases z
      | some w1 =>
        obtain ⟨xs, gg, h1⟩ := w1
        rw [q1] at z
        simp only [Option.bind_some] at z
        cases q2 : lcL (tgA t) (evTs P cl ts) (evE P cl e') gg xs (FK.wipe σl (tgSl t)) [] xs h1 with
        | none => rw [q2] at z; cases z
        | some w2 =>
          obtain ⟨ys, hf⟩ := w2
          rw [q2] at z
          simp only [Option.bind_some] at z
          have fin : tLc (iI P cl X.K X.mg s) (gI X.K X.mg (tgSl t) t) (tTsI P cl X.K X.mg ts) (tI P cl X.K X.mg e') (tgSl t) σ H (fun v H2 => rLb X f [v] H2 Q) := by
            refine ⟨m, σl, h, xs, gg, h1, R, Sl, q1, fun m1 H1 J g1 R1 j => ?_⟩
            refine lc_run (Q := fun v H2 => rLb X f [v] H2 Q) R1 (g1.slots R Sl) j (stays_of s q1) q2 fun D m2 H2 vs hD g2 R2 no eD rys => ?_
            exact ⟨m2, hf, D, ys, vs, rfl, eD, R2, rys, dr, hr, z, fun m3 v H3 g3 R3 r3 => kz m3 v H3 ((g1.trans g2).trans g3) R3 r3⟩
          have ty : ∀ T, bfV f = .type T → wpAny (model X.prog X.w) X.A (eval (.Call (.Name (bfS f) p1) [.ListComp x [⟨tg, it, ifs, 0⟩] scope p2] [] p) X.env) (EP X pins σ Q) X.xe s0 := fun T e => by
            have c : CallR X (.type T) (rLb X f) := by rw [← e]; exact op_lcb G.calm f
            exact (pe_callTy c hg (G.G.blt f) (by rw [bf_boot, e]) (pa_cons pl pa_nil) (bf_name f) (bf_dbg f) rfl rfl).run pins s0 σ H Q I fin
          have bl : ∀ T, bfV f = .builtin T → wpAny (model X.prog X.w) X.A (eval (.Call (.Name (bfS f) p1) [.ListComp x [⟨tg, it, ifs, 0⟩] scope p2] [] p) X.env) (EP X pins σ Q) X.xe s0 := fun T e => by
            have c : CallR X (.builtin T) (rLb X f) := by rw [← e]; exact op_lcb G.calm f
            exact (pe_callB c hg (G.G.blt f) (by rw [bf_boot, e]) (pa_cons pl pa_nil) (bf_name f) (bf_dbg f) rfl rfl).run pins s0 σ H Q I fin
          cases f <;> first | exact ty _ rfl | exact bl _ rfl⟩
    exact ⟨hp, pt_plain hp fun _ => rfl⟩
theorem pas_of : ∀ (es' : Exs) {sc : Scp} {X : Cx} {es : List Expr}, XG P AD cl N X → ScOk sc X → okEs sc N es' = true → reEs N es' es = es → PA X es (tIs P cl X.K X.mg es') ∧ ∀ pos, es' ≠ .nil → PE X (.BoolOp .And es pos) (tAndI P cl X.K X.mg es') ∧ PW X (.BoolOp .And es pos) (tAndT' P cl X.K X.mg es') ∧ PE X (.BoolOp .Or es pos) (tOrI P cl X.K X.mg es') ∧ PW X (.BoolOp .Or es pos) (tOrT' P cl X.K X.mg es')
  | .nil, sc, X, e, G, S, ok, h => by
    rw [inv_nil h]
    exact ⟨⟨fun pos pins s σ H Q I ⟨m, σl, h, ds, h', R, Sl, e1, k⟩ => by
      cases e1
      exact pa_nil.run pos pins s σ H Q I (k m [] H Go.refl R rfl)⟩, fun _ z => absurd rfl z⟩
  | .cons e' es', sc, X, e, G, S, ok, h => by
    obtain ⟨x, xs, rfl, h1, h2⟩ := inv_cons h
    have ok' : okE sc N e' = true ∧ okEs sc N es' = true := by simpa [okEs] using ok
    have i1 := pe_of e' G S ok'.1 h1
    have i2 := pas_of es' G S ok'.2 h2
    refine ⟨⟨fun pos pins s σ H Q I ⟨m, σl, h, ds, h', R, Sl, e1, k⟩ => ?_⟩, fun pos _ => bool_of h2 i1.1 i1.2 (i2.2 pos)⟩
    refine (pa_cons i1.1 i2.1 ((pln_of h1).star _ _)).run pos pins s σ H Q I ?_
    have e1 : ((evE P cl e' σl h).bind fun p => (evEs P cl es' σl p.2).bind fun q => some (p.1 :: q.1, q.2)) = some (ds, h') := e1
    cases q1 : evE P cl e' σl h with
    | none => rw [q1] at e1; cases e1
    | some p1 =>
      obtain ⟨d1, h1⟩ := p1
      rw [q1] at e1
      cases q2 : evEs P cl es' σl h1 with
      | none => simp [q2] at e1
      | some p2 =>
        obtain ⟨ds2, h2⟩ := p2
        simp [q2] at e1
        obtain ⟨rfl, rfl⟩ := e1
        exact ⟨m, σl, h, R, Sl, d1, h1, q1, fun m1 x H1 g1 R1 r1 => ⟨m1, σl, h1, ds2, h2, R1, g1.slots R Sl, q2, fun m2 vs H2 g2 R2 r2 => k m2 _ H2 (g1.trans g2) R2 ⟨x, vs, rfl, g2.rel R1 r1, r2⟩⟩⟩
theorem pis_of : ∀ (s : Is) {sc : Scp} {X : Cx} {tg e : Expr}, XG P AD cl N X → ScOk sc X → okI sc N s = true → reI N s e = e → PI X tg e (iI P cl X.K X.mg s) ∧ ∀ env x, foldedSetIterable e env x = pure x
  | .ex e', sc, X, tg, e, G, S, ok, h => by
    have h : reE N e' e = e := h
    have i1 := (pe_of e' G S ok h).1
    refine ⟨⟨fun pins s σ H R I ⟨m, σl, h, xs, g, h', Rp, Sl, e1, k⟩ => ?_⟩, (pln_of h).fold⟩
    have e1 : ((evE P cl e' σl h).bind fun p => (walkOf p.1 p.2).map fun w => (w.1, w.2, p.2)) = some (xs, g, h') := e1
    cases q : evE P cl e' σl h with
    | none => rw [q] at e1; cases e1
    | some p =>
      obtain ⟨d, h1⟩ := p
      rw [q] at e1
      simp only [Option.bind_some] at e1
      cases q2 : walkOf d h1 with
      | none => rw [q2] at e1; cases e1
      | some w =>
        rw [q2] at e1
        simp only [Option.map_some] at e1
        cases e1
        unfold walkOf at q2
        split at q2
        · rename_i ys
          cases q2
          refine (pi_tup i1).run pins s σ H R I ⟨m, σl, h, Rp, Sl, .tup ys, _, q, fun m1 x H1 g1 R1 r1 => ?_⟩
          obtain ⟨a, vs, rfl, k1, k2⟩ := r1
          exact ⟨a, rfl, ⟨vs, k1.sq⟩, k m1 H1 _ g1 R1 (.inl ⟨a, vs, rfl, k1, k2, rfl⟩)⟩
        · rename_i b
          split at q2
          · rename_i kvs e3
            cases q2
            refine (pi_D i1).run pins s σ H R I ⟨m, σl, h, Rp, Sl, .ref b, _, q, fun m1 x H1 g1 R1 r1 => ?_⟩
            obtain ⟨p, rfl, em⟩ := r1
            obtain ⟨p', ep, ys, o, hp, hs, rk, nd, hl⟩ := R1.obj b _ e3
            rw [em] at ep; cases ep
            exact ⟨p, o, ys, rfl, hp, hs, k m1 H1 _ g1 R1 (.inr (.inr (.inr (.inr ⟨p, o, ys, kvs, rfl, hp, rk, rfl, rfl⟩))))⟩
          cases q3 : seqOf (.ref b) h' with
          | none => rw [q3] at q2; cases q2
          | some ys =>
            rw [q3] at q2
            cases q2
            refine (pi_list i1).run pins s σ H R I ⟨m, σl, h, Rp, Sl, .ref b, _, q, fun m1 x H1 g1 R1 r1 => ?_⟩
            obtain ⟨a, vs, rfl, em, k1, k2⟩ := rep_seq R1 q3 r1
            exact ⟨a, rfl, ⟨vs, k1⟩, k m1 H1 _ g1 R1 (.inr (.inl ⟨b, a, rfl, rfl, em⟩))⟩
        · rename_i z
          split at q2
          · cases q2
            refine (pi_str i1).run pins s σ H R I ⟨m, σl, h, Rp, Sl, .str z, _, q, fun m1 x H1 g1 R1 r1 => ?_⟩
            cases (r1 : _ = _)
            exact ⟨_, rfl, k m1 H1 _ g1 R1 (.inr (.inr (.inr (.inl ⟨z, rfl, rfl, rfl⟩))))⟩
          · cases q2
        · cases q2
  | .rng es, sc, X, tg, e, G, S, ok, h => by
    have ok' : isGlo sc 30806881253 = true ∧ okEs sc N es = true := by simpa [okI] using ok
    obtain ⟨p1, l, p, rfl, h1⟩ : ∃ p1 l p, e = .Call (.Name "range" p1) l [] p ∧ reEs N es l = l := by
      cases e with
      | Call g l ks p =>
        cases g with
        | Name x p1 =>
          injection h with h1 h2 h3
          exact ⟨p1, l, p, by rw [← h1, ← h3], h2⟩
        | _ => cases h
      | _ => cases h
    have ih := (pas_of es G S ok'.2 h1).1
    have pl := plns_of h1
    have hg : Gl X "range" := by rw [n_range]; exact glo_name S ok'.1
    refine ⟨⟨fun pins s σ H R I ⟨m, σl, h, xs, g, h', Rp, Sl, e1, k⟩ => ?_⟩, fun _ _ => rfl⟩
    have e1 : ((evEs P cl es σl h).bind fun p => (rngOf p.1).map fun xs => (xs, none, p.2)) = some (xs, g, h') := e1
    cases q : evEs P cl es σl h with
    | none => rw [q] at e1; cases e1
    | some p =>
      obtain ⟨ds, h1⟩ := p
      rw [q] at e1
      simp only [Option.bind_some] at e1
      cases q2 : rngOf ds with
      | none => rw [q2] at e1; cases e1
      | some ys =>
        rw [q2] at e1
        simp only [Option.map_some] at e1
        cases e1
        have hl : l.length = ds.length := by rw [reEs_len h1, evEs_len q]
        unfold rngOf at q2
        split at q2
        · rename_i n
          · obtain ⟨hb, q2⟩ := cIf_some q2
            cases q2
            obtain ⟨a, rfl⟩ : ∃ a, l = [a] := by
              cases l with
              | nil => cases hl
              | cons a r => cases r with
                | nil => exact ⟨a, rfl⟩
                | cons b r => simp at hl
            refine (pi_range1 hg G.G.blt2.1 ih ((pl a List.mem_cons_self).star _ _)).run pins s σ H R I ⟨m, σl, _, [.int n], _, Rp, Sl, q, fun m1 vs H1 g1 R1 r1 => ?_⟩
            obtain ⟨v, rfl, rv⟩ := rels1 r1
            cases (rv : _ = _)
            exact ⟨n, rfl, hb.1, hb.2, k m1 H1 _ g1 R1 (.inr (.inr (.inl ⟨0, n.toNat, rfl, by simp, rfl⟩)))⟩
        · rename_i n n2
          · obtain ⟨hb, q2⟩ := cIf_some q2
            cases q2
            obtain ⟨a, b, rfl⟩ : ∃ a b, l = [a, b] := by
              cases l with
              | nil => cases hl
              | cons a r => cases r with
                | nil => simp at hl
                | cons b r => cases r with
                  | nil => exact ⟨a, b, rfl⟩
                  | cons c r => simp at hl
            refine (pi_range2 hg G.G.blt2.1 ih ?_ ((pl b (by simp)).star _ _)).run pins s σ H R I ⟨m, σl, _, [.int n, .int n2], _, Rp, Sl, q, fun m1 vs H1 g1 R1 r1 => ?_⟩
            · rw [(pl a List.mem_cons_self).star, (pl b (by simp)).star]; rfl
            obtain ⟨v, w, rfl, rv, rw'⟩ := r1
            obtain ⟨v2, rfl, rv2⟩ := rels1 rw'
            cases (rv : _ = _)
            cases (rv2 : _ = _)
            exact ⟨n, n2, rfl, ⟨hb.1.1, hb.1.2, hb.2.1, hb.2.2⟩, k m1 H1 _ g1 R1 (.inr (.inr (.inl ⟨n, (n2 - n).toNat, rfl, rfl, rfl⟩)))⟩
        · cases q2
  | .zip a b, sc, X, tg, e, G, S, ok, h => by cases ok
  | .rev a, sc, X, tg, e, G, S, ok, h => by cases ok
theorem pts_of : ∀ (ts : Exs) {sc : Scp} {X : Cx} {ifs : List Expr}, XG P AD cl N X → ScOk sc X → okEs sc N ts = true → exsLen ts < 2 → reEs N ts ifs = ifs → PTs X ifs (tTsI P cl X.K X.mg ts)
  | .nil, sc, X, ifs, G, S, ok, hl, h => by
    rw [inv_nil h]
    exact ⟨fun pins s σ H Q I ⟨m, σl, h, b, h', R, Sl, e, k⟩ => by
      cases e
      exact pts_nil.run pins s σ H Q I (k m H Go.refl R)⟩
  | .cons c .nil, sc, X, ifs, G, S, ok, hl, h => by
    obtain ⟨x, xs, rfl, h1, h2⟩ := inv_cons h
    rw [inv_nil h2]
    have ok' : okE sc N c = true ∧ okEs sc N .nil = true := by simpa [okEs] using ok
    have i1 := (pe_of c G S ok'.1 h1).2
    exact ⟨fun pins s σ H Q I ⟨m, σl, h, b, h', R, Sl, e, k⟩ => by
      refine (pts_one i1).run pins s σ H Q I ?_
      have e : ((evE P cl c σl h).bind fun p => (truth p.1 p.2).bind fun b => if b then evTs P cl .nil σl p.2 else some (false, p.2)) = some (b, h') := e
      cases q : evE P cl c σl h with
      | none => rw [q] at e; cases e
      | some p =>
        obtain ⟨d, h1⟩ := p
        rw [q] at e
        simp only [Option.bind_some] at e
        cases q2 : truth d h1 with
        | none => rw [q2] at e; cases e
        | some b' =>
          rw [q2] at e
          simp only [Option.bind_some] at e
          refine ⟨m, σl, h, R, Sl, d, h1, b', q, q2, fun m1 H1 g1 R1 => ?_⟩
          cases b' with
          | true => cases e; exact k m1 H1 g1 R1
          | false => cases e; exact k m1 H1 g1 R1⟩
  | .cons c (.cons c2 r), sc, X, ifs, G, S, ok, hl, h => by simp only [exsLen] at hl; omega
end
end
end FK

end
section
set_option maxRecDepth 100000
set_option maxHeartbeats 4000000
/-! Fk6: the evaluator's answers are the machine's: statements. -/
namespace FK
open PySem PySem.Spec PyProof.Rows L2

section
variable (P : Pr) (cl : Nat → List D → LH → Option (D × LH)) (K : PySem.W.Frag) (mg : Str → Option Value)
noncomputable def GoS (m : MM) (h : LH) (H : Hp) (r : Option (Fl × Lc × LH)) (E : Ends) : Prop := ∃ fl σl' h', r = some (fl, σl', h') ∧ match fl with
  | .nx => ∀ m' σ' H', Go m h H m' h' H' → Rep K mg m' h' H' → SRel K mg m' H' σl' σ' → E.nx σ' H'
  | .bk => ∀ m' σ' H', Go m h H m' h' H' → Rep K mg m' h' H' → SRel K mg m' H' σl' σ' → E.bk σ' H'
  | .rt d => ∀ m' v H', Go m h H m' h' H' → Rep K mg m' h' H' → RelD K mg m' H' d v → E.rt v H'
noncomputable def tS (s : Sm) : TS := fun E σ H => ∃ m σl h, Rep K mg m h H ∧ SRel K mg m H σl σ ∧ GoS K mg m h H (evS P cl s σl h) E
noncomputable def tSs (s : Sms) : TS := fun E σ H => ∃ m σl h, Rep K mg m h H ∧ SRel K mg m H σl σ ∧ GoS K mg m h H (evSs P cl s σl h) E
end

/-! ### checks -/
noncomputable def isTup : Ex → Bool
  | .tup _ => true
  | _ => false
noncomputable def isLcE : Ex → Bool
  | .lc _ _ _ _ _ => true
  | _ => false
/-- the slot is a cell -/
noncomputable def isCelN (sc : Scp) (N : List Nat) (i : Nat) : Bool := match N[i]? with
  | some x => decide (x < 128 ^ 64) && match sc.lookup x with
    | some .cel => true
    | _ => false
  | none => false
noncomputable def isLocN (sc : Scp) (N : List Nat) (i : Nat) : Bool := match N[i]? with
  | some x => decide (x < 128 ^ 64) && match sc.lookup x with
    | some .loc => true
    | _ => false
  | none => false
noncomputable def lcTg (sc : Scp) (N : List Nat) : Tg → Bool
  | .nm i => isCelN sc N i
  | _ => false
/-- a comprehension that has no own name as slot i has it -/
noncomputable def okAsl (sc : Scp) (N : List Nat) (i : Nat) : Ex → Bool
  | .lc sc' e t s ts => isLocN sc N i && okE sc N (.lc sc' e t s ts) && sc'.all fun q => match q.2 with
    | .loc => decide (q.1 ≠ N.getD i 0)
    | .cel => decide (q.1 ≠ N.getD i 0)
    | _ => true
  | _ => false
noncomputable def isNm : Tg → Bool
  | .nm _ => true
  | _ => false
mutual
noncomputable def okS (sc : Scp) (N : List Nat) : Sm → Bool
  | .asg t e => okT sc N t && okE sc N e && (isNm t || !isTup e) && (!isLcE e || lcTg sc N t)
  | .asl i e => okAsl sc N i e
  | .six o i e => okE sc N o && okE sc N i && okE sc N e
  | .sfl o _ e => okE sc N o && okE sc N e
  | .aug i o e => isLoc sc N i && okE sc N e && match o with
    | .add => true
    | .sub => true
    | _ => false
  | .augf o _ b e => okE sc N o && okE sc N e && match b with
    | .add => true
    | .sub => true
    | _ => false
  | .exp e => okE sc N e && !isLcE e
  | .ret e => okE sc N e
  | .brk => true
  | .pas => true
  | .ife c a b => okE sc N c && okSs sc N a && okSs sc N b
  | .whl c b => okE sc N c && okSs sc N b
  | .fr t s b => okT sc N t && okI sc N s && okSs sc N b
  | .del o i => okE sc N o && okE sc N i
  | .lck _ s => okS sc N s
  | .stk => true
noncomputable def okSs (sc : Scp) (N : List Nat) : Sms → Bool
  | .nil => true
  | .cons s ss => okS sc N s && okSs sc N ss
end

section
variable {P : Pr} {AD : Nat → Option Addr} {cl : Nat → List D → LH → Option (D × LH)} {N : List Nat} {X : Cx} {sc : Scp}
/-! ### statements -/
theorem nolc_of {e' : Ex} {e : Expr} (h : reE N e' e = e) (ok : isLcE e' = false) : ∀ t l env, swapsWith e t l env = pure false := by
  cases e with
  | ListComp x g s p => cases e' <;> first | (cases h; done) | (cases ok; done)
  | SetComp x g s p => cases e' <;> cases h
  | DictComp x y g s p => cases e' <;> cases h
  | _ => exact fun _ _ _ => rfl
theorem sw_attr {e a : Expr} {f : Str} {p : Pos} {l : Nat} {env : Env} : swapsWith e (some (.Attribute a f p)) l env = pure false := by cases e <;> rfl
theorem sw_sub {e a b : Expr} {p : Pos} {l : Nat} {env : Env} : swapsWith e (some (.Subscript a b p)) l env = pure false := by cases e <;> rfl
theorem sw_cell {e : Expr} {y : Str} {p : Pos} {l : Nat} {env : Env} (h : env.kindOf y = some .cell) : swapsWith e (some (.Name y p)) l env = pure false := by
  have h1 : (env.kindOf y == some NameKind.local) = false := by rw [h]; rfl
  cases e <;> first | rfl | skip
  all_goals
    unfold swapsWith
    simp only [h1, Bool.and_false, Bool.false_and]
    done
theorem cel_name (G : XG P AD cl N X) (S : ScOk sc X) {i : Nat} (h : isCelN sc N i = true) : X.env.kindOf (nmS (N.getD i 0)) = some .cell := by
  unfold isCelN at h
  cases e : N[i]? with
  | none => rw [e] at h; cases h
  | some x =>
    rw [e] at h
    simp only [Bool.and_eq_true] at h
    have ex : N.getD i 0 = x := by simp [List.getD, e]
    rw [ex]
    cases q : sc.lookup x with
    | none => rw [q] at h; cases h.2
    | some k =>
      rw [q] at h
      cases k with
      | cel =>
        rcases (S x .cel q).1 with z | ⟨z, _⟩
        · exact z
        · cases z
      | _ => cases h.2
theorem locN_name (G : XG P AD cl N X) (S : ScOk sc X) {i : Nat} (h : isLocN sc N i = true) : X.N[i]? = some (nmS (N.getD i 0)) ∧ N.getD i 0 < 128 ^ 64 ∧ X.env.scope.names.lookup (nmS (N.getD i 0)) = some .local := by
  unfold isLocN at h
  cases e : N[i]? with
  | none => rw [e] at h; cases h
  | some x =>
    rw [e] at h
    simp only [Bool.and_eq_true, decide_eq_true_eq] at h
    have ex : N.getD i 0 = x := by simp [List.getD, e]
    rw [ex]
    refine ⟨by rw [G.N, List.getElem?_map, e]; rfl, h.1, ?_⟩
    cases q : sc.lookup x with
    | none => rw [q] at h; cases h.2
    | some k =>
      rw [q] at h
      cases k with
      | loc =>
        rcases (S x .loc q).1 with z | ⟨z, _⟩
        · exact z
        · cases z
      | _ => cases h.2
theorem notup_of {e' : Ex} {e : Expr} (h : reE N e' e = e) (ok : isTup e' = false) : ∀ l k p env, swappedStores [.Tuple l k p] e env = pure none := by
  cases e with
  | Tuple x g s => cases e' <;> first | (cases h; done) | (cases ok; done)
  | _ => exact fun _ _ _ _ => rfl

theorem GoS.seq {m : MM} {h : LH} {H : Hp} {r : Option (D × LH)} {f : D × LH → Option (Fl × Lc × LH)} {E : Ends} (g : GoS X.K X.mg m h H (r.bind f) E) : ∃ d1 h1, r = some (d1, h1) ∧ ∀ m1 H1, Go m h H m1 h1 H1 → GoS X.K X.mg m1 h1 H1 (f (d1, h1)) E := by
  obtain ⟨fl, σ', h', e, k⟩ := g
  cases r with
  | none => cases e
  | some p =>
    obtain ⟨d1, h1⟩ := p
    refine ⟨d1, h1, rfl, fun m1 H1 g1 => ⟨fl, σ', h', e, ?_⟩⟩
    cases fl with
    | nx => exact fun m' σ' H' g2 R2 S2 => k m' σ' H' (g1.trans g2) R2 S2
    | bk => exact fun m' σ' H' g2 R2 S2 => k m' σ' H' (g1.trans g2) R2 S2
    | rt d => exact fun m' v H' g2 R2 r2 => k m' v H' (g1.trans g2) R2 r2
theorem GoS.back {m m1 : MM} {h h1 : LH} {H H1 : Hp} {r : Option (Fl × Lc × LH)} {E : Ends} (g : GoS X.K X.mg m h H r E) (g1 : Go m h H m1 h1 H1) : GoS X.K X.mg m1 h1 H1 r E := by
  obtain ⟨fl, σ', h', e, k⟩ := g
  refine ⟨fl, σ', h', e, ?_⟩
  cases fl with
  | nx => exact fun m' σ' H' g2 R2 S2 => k m' σ' H' (g1.trans g2) R2 S2
  | bk => exact fun m' σ' H' g2 R2 S2 => k m' σ' H' (g1.trans g2) R2 S2
  | rt d => exact fun m' v H' g2 R2 r2 => k m' v H' (g1.trans g2) R2 r2
/-- what follows a part of a statement -/
theorem GoS.then {m : MM} {h : LH} {H : Hp} {r : Option (Fl × Lc × LH)} {f : Lc → LH → Option (Fl × Lc × LH)} {E : Ends}
    (g : GoS X.K X.mg m h H (r.bind fun p => match p with | (.nx, σ1, h1) => f σ1 h1 | (.bk, σ1, h1) => some (.bk, σ1, h1) | (.rt d, σ1, h1) => some (.rt d, σ1, h1)) E) {N : L2.St → Hp → Prop}
    (hN : ∀ m' σ1 h1 σ' H', r = some (.nx, σ1, h1) → Go m h H m' h1 H' → Rep X.K X.mg m' h1 H' → SRel X.K X.mg m' H' σ1 σ' → GoS X.K X.mg m' h1 H' (f σ1 h1) E → N σ' H') : GoS X.K X.mg m h H r { E with nx := N } := by
  obtain ⟨fl, σ', h', e, k⟩ := g
  cases r with
  | none => cases e
  | some p =>
    obtain ⟨fl1, σ1, h1⟩ := p
    cases fl1 with
    | nx => exact ⟨.nx, σ1, h1, rfl, fun m' σ'' H' g1 R1 S1 => hN m' σ1 h1 σ'' H' rfl g1 R1 S1 (GoS.back ⟨fl, σ', h', e, k⟩ g1)⟩
    | bk => cases e; exact ⟨.bk, _, _, rfl, k⟩
    | rt d => cases e; exact ⟨.rt d, _, _, rfl, k⟩

theorem ts_of {c : Ex} {σl : Lc} {h : LH} {f : Bool × LH → Option (Fl × Lc × LH)} {m : MM} {H : Hp} {E : Ends} {σ : L2.St} {Q : Bool → Hp → Prop} (R : Rep X.K X.mg m h H) (Sl : SRel X.K X.mg m H σl σ)
    (g : GoS X.K X.mg m h H ((tsE P cl c σl h).bind f) E) (k : ∀ b h1 m1 H1, tsE P cl c σl h = some (b, h1) → Go m h H m1 h1 H1 → Rep X.K X.mg m1 h1 H1 → SRel X.K X.mg m1 H1 σl σ → GoS X.K X.mg m1 h1 H1 (f (b, h1)) E → Q b H1) : tT P cl X.K X.mg c σ H Q := by
  have g0 := g
  obtain ⟨fl, σ', h', e, _⟩ := g
  unfold tsE at e
  cases q : evE P cl c σl h with
  | none => rw [q] at e; cases e
  | some p =>
    obtain ⟨d, h1⟩ := p
    rw [q] at e
    simp only [Option.bind_some] at e
    cases q2 : truth d h1 with
    | none => rw [q2] at e; cases e
    | some b =>
      have et : tsE P cl c σl h = some (b, h1) := by unfold tsE; rw [q]; simp [q2]
      refine ⟨m, σl, h, R, Sl, d, h1, b, q, q2, fun m1 H1 g1 R1 => k b h1 m1 H1 et g1 R1 (g1.slots R Sl) ?_⟩
      rw [et] at g0
      exact GoS.back g0 g1

/-- a for loop's turns -/
theorem for_run {t : Tg} {body : Sms} {g : Option Nat} {xs : List D} {m1 : MM} {h1 : LH} {H1 : Hp} {σl : Lc} {σ : L2.St} {J : It} {E : Ends} {tb : TS} (hb : ∀ E σ H, tSs P cl X.K X.mg body E σ H → tb E σ H)
    (R1 : Rep X.K X.mg m1 h1 H1) (Sl : SRel X.K X.mg m1 H1 σl σ) (j : JRel X.K X.mg m1 H1 xs g J) (st : stays g xs h1) (gs : GoS X.K X.mg m1 h1 H1 (forL (tgA t) (evSs P cl body) g xs xs σl h1) E) :
    ∃ W : Nat → Nat → L2.St → Hp → Prop, (∃ m, W 0 m σ H1) ∧ ∀ i m σ H, W i m σ H →
      (J.stop i H ∧ E.nx σ H) ∨ (J.go i H ∧ ∃ Nx : L2.St → Hp → Prop, (∀ σ' H', Nx σ' H' → ∃ m', m' < m ∧ W (i + 1) m' σ' H') ∧ ∀ x H', J.yld i H x H' → gI X.K X.mg (tgSl t) t x σ H' fun σ2 H2 => tb { E with nx := Nx, ct := Nx, bk := E.nx } σ2 H2) := by
  refine ⟨fun i n σ H => ∃ mm σm hh, n = xs.length - i ∧ i ≤ xs.length ∧ Rep X.K X.mg mm hh H ∧ SRel X.K X.mg mm H σm σ ∧ Go m1 h1 H1 mm hh H ∧ stays g xs hh ∧ GoS X.K X.mg mm hh H (forL (tgA t) (evSs P cl body) g xs (xs.drop i) σm hh) E,
    ⟨xs.length, m1, σl, h1, by omega, Nat.zero_le _, R1, Sl, Go.refl, st, by simpa using gs⟩, ?_⟩
  rintro i n σ H ⟨mm, σm, hh, rfl, hi, R, S, go, st, gs⟩
  by_cases hlt : i < xs.length
  · obtain ⟨x, hx⟩ : ∃ x, xs[i]? = some x := ⟨xs[i], by simp [hlt]⟩
    have hd : xs.drop i = x :: xs.drop (i + 1) := by
      have := List.getElem_cons_drop hlt
      rw [← this]
      congr 1
      rw [List.getElem?_eq_getElem hlt] at hx
      exact Option.some.inj hx
    rw [hd] at gs
    obtain ⟨j1, j2⟩ := jrel_go R1 R go j st hx
    refine .inr ⟨j1, fun σ' H' => ∃ mm σm hh, i + 1 ≤ xs.length ∧ Rep X.K X.mg mm hh H' ∧ SRel X.K X.mg mm H' σm σ' ∧ Go m1 h1 H1 mm hh H' ∧ stays g xs hh ∧ GoS X.K X.mg mm hh H' (forL (tgA t) (evSs P cl body) g xs (xs.drop (i + 1)) σm hh) E, fun σ' H' ⟨a, b, c, e, f⟩ => ⟨xs.length - (i + 1), by omega, a, b, c, rfl, e, f⟩, fun v H' y => ?_⟩
    obtain ⟨rfl, rv⟩ := j2 v H' y
    have gs' := gs
    obtain ⟨fl, σf, hf, e, kf⟩ := gs
    unfold forL at e
    cases q : tgA t x σm with
    | none => rw [q] at e; cases e
    | some σ1 =>
      rw [q] at e
      simp only [Option.bind_some] at e
      refine ⟨mm, hh, σm, x, σ1, R, S, rv, q, fun σ2 S2 _ => hb _ _ _ ⟨mm, σ1, hh, R, S2, ?_⟩⟩
      cases q2 : evSs P cl body σ1 hh with
      | none => rw [q2] at e; cases e
      | some p =>
        obtain ⟨fl1, σ3, h3⟩ := p
        rw [q2] at e
        simp only [Option.bind_some] at e
        cases fl1 with
        | nx =>
          simp only at e
          split at e
          · rename_i hst
            refine ⟨.nx, σ3, h3, rfl, fun m' σ' H' g2 R2 S2 => ⟨m', σ3, h3, hlt, R2, S2, go.trans g2, hst, GoS.back ⟨fl, σf, hf, e, kf⟩ g2⟩⟩
          · cases e
        | bk => cases e; exact ⟨.bk, _, _, rfl, kf⟩
        | rt d => cases e; exact ⟨.rt d, _, _, rfl, kf⟩
  · have hi' : i = xs.length := by omega
    subst hi'
    refine .inl ⟨jrel_stop R1 R go j st, ?_⟩
    rw [List.drop_length] at gs
    obtain ⟨fl, σf, hf, e, kf⟩ := gs
    cases e
    exact kf mm σ H Go.refl R S

theorem while_run {c : Ex} {body : Sms} {m1 : MM} {h1 : LH} {H1 : Hp} {σl : Lc} {σ : L2.St} {E : Ends} {tb : TS} (hb : ∀ E σ H, tSs P cl X.K X.mg body E σ H → tb E σ H)
    (R1 : Rep X.K X.mg m1 h1 H1) (Sl : SRel X.K X.mg m1 H1 σl σ) (gs : GoS X.K X.mg m1 h1 H1 (iter (whlF (tsE P cl c) (evSs P cl body)) (σl, h1)) E) : tWhile (tT P cl X.K X.mg c) tb E σ H1 := by
  obtain ⟨fl, σf, hf, e, kf⟩ := gs
  obtain ⟨n0, e0⟩ := iter_some.mp e
  refine ⟨fun n σ H => ∃ mm σm hh, Rep X.K X.mg mm hh H ∧ SRel X.K X.mg mm H σm σ ∧ Go m1 h1 H1 mm hh H ∧ iterN (whlF (tsE P cl c) (evSs P cl body)) n (σm, hh) = some (fl, σf, hf), ⟨n0, m1, σl, h1, R1, Sl, Go.refl, e0⟩, ?_⟩
  rintro n σ H ⟨mm, σm, hh, R, S, go, en⟩
  have fin : ∀ {m2 : MM} {h2 : LH} {H2 : Hp}, Go mm hh H m2 h2 H2 → GoS X.K X.mg m2 h2 H2 (some (fl, σf, hf)) E := fun {m2 h2 H2} g2 => GoS.back ⟨fl, σf, hf, rfl, kf⟩ (go.trans g2)
  cases n with
  | zero => simp [iterN] at en
  | succ n =>
    unfold iterN at en
    have gs : GoS X.K X.mg mm hh H ((tsE P cl c σm hh).bind fun _ => some (fl, σf, hf)) E := by
      cases q : tsE P cl c σm hh with
      | none =>
        have : whlF (tsE P cl c) (evSs P cl body) (σm, hh) = none := by unfold whlF; rw [q]; rfl
        rw [this] at en; cases en
      | some p => exact fin Go.refl
    refine ts_of R S gs fun b h2 m2 H2 et g2 R2 S2 _ => ?_
    unfold whlF at en
    simp only [et, Option.bind_some] at en
    cases b with
    | false =>
      simp only [Bool.false_eq_true, if_false] at en
      rw [if_neg Bool.false_ne_true]
      cases en
      exact kf m2 σ H2 (go.trans g2) R2 S2
    | true =>
      simp only [if_true] at en
      rw [if_pos rfl]
      refine ⟨fun σ' H' => ∃ mm σm hh, Rep X.K X.mg mm hh H' ∧ SRel X.K X.mg mm H' σm σ' ∧ Go m1 h1 H1 mm hh H' ∧ iterN (whlF (tsE P cl c) (evSs P cl body)) n (σm, hh) = some (fl, σf, hf), fun σ' H' q => ⟨n, Nat.lt_succ_self n, q⟩, hb _ _ _ ⟨m2, σm, h2, R2, S2, ?_⟩⟩
      cases q2 : evSs P cl body σm h2 with
      | none => rw [q2] at en; cases en
      | some p =>
        obtain ⟨fl1, σ3, h3⟩ := p
        rw [q2] at en
        simp only [Option.bind_some] at en
        cases fl1 with
        | nx => exact ⟨.nx, σ3, h3, rfl, fun m' σ' H' g3 R3 S3 => ⟨m', σ3, h3, R3, S3, (go.trans g2).trans g3, en⟩⟩
        | bk => cases en; exact ⟨.bk, _, _, rfl, fun m' σ' H' g3 R3 S3 => kf m' σ' H' ((go.trans g2).trans g3) R3 S3⟩
        | rt d => cases en; exact ⟨.rt d, _, _, rfl, fun m' v H' g3 R3 r3 => kf m' v H' ((go.trans g2).trans g3) R3 r3⟩

theorem assign_sub {e' : Ex} {o i : Expr} {pos : Pos} {env : Env} (h : reE N e' i = i) : ∀ v, assign (.Subscript o i pos) env v = (do
      let ov ← holding [v] (eval o env)
      let iv ← holding [v, ov] (eval i env)
      standAt pos
      holding [v, ov, iv] (setItem ov iv v)
      release [v, ov, iv] []) := by
  cases i with
  | Slice l u s p => cases e' <;> cases h
  | _ => intro v; rfl

mutual
theorem ps_of : ∀ (s' : Sm) {sc : Scp} {X : Cx} {s : Stmt}, XG P AD cl N X → ScOk sc X → (X.xe = fun _ _ => False) → okS sc N s' = true → reS N s' s = s → PS X s (tS P cl X.K X.mg s')
  | .asg t e, sc, X, s, G, S, xe, ok, h => by
    obtain ⟨tg, v, p, rfl, h1, h2⟩ : ∃ tg v p, s = .Assign [tg] v p ∧ reT N t tg = tg ∧ reE N e v = v := by
      cases s with
      | Assign ts v p =>
        cases ts with
        | nil => cases h
        | cons tg r => injection h with h1 h2; injection h1 with h1 h3; exact ⟨tg, v, p, by rw [← h3], h1, h2⟩
      | _ => cases h
    have ok0 : ((okT sc N t = true ∧ okE sc N e = true) ∧ (isNm t = true ∨ isTup e = false)) ∧ (isLcE e = false ∨ lcTg sc N t = true) := by simpa [okS] using ok
    have ok' := ok0.1
    have hsw : swapsWithSole [tg] v p.line X.env = pure false := by
      show swapsWith v (some tg) p.line X.env = _
      rcases ok0.2 with hl | hl
      · exact nolc_of h2 hl _ _ _
      · cases t with
        | nm i =>
          obtain ⟨q, rfl⟩ : ∃ q, tg = .Name (nmS (N.getD i 0)) q := by
            cases tg with
            | Name x q => exact ⟨q, h1.symm⟩
            | _ => cases h1
          exact sw_cell (cel_name G S hl)
        | tp ts => cases hl
    have i1 := (pe_of e G S ok'.1.2 h2).1
    have i2 := pg_of (ws := tgSl t) t G S ok'.1.1 h1 (fun _ h => h)
    have hw : swappedStores [tg] v X.env = pure none := by
      cases t with
      | nm i => cases tg <;> first | rfl | cases h1
      | tp ts =>
        cases tg <;> first | (cases h1; done) | skip
        rename_i l k q
        exact notup_of h2 (ok'.2.elim (fun z => nomatch z) id) _ _ _ _
    have h3 : (assignEach [tg] X.env).map (·.2) = [assign tg X.env] := by
      cases t with
      | nm i => cases tg <;> first | rfl | cases h1
      | tp ts => cases tg <;> first | rfl | cases h1
    refine ⟨fun pins s σ H E I ⟨m, σl, h, R, Sl, g⟩ => (ps_asg i1 i2 hsw hw h3).run pins s σ H E I ?_⟩
    obtain ⟨fl, σl', h', e1, k⟩ := g
    have e1 : ((evE P cl e σl h).bind fun p => (tgA t p.1 σl).map fun σ1 => (Fl.nx, σ1, p.2)) = some (fl, σl', h') := e1
    cases q : evE P cl e σl h with
    | none => rw [q] at e1; cases e1
    | some p =>
      obtain ⟨d, h1⟩ := p
      rw [q] at e1
      simp only [Option.bind_some] at e1
      cases q2 : tgA t d σl with
      | none => rw [q2] at e1; cases e1
      | some σ1 =>
        rw [q2] at e1
        cases e1
        exact ⟨m, σl, h, R, Sl, d, _, q, fun m1 x H1 g1 R1 r1 => ⟨m1, _, σl, d, σl', R1, g1.slots R Sl, r1, q2, fun σ' S' _ => k m1 σ' H1 g1 R1 S'⟩⟩
  | .six o i e, sc, X, s, G, S, xe, ok, h => by
    obtain ⟨a, b, p1, v, p, rfl, h1, h2, h3⟩ : ∃ a b p1 v p, s = .Assign [.Subscript a b p1] v p ∧ reE N o a = a ∧ reE N i b = b ∧ reE N e v = v := by
      cases s with
      | Assign ts v p =>
        cases ts with
        | nil => cases h
        | cons tg r =>
          cases tg with
          | Subscript a b p1 => injection h with h1 h2; injection h1 with h1 h3; injection h1 with h1 h4; exact ⟨a, b, p1, v, p, by rw [← h3], h1, h4, h2⟩
          | _ => cases h
      | _ => cases h
    have ok' : (okE sc N o = true ∧ okE sc N i = true) ∧ okE sc N e = true := by simpa [okS] using ok
    have i1 := (pe_of e G S ok'.2 h3).1
    have i2 := (pe_of o G S ok'.1.1 h1).1
    have i3 := (pe_of i G S ok'.1.2 h2).1
    have h2' := h2
    refine ⟨fun pins s σ H E I ⟨m, σl, h, R, Sl, g⟩ => ?_⟩
    obtain ⟨d, h1, e1, k1⟩ := GoS.seq (r := evE P cl e σl h) g
    obtain ⟨fl, σl', h', e4, k⟩ := id g
    have e4 : ((evE P cl e σl h).bind fun p => (evE P cl o σl p.2).bind fun q => (evE P cl i σl q.2).bind fun r =>
      match q.1 with
      | .ref a => match r.2[a]? with
        | some (.lst xs) => match r.1 with
          | .int k => (FK.ixN xs.length k).map fun j => (Fl.nx, σl, setLst r.2 a (xs.set j p.1))
          | _ => none
        | some (.dic kvs) => if keyOk r.1 ∧ kvs.length < SZ then some (.nx, σl, setDic r.2 a (dPut kvs r.1 p.1)) else none
        | _ => none
      | _ => none) = some (fl, σl', h') := e4
    rw [e1] at e4
    simp only [Option.bind_some] at e4
    cases e2 : evE P cl o σl h1 with
    | none => rw [e2] at e4; cases e4
    | some p2 =>
      obtain ⟨d2, h2⟩ := p2
      rw [e2] at e4
      simp only [Option.bind_some] at e4
      cases e3 : evE P cl i σl h2 with
      | none => rw [e3] at e4; cases e4
      | some p3 =>
        obtain ⟨d3, h3⟩ := p3
        rw [e3] at e4
        simp only [Option.bind_some] at e4
        have start : ∀ {tset : TSet}, PSet X tset → (∀ m3 x y z H3, Go m h H m3 h3 H3 → Rep X.K X.mg m3 h3 H3 → RelD X.K X.mg m3 H3 d x → RelD X.K X.mg m3 H3 d2 y → RelD X.K X.mg m3 H3 d3 z → tset y z x H3 (fun H4 => E.nx σ H4)) → wpAny (model X.prog X.w) X.A (exec (.Assign [.Subscript a b p1] v p) X.env) (SP X pins E) X.xe s := by
          intro tset hs hk
          refine (ps_asg i1 (pg_sub i2 i3 hs (assign_sub h2')) (show swapsWith v (some (.Subscript a b p1)) p.line X.env = pure false from sw_sub) rfl rfl).run pins s σ H E I ?_
          refine ⟨m, σl, h, R, Sl, d, h1, e1, fun m1 x H1 g1 R1 r1 => ?_⟩
          refine ⟨m1, σl, h1, R1, g1.slots R Sl, d2, h2, e2, fun m2 y H2 g2 R2 r2 => ?_⟩
          refine ⟨m2, σl, h2, R2, g2.slots R1 (g1.slots R Sl), d3, h3, e3, fun m3 z H3 g3 R3 r3 => ?_⟩
          exact hk m3 x y z H3 ((g1.trans g2).trans g3) R3 (g3.rel R2 (g2.rel R1 r1)) (g3.rel R2 r2) r3
        split at e4
        · rename_i a'
          split at e4
          · rename_i xs ea
            split at e4
            · rename_i kk
              cases q : FK.ixN xs.length kk with
              | none => rw [q] at e4; cases e4
              | some jx =>
                rw [q] at e4
                cases e4
                refine start set_list fun m3 x y z H3 g3 R3 r1 r2 r3 => ?_
                obtain ⟨pp, vs, rfl, em, k5, k6⟩ := rep_lst R3 ea r2
                cases (r3 : _ = _)
                obtain ⟨g4, R4⟩ := go_set R3 ea em (k6.set r1 jx)
                exact ⟨pp, vs, kk, jx, rfl, rfl, k5, by rw [← k6.len]; exact q, k m3 σ _ (g3.trans g4) R4 (g4.slots R3 (g3.slots R Sl))⟩
            · cases e4
          · rename_i kvs ea
            split at e4
            · rename_i hk
              cases e4
              refine start (set_dic G.hu) fun m3 x y z H3 g3 R3 r1 r2 r3 => ?_
              exact ⟨m3, _, a', kvs, _, d, R3, r2, r3, r1, ea, hk.1, hk.2, fun H4 g4 R4 => k m3 σ H4 (g3.trans g4) R4 (g4.slots R3 (g3.slots R Sl))⟩
            · cases e4
          · cases e4
        · cases e4
  | .asl i e, sc, X, s, G, S, xe, ok, h => by
    cases e with
    | lc sc' e' t it ts =>
      obtain ⟨p1, v, p, rfl, hl, h2⟩ : ∃ p1 v p, s = .Assign [.Name (nmS (N.getD i 0)) p1] v p ∧ (p1.line == v.pos.line) = true ∧ reE N (.lc sc' e' t it ts) v = v := by
        cases s with
        | Assign tgs v p =>
          cases tgs with
          | nil => cases h
          | cons tg r =>
            cases tg with
            | Name x p1 =>
              have h : (if (p1.line == v.pos.line) = true then Stmt.Assign [.Name (nmS (N.getD i 0)) p1] (reE N (.lc sc' e' t it ts) v) p else .Pass P0) = .Assign (.Name x p1 :: r) v p := h
              by_cases hl : (p1.line == v.pos.line) = true
              · rw [if_pos hl] at h
                injection h with h1 h2
                injection h1 with h1 h3
                injection h1 with h1
                exact ⟨p1, v, p, by rw [← h1, ← h3], hl, h2⟩
              · rw [if_neg hl] at h; cases h
            | _ => cases h
        | _ => cases h
      obtain ⟨x, tg, itx, ifs, scope, p2, rfl, L⟩ := inv_lc h2
      have ok0 : (isLocN sc N i = true ∧ okE sc N (.lc sc' e' t it ts) = true) ∧ (sc'.all fun q => match q.2 with | .loc => decide (q.1 ≠ N.getD i 0) | .cel => decide (q.1 ≠ N.getD i 0) | _ => true) = true := by
        have ok : okAsl sc N i (.lc sc' e' t it ts) = true := ok
        unfold okAsl at ok
        simp only [Bool.and_eq_true] at ok
        exact ok
      have ok' : (((okI sc N it = true ∧ okLc sc N sc' t = true) ∧ okE sc' N e' = true) ∧ okEs sc' N ts = true) ∧ exsLen ts < 2 := by simpa [okE] using ok0.1.2
      obtain ⟨n1, n2, n3⟩ := locN_name G S ok0.1.1
      have big' : ∀ q ∈ sc', q.1 < 128 ^ 64 := by
        have := ok'.1.1.1.2
        simp only [okLc, Bool.and_eq_true] at this
        exact fun q hq => of_decide_eq_true (List.all_eq_true.mp this.1.1.1.1.1.2 q hq)
      have ha : (scope.names.any fun (n, k) => n == nmS (N.getD i 0) && (k == .local || k == .cell)) = false := by
        rw [L.names, List.any_eq_false]
        intro y hy
        obtain ⟨q, hq, rfl⟩ := List.mem_map.mp hy
        have o := List.all_eq_true.mp ok0.2 q hq
        intro hc
        simp only [Bool.and_eq_true, Bool.or_eq_true, beq_iff_eq] at hc
        have e1 : q.1 = N.getD i 0 := nmS_inj (big' q hq) n2 hc.1
        obtain ⟨qx, qk⟩ := q
        cases qk with
        | loc => exact of_decide_eq_true o e1
        | cel => exact of_decide_eq_true o e1
        | fre => rcases hc.2 with z | z <;> cases z
        | glo => rcases hc.2 with z | z <;> cases z
      refine ⟨fun pins s0 σ H E I ⟨m, σl, h, R, Sl, g⟩ => ?_⟩
      have ih := pis_of it (tg := tg) G S ok'.1.1.1.1 L.s
      have okt : okT sc' N t = true := by have := ok'.1.1.1.2; simp only [okLc, Bool.and_eq_true] at this; exact this.1.1.1.1.1.1
      have C := fun s H C cl' fp => lc_ctx (scope := scope) G ok'.1.1.1.2 L.names s H C cl' fp
      have hv : ((tgSl t).map fun i => (nmS (N.getD i 0), i)).map (·.2) = tgSl t := by rw [List.map_map]; exact List.map_id _
      have pl := ps_setLc (te := tI P cl X.K X.mg e') (tt := tTsI P cl X.K X.mg ts) (g := gI X.K X.mg (tgSl t) t) (own := (tgSl t).map fun i => (nmS (N.getD i 0), i)) (pos := p2) (spos := p) (py := p1) G.calm G.nd n1 n3
        (sw_true I.ok.kind n3 hl ha) ih.1 (lc_blk G S ok'.1.1.1.2 L.kind L.names) (fun s H Cx cl' fp => pg_of (ws := tgSl t) t (C s H Cx cl' fp).1 (C s H Cx cl' fp).2 okt L.t fun _ h => h)
        (fun s H Cx cl' fp => pts_of ts (C s H Cx cl' fp).1 (C s H Cx cl' fp).2 ok'.1.2 ok'.2 L.ts) (fun s H Cx cl' fp => (pe_of e' (C s H Cx cl' fp).1 (C s H Cx cl' fp).2 ok'.1.1.2 L.e).1) (fun z => ih.2 _ _)
      rw [hv] at pl
      refine pl.run pins s0 σ H E I ?_
      obtain ⟨fl, σl', hr, z, kz⟩ := g
      have z : (((evIs P cl it σl h).bind fun p => (lcL (tgA t) (evTs P cl ts) (evE P cl e') p.2.1 p.1 (FK.wipe σl (tgSl t)) [] p.1 p.2.2).bind fun q => alloc q.2 (.lst q.1)).bind fun p => (setSl i p.1 σl).map fun σ1 => (Fl.nx, σ1, p.2)) = some (fl, σl', hr) := z
      cases q1 : evIs P cl it σl h with
      | none => rw [q1] at z; cases z
      | some w1 =>
        obtain ⟨xs, gg, h1⟩ := w1
        rw [q1] at z
        simp only [Option.bind_some] at z
        cases q2 : lcL (tgA t) (evTs P cl ts) (evE P cl e') gg xs (FK.wipe σl (tgSl t)) [] xs h1 with
        | none => rw [q2] at z; cases z
        | some w2 =>
          obtain ⟨ys, hf⟩ := w2
          rw [q2] at z
          simp only [Option.bind_some, alloc] at z
          unfold setSl at z
          split at z
          · cases z
            refine ⟨m, σl, h, xs, gg, h1, R, Sl, q1, fun m1 H1 J g1 R1 j => ?_⟩
            refine lc_run (Q := fun x H1 => gName i x σ H1 E.nx) R1 (g1.slots R Sl) j (stays_of it q1) q2 fun D m2 H2 vs hD g2 R2 no eD rys => ?_
            obtain ⟨m3, g3, R3, em, _⟩ := go_adopt R2 g2 hD no (o := .lst ys) rfl fun m' l => ⟨vs, eD, RelDs.mono (fun _ _ z => z) l rys⟩
            exact kz m3 _ H2 (g1.trans g3) R3 (SRel.set (d := .ref hf.length) ⟨D, rfl, em⟩ i (g3.slots R1 (g1.slots R Sl)))
          · cases z
    | _ => exact absurd ok (by simp [okS, okAsl])
  | .sfl o f e, sc, X, s, G, S, xe, ok, h => by
    obtain ⟨a, p1, v, p, rfl, h1, h2⟩ : ∃ a p1 v p, s = .Assign [.Attribute a (nmS f) p1] v p ∧ reE N o a = a ∧ reE N e v = v := by
      cases s with
      | Assign ts v p =>
        cases ts with
        | nil => cases h
        | cons tg r =>
          cases tg with
          | Attribute a x p1 => injection h with h1 h2; injection h1 with h1 h3; injection h1 with h1 h4; exact ⟨a, p1, v, p, by rw [← h3, ← h4], h1, h2⟩
          | _ => cases h
      | _ => cases h
    have ok' : okE sc N o = true ∧ okE sc N e = true := by simpa [okS] using ok
    have i1 := (pe_of o G S ok'.1 h1).1
    have i2 := (pe_of e G S ok'.2 h2).1
    refine ⟨fun pins s σ H E I ⟨m, σl, h, R, Sl, g⟩ => (ps_fld i1 i2 sw_attr).run pins s σ H E I ?_⟩
    obtain ⟨d, h1, e1, k1⟩ := GoS.seq (r := evE P cl e σl h) g
    refine ⟨m, σl, h, R, Sl, d, h1, e1, fun m1 x H1 g1 R1 r1 => ?_⟩
    obtain ⟨d2, h2, e2, k2⟩ := GoS.seq (r := evE P cl o σl h1) (k1 m1 H1 g1)
    refine ⟨m1, σl, h1, R1, g1.slots R Sl, d2, h2, e2, fun m2 y H2 g2 R2 r2 => ?_⟩
    obtain ⟨fl, σl', h', e4, k⟩ := k2 m2 H2 g2
    simp only at e4
    split at e4
    · rename_i a'
      split at e4
      · rename_i C fs ea
        split at e4
        · rename_i hf
          cases e4
          obtain ⟨pp, rfl, em⟩ := id r2
          obtain ⟨Ca, dx, fv, f1, f2, f3, f4, g3, R3⟩ := go_fld G.C R2 ea r2 (g2.rel R1 r1) hf.1
          exact ⟨pp, Ca, dx, fv, rfl, f1, f2, f3, by omega, k m2 σ _ g3 R3 (g3.slots R2 (g2.slots R1 (g1.slots R Sl)))⟩
        · cases e4
      · cases e4
    · cases e4
  | .aug i o e, sc, X, s, G, S, xe, ok, h => by
    obtain ⟨p1, v, p, rfl, h2⟩ : ∃ p1 v p, s = .AugAssign (.Name (nmS (N.getD i 0)) p1) (bopO o) v p ∧ reE N e v = v := by
      cases s with
      | AugAssign tg op v p =>
        cases tg with
        | Name x p1 => injection h with h1 h2 h3; exact ⟨p1, v, p, by rw [← h1, ← h2], h3⟩
        | _ => cases h
      | _ => cases h
    have ok1 : isLoc sc N i = true ∧ okE sc N e = true := by
      simp only [okS, Bool.and_eq_true] at ok; exact ok.1
    obtain ⟨x, n1, n2, n3, n4⟩ := loc_name G S ok1.1
    rw [n1]
    have i1 := (pe_of e G S ok1.2 h2).1
    have step : ∀ (f : Int → Int → Int), PIp X (bopO o) (ipI f) → (∀ a b h, binop o (.int a) (.int b) h = some (.int (f a b), h)) → PS X (.AugAssign (.Name (nmS x) p1) (bopO o) v p) (tS P cl X.K X.mg (.aug i o e)) := by
      intro f hp hf
      refine ⟨fun pins s σ H E I ⟨m, σl, h, R, Sl, g⟩ => (ps_aug (i := i) G.nd n2 n3 i1 hp n4).run pins s σ H E I ?_⟩
      obtain ⟨fl, σl', h', e1, k⟩ := g
      have e1 : (match σl[i]? with | some (some d) => (evE P cl e σl h).bind (fun p => (match d, p.1 with | .int x, .int y => (binop o (.int x) (.int y) p.2).bind fun q => (setSl i q.1 σl).map fun σ1 => (Fl.nx, σ1, q.2) | _, _ => none)) | _ => none) = some (fl, σl', h') := e1
      split at e1
      · rename_i d ed
        obtain ⟨w, w1, w2⟩ := Sl.get ed
        cases q : evE P cl e σl h with
        | none => rw [q] at e1; cases e1
        | some pp =>
          obtain ⟨d2, h2⟩ := pp
          rw [q] at e1
          simp only [Option.bind_some] at e1
          split at e1
          · rename_i a b
            rw [hf] at e1
            simp only [Option.bind_some] at e1
            unfold setSl at e1
            split at e1
            · cases e1
              cases (w2 : _ = _)
              refine ⟨_, w1, m, σl, h, R, Sl, _, _, q, fun m1 y H1 g1 R1 r1 => ?_⟩
              cases (r1 : _ = _)
              exact ⟨a, b, rfl, rfl, k m1 _ H1 g1 R1 (SRel.set (d := .int (f a b)) rfl i (g1.slots R Sl))⟩
            · cases e1
          · cases e1
      · cases e1
    cases o with
    | add => exact step _ ip_add (fun _ _ _ => rfl)
    | sub => exact step _ ip_sub (fun _ _ _ => rfl)
    | _ => simp [okS] at ok
  | .augf o f b e, sc, X, s, G, S, xe, ok, h => by
    obtain ⟨a, p1, v, p, rfl, h1, h2⟩ : ∃ a p1 v p, s = .AugAssign (.Attribute a (nmS f) p1) (bopO b) v p ∧ reE N o a = a ∧ reE N e v = v := by
      cases s with
      | AugAssign tg op v p =>
        cases tg with
        | Attribute a x p1 => injection h with h1 h2 h3; injection h1 with h1 h4; exact ⟨a, p1, v, p, by rw [← h4, ← h2], h1, h3⟩
        | _ => cases h
      | _ => cases h
    have ok' : okE sc N o = true ∧ okE sc N e = true := by
      simp only [okS, Bool.and_eq_true] at ok; exact ok.1
    have i1 := (pe_of o G S ok'.1 h1).1
    have i2 := (pe_of e G S ok'.2 h2).1
    have step : ∀ (F : Int → Int → Int), InOp X (bopO b) (fun x y H Q => ∃ i j, x = .int i ∧ y = .int j ∧ Q (.int (F i j)) H) → (∀ x y h, binop b (.int x) (.int y) h = some (.int (F x y), h)) → PS X (.AugAssign (.Attribute a (nmS f) p1) (bopO b) v p) (tS P cl X.K X.mg (.augf o f b e)) := by
      intro F hop hF
      refine ⟨fun pins s σ H E I ⟨m, σl, h, R, Sl, g⟩ => (ps_fldaug i1 i2 hop).run pins s σ H E I ?_⟩
      obtain ⟨d, h1, e1, k1⟩ := GoS.seq (r := evE P cl o σl h) g
      refine ⟨m, σl, h, R, Sl, d, h1, e1, fun m1 x H1 g1 R1 r1 => ?_⟩
      obtain ⟨fl, σl', h', e4, k⟩ := k1 m1 H1 g1
      simp only at e4
      split at e4
      · rename_i a'
        split at e4
        · rename_i C fs ea
          cases el : fs.lookup f with
          | none => rw [el] at e4; cases e4
          | some d0 =>
            rw [el] at e4
            simp only [Option.bind_some] at e4
            cases e2 : evE P cl e σl h1 with
            | none => rw [e2] at e4; cases e4
            | some p2 =>
              obtain ⟨d2, h2⟩ := p2
              rw [e2] at e4
              simp only [Option.bind_some] at e4
              split at e4
              · rename_i x0 y0
                rw [hF] at e4
                simp only [Option.bind_some] at e4
                split at e4
                · rename_i C' fs' ea'
                  split at e4
                  · rename_i hf
                    obtain ⟨rfl, hf⟩ := hf
                    cases e4
                    obtain ⟨pa, Ca, dx, fv, rfl, em, e5, e6, e7, rf, hq⟩ := rep_ins R1 ea r1
                    obtain ⟨_, w, l1, l2⟩ := relf_look rf (fun q h => (hq q h).1) el
                    obtain ⟨q, hq1, hq2⟩ := lookup_in el
                    cases (l2 : _ = _)
                    refine ⟨pa, Ca, dx, fv, .int x0, rfl, e5, e7, by rw [← hq2]; exact (hq q hq1).2, l1, m1, σl, h1, R1, g1.slots R Sl, _, h2, e2, fun m2 y H2 g2 R2 r2 => ?_⟩
                    cases (r2 : _ = _)
                    obtain ⟨Ca', dx', fv', f1, f2, f3, f4, g3, R3⟩ := go_fld (d := .int (F x0 y0)) (v := .int (F x0 y0)) G.C R2 ea' (g2.rel R1 r1) rfl hf.1
                    have : Ca' = Ca := by
                      obtain ⟨pb, Cb, dxb, fvb, eb, _, eb5, eb6, _⟩ := rep_ins R2 ea' (g2.rel R1 r1)
                      cases eb
                      rw [e6] at eb6; cases eb6
                      rw [f1] at eb5; cases eb5
                      rfl
                    subst this
                    exact ⟨x0, y0, rfl, rfl, dx', fv', f1, by omega, k m2 σ _ (g2.trans g3) R3 (g3.slots R2 (g2.slots R1 (g1.slots R Sl)))⟩
                  · cases e4
                · cases e4
              · cases e4
        · cases e4
      · cases e4
    cases b with
    | add => exact step (· + ·) in_add (fun _ _ _ => rfl)
    | sub => exact step (· - ·) in_sub (fun _ _ _ => rfl)
    | _ => simp [okS] at ok
  | .exp e, sc, X, s, G, S, xe, ok, h => by
    obtain ⟨v, p, rfl, h2⟩ : ∃ v p, s = .Expr v p ∧ reE N e v = v := by
      cases s with
      | Expr v p => injection h with h1; exact ⟨v, p, rfl, h1⟩
      | _ => cases h
    have ok' : okE sc N e = true ∧ isLcE e = false := by simpa [okS] using ok
    have i1 := (pe_of e G S ok'.1 h2).1
    refine ⟨fun pins s σ H E I ⟨m, σl, h, R, Sl, g⟩ => (ps_expr i1 (nolc_of h2 ok'.2 _ _ _)).run pins s σ H E I ?_⟩
    obtain ⟨fl, σl', h', e1, k⟩ := g
    have e1 : (evE P cl e σl h).map (fun p => (Fl.nx, σl, p.2)) = some (fl, σl', h') := e1
    cases q : evE P cl e σl h with
    | none => rw [q] at e1; cases e1
    | some p =>
      rw [q] at e1
      cases e1
      exact ⟨m, σl, h, R, Sl, p.1, p.2, q, fun m1 x H1 g1 R1 r1 => k m1 σ H1 g1 R1 (g1.slots R Sl)⟩
  | .ret e, sc, X, s, G, S, xe, ok, h => by
    cases s with
    | Return v p =>
      injection h with h1
      cases v with
      | none =>
        have e0 : e = .non := by cases e <;> first | rfl | cases h1
        subst e0
        refine ⟨fun pins s σ H E I ⟨m, σl, h, R, Sl, g⟩ => ps_retN.run pins s σ H E I ?_⟩
        obtain ⟨fl, σl', h', e1, k⟩ := g
        cases e1
        exact k m _ H Go.refl R rfl
      | some v =>
        injection h1 with h1
        have i1 := (pe_of e G S ok h1).1
        refine ⟨fun pins s σ H E I ⟨m, σl, h, R, Sl, g⟩ => (ps_ret i1).run pins s σ H E I ?_⟩
        obtain ⟨fl, σl', h', e1, k⟩ := g
        have e1 : (evE P cl e σl h).map (fun p => (Fl.rt p.1, σl, p.2)) = some (fl, σl', h') := e1
        cases q : evE P cl e σl h with
        | none => rw [q] at e1; cases e1
        | some p =>
          rw [q] at e1
          cases e1
          exact ⟨m, σl, h, R, Sl, p.1, p.2, q, fun m1 x H1 g1 R1 r1 => k m1 x H1 g1 R1 r1⟩
    | _ => cases h
  | .brk, sc, X, s, G, S, xe, ok, h => by
    cases s with
    | Break p =>
      refine ⟨fun pins s σ H E I ⟨m, σl, h, R, Sl, g⟩ => ps_break.run pins s σ H E I ?_⟩
      obtain ⟨fl, σl', h', e1, k⟩ := g
      cases e1
      exact k m _ H Go.refl R Sl
    | _ => cases h
  | .pas, sc, X, s, G, S, xe, ok, h => by
    cases s with
    | Pass p =>
      refine ⟨fun pins s σ H E I ⟨m, σl, h, R, Sl, g⟩ => ps_pass.run pins s σ H E I ?_⟩
      obtain ⟨fl, σl', h', e1, k⟩ := g
      cases e1
      exact k m _ H Go.refl R Sl
    | _ => cases h
  | .ife c a b, sc, X, s, G, S, xe, ok, h => by
    obtain ⟨t, x, y, p, rfl, h1, h2, h3⟩ : ∃ t x y p, s = .If t x y p ∧ reE N c t = t ∧ reSs N a x = x ∧ reSs N b y = y := by
      cases s with
      | If t x y p => injection h with h1 h2 h3; exact ⟨t, x, y, p, rfl, h1, h2, h3⟩
      | _ => cases h
    have ok' : (okE sc N c = true ∧ okSs sc N a = true) ∧ okSs sc N b = true := by simpa [okS] using ok
    have i1 := (pe_of c G S ok'.1.1 h1).2
    have i2 := pss_of a G S xe ok'.1.2 h2
    have i3 := pss_of b G S xe ok'.2 h3
    refine ⟨fun pins s σ H E I ⟨m, σl, h, R, Sl, g⟩ => (ps_if i1 i2 i3).run pins s σ H E I ?_⟩
    refine ts_of R Sl (f := fun p => if p.1 then evSs P cl a σl p.2 else evSs P cl b σl p.2) g fun bb h1 m1 H1 et g1 R1 S1 gs => ?_
    cases bb with
    | true => rw [if_pos rfl]; exact ⟨m1, σl, h1, R1, S1, gs⟩
    | false => rw [if_neg Bool.false_ne_true]; exact ⟨m1, σl, h1, R1, S1, gs⟩
  | .whl c b, sc, X, s, G, S, xe, ok, h => by
    obtain ⟨t, x, p, rfl, h1, h2⟩ : ∃ t x p, s = .While t x [] p ∧ reE N c t = t ∧ reSs N b x = x := by
      cases s with
      | While t x y p => injection h with h1 h2 h3; exact ⟨t, x, p, by rw [← h3], h1, h2⟩
      | _ => cases h
    have ok' : okE sc N c = true ∧ okSs sc N b = true := by simpa [okS] using ok
    have i1 := (pe_of c G S ok'.1 h1).2
    have i2 := pss_of b G S xe ok'.2 h2
    refine ⟨fun pins s σ H E I ⟨m, σl, h, R, Sl, g⟩ => (ps_while (by rw [xe]; exact PassesOwn.never) i1 i2).run pins s σ H E I ?_⟩
    exact while_run (fun _ _ _ q => q) R Sl g
  | .fr t it b, sc, X, s, G, S, xe, ok, h => by
    obtain ⟨tg, e, x, p, rfl, h1, h2, h3⟩ : ∃ tg e x p, s = .For tg e x [] p ∧ reT N t tg = tg ∧ reI N it e = e ∧ reSs N b x = x := by
      cases s with
      | For tg e x y p => injection h with h1 h2 h3 h4; exact ⟨tg, e, x, p, by rw [← h4], h1, h2, h3⟩
      | _ => cases h
    have ok' : (okT sc N t = true ∧ okI sc N it = true) ∧ okSs sc N b = true := by simpa [okS] using ok
    have i1 := pis_of it (tg := tg) G S ok'.1.2 h2
    have i2 := pg_of (ws := tgSl t) t G S ok'.1.1 h1 (fun _ h => h)
    have i3 := pss_of b G S xe ok'.2 h3
    refine ⟨fun pins s σ H E I ⟨m, σl, h, R, Sl, g⟩ => (ps_for (by rw [xe]; exact PassesOwn.never) G.calm i1.1 i2 i3 (i1.2 _)).run pins s σ H E I ?_⟩
    obtain ⟨fl, σl', h', e1, k⟩ := g
    have e1 : ((evIs P cl it σl h).bind fun p => forL (tgA t) (evSs P cl b) p.2.1 p.1 p.1 σl p.2.2) = some (fl, σl', h') := e1
    cases q : evIs P cl it σl h with
    | none => rw [q] at e1; cases e1
    | some pp =>
      obtain ⟨xs, gg, h1⟩ := pp
      rw [q] at e1
      simp only [Option.bind_some] at e1
      refine ⟨m, σl, h, xs, gg, h1, R, Sl, q, fun m1 H1 J g1 R1 j => ?_⟩
      exact for_run (fun _ _ _ q => q) R1 (g1.slots R Sl) j (stays_of it q) (GoS.back ⟨fl, σl', h', e1, k⟩ g1)
  | .del o i, sc, X, s, G, S, xe, ok, h => by
    obtain ⟨a, b, p1, p, rfl, h1, h2⟩ : ∃ a b p1 p, s = .Delete [.Subscript a b p1] p ∧ reE N o a = a ∧ reE N i b = b := by
      cases s with
      | Delete ts p =>
        cases ts with
        | nil => cases h
        | cons tg r =>
          cases tg with
          | Subscript a b p1 => injection h with h1 h2; injection h1 with h1 h3; injection h1 with h1 h4; exact ⟨a, b, p1, p, by rw [← h3], h1, h4⟩
          | _ => cases h
      | _ => cases h
    have ok' : okE sc N o = true ∧ okE sc N i = true := by simpa [okS] using ok
    have i1 := (pe_of o G S ok'.1 h1).1
    have i2 := (pe_of i G S ok'.2 h2).1
    refine ⟨fun pins s σ H E I ⟨m, σl, h, R, Sl, g⟩ => (ps_ddelE G.hu i1 i2).run pins s σ H E I ?_⟩
    obtain ⟨d, h1, e1, k1⟩ := GoS.seq (r := evE P cl o σl h) g
    refine ⟨m, σl, h, R, Sl, d, h1, e1, fun m1 x H1 g1 R1 r1 => ?_⟩
    obtain ⟨d2, h2, e2, k2⟩ := GoS.seq (r := evE P cl i σl h1) (k1 m1 H1 g1)
    refine ⟨m1, σl, h1, R1, g1.slots R Sl, d2, h2, e2, fun m2 y H2 g2 R2 r2 => ?_⟩
    obtain ⟨fl, σl', h', e4, k⟩ := k2 m2 H2 g2
    simp only at e4
    split at e4
    · rename_i a'
      split at e4
      · rename_i kvs ea
        split at e4
        · rename_i hk
          cases q : dLook kvs d2 with
          | none => rw [q] at e4; cases e4
          | some d3 =>
            rw [q] at e4
            cases e4
            exact ⟨m2, _, a', kvs, d2, d3, R2, g2.rel R1 r1, r2, ea, hk, q, fun H3 g3 R3 => k m2 σ H3 g3 R3 (g3.slots R2 (g2.slots R1 (g1.slots R Sl)))⟩
        · cases e4
      · cases e4
    · cases e4
  | .lck i s', sc, X, s, G, S, xe, ok, h => by
    have i1 := ps_of s' G S xe ok h
    refine ⟨fun pins s σ H E I ⟨m, σl, h, R, Sl, g⟩ => (ps_lock i1).run pins s σ H E I ?_⟩
    obtain ⟨fl, σl', h', e1, k⟩ := g
    have e1 : (match σl[i]? with
      | some (some (.ref a)) => match h[a]? with
        | some (.dic kvs) => (evS P cl s' σl (h.set a (.dlk kvs))).bind fun r => match r.2.2[a]? with
          | some (.dlk _) => some (r.1, r.2.1, setDic r.2.2 a kvs)
          | _ => none
        | _ => none
      | _ => none) = some (fl, σl', h') := e1
    split at e1
    · rename_i a ea0
      split at e1
      · rename_i kvs ea
        cases q : evS P cl s' σl (h.set a (.dlk kvs)) with
        | none => rw [q] at e1; cases e1
        | some r =>
          obtain ⟨fl1, σ1, h1⟩ := r
          rw [q] at e1
          simp only [Option.bind_some] at e1
          split at e1
          · rename_i ks ha
            cases e1
            obtain ⟨p, em, xs, e0, hs, rk, nd, hl⟩ := R.obj a _ ea
            refine ⟨p, _, e0, True.intro, fun od => ?_⟩
            obtain ⟨g1, R1⟩ := lock_in R od ea em hs rk nd hl
            refine ⟨m, σl, h.set a (.dlk kvs), R1, g1.slots R Sl, fl, σl', h1, q, ?_⟩
            cases fl with
            | nx =>
              intro m' σ' H' g R' S'
              obtain ⟨a1, a2, a3, a4⟩ := lock_out R od ea em hs rk nd hl g R' ha
              exact ⟨a1, k m' σ' _ a3 a4 (S'.mono a2 (fun _ _ e => e))⟩
            | bk =>
              intro m' σ' H' g R' S'
              obtain ⟨a1, a2, a3, a4⟩ := lock_out R od ea em hs rk nd hl g R' ha
              exact ⟨a1, k m' σ' _ a3 a4 (S'.mono a2 (fun _ _ e => e))⟩
            | rt d =>
              intro m' v H' g R' r
              obtain ⟨a1, a2, a3, a4⟩ := lock_out R od ea em hs rk nd hl g R' ha
              exact ⟨a1, k m' v _ a3 a4 (r.mono a2 (fun _ _ e => e))⟩
          · cases e1
      · cases e1
    · cases e1
  | .stk, sc, X, s, G, S, xe, ok, h => ⟨fun pins s σ H E I ⟨m, σl, h, R, Sl, fl, σl', h', z, _⟩ => nomatch z⟩
theorem pss_of : ∀ (s' : Sms) {sc : Scp} {X : Cx} {s : List Stmt}, XG P AD cl N X → ScOk sc X → (X.xe = fun _ _ => False) → okSs sc N s' = true → reSs N s' s = s → PSs X s (tSs P cl X.K X.mg s')
  | .nil, sc, X, s, G, S, xe, ok, h => by
    have : s = [] := h.symm
    subst this
    refine ⟨fun pins s σ H E I ⟨m, σl, h, R, Sl, g⟩ => pss_nil.run pins s σ H E I ?_⟩
    obtain ⟨fl, σl', h', e1, k⟩ := g
    cases e1
    exact k m _ H Go.refl R Sl
  | .cons s' ss', sc, X, s, G, S, xe, ok, h => by
    cases s with
    | nil => cases h
    | cons s ss =>
      injection h with h1 h2
      have ok' : okS sc N s' = true ∧ okSs sc N ss' = true := by simpa [okSs] using ok
      have i1 := ps_of s' G S xe ok'.1 h1
      have i2 := pss_of ss' G S xe ok'.2 h2
      refine ⟨fun pins s σ H E I ⟨m, σl, h, R, Sl, g⟩ => (pss_cons i1 i2).run pins s σ H E I ?_⟩
      exact ⟨m, σl, h, R, Sl, GoS.then (f := evSs P cl ss') g fun m' σ1 h1 σ' H' _ g1 R1 S1 gs => ⟨m', σ1, h1, R1, S1, gs⟩⟩
end
end
end FK

end
section
set_option maxRecDepth 100000
set_option maxHeartbeats 4000000
/-! Fk7: the defs of the text; a law's end. -/
namespace FK
open PySem PySem.Spec PyProof.Rows L2

/-! ### constants -/
section
variable (K : PySem.W.Frag) (gl : List (Nat × Value))
mutual
/-- the data's shape in the written part -/
noncomputable def cvB : D → Value → Bool
  | .non, .none => true
  | .bl _, .bool _ => true
  | .int _, .int _ _ => true
  | .str s, .str _ _ => ascii s
  | .fn _, .ref _ => true
  | .kd _, .ref _ => true
  | .tup xs, .ref a => match K.lookup a with
    | some ⟨.type T, none, .seq its _, _⟩ => decide (T = "tuple") && decide (its.size ≤ SZ) && cvBs xs its.toList
    | _ => false
  | _, _ => false
noncomputable def cvBs : List D → List Value → Bool
  | [], [] => true
  | x :: xs, v :: vs => cvB x v && cvBs xs vs
  | _, _ => false
end
mutual
/-- what is to be the same: as told, as it stands -/
noncomputable def cvP : D → Value → List (Value × Value)
  | .bl b, v => [(.bool b, v)]
  | .int i, v => match v with
    | .int _ t => [(.int i t, v)]
    | _ => []
  | .str s, v => match v with
    | .str _ t => [(.str (txS s) t, v)]
    | _ => []
  | .fn x, v => [((gl.lookup x).getD .none, v)]
  | .kd x, v => [((gl.lookup x).getD .none, v)]
  | .tup xs, v => match v with
    | .ref a => match K.lookup a with
      | some ⟨_, _, .seq its _, _⟩ => cvPs xs its.toList
      | _ => []
    | _ => []
  | _, _ => []
noncomputable def cvPs : List D → List Value → List (Value × Value)
  | x :: xs, v :: vs => cvP x v ++ cvPs xs vs
  | _, _ => []
end
end
noncomputable def Eqs (l : List (Value × Value)) : Prop := ∀ p ∈ l, p.1 = p.2
theorem eqs_of {l : List (Value × Value)} (h : l.map (·.1) = l.map (·.2)) : Eqs l := by
  induction l with
  | nil => intro p hp; cases hp
  | cons q l ih =>
    intro p hp
    injection h with h1 h2
    rcases List.mem_cons.mp hp with rfl | hp
    · exact h1
    · exact ih h2 p hp
section
variable {K : PySem.W.Frag} {gl : List (Nat × Value)} {mg : Str → Option Value}
mutual
theorem cv_ok (hmg : ∀ x v, gl.lookup x = some v → mg (nmS x) = some v ∧ x < 128 ^ 64) : ∀ {d : D} {v : Value}, cvB K d v = true → Eqs (cvP K gl d v) → ∃ u, RelV u v ∧ ∀ m H, RelD K mg m H d u
  | .non, v, h, e => by
    cases v <;> first | (cases h; done) | exact ⟨.non, rfl, fun _ _ => rfl⟩
  | .bl b, v, h, e => by
    cases v <;> first | (cases h; done) | skip
    rename_i b'
    have : Value.bool b = .bool b' := e (.bool b, .bool b') (by simp [cvP])
    cases this
    exact ⟨.bl b, rfl, fun _ _ => rfl⟩
  | .int i, v, h, e => by
    cases v <;> first | (cases h; done) | skip
    rename_i j t
    have : Value.int i t = .int j t := e (.int i t, .int j t) (by simp [cvP])
    cases this
    exact ⟨.int i, ⟨t, rfl⟩, fun _ _ => rfl⟩
  | .str s, v, h, e => by
    cases v <;> first | (cases h; done) | skip
    rename_i z t
    have : Value.str (txS s) t = .str z t := e (.str (txS s) t, .str z t) (by simp [cvP])
    have h : ascii s = true := h
    cases this
    exact ⟨.str (txS s), ⟨t, rfl⟩, fun _ _ => by rw [txS_eq h]; rfl⟩
  | .fn x, v, h, e => by
    cases v <;> first | (cases h; done) | skip
    rename_i a
    have : (gl.lookup x).getD .none = .ref a := e ((gl.lookup x).getD .none, .ref a) (by simp [cvP])
    cases q : gl.lookup x with
    | none => rw [q] at this; cases this
    | some u =>
      rw [q] at this
      have this : u = .ref a := this
      subst this
      exact ⟨.ref a, rfl, fun _ _ => ⟨a, rfl, (hmg _ _ q).1, (hmg _ _ q).2⟩⟩
  | .kd x, v, h, e => by
    cases v <;> first | (cases h; done) | skip
    rename_i a
    have : (gl.lookup x).getD .none = .ref a := e ((gl.lookup x).getD .none, .ref a) (by simp [cvP])
    cases q : gl.lookup x with
    | none => rw [q] at this; cases this
    | some u =>
      rw [q] at this
      have this : u = .ref a := this
      subst this
      exact ⟨.ref a, rfl, fun _ _ => ⟨a, rfl, (hmg _ _ q).1⟩⟩
  | .ref _, v, h, e => by cases v <;> cases h
  | .tup xs, v, h, e => by
    cases v <;> first | (cases h; done) | skip
    rename_i a
    have h : (match K.lookup a with
      | some ⟨.type T, none, .seq its _, _⟩ => decide (T = "tuple") && decide (its.size ≤ SZ) && cvBs K xs its.toList
      | _ => false) = true := h
    have e : Eqs (match K.lookup a with
      | some ⟨_, _, .seq its _, _⟩ => cvPs K gl xs its.toList
      | _ => []) := e
    split at h
    · rename_i T its n sl q
      rw [q] at e
      simp only [Bool.and_eq_true, decide_eq_true_eq] at h
      obtain ⟨⟨rfl, h1⟩, h2⟩ := h
      obtain ⟨us, u1, u2⟩ := cvs_ok hmg h2 e
      exact ⟨.ref a, rfl, fun m H => ⟨a, us, rfl, .inr ⟨_, its, n, q, rfl, rfl, rfl, by rw [SZ_line]; exact h1, u1⟩, u2 m H⟩⟩
    · cases h
theorem cvs_ok (hmg : ∀ x v, gl.lookup x = some v → mg (nmS x) = some v ∧ x < 128 ^ 64) : ∀ {ds : List D} {vs : List Value}, cvBs K ds vs = true → Eqs (cvPs K gl ds vs) → ∃ us, Vals us vs ∧ ∀ m H, RelDs K mg m H ds us
  | [], [], _, _ => ⟨[], .nil, fun _ _ => rfl⟩
  | [], _ :: _, h, _ => by cases h
  | _ :: _, [], h, _ => by cases h
  | d :: ds, v :: vs, h, e => by
    have h' : cvB K d v = true ∧ cvBs K ds vs = true := by simpa [cvBs] using h
    obtain ⟨u, a1, a2⟩ := cv_ok hmg h'.1 fun p hp => e p (by simp [cvPs, hp])
    obtain ⟨us, b1, b2⟩ := cvs_ok hmg h'.2 fun p hp => e p (by simp [cvPs, hp])
    exact ⟨u :: us, .cons a1 b1, fun m H => ⟨u, us, rfl, a2 m H, b2 m H⟩⟩
end
end

/-! ### the module's names -/
noncomputable def big : Nat := 128 ^ 64
noncomputable def glEnts (K : PySem.W.Frag) : List DictEntry := match K.lookup mainGlobals with
  | some ⟨_, _, .dict es _, _⟩ => es.toList
  | _ => []
noncomputable def reKeys : List Nat → List DictEntry → List DictEntry
  | x :: xs, e :: es => { e with key := match e.key with
      | .str _ t => .str (nmS x) t
      | _ => .str (nmS x) 0 } :: reKeys xs es
  | _, _ => []
noncomputable def glV (K : PySem.W.Frag) (names : List Nat) : List (Nat × Value) := names.zip ((glEnts K).map (·.val))

theorem find_keys {y : Nat} (hy : y < big) : ∀ {names : List Nat} {es : List DictEntry}, (∀ x ∈ names, x < big) → reKeys names es = es →
    (match (names.zip (es.map (·.val))).lookup y with
      | some v => ∃ e, es.find? (fun e => e.key.isStr (nmS y)) = some e ∧ e.val = v
      | none => es.find? (fun e => e.key.isStr (nmS y)) = none) ∧ es.any (fun e => e.refKey) = false
  | _, [], _, _ => by
    cases ‹List Nat› <;> exact ⟨rfl, rfl⟩
  | [], e :: es, _, h => by cases h
  | x :: xs, e :: es, hn, h => by
    injection h with h1 h2
    obtain ⟨i1, i2⟩ := find_keys hy (fun z hz => hn z (List.mem_cons_of_mem _ hz)) h2
    obtain ⟨t, hk⟩ : ∃ t, e.key = .str (nmS x) t := by
      have h1' := congrArg DictEntry.key h1
      simp only at h1'
      cases q : e.key with
      | str s t => rw [q] at h1'; exact ⟨t, h1'.symm⟩
      | _ => rw [q] at h1'; cases h1'
    have nr : e.refKey = false := by unfold DictEntry.refKey; rw [hk]
    refine ⟨?_, by rw [List.any_cons, nr, i2]; rfl⟩
    have key : e.key.isStr (nmS y) = (y == x) := by
      rw [hk]
      show (nmS x == nmS y) = _
      rw [Bool.eq_iff_iff, beq_iff_eq, beq_iff_eq]
      exact ⟨fun z => (nmS_inj (hn x List.mem_cons_self) hy z).symm, fun z => by rw [z]⟩
    by_cases he : y = x
    · subst he
      have : (List.zip (y :: xs) ((e :: es).map (·.val))).lookup y = some e.val := by simp [List.lookup]
      rw [this]
      exact ⟨e, by simp [List.find?, key], rfl⟩
    · have e0 : (y == x) = false := by simpa using he
      have : (List.zip (x :: xs) ((e :: es).map (·.val))).lookup y = (List.zip xs (es.map (·.val))).lookup y := by simp [List.lookup, e0]
      rw [this]
      have f : (e :: es).find? (fun e => e.key.isStr (nmS y)) = es.find? (fun e => e.key.isStr (nmS y)) := by simp [List.find?, key, e0]
      rw [f]
      exact i1
theorem ns_of {K : PySem.W.Frag} {names : List Nat} (hn : ∀ x ∈ names, x < big) (hg : (K.lookup mainGlobals).isSome = true ∧ glEnts K ≠ []) (h : reKeys names (glEnts K) = glEnts K) {y : Nat} (hy : y < big) :
    PySem.W.nsIn K mainGlobals (nmS y) = some ((glV K names).lookup y) := by
  obtain ⟨i1, i2⟩ := find_keys hy hn h
  unfold PySem.W.nsIn
  unfold glV
  unfold glEnts at *
  rw [show List.lookup mainGlobals K = K.lookup mainGlobals from rfl]
  cases q : K.lookup mainGlobals with
  | none => rw [q] at hg; cases hg.1
  | some o =>
    obtain ⟨c, d, dat, sl⟩ := o
    rw [q] at i1 i2 hg
    cases dat with
    | dict es n =>
      simp only at i1 i2 ⊢
      cases q2 : (names.zip (es.toList.map (·.val))).lookup y with
      | none =>
        rw [q2] at i1
        simp only at i1
        rw [i1, i2]
        rfl
      | some v =>
        rw [q2] at i1
        obtain ⟨e, e1, e2⟩ := i1
        rw [e1, ← e2]
    | _ => exact absurd rfl hg.2

/-! ### the defs -/
noncomputable def zipArgs : List Nat → List Arg → List Arg
  | p :: ps, a :: as => { arg := nmS p, annotation := none, pos := a.pos } :: zipArgs ps as
  | [], _ => []
  | _ :: _, [] => [{ arg := "", annotation := none, pos := P0 }]
noncomputable def stmtsOf : FuncBody → List Stmt
  | .stmts b => b
  | _ => []
noncomputable def Fn.ps (F : Fn) : List Nat := F.nm.take F.np
/-- the def x as the text has it -/
noncomputable def reFd (x q : Nat) (F : Fn) (fd : FuncData) : FuncData :=
  { fd with
    name := nmS x
    qualname := nmS q
    params := { posonlyargs := [], args := zipArgs F.ps fd.params.args, vararg := none, kwonlyargs := [], kw_defaults := [], kwarg := none, defaults := if F.dfs.isEmpty then [] else fd.params.defaults }
    body := .stmts (reSs F.nm F.body (stmtsOf fd.body))
    scope := { fd.scope with kind := .function, names := scN F.sc, isGenerator := false, isCoroutine := false }
    globals := mainGlobals
    closure := []
    defaults := if F.dfs.isEmpty then .none else fd.defaults
    builtins := builtinsNs }
structure FObj where
  f : Addr
  oc : Value
  od : Option Addr
  fd : FuncData
  osl : Array (Option Value)
noncomputable def fnObj (K : PySem.W.Frag) (gl : List (Nat × Value)) (x : Nat) : Option FObj := match gl.lookup x with
  | some (.ref f) => match K.lookup f with
    | some ⟨oc, od, .func fd, osl⟩ => some ⟨f, oc, od, fd, osl⟩
    | _ => none
  | _ => none
/-- the class C stands here -/
noncomputable def clAdr (gl : List (Nat × Value)) (C : Nat) : Option Addr := match gl.lookup C with
  | some (.ref a) => some a
  | _ => none
/-- what the class has by the name -/
noncomputable def clFind (K : PySem.W.Frag) (gl : List (Nat × Value)) (C : Nat) (x : Str) : Option (Option Value) := match clAdr gl C with
  | some a => PySem.W.findIn K (.ref a) x
  | none => none
/-- a method: its id, its class, its name, its qualified name -/
structure Mt where
  id : Nat
  C : Nat
  x : Nat
  q : Nat
  F : Fn
noncomputable def mtObj (K : PySem.W.Frag) (gl : List (Nat × Value)) (C x : Nat) : Option FObj := match clFind K gl C (nmS x) with
  | some (some (.ref f)) => match K.lookup f with
    | some ⟨oc, od, .func fd, osl⟩ => some ⟨f, oc, od, fd, osl⟩
    | _ => none
  | _ => none
noncomputable def cdName (K : PySem.W.Frag) (cd : Value) : Option Str := match cd with
  | .ref c => match K.lookup c with
    | some ⟨_, _, .fields vs, _⟩ => match vs.toList with
      | _ :: .str n _ :: _ => some n
      | _ => none
    | _ => none
  | _ => none
noncomputable def chkFn (F : Fn) : Bool :=
  decide F.nm.Nodup && F.nm.all (fun x => decide (x < big)) && F.sc.all (fun p => decide (p.1 < big)) && decide (F.np ≤ F.nm.length) && okSs F.sc F.nm F.body &&
    decide (F.dfs.length ≤ F.np) && F.ps.all (fun x => match F.sc.lookup x with | some .loc => true | some .cel => true | _ => false) && F.sc.all (fun p => match p.2 with | .fre => false | _ => true)
/-- the defaults, as they stand -/
noncomputable def dfIts (K : PySem.W.Frag) (fd : FuncData) : Option (Array Value) := match fd.defaults with
  | .ref T => match K.lookup T with
    | some ⟨_, _, .seq its _, _⟩ => some its
    | _ => none
  | _ => none
noncomputable def chkDf (K : PySem.W.Frag) (F : Fn) (fd : FuncData) : Bool := F.dfs.isEmpty || match dfIts K fd with
  | some its => cvBs K F.dfs its.toList
  | none => false
noncomputable def dfP (K : PySem.W.Frag) (gl : List (Nat × Value)) (F : Fn) (fd : FuncData) : List (Value × Value) := match dfIts K fd with
  | some its => cvPs K gl F.dfs its.toList
  | none => []
noncomputable def tellFn (K : PySem.W.Frag) (gl : List (Nat × Value)) (p : Nat × Fn) : Option (FuncData × Option Str) := (fnObj K gl p.1).map fun o => (o.fd, cdName K o.fd.code)
noncomputable def wantFn (K : PySem.W.Frag) (gl : List (Nat × Value)) (p : Nat × Fn) : Option (FuncData × Option Str) := (fnObj K gl p.1).map fun o => (reFd p.1 p.1 p.2 o.fd, some (nmS p.1))
noncomputable def tellMt (K : PySem.W.Frag) (gl : List (Nat × Value)) (p : Mt) : Option (FuncData × Option Str) := (mtObj K gl p.C p.x).map fun o => (o.fd, cdName K o.fd.code)
noncomputable def wantMt (K : PySem.W.Frag) (gl : List (Nat × Value)) (p : Mt) : Option (FuncData × Option Str) := (mtObj K gl p.C p.x).map fun o => (reFd p.x p.q p.F o.fd, some (nmS p.q))

theorem lookup_scN {sc : Scp} (h : ∀ p ∈ sc, p.1 < big) {x : Nat} (hx : x < big) : (scN sc).lookup (nmS x) = (sc.lookup x).map nkK := by
  induction sc with
  | nil => rfl
  | cons p r ih =>
    obtain ⟨y, k⟩ := p
    have hy := h (y, k) List.mem_cons_self
    have ih := ih fun p hp => h p (List.mem_cons_of_mem _ hp)
    show List.lookup (nmS x) ((nmS y, nkK k) :: scN r) = _
    by_cases e : x = y
    · subst e; simp [List.lookup]
    · have e1 : (x == y) = false := by simpa using e
      have e2 : (nmS x == nmS y) = false := by
        rw [beq_eq_false_iff_ne]
        exact fun z => e (nmS_inj hx hy z)
      simp only [List.lookup, e1, e2]
      exact ih
/-- what is known of the def x -/
structure FnAt (K : PySem.W.Frag) (mg : Str → Option Value) (x q : Nat) (F : Fn) (f : Addr) (fd : FuncData) (st : Stmt) : Prop where
  fn : ∃ (oc : Value) (od : Option Addr) (dV kV doc pm : Value) (an : Option Addr) (cdv ct : Value) (osl : Array (Option Value)),
    fd = PySem.W.fnOf (nmS x) (nmS q) (defArgs st) (defBody st) (defScope st) dV kV doc pm an cdv ct ∧ K.lookup f = some ⟨oc, od, .func fd, osl⟩ ∧ PySem.W.codeIn K cdv (nmS q) = true
  kp : PySem.W.keepIn K (.ref f) = true
  bnd : ∀ j, j ≤ F.dfs.length → ∃ dvs ds, Vals dvs ds ∧ Binds K fd (F.ps.map nmS) ds ∧ ∀ m H, RelDs K mg m H (F.dfs.drop j) dvs
  S : FnScope (F.nm.map nmS) (F.ps.map nmS) (defScope st)
  body : reSs F.nm F.body (defBody st) = defBody st
  ok : okSs F.sc F.nm F.body = true
  scs : (defScope st).names = scN F.sc ∧ (∀ p ∈ F.sc, p.1 < big)
  barg : F.dfs = [] → ∀ us : List Value, us.length = (F.ps.map nmS).length → bindArgs fd ⟨us, []⟩ = pure ((F.ps.map nmS).zip us)
  np : F.ps.length = F.np

theorem zip_args_bind {ps : List Nat} {as : List Arg} (h : zipArgs ps as = as) : as.map (·.arg) = ps.map nmS := by
  induction ps generalizing as with
  | nil =>
    have : as = [] := h.symm
    subst this; rfl
  | cons p ps ih =>
    cases as with
    | nil => cases h
    | cons a as =>
      injection h with h1 h2
      rw [List.map_cons, List.map_cons, ih h2, ← h1]
theorem zip_lookup {ps : List Str} (nd : ps.Nodup) : ∀ {us : List Value}, us.length = ps.length → ∀ x ∈ ps, ((ps.zip us).lookup x).isSome = true := by
  intro us hl x hx
  induction ps generalizing us with
  | nil => cases hx
  | cons p ps ih =>
    cases us with
    | nil => cases hl
    | cons u us =>
      simp only [List.zip_cons_cons, List.lookup]
      by_cases e : x = p
      · subst e; simp
      · have : (x == p) = false := by simpa using e
        rw [this]
        rcases List.mem_cons.mp hx with z | z
        · exact absurd z e
        · exact ih (List.nodup_cons.mp nd).2 (by simpa using hl) z
theorem zip_filterMap : ∀ {ps : List Str} {us : List Value}, ps.Nodup → us.length = ps.length → ps.filterMap (fun n => ((ps.zip us).lookup n).map (n, ·)) = ps.zip us
  | [], us, _, hl => by simp
  | p :: ps, [], _, hl => by cases hl
  | p :: ps, u :: us, nd, hl => by
    have ih := zip_filterMap (ps := ps) (us := us) (List.nodup_cons.mp nd).2 (by simpa using hl)
    simp only [List.zip_cons_cons, List.filterMap_cons, List.lookup, beq_self_eq_true, Option.map_some]
    congr 1
    refine Eq.trans ?_ ih
    have key : ∀ l : List Str, (∀ n ∈ l, n ≠ p) → l.filterMap (fun n => (match n == p with | true => some u | false => (ps.zip us).lookup n).map fun x => (n, x)) = l.filterMap (fun n => ((ps.zip us).lookup n).map (n, ·)) := by
      intro l hl
      induction l with
      | nil => rfl
      | cons a l ih =>
        have ne : (a == p) = false := by simpa using hl a List.mem_cons_self
        rw [List.filterMap_cons, List.filterMap_cons, ne, ih fun n hn => hl n (List.mem_cons_of_mem _ hn)]
    exact key ps fun n hn e => (List.nodup_cons.mp nd).1 (e ▸ hn)
theorem binds_gen {fd : FuncData} {as : List Arg} (hp : fd.params = { posonlyargs := [], args := as, vararg := none, kwonlyargs := [], kw_defaults := [], kwarg := none, defaults := [] }) (hd : fd.defaults = .none)
    (nd : (as.map (·.arg)).Nodup) (us : List Value) (hl : us.length = as.length) : bindArgs fd ⟨us, []⟩ = pure ((as.map (·.arg)).zip us) := by
  unfold bindArgs
  rw [hp, hd]
  have hs : seqItems? Value.none = pure none := rfl
  rw [hs]
  have e1 : ((as.map (·.arg)).take (List.length (as.map (·.arg)))).filter (fun n => (((as.map (·.arg)).zip us).lookup n).isNone) = [] := by
    rw [List.filter_eq_nil_iff]
    intro x hx
    have := zip_lookup nd (us := us) (by simpa using hl) x (List.mem_of_mem_take hx)
    cases q : ((as.map (·.arg)).zip us).lookup x with
    | none => rw [q] at this; cases this
    | some v => simp
  simp [hl]
  have e2 : (List.take ((List.map (fun x => x.arg) ([] : List Arg) ++ List.map (fun x => x.arg) as).length - (List.drop ((#[] : Array Value).size - (List.map (fun x => x.arg) ([] : List Arg) ++ List.map (fun x => x.arg) as).length) ([] : List Value)).length)
      (List.map (fun x => x.arg) ([] : List Arg) ++ List.map (fun x => x.arg) as)) = List.take (List.map (fun x => x.arg) as).length (List.map (fun x => x.arg) as) := by simp
  split
  · rename_i h
    exfalso
    rw [e2, e1] at h
    simp at h
  · congr 1
    have := zip_filterMap (ps := as.map (·.arg)) (us := us) nd (by simpa using hl)
    rw [List.filterMap_map] at this
    exact this

theorem lookup_zip_none {ps : List Str} {us : List Value} {x : Str} (h : x ∉ ps) : (ps.zip us).lookup x = none := by
  induction ps generalizing us with
  | nil => rfl
  | cons p ps ih =>
    cases us with
    | nil => rfl
    | cons u us =>
      have h1 : (x == p) = false := by simp at h; simpa using h.1
      simp only [List.zip_cons_cons, List.lookup, h1]
      exact ih (by simp at h; exact h.2)
theorem zip_pre {ps qs : List Str} {us : List Value} (h : ps.length = us.length) : (ps ++ qs).zip us = ps.zip us := by
  have := List.zip_append (l₁ := ps) (r₁ := qs) (l₂ := us) (r₂ := ([] : List Value)) h
  simpa using this
theorem lookup_zip_le : ∀ {ps : List Str} {us : List Value} {x : Str}, x ∈ ps.take us.length → ((ps.zip us).lookup x).isNone = false
  | [], us, x, h => by simp at h
  | p :: ps, [], x, h => by simp at h
  | p :: ps, u :: us, x, h => by
    simp only [List.length_cons, List.take_succ_cons] at h
    by_cases e : x = p
    · subst e; simp [List.lookup]
    · have h1 : (x == p) = false := by simpa using e
      simp only [List.zip_cons_cons, List.lookup, h1]
      exact lookup_zip_le (by rcases List.mem_cons.mp h with h | h; exact absurd h e; exact h)
/-- the loop over the defaults -/
theorem fold_dfl : ∀ (qs : List Str) (es : List Value) (P : List Str) (us : List Value) (n : Nat), (P ++ qs).Nodup → qs.length = es.length → n ≤ qs.length → us.length = P.length + n →
    ((qs.zip es).foldl (fun r x => if (List.lookup x.1 r).isNone = true then r ++ [(x.1, x.2)] else r) ((P ++ qs).zip us)) = (P ++ qs).zip (us ++ es.drop n)
  | [], es, P, us, n, nd, h2, h3, h4 => by
    have : es = [] := List.length_eq_zero_iff.mp (by simpa using h2.symm)
    subst this
    simp
  | q :: qs, [], P, us, n, nd, h2, h3, h4 => by cases h2
  | q :: qs, d :: ds, P, us, 0, nd, h2, h3, h4 => by
    have h4 : P.length = us.length := by omega
    have hq : q ∉ P := fun h => by
      rw [List.nodup_append] at nd
      exact nd.2.2 q h q List.mem_cons_self rfl
    simp only [List.zip_cons_cons, List.foldl_cons]
    rw [zip_pre h4, if_pos (by rw [lookup_zip_none hq]; rfl)]
    have e : (P.zip us) ++ [(q, d)] = ((P ++ [q]) ++ qs).zip (us ++ [d]) := by
      rw [zip_pre (by simp [h4]), List.zip_append h4]; rfl
    rw [e, fold_dfl qs ds (P ++ [q]) (us ++ [d]) 0 (by simpa using nd) (by simpa using h2) (Nat.zero_le _) (by simp; omega)]
    simp
  | q :: qs, d :: ds, P, us, n + 1, nd, h2, h3, h4 => by
    simp only [List.zip_cons_cons, List.foldl_cons]
    rw [if_neg (by
      rw [lookup_zip_le (by rw [h4, List.take_append]; simp)]
      simp)]
    have e : P ++ q :: qs = (P ++ [q]) ++ qs := by simp
    rw [e, fold_dfl qs ds (P ++ [q]) us n (by simpa using nd) (by simpa using h2) (by simpa using h3) (by simp; omega)]
    simp
theorem forIn_dfl : ∀ (l : List (Str × Value)) (sl : List (Str × Value)),
  (forIn l sl fun x r => (if (List.lookup x.1 r).isNone = true then pure (ForInStep.yield (r ++ [(x.1, x.2)])) else pure (ForInStep.yield r) : Sem (ForInStep (List (Str × Value))))) = pure (l.foldl (fun r x => if (List.lookup x.1 r).isNone = true then r ++ [(x.1, x.2)] else r) sl)
  | [], sl => rfl
  | x :: l, sl => by
    rw [List.forIn_cons, List.foldl_cons]
    by_cases h : (List.lookup x.1 sl).isNone = true
    · simp only [h, if_true, pure_bind]
      exact forIn_dfl l _
    · simp only [h, if_false, pure_bind]
      exact forIn_dfl l _
theorem bind_dfl {fd : FuncData} {as : List Arg} {dfe : List Expr} {T : Addr} (hp : fd.params = { posonlyargs := [], args := as, vararg := none, kwonlyargs := [], kw_defaults := [], kwarg := none, defaults := dfe }) (hd : fd.defaults = .ref T)
    (nd : (as.map (·.arg)).Nodup) (us its : List Value) (hl : us.length ≤ as.length) (h2 : its.length ≤ as.length) (h3 : as.length ≤ us.length + its.length) : ∃ k, bindArgs fd ⟨us, []⟩ = seqItems? (.ref T) >>= k ∧ k (some its.toArray) = pure ((as.map (·.arg)).zip (us ++ its.drop (its.length - (as.length - us.length)))) := by
  have f0 : List.foldl (fun r x => if (List.lookup x.1 r).isNone = true then r ++ [(x.1, x.2)] else r) ((as.map (·.arg)).zip us) (((as.map (·.arg)).drop (as.length - its.length)).zip its) = (as.map (·.arg)).zip (us ++ its.drop (its.length - (as.length - us.length))) := by
    generalize hps : as.map (·.arg) = ps at nd ⊢
    have lps : ps.length = as.length := by rw [← hps, List.length_map]
    rw [← lps] at hl h2 h3 ⊢
    clear hps lps
    have key := fold_dfl (ps.drop (ps.length - its.length)) its (ps.take (ps.length - its.length)) us (us.length - (ps.length - its.length))
      (by rw [List.take_append_drop]; exact nd) (by simp; omega) (by simp; omega) (by simp; omega)
    rw [List.take_append_drop] at key
    rw [key]
    congr 3
    omega
  unfold bindArgs
  rw [hp, hd]
  simp only []
  refine ⟨_, rfl, ?_⟩
  have n1 : ¬ as.length < us.length := by omega
  have n2 : as.length - (its.length - (its.length - as.length)) = as.length - its.length := by omega
  have n3 : its.length - as.length = 0 := by omega
  have miss : List.filter (fun n => (List.lookup n ((as.map (·.arg)).zip us)).isNone) (List.take (as.length - its.length) (as.map (·.arg))) = [] := by
    rw [List.filter_eq_nil_iff]
    intro x hx
    rw [lookup_zip_le ?_]
    · simp
    · have : List.take (as.length - its.length) (as.map (·.arg)) = (List.take (as.length - its.length) ((as.map (·.arg)).take us.length)) := by
        rw [List.take_take, Nat.min_eq_left (by omega)]
      rw [this] at hx
      exact List.mem_of_mem_take hx
  have m2 : List.map (fun x => x.arg) ([] : List Arg) ++ List.map (fun x => x.arg) as = List.map (fun x => x.arg) as := rfl
  simp [n1]
  simp only [m2, List.length_map, List.length_drop, n2, n3, List.drop_zero, miss]
  simp only [List.isEmpty_nil, Bool.not_true, Bool.false_eq_true, if_false]
  rw [forIn_dfl, Nat.sub_zero, f0]
  have z := zip_filterMap (ps := as.map (·.arg)) (us := us ++ its.drop (its.length - (as.length - us.length))) nd (by simp; omega)
  rw [List.filterMap_map] at z
  simp only [map_pure]
  rw [z]
/-- the def x stands as told -/
theorem fnAt_of {K : PySem.W.Frag} {mg : Str → Option Value} {gl : List (Nat × Value)} (hmg : ∀ x v, gl.lookup x = some v → mg (nmS x) = some v ∧ x < 128 ^ 64) {x xq : Nat} {F : Fn} {f : Addr} {oc : Value} {od : Option Addr} {fd : FuncData} {osl : Array (Option Value)} (q2 : K.lookup f = some ⟨oc, od, .func fd, osl⟩) (h1 : fd = reFd x xq F fd) (h2 : cdName K fd.code = some (nmS xq)) (hc : chkFn F = true) (hdk : chkDf K F fd = true) (hde : Eqs (dfP K gl F fd)) :
    ∃ st, FnAt K mg x xq F f fd st := by
          unfold chkFn at hc
          simp only [Bool.and_eq_true, decide_eq_true_eq, List.all_eq_true] at hc
          obtain ⟨⟨⟨⟨⟨⟨⟨c1, c2⟩, c3⟩, c4⟩, c5⟩, c0⟩, c6⟩, c7⟩ := hc
          -- the def's parts
          have e_name : fd.name = nmS x := congrArg FuncData.name h1
          have e_qual : fd.qualname = nmS xq := congrArg FuncData.qualname h1
          have e_body : fd.body = .stmts (reSs F.nm F.body (stmtsOf fd.body)) := congrArg FuncData.body h1
          have e_scope : fd.scope = { fd.scope with kind := .function, names := scN F.sc, isGenerator := false, isCoroutine := false } := congrArg FuncData.scope h1
          have e_par : fd.params = { posonlyargs := [], args := zipArgs F.ps fd.params.args, vararg := none, kwonlyargs := [], kw_defaults := [], kwarg := none, defaults := if F.dfs.isEmpty then [] else fd.params.defaults } := congrArg FuncData.params h1
          have e_glob : fd.globals = mainGlobals := congrArg FuncData.globals h1
          have e_clo : fd.closure = [] := congrArg FuncData.closure h1
          have e_def : fd.defaults = if F.dfs.isEmpty then .none else fd.defaults := congrArg FuncData.defaults h1
          have e_blt : fd.builtins = builtinsNs := congrArg FuncData.builtins h1
          let st : Stmt := .FunctionDef (nmS x) fd.params (stmtsOf fd.body) [] none [] fd.scope none (nmS x) P0
          have hbody : reSs F.nm F.body (stmtsOf fd.body) = stmtsOf fd.body := by
            have := congrArg stmtsOf e_body
            exact this.symm
          have hfd : fd = PySem.W.fnOf (nmS x) (nmS xq) (defArgs st) (defBody st) (defScope st) fd.defaults fd.kwdefaults fd.doc fd.pyModule fd.annotations fd.code fd.closureTuple := by
            obtain ⟨n, qn, pa, bo, sc, g, clo, de, kd, doc, pm, an, cd, ct, bl⟩ := fd
            simp only at e_name e_qual e_body e_glob e_clo e_blt
            subst e_name e_qual e_glob e_clo e_blt
            have : bo = .stmts (stmtsOf bo) := by
              cases bo with
              | stmts b => rfl
              | _ => cases e_body
            show FuncData.mk _ _ pa bo sc _ _ de kd doc pm an cd ct _ = FuncData.mk _ _ pa (.stmts (stmtsOf bo)) sc _ _ de kd doc pm an cd ct _
            rw [← this]
          have hscn : (defScope st).names = scN F.sc := by
            show fd.scope.names = _
            rw [e_scope]
          have inj : ∀ a ∈ F.nm, ∀ b ∈ F.nm, nmS a = nmS b → a = b := fun a ha b hb e => nmS_inj (c2 a ha) (c2 b hb) e
          have nd : (F.nm.map nmS).Nodup := by
            refine List.pairwise_map.mpr (List.Pairwise.imp_of_mem ?_ c1)
            intro a b ha hb ne e
            exact ne (inj a ha b hb e)
          have sc3 : ∀ p ∈ F.sc, p.1 < big := fun p hp => c3 p hp
          have ps_mem : ∀ x ∈ F.ps, x ∈ F.nm := fun x hx => List.mem_of_mem_take hx
          have hS : FnScope (F.nm.map nmS) (F.ps.map nmS) (defScope st) := by
            refine ⟨?_, ?_, ?_, nd, ?_, ?_, ?_⟩
            · show fd.scope.kind = _; rw [e_scope]
            · show fd.scope.isCoroutine = _; rw [e_scope]
            · show fd.scope.isGenerator = _; rw [e_scope]
            · rw [List.length_map, ← List.map_take]
              congr 1
              unfold Fn.ps
              rw [List.length_take, Nat.min_eq_left c4]
            · intro y hy
              obtain ⟨z, hz, rfl⟩ := List.mem_map.mp hy
              rw [hscn, lookup_scN sc3 (c2 z (ps_mem z hz))]
              have := c6 z hz
              cases q3 : F.sc.lookup z with
              | none => rw [q3] at this; cases this
              | some k =>
                rw [q3] at this
                cases k with
                | loc => exact .inl rfl
                | cel => exact .inr rfl
                | _ => cases this
            · intro y hy
              rw [hscn] at hy
              obtain ⟨p, hp, rfl⟩ := List.mem_map.mp hy
              have := c7 p hp
              obtain ⟨a, k⟩ := p
              cases k <;> first | (cases this; done) | (intro z; cases z)
          have hz : zipArgs F.ps fd.params.args = fd.params.args := by
            have := congrArg Arguments.args e_par
            exact this.symm
          have hz2 := zip_args_bind hz
          rw [hz] at e_par
          have hnd : (fd.params.args.map (·.arg)).Nodup := by
            rw [hz2]
            unfold Fn.ps
            rw [List.map_take]
            exact nd.sublist (List.take_sublist _ _)
          have hnp : F.ps.length = F.np := by
            unfold Fn.ps
            rw [List.length_take, Nat.min_eq_left c4]
          have hcd : PySem.W.codeIn K fd.code (nmS xq) = true := by
            unfold cdName at h2
            unfold PySem.W.codeIn
            cases q4 : fd.code with
            | ref c =>
              rw [q4] at h2
              simp only at h2 ⊢
              rw [show List.lookup c K = K.lookup c from rfl]
              cases q5 : K.lookup c with
              | none => rw [q5] at h2; cases h2
              | some o2 =>
                obtain ⟨oc2, od2, dat2, osl2⟩ := o2
                rw [q5] at h2
                cases dat2 with
                | fields vs =>
                  simp only at h2 ⊢
                  split at h2
                  · rename_i n tok rest eq
                    simp only [eq]
                    have : n = nmS xq := Option.some.inj h2
                    rw [this]; simp
                  · cases h2
                | _ => cases h2
            | _ => rw [q4] at h2; cases h2
          have hbarg : F.dfs = [] → ∀ us : List Value, us.length = (F.ps.map nmS).length → bindArgs fd ⟨us, []⟩ = pure ((F.ps.map nmS).zip us) := by
            intro h0 us hl
            rw [h0] at e_par e_def
            rw [← hz2]
            refine binds_gen e_par e_def hnd us ?_
            rw [hl, ← hz2, List.length_map]
          refine ⟨st, ⟨oc, od, fd.defaults, fd.kwdefaults, fd.doc, fd.pyModule, fd.annotations, fd.code, fd.closureTuple, osl, hfd, q2, hcd⟩, ?_, ?_, hS, hbody, c5, ⟨hscn, sc3⟩, hbarg, hnp⟩
          · unfold PySem.W.keepIn
            simp only [show List.lookup f K = _ from q2]
          · intro j hj
            by_cases h0 : F.dfs = []
            · rw [h0]
              exact ⟨[], [], .nil, Binds.all (hbarg h0), fun m H => by cases j <;> rfl⟩
            · have h00 : F.dfs.isEmpty = false := by
                cases q : F.dfs with
                | nil => exact absurd q h0
                | cons _ _ => rfl
              unfold chkDf at hdk
              rw [h00, Bool.false_or] at hdk
              unfold dfIts at hdk
              unfold dfP dfIts at hde
              cases qd : fd.defaults with
              | ref T =>
                rw [qd] at hdk hde
                simp only at hdk hde
                cases qt : K.lookup T with
                | none => rw [qt] at hdk; cases hdk
                | some o =>
                  obtain ⟨oc3, od3, dat3, osl3⟩ := o
                  rw [qt] at hdk hde
                  cases dat3 with
                  | seq its tk =>
                    simp only at hdk hde
                    obtain ⟨us0, u1, u2⟩ := cvs_ok hmg hdk hde
                    have l0 : F.dfs.length = its.toList.length := by
                      have := (u2 (fun _ => none) (fun _ => none)).len
                      rw [this, u1.length]
                    refine ⟨us0.drop j, its.toList.drop j, u1.drop j, fun s us X hl => ?_, fun m H => (u2 m H).drop j⟩
                    rw [List.length_append, List.length_drop, List.length_map] at hl
                    have la : fd.params.args.length = F.np := by
                      have := congrArg List.length hz2
                      rw [List.length_map, List.length_map] at this
                      omega
                    obtain ⟨kk, k1, k2⟩ := bind_dfl e_par qd hnd us its.toList (by omega) (by omega) (by omega)
                    rw [← hz2]
                    refine BindsTo.of_looks fun M => ?_
                    rw [k1]
                    refine looks_items X qt rfl ?_
                    have ej : its.toList.length - (fd.params.args.length - us.length) = j := by omega
                    rw [ej] at k2
                    exact .of_pure k2
                  | _ => cases hdk
              | _ => rw [qd] at hdk; cases hdk

theorem srel_start {K : PySem.W.Frag} {mg : Str → Option Value} {m : MM} {H : Hp} {n k : Nat} (hk : n = k) : ∀ {ds : List D} {vs : List V}, RelDs K mg m H ds vs → SRel K mg m H (ds.map some ++ List.replicate n none) (vs.map some ++ List.replicate k none)
  | [], vs, r => by
    cases (r : _ = _)
    subst hk
    simp only [List.map_nil, List.nil_append]
    induction n with
    | zero => trivial
    | succ n ih => exact ⟨fun _ z => (nomatch z), ih⟩
  | d :: ds, _, r => by
    obtain ⟨v, vs, rfl, r1, r2⟩ := r
    exact ⟨fun d' e => by cases e; exact ⟨v, rfl, r1⟩, srel_start hk r2⟩

theorem fill_full {F : Fn} {vs : List D} (h : vs.length = F.np) : fill F vs = some vs := by
  unfold fill
  rw [if_pos ⟨by omega, by omega⟩]
  simp [h]
theorem fill_len {F : Fn} {vs vs' : List D} (h : fill F vs = some vs') : vs'.length = F.np := by
  unfold fill at h
  split at h
  · cases h
    simp
    omega
  · cases h
theorem callN_def (p : Pr) (k f : Nat) (vs : List D) (h : LH) : callN p (k + 1) f vs h = (p.fn f).bind fun F => (fill F vs).bind fun vs' => (evSs p (callN p k) F.body (start F vs') h).bind fun p => match p with
    | (.nx, _, h') => some (.non, h')
    | (.rt d, _, h') => some (d, h')
    | (.bk, _, _) => none := rfl
theorem callN_fill {p : Pr} {k f : Nat} {vs : List D} {h : LH} {r : D × LH} (e : callN p k f vs h = some r) : ∃ F vs', p.fn f = some F ∧ fill F vs = some vs' ∧ vs'.length = F.np ∧ callN p k f vs' h = some r := by
  cases k with
  | zero => cases e
  | succ k =>
    rw [callN_def] at e
    cases q : p.fn f with
    | none => rw [q] at e; cases e
    | some F =>
      rw [q] at e
      simp only [Option.bind_some] at e
      cases q2 : fill F vs with
      | none => rw [q2] at e; cases e
      | some vs' =>
        rw [q2] at e
        simp only [Option.bind_some] at e
        refine ⟨F, vs', rfl, q2, fill_len q2, ?_⟩
        rw [callN_def, q]
        simp only [Option.bind_some]
        rw [fill_full (fill_len q2)]
        exact e
/-- what is known of all defs -/
structure FnsAt (p : Pr) (AD : Nat → Option Addr) (K : PySem.W.Frag) (mg : Str → Option Value) : Prop where
  at_ : ∀ f F, p.fn f = some F → ∃ x q a fd st, FnAt K mg x q F a fd st ∧ AD f = some a ∧ (f < 128 ^ 64 → mg (nmS f) = some (.ref a) ∧ PySem.W.keepIn K (.ref a) = true)
/-- THE DEFS: each keeps its promise, at every depth -/
theorem fn_all {P : Program} {w : World} {K : PySem.W.Frag} {mg : Str → Option Value} {base : Heap} {p : Pr} {AD : Nat → Option Addr} (G : GOk p K mg w) (CO : COk p AD K mg) (hF : FnsAt p AD K mg) :
    ∀ k f F x q a fd st, p.fn f = some F → FnAt K mg x q F a fd st → FnOk P w K mg base CX0 (2 * k) a fd (F.ps.map nmS) (spI p (callN p k) K mg f)
  | 0, f, F, x, q, a, fd, st, hx, A => by
    have no : ∀ {vs : List V} {H : Hp} {Q : VK} {E : XK}, spI p (callN p 0) K mg f vs H Q E → False := by
      rintro vs H Q E ⟨m, h, ds, _, _, _, d, h', z, _⟩
      cases z
    exact ⟨fun vs H Q E q => (no q).elim, fun A' outer s H args us vs Q E _ _ _ _ q => (no q).elim⟩
  | k + 1, f, F, x, q, a, fd, st, hx, A => by
    show FnOk P w K mg base CX0 ((2 * k + 1) + 1) a fd (F.ps.map nmS) _
    obtain ⟨oc, od, dV, kV, doc, pm, an, cdv, ct, osl, hfd, lk, hcd⟩ := A.fn
    subst hfd
    refine fn_of lk hcd A.S (fun vs H Q E => ?_) fun A' outer s H vs Q E hr hsp => ?_
    · rintro ⟨m, h, ds, _, r, ⟨F', hF', hl⟩, _⟩
      rw [hx] at hF'; cases hF'
      rw [List.length_map, A.np, ← hl, r.len]
    · obtain ⟨m, h, ds, R, r, ⟨F', hF', hl⟩, d, h', e, kq⟩ := hsp
      rw [hx] at hF'; cases hF'
      let X := (cxOf CX0 P w K mg base (F.nm.map nmS) (nmS q) (defScope st) a cdv A' outer s H E).nox
      have XGd : XG p AD (callN p k) F.nm X := by
        refine ⟨rfl, A.S.nd, rfl, G, ?_, CO, fun g vs h0 r0 e0 => callN_fill e0, ?_⟩
        · have := hr.un
          show (A'.deeper _).units + 65 < cLine
          omega
        · intro g F0 hg
          obtain ⟨x0, q0, a0, fd0, st0, A0, ad, gl⟩ := hF.at_ g F0 hg
          refine ⟨2 * k, a0, fd0, _, ad, fn_all G CO hF k g F0 x0 q0 a0 fd0 st0 hg A0, hr, gl, A0.bnd⟩
      have S : ScOk F.sc X := by
        intro y kd hy
        have hb := A.scs.2 _ (lookup_mem hy)
        have e1 : X.env.scope.names.lookup (nmS y) = some (nkK kd) := by
          show (defScope st).names.lookup (nmS y) = _
          rw [A.scs.1, lookup_scN A.scs.2 hb, hy]; rfl
        exact ⟨.inl e1, fun _ => rfl⟩
      have Z := pss_of F.body XGd S rfl A.ok A.body
      refine ⟨_, Z.nox, ?_⟩
      rw [callN_def] at e
      rw [hx] at e
      simp only [Option.bind_some] at e
      rw [fill_full hl] at e
      simp only [Option.bind_some] at e
      cases q1 : evSs p (callN p k) F.body (start F ds) h with
      | none => rw [q1] at e; cases e
      | some pr =>
        obtain ⟨fl, σ', h1⟩ := pr
        rw [q1] at e
        simp only [Option.bind_some] at e
        refine ⟨m, start F ds, h, R, ?_, fl, σ', h1, q1, ?_⟩
        · unfold FK.start L2.start
          exact srel_start (by rw [List.length_map, r.len]) r
        · cases fl with
          | nx =>
            cases e
            exact fun m' σ'' H' g R' S' => kq m' .non H' g R' rfl
          | bk => cases e
          | rt d' =>
            cases e
            exact fun m' v H' g R' r' => kq m' v H' g R' r'

/-- THE LAW's promise: from every script -/
noncomputable def spLaw (K : PySem.W.Frag) : Sp := fun vs H Q _ => ∃ (a : Addr) (ns : List Int), vs = [.ref a] ∧ ns.length ≤ 63 ∧ Only H ∧ SqL K H a (ns.map V.int) ∧ ∀ H', Q (.bl true) H'
theorem law_imp {K : PySem.W.Frag} {mg : Str → Option Value} {p : Pr} {k x : Nat} {F : Fn} (hx : p.fn x = some F) (hn : F.np = 1) (hl : ∀ ns : List Int, ns.length ≤ 63 → ∃ h', callN p k x [.ref 0] [.scr ns] = some (.bl true, h')) :
    ∀ vs H Q E, spLaw K vs H Q E → spI p (callN p k) K mg x vs H Q E := by
  rintro vs H Q E ⟨a, ns, rfl, hns, hO, hS, q⟩
  obtain ⟨h', e⟩ := hl ns hns
  let m : MM := fun b => if b = 0 then some a else none
  have R : Rep K mg m [.scr ns] H := by
    refine ⟨fun b o e => ?_, fun b q e => ?_, fun b c q o u e1 e2 e3 e4 e5 e6 => ?_⟩
    · cases b with
      | zero =>
        have e : LO.scr ns = o := by simpa using e
        subst e
        refine ⟨a, rfl, ?_⟩
        rcases hS with (z | ⟨ob, z⟩) | z
        · rcases hO a with y | ⟨ob, xs, y⟩
          · rw [y] at z; cases z
          · rw [y] at z; cases z
        · exact .inl ⟨ob, z⟩
        · exact .inr z
      | succ b => simp at e
    · have : b = 0 := by
        by_cases hb : b = 0
        · exact hb
        · have e : (if b = 0 then some a else none) = some q := e
          rw [if_neg hb] at e; cases e
      subst this
      exact Nat.zero_lt_one
    · cases b with
      | zero =>
        have e3 : LO.scr ns = o := by simpa using e3
        subst e3
        cases e5
      | succ b => simp at e3
  refine ⟨m, [.scr ns], [.ref 0], R, ⟨.ref a, [], rfl, ⟨a, rfl, rfl⟩, rfl⟩, ⟨F, hx, hn.symm⟩, .bl true, h', e, fun m' v H' g R' r => ?_⟩
  cases (r : _ = _)
  exact q H'
end FK

end
section
set_option maxRecDepth 100000
set_option maxHeartbeats 4000000
/-! Fk8: the module's constants; a law from its evaluator's answer. -/
namespace FK
open PySem PySem.Spec PyProof.Rows L2

/-! ### constant dicts -/
noncomputable def kdEnts (K : PySem.W.Frag) (gl : List (Nat × Value)) (x : Nat) : Option (Addr × Array DictEntry × Nat) := match gl.lookup x with
  | some (.ref p) => match K.lookup p with
    | some ⟨.type T, none, .dict es n, sl⟩ => if T = "dict" ∧ sl.size = 0 then some (p, es, n) else none
    | _ => none
  | _ => none
noncomputable def reEnts (p : Params) : List (List Nat × D) → List DictEntry → List DictEntry
  | q :: qs, e :: es => { e with hash := PyData.keyHash p (txS q.1), key := match e.key with
      | .str _ t => .str (txS q.1) t
      | _ => .str (txS q.1) 0 } :: reEnts p qs es
  | [], [] => []
  | _, _ => [default, default]
noncomputable def entB (K : PySem.W.Frag) : List (List Nat × D) → List DictEntry → Bool
  | [], [] => true
  | q :: qs, e :: es => ascii q.1 && cvB K q.2 e.val && entB K qs es
  | _, _ => false
noncomputable def entP (K : PySem.W.Frag) (gl : List (Nat × Value)) : List (List Nat × D) → List DictEntry → List (Value × Value)
  | q :: qs, e :: es => cvP K gl q.2 e.val ++ entP K gl qs es
  | _, _ => []
theorem kent_of {K : PySem.W.Frag} {gl : List (Nat × Value)} {mg : Str → Option Value} {p : Params} (hmg : ∀ x v, gl.lookup x = some v → mg (nmS x) = some v ∧ x < 128 ^ 64) :
    ∀ {kvs : List (List Nat × D)} {es : List DictEntry}, reEnts p kvs es = es → entB K kvs es = true → Eqs (entP K gl kvs es) → KEnt K mg p es kvs
  | [], [], _, _, _ => trivial
  | [], _ :: _, _, h, _ => by cases h
  | _ :: _, [], _, h, _ => by cases h
  | q :: qs, e :: es, r, b, l => by
    injection r with r1 r2
    have b' : (ascii q.1 = true ∧ cvB K q.2 e.val = true) ∧ entB K qs es = true := by simpa [entB] using b
    obtain ⟨u, a1, a2⟩ := cv_ok hmg b'.1.2 fun p hp => l p (by simp [entP, hp])
    refine ⟨?_, ?_, b'.1.1, ⟨u, a1, a2⟩, kent_of hmg r2 b'.2 fun p hp => l p (by simp [entP, hp])⟩
    · have := congrArg DictEntry.key r1
      simp only at this
      cases q0 : e.key with
      | str s t => rw [q0] at this; exact ⟨t, this.symm⟩
      | _ => rw [q0] at this; cases this
    · exact (congrArg DictEntry.hash r1).symm

/-! ### all that the top says -/
noncomputable def bltAll : List Nat := [cBf .len, cBf .int, cBf .tuple, cBf .list, cBf .str, cBf .sum, cBf .any, cBf .all, cBf .min, cBf .max, cBf .sorted, cBf .ord, cTy .bool, cTy .int, cTy .str, cTy .tuple, cTy .list, cTy .dict, 30806881253, 976800284697052295653]
structure Top where
  names : List Nat
  prog : List (Nat × Fn)
  gvs : List (Nat × D)
  kds : List (Nat × List (List Nat × D))
  clss : List (Nat × Cl) := []
  mths : List Mt := []
noncomputable def Top.pr (T : Top) : Pr := { fn := fun x => (T.prog ++ T.mths.map fun m => (m.id, m.F)).lookup x, gv := fun x => T.gvs.lookup x, kd := fun x => T.kds.lookup x, cls := fun x => T.clss.lookup x }
/-- where the method with this id stands -/
noncomputable def Top.mt (T : Top) (f : Nat) : Option Mt := T.mths.find? fun m => m.id == f
noncomputable def Top.ad (T : Top) (K : PySem.W.Frag) (f : Nat) : Option Addr := match T.prog.lookup f with
  | some _ => (fnObj K (glV K T.names) f).map (·.f)
  | none => match T.mt f with
    | some m => (mtObj K (glV K T.names) m.C m.x).map (·.f)
    | none => none
theorem n_init : ("__init__" : Str) = nmS 53901697516122079 := by kernel_rfl
/-- a class, as it must be -/
noncomputable def chkCl (T : Top) (K : PySem.W.Frag) (gl : List (Nat × Value)) (q : Nat × Cl) : Bool :=
  decide (q.1 < big) && match clAdr gl q.1 with
    | some a => PySem.W.plainGet K a Str.empty && PySem.W.hasDictIn K a && PySem.W.plainOver K a && (PySem.W.findIn K (.ref a) "__setattr__" == some (some (.builtin "object.__setattr__"))) && PySem.W.makesIn K a && PySem.W.keepIn K (.ref a) &&
        q.2.flds.all (fun f => decide (f < big) && PySem.W.findIn K (.ref a) (nmS f) == some none) &&
        q.2.mts.all (fun m => match T.mt m.2 with | some z => decide (z.C = q.1) && decide (z.x = m.1) | none => false) &&
        (match T.mt q.2.ini with | some z => decide (z.C = q.1) && decide (z.x = 53901697516122079) | none => false)
    | none => false
noncomputable def chkMt (K : PySem.W.Frag) (gl : List (Nat × Value)) (m : Mt) : Bool :=
  decide (big ≤ m.id) && chkFn m.F && match mtObj K gl m.C m.x with
    | some o => PySem.W.isFn K (.ref o.f) && chkDf K m.F o.fd
    | none => false
/-- what is reckoned over the written part -/
noncomputable def Top.chk (T : Top) (K : PySem.W.Frag) : Bool :=
  let gl := glV K T.names
  T.names.all (fun x => decide (x < big)) && (K.lookup mainGlobals).isSome && !(glEnts K).isEmpty && T.prog.all (fun q => decide (q.1 < big) && (match fnObj K gl q.1 with | some o => chkDf K q.2 o.fd | none => false) && chkFn q.2) &&
    T.gvs.all (fun q => decide (q.1 < big) && match gl.lookup q.1 with | some v => cvB K q.2 v | none => false) &&
    T.kds.all (fun q => decide (q.1 < big) && match kdEnts K gl q.1 with | some e => entB K q.2 e.2.1.toList && !(e.1 == sysModules) | none => false) &&
    bltAll.all (fun y => (gl.lookup y).isNone) && T.clss.all (chkCl T K gl) && T.mths.all (chkMt K gl)
noncomputable def Top.eqs (T : Top) (K : PySem.W.Frag) : List (Value × Value) :=
  let gl := glV K T.names
  (T.gvs.map fun q => match gl.lookup q.1 with | some v => cvP K gl q.2 v | none => []).flatten ++
  (T.kds.map fun q => match kdEnts K gl q.1 with | some e => entP K gl q.2 e.2.1.toList | none => []).flatten ++
  (T.prog.map fun q => match fnObj K gl q.1 with | some o => dfP K gl q.2 o.fd | none => []).flatten ++
  (T.mths.map fun m => match mtObj K gl m.C m.x with | some o => dfP K gl m.F o.fd | none => []).flatten

theorem find_mem {α : Type} {p : α → Bool} : ∀ {l : List α} {x : α}, l.find? p = some x → x ∈ l ∧ p x = true := fun {l x} e => ⟨List.mem_of_find?_eq_some e, List.find?_some e⟩
theorem map_eq_at {α β : Type} : ∀ {l : List α} {f g : α → β}, l.map f = l.map g → ∀ y ∈ l, f y = g y
  | [], _, _, _, _, hy => by cases hy
  | a :: l, f, g, h, y, hy => by
    injection h with h1 h2
    rcases List.mem_cons.mp hy with rfl | hy
    · exact h1
    · exact map_eq_at h2 y hy
theorem lookup_app {α : Type} {l r : List (Nat × α)} {x : Nat} : (l ++ r).lookup x = match l.lookup x with | some v => some v | none => r.lookup x := by
  induction l with
  | nil => rfl
  | cons p l ih =>
    obtain ⟨a, b⟩ := p
    by_cases h : x = a
    · subst h; simp [List.lookup]
    · have : (x == a) = false := by simpa using h
      simp only [List.cons_append, List.lookup, this, ih]
theorem lookup_mths {l : List Mt} {f : Nat} {F : Fn} (e : (l.map fun m => (m.id, m.F)).lookup f = some F) : ∃ m, l.find? (fun m => m.id == f) = some m ∧ m.F = F := by
  induction l with
  | nil => cases e
  | cons a l ih =>
    by_cases h : f = a.id
    · subst h
      have e : some a.F = some F := by simpa [List.lookup] using e
      cases e
      exact ⟨a, by simp [List.find?], rfl⟩
    · have h1 : (f == a.id) = false := by simpa using h
      have h2 : (a.id == f) = false := by simpa using Ne.symm h
      simp only [List.map_cons, List.lookup, h1] at e
      obtain ⟨m, e1, e2⟩ := ih e
      exact ⟨m, by simp [List.find?, h2, e1], e2⟩
theorem mtObj_at {K : PySem.W.Frag} {gl : List (Nat × Value)} {C x : Nat} {o : FObj} (e : mtObj K gl C x = some o) : ∃ a, clAdr gl C = some a ∧ PySem.W.findIn K (.ref a) (nmS x) = some (some (.ref o.f)) ∧ K.lookup o.f = some ⟨o.oc, o.od, .func o.fd, o.osl⟩ := by
  unfold mtObj clFind at e
  cases q : clAdr gl C with
  | none => rw [q] at e; cases e
  | some a =>
    rw [q] at e
    simp only at e
    split at e
    · rename_i f e1
      split at e
      · rename_i e2
        cases e
        exact ⟨a, rfl, e1, e2⟩
      · cases e
    · cases e
theorem fnObj_at {K : PySem.W.Frag} {gl : List (Nat × Value)} {x : Nat} {o : FObj} (e : fnObj K gl x = some o) : gl.lookup x = some (.ref o.f) ∧ K.lookup o.f = some ⟨o.oc, o.od, .func o.fd, o.osl⟩ := by
  unfold fnObj at e
  split at e
  · rename_i f e1
    split at e
    · rename_i e2
      cases e
      exact ⟨e1, e2⟩
    · cases e
  · cases e
theorem top_ok {P : Program} {w : World} {K : PySem.W.Frag} {mg : Str → Option Value} {h : Heap} {T : Top} (X : K.In h) (Gn : h.Ns mainGlobals mg)
    (hc : T.chk K = true) (hk : reKeys T.names (glEnts K) = glEnts K) (ht : T.prog.map (tellFn K (glV K T.names)) = T.prog.map (wantFn K (glV K T.names))) (hm : T.mths.map (tellMt K (glV K T.names)) = T.mths.map (wantMt K (glV K T.names)))
    (he : (T.eqs K).map (·.1) = (T.eqs K).map (·.2)) (hd : T.kds.map (fun q => (kdEnts K (glV K T.names) q.1).map fun e => reEnts w.params q.2 e.2.1.toList) = T.kds.map (fun q => (kdEnts K (glV K T.names) q.1).map fun e => e.2.1.toList)) :
    GOk T.pr K mg w ∧ COk T.pr (T.ad K) K mg ∧ FnsAt T.pr (T.ad K) K mg := by
  unfold Top.chk at hc
  simp only [Bool.and_eq_true, List.all_eq_true, decide_eq_true_eq, Bool.not_eq_true'] at hc
  obtain ⟨⟨⟨⟨⟨⟨⟨⟨c1, c2⟩, c3⟩, c4⟩, c5⟩, c6⟩, c7⟩, c8⟩, c9⟩ := hc
  have hne : glEnts K ≠ [] := by intro z; rw [z] at c3; cases c3
  have ns : ∀ y, y < big → PySem.W.nsIn K mainGlobals (nmS y) = some ((glV K T.names).lookup y) := fun y hy => ns_of c1 ⟨c2, hne⟩ hk hy
  have memn : ∀ {x v}, (glV K T.names).lookup x = some v → x < big := fun {x v} e => by
    have := lookup_mem e
    exact c1 x (List.of_mem_zip this).1
  have hmg : ∀ x v, (glV K T.names).lookup x = some v → mg (nmS x) = some v ∧ x < 128 ^ 64 := fun x v e => ⟨PySem.W.mg_of X Gn (by rw [ns x (memn e), e]), memn e⟩
  have hno : ∀ y ∈ bltAll, y < big → mg (nmS y) = none := fun y hy hb => PySem.W.mg_none_of X Gn (by
    rw [ns y hb]
    have := c7 y hy
    cases q : (glV K T.names).lookup y with
    | none => rfl
    | some v => rw [q] at this; cases this)
  have ee := eqs_of he
  have mtk : ∀ f m, T.mt f = some m → m.id = f ∧ ∃ o a, mtObj K (glV K T.names) m.C m.x = some o ∧ clAdr (glV K T.names) m.C = some a ∧ Meth K a (nmS m.x) o.f ∧ T.ad K f = some o.f ∧ chkFn m.F = true ∧ K.lookup o.f = some ⟨o.oc, o.od, .func o.fd, o.osl⟩ ∧ tellMt K (glV K T.names) m = wantMt K (glV K T.names) m ∧ chkDf K m.F o.fd = true ∧ Eqs (dfP K (glV K T.names) m.F o.fd) := fun f m e => by
    obtain ⟨h1, h2⟩ := find_mem e
    have h2 : m.id = f := by simpa using h2
    have h3 := c9 m h1
    unfold chkMt at h3
    simp only [Bool.and_eq_true, decide_eq_true_eq] at h3
    obtain ⟨⟨h4, h5⟩, h6⟩ := h3
    cases q : mtObj K (glV K T.names) m.C m.x with
    | none => rw [q] at h6; cases h6
    | some o =>
      rw [q] at h6
      simp only [Bool.and_eq_true] at h6
      obtain ⟨h6, h7⟩ := h6
      obtain ⟨a, a1, a2, a3⟩ := mtObj_at q
      refine ⟨h2, o, a, rfl, a1, ⟨a2, h6, ?_⟩, ?_, h5, a3, map_eq_at hm m h1, h7, fun p hp => ee p ?_⟩
      rotate_right
      · refine List.mem_append_right _ (List.mem_flatten.mpr ⟨_, List.mem_map.mpr ⟨_, h1, rfl⟩, ?_⟩)
        simp only [q]
        exact hp
      · unfold PySem.W.keepIn
        simp only [show List.lookup o.f K = _ from a3]
      · unfold Top.ad
        cases qp : T.prog.lookup f with
        | some F =>
          have := (c4 _ (lookup_mem qp)).1.1
          exact absurd this (by rw [← h2]; exact Nat.not_lt.mpr h4)
        | none =>
          simp only [e, q]
          rfl
  refine ⟨⟨fun x d e => ?_, fun x kvs e => ?_, fun f => ?_, ?_, ?_, fun Ty => ?_⟩, ⟨fun C c e => ?_⟩, ⟨fun x F e => ?_⟩⟩
  · have hm := lookup_mem (sc := T.gvs) e
    obtain ⟨hb, q⟩ := c5 _ hm
    cases q1 : (glV K T.names).lookup x with
    | none => simp only [q1] at q; cases q
    | some v =>
      simp only [q1] at q
      obtain ⟨u, a1, a2⟩ := cv_ok hmg q fun p hp => ee p (by
        refine List.mem_append_left _ (List.mem_append_left _ (List.mem_append_left _ (List.mem_flatten.mpr ⟨_, List.mem_map.mpr ⟨_, hm, rfl⟩, ?_⟩)))
        simp only [q1]
        exact hp)
      exact ⟨v, u, (hmg _ _ q1).1, a1, a2⟩
  · have hm := lookup_mem (sc := T.kds) e
    obtain ⟨hb, q⟩ := c6 _ hm
    cases q1 : kdEnts K (glV K T.names) x with
    | none => simp only [q1] at q; cases q
    | some en =>
      obtain ⟨p, es, n⟩ := en
      simp only [q1, Bool.and_eq_true] at q
      have hr : reEnts w.params kvs es.toList = es.toList := by
        have : ∀ (l : List (Nat × List (List Nat × D))) (f g : Nat × List (List Nat × D) → Option (List DictEntry)), l.map f = l.map g → ∀ y ∈ l, f y = g y := by
          intro l f g hl
          induction l with
          | nil => intro y hy; cases hy
          | cons a l ih =>
            injection hl with h1 h2
            intro y hy
            rcases List.mem_cons.mp hy with rfl | hy
            · exact h1
            · exact ih h2 y hy
        have := this _ _ _ hd _ hm
        simp only [q1, Option.map_some, Option.some.injEq] at this
        exact this
      have hk : KEnt K mg w.params es.toList kvs := kent_of hmg hr q.1 fun p' hp => ee p' (by
        refine List.mem_append_left _ (List.mem_append_left _ (List.mem_append_right _ (List.mem_flatten.mpr ⟨_, List.mem_map.mpr ⟨_, hm, rfl⟩, ?_⟩)))
        simp only [q1]
        exact hp)
      unfold kdEnts at q1
      split at q1
      · rename_i p' e1
        split at q1
        · rename_i T' es' n' sl e2
          split at q1
          · rename_i hT
            cases q1
            have : sl = #[] := Array.eq_empty_of_size_eq_zero hT.2
            rw [this, hT.1] at e2
            exact ⟨_, _, _, (hmg _ _ e1).1, e2, by simpa using q.2, hk⟩
          · cases q1
        · cases q1
      · cases q1
  · rw [bf_nm]
    exact hno _ (by cases f <;> simp [bltAll]) (by cases f <;> decide)
  · rw [n_range]; exact hno _ (by simp [bltAll]) (by decide)
  · rw [n_isi]; exact hno _ (by simp [bltAll]) (by decide)
  · rw [ty_nm]
    exact hno _ (by cases Ty <;> simp [bltAll]) (by cases Ty <;> decide)
  · have h1 := c8 _ (lookup_mem (sc := T.clss) e)
    unfold chkCl at h1
    simp only [Bool.and_eq_true, decide_eq_true_eq] at h1
    obtain ⟨hb, h1⟩ := h1
    cases q : clAdr (glV K T.names) C with
    | none => simp only [q] at h1; cases h1
    | some a =>
      simp only [q, Bool.and_eq_true, decide_eq_true_eq, List.all_eq_true] at h1
      obtain ⟨⟨⟨⟨⟨⟨⟨⟨b1, b2⟩, b3⟩, b4⟩, b5⟩, b6⟩, b7⟩, b8⟩, b9⟩ := h1
      have el : (glV K T.names).lookup C = some (.ref a) := by
        unfold clAdr at q
        split at q
        · rename_i e1; cases q; exact e1
        · cases q
      refine ⟨a, (hmg _ _ el).1, ⟨b1, b2, b3, eq_of_beq b4⟩, fun f hf => ⟨(b7 f hf).1, eq_of_beq (b7 f hf).2⟩, fun x f hx => ?_, ?_⟩
      · have h2 := b8 _ (lookup_mem hx)
        simp only at h2
        cases q2 : T.mt f with
        | none => rw [q2] at h2; cases h2
        | some m =>
          rw [q2] at h2
          simp only [Bool.and_eq_true, decide_eq_true_eq] at h2
          obtain ⟨_, o, a', k1, k2, k3, k4, _⟩ := mtk f m q2
          rw [h2.1, q] at k2
          cases k2
          rw [h2.2] at k3
          exact ⟨o.f, k4, k3⟩
      · cases q2 : T.mt c.ini with
        | none => rw [q2] at b9; cases b9
        | some m =>
          rw [q2] at b9
          simp only [Bool.and_eq_true, decide_eq_true_eq] at b9
          obtain ⟨_, o, a', k1, k2, k3, k4, _⟩ := mtk _ m q2
          rw [b9.1, q] at k2
          cases k2
          rw [b9.2, ← n_init] at k3
          exact ⟨o.f, k4, b5, k3.at_, k3.fn, b6⟩
  · have e : (T.prog ++ T.mths.map fun m => (m.id, m.F)).lookup x = some F := e
    rw [lookup_app] at e
    cases qp : T.prog.lookup x with
    | some F' =>
      rw [qp] at e
      cases e
      obtain ⟨⟨hb, h1⟩, h2⟩ := c4 _ (lookup_mem qp)
      cases q : fnObj K (glV K T.names) x with
      | none => rw [q] at h1; cases h1
      | some o =>
        obtain ⟨a1, a2⟩ := fnObj_at q
        have h3 := map_eq_at ht _ (lookup_mem qp)
        unfold tellFn wantFn at h3
        simp only [q, Option.map_some, Option.some.injEq, Prod.mk.injEq] at h3
        rw [q] at h1
        obtain ⟨st, A⟩ := fnAt_of hmg a2 h3.1 h3.2 h2 h1 fun p hp => ee p (by
          refine List.mem_append_left _ (List.mem_append_right _ (List.mem_flatten.mpr ⟨_, List.mem_map.mpr ⟨_, lookup_mem qp, rfl⟩, ?_⟩))
          simp only [q]
          exact hp)
        exact ⟨x, x, o.f, o.fd, st, A, by unfold Top.ad; rw [qp]; simp only [q]; rfl, fun _ => ⟨(hmg _ _ a1).1, A.kp⟩⟩
    | none =>
      rw [qp] at e
      obtain ⟨m, e1, rfl⟩ := lookup_mths e
      obtain ⟨i1, o, a, k1, k2, k3, k4, k5, k6, k7, k8, k9⟩ := mtk x m e1
      unfold tellMt wantMt at k7
      simp only [k1, Option.map_some, Option.some.injEq, Prod.mk.injEq] at k7
      obtain ⟨st, A⟩ := fnAt_of hmg k6 k7.1 k7.2 k5 k8 k9
      refine ⟨m.x, m.q, o.f, o.fd, st, A, k4, fun hx => ?_⟩
      have h3 := c9 m (find_mem e1).1
      unfold chkMt at h3
      simp only [Bool.and_eq_true, decide_eq_true_eq] at h3
      exact absurd hx (by rw [← i1]; exact Nat.not_lt.mpr h3.1.1)

/-- the law's def, from its evaluator's answer -/
theorem law_all {P : Program} {w : World} {K : PySem.W.Frag} {mg : Str → Option Value} {h : Heap} {T : Top} {fa : Addr} {x k : Nat} {F : Fn} {law arg : Str} (X : K.In h) (Gn : h.Ns mainGlobals mg) (hfa : mg law = some (.ref fa)) (hlaw : law = nmS x) (harg : [arg] = F.ps.map nmS)
    (hx : T.pr.fn x = some F) (hn : F.np = 1) (hl : ∀ ns : List Int, ns.length ≤ 63 → ∃ h', callN T.pr k x [.ref 0] [.scr ns] = some (.bl true, h'))
    (hc : T.chk K = true) (hk : reKeys T.names (glEnts K) = glEnts K) (ht : T.prog.map (tellFn K (glV K T.names)) = T.prog.map (wantFn K (glV K T.names))) (hm : T.mths.map (tellMt K (glV K T.names)) = T.mths.map (wantMt K (glV K T.names)))
    (he : (T.eqs K).map (·.1) = (T.eqs K).map (·.2)) (hd : T.kds.map (fun q => (kdEnts K (glV K T.names) q.1).map fun e => reEnts w.params q.2 e.2.1.toList) = T.kds.map (fun q => (kdEnts K (glV K T.names) q.1).map fun e => e.2.1.toList)) (hxb : x < 128 ^ 64) (hd0 : F.dfs = [] := by rfl) :
    ∃ fd : FuncData, (∀ (s : Shared) (v : Value), BindsTo s fd ⟨[v], []⟩ [(arg, v)]) ∧ ∀ base : Heap, K.In base → base.Ns mainGlobals mg → FnOk P w K mg base CX0 (2 * k) fa fd [arg] (spLaw K) := by
  obtain ⟨G, CO, hF⟩ := top_ok (P := P) X Gn hc hk ht hm he hd
  obtain ⟨x0, q0, f, fd, st, A, ad, gl⟩ := hF.at_ x F hx
  have : fa = f := by
    have := (gl hxb).1
    rw [← hlaw, hfa] at this
    cases this; rfl
  subst this
  refine ⟨fd, fun s v => ?_, fun base _ _ => ?_⟩
  · have e := A.barg hd0 [v] (by rw [← harg]; rfl)
    rw [← harg] at e
    exact .of_eq e
  · rw [harg]
    exact (fn_all G CO hF k x F x0 q0 fa fd st hx A).imp (law_imp hx hn hl)
end FK

end
section
set_option maxRecDepth 100000
set_option maxHeartbeats 4000000
/-! FkL: tools for the plain law. -/
namespace FK
noncomputable def fin (r : Option (Fl × Lc × LH)) : Option (D × LH) := r.bind fun p => match p with
  | (.nx, _, h') => some (.non, h')
  | (.rt d, _, h') => some (d, h')
  | (.bk, _, _) => none
theorem callN_succ {P : Pr} {k f : Nat} {vs : List D} {h : LH} {F : Fn} (hF : P.fn f = some F) (hl : vs.length = F.np) : callN P (k + 1) f vs h = fin (evSs P (callN P k) F.body (start F vs) h) := by
  rw [callN_def, hF]
  simp only [Option.bind_some]
  rw [fill_full hl]
  rfl
@[simp] theorem fin_rt (d : D) (σ : Lc) (h : LH) : fin (some (.rt d, σ, h)) = some (d, h) := rfl
@[simp] theorem fin_nx (σ : Lc) (h : LH) : fin (some (.nx, σ, h)) = some (.non, h) := rfl

noncomputable def bodyF (P : Pr) (cl : Nat → List D → LH → Option (D × LH)) (b : Sms) : Lc → LH → Option (Fl × Lc × LH) := fun σ h => evSs P cl b σ h
noncomputable def testF (P : Pr) (cl : Nat → List D → LH → Option (D × LH)) (c : Ex) : Lc → LH → Option (Bool × LH) := fun σ h => tsE P cl c σ h
noncomputable def tgF (t : Tg) : D → Lc → Option Lc := fun d σ => tgA t d σ
theorem bodyF_ap (P : Pr) (cl b σ h) : bodyF P cl b σ h = evSs P cl b σ h := rfl
theorem tgF_ap (t d σ) : tgF t d σ = tgA t d σ := rfl
section
variable (P : Pr) (cl : Nat → List D → LH → Option (D × LH)) (σ : Lc) (h : LH)
end
noncomputable def tstF (P : Pr) (cl : Nat → List D → LH → Option (D × LH)) (ts : Exs) : Lc → LH → Option (Bool × LH) := fun σ h => evTs P cl ts σ h
noncomputable def eltF (P : Pr) (cl : Nat → List D → LH → Option (D × LH)) (e : Ex) : Lc → LH → Option (D × LH) := fun σ h => evE P cl e σ h
theorem tstF_ap (P : Pr) (cl b σ h) : tstF P cl b σ h = evTs P cl b σ h := rfl
theorem eltF_ap (P : Pr) (cl b σ h) : eltF P cl b σ h = evE P cl b σ h := rfl
section
variable (P : Pr) (cl : Nat → List D → LH → Option (D × LH)) (σ : Lc) (h : LH)
theorem evE_non : evE P cl .non σ h = some (.non, h) := rfl
theorem evE_bl (b) : evE P cl (.bl b) σ h = some (.bl b, h) := rfl
theorem evE_int (i) : evE P cl (.int i) σ h = some (.int i, h) := rfl
theorem evE_str (s) : evE P cl (.str s) σ h = some (.str s, h) := rfl
theorem evE_lv (i) : evE P cl (.lv i) σ h = match σ[i]? with
    | some (some d) => some (d, h)
    | _ => none := rfl
theorem evE_gv (x) : evE P cl (.gv x) σ h = (P.gv x).map fun d => (d, h) := rfl
theorem evE_and (es) : evE P cl (.and es) σ h = evAnd P cl es σ h := rfl
theorem evE_or (es) : evE P cl (.or es) σ h = evOr P cl es σ h := rfl
theorem evE_calv (i es) : evE P cl (.calv i es) σ h = match σ[i]? with
    | some (some (.fn f)) => (evEs P cl es σ h).bind fun p => cl f p.1 p.2
    | _ => none := rfl
end
/-- a comprehension that changes nothing: what is kept, what is made of it -/
theorem lcL_pure {asg : D → Lc → Option Lc} {test : Lc → LH → Option (Bool × LH)} {elt : Lc → LH → Option (D × LH)} {g : Option Nat} {all : List D} {σ : Lc} {h : LH} (b : D → Bool) (f : D → D) (hs : stays g all h) :
    ∀ (rest acc : List D), (∀ x ∈ rest, ∃ σ1, asg x σ = some σ1 ∧ test σ1 h = some (b x, h) ∧ (b x = true → elt σ1 h = some (f x, h))) → acc.length + rest.length ≤ SZ →
      lcL asg test elt g all σ acc rest h = some (acc ++ (rest.filter b).map f, h)
  | [], acc, _, _ => by simp [lcL]
  | x :: r, acc, hx, hl => by
    obtain ⟨σ1, e1, e2, e3⟩ := hx x List.mem_cons_self
    have hr := fun y hy => hx y (List.mem_cons_of_mem _ hy)
    unfold lcL
    simp only [e1, e2, Option.bind_some]
    cases q : b x with
    | true =>
      simp only [if_true, e3 q, Option.bind_some]
      rw [if_pos ⟨hs, by simp at hl; omega⟩, lcL_pure b f hs r (acc ++ [f x]) hr (by simp at hl ⊢; omega)]
      simp [q]
    | false =>
      simp only [Bool.false_eq_true, if_false]
      rw [if_pos hs, lcL_pure b f hs r acc hr (by simp at hl ⊢; omega)]
      simp [q]
/-- a for loop, by what holds ahead of the turn i -/
theorem forL_inv {asg : D → Lc → Option Lc} {body : Lc → LH → Option (Fl × Lc × LH)} {g : Option Nat} {all : List D} (Inv : Nat → Lc → LH → Prop) (Post : Fl → Lc → LH → Prop)
    (turn : ∀ i x σ h, all[i]? = some x → Inv i σ h → ∃ σ1 fl σ2 h2, asg x σ = some σ1 ∧ body σ1 h = some (fl, σ2, h2) ∧ match fl with | .nx => stays g all h2 ∧ Inv (i + 1) σ2 h2 | .bk => Post .nx σ2 h2 | .rt d => Post (.rt d) σ2 h2)
    (done : ∀ σ h, Inv all.length σ h → Post .nx σ h) : ∀ (i : Nat) (rest : List D) (σ : Lc) (h : LH), rest = all.drop i → i ≤ all.length → Inv i σ h → ∃ fl σ' h', forL asg body g all rest σ h = some (fl, σ', h') ∧ Post fl σ' h'
  | i, [], σ, h, e, hi, iv => by
    have : i = all.length := by
      have := congrArg List.length e
      rw [List.length_drop] at this
      simp at this
      omega
    subst this
    exact ⟨.nx, σ, h, rfl, done _ _ iv⟩
  | i, x :: r, σ, h, e, hi, iv => by
    have hlt : i < all.length := by
      have := congrArg List.length e
      rw [List.length_drop] at this
      simp at this
      omega
    have hd := List.getElem_cons_drop hlt
    rw [← e] at hd
    injection hd with hx hr
    obtain ⟨σ1, fl, σ2, h2, e1, e2, k⟩ := turn i x σ h (by rw [List.getElem?_eq_getElem hlt, hx]) iv
    unfold forL
    simp only [e1, e2, Option.bind_some]
    cases fl with
    | nx =>
      simp only
      rw [if_pos k.1]
      exact forL_inv Inv Post turn done (i + 1) r σ2 h2 hr.symm hlt k.2
    | bk => exact ⟨.nx, σ2, h2, rfl, k⟩
    | rt d => exact ⟨.rt d, σ2, h2, rfl, k⟩
/-- from the first turn -/
theorem forL_run {asg : D → Lc → Option Lc} {body : Lc → LH → Option (Fl × Lc × LH)} {g : Option Nat} {all : List D} {σ : Lc} {h : LH} (Inv : Nat → Lc → LH → Prop) (Post : Fl → Lc → LH → Prop) (start : Inv 0 σ h)
    (turn : ∀ i x σ h, all[i]? = some x → Inv i σ h → ∃ σ1 fl σ2 h2, asg x σ = some σ1 ∧ body σ1 h = some (fl, σ2, h2) ∧ match fl with | .nx => stays g all h2 ∧ Inv (i + 1) σ2 h2 | .bk => Post .nx σ2 h2 | .rt d => Post (.rt d) σ2 h2)
    (done : ∀ σ h, Inv all.length σ h → Post .nx σ h) : ∃ fl σ' h', forL asg body g all all σ h = some (fl, σ', h') ∧ Post fl σ' h' :=
  forL_inv Inv Post turn done 0 all σ h rfl (Nat.zero_le _) start
/-- the loop runs through -/
theorem forL_thru {asg : D → Lc → Option Lc} {body : Lc → LH → Option (Fl × Lc × LH)} {g : Option Nat} {all : List D} {σ : Lc} {h : LH} (Inv : Nat → Lc → LH → Prop) (start : Inv 0 σ h)
    (turn : ∀ i x σ h, all[i]? = some x → Inv i σ h → ∃ σ1 σ2 h2, asg x σ = some σ1 ∧ body σ1 h = some (.nx, σ2, h2) ∧ stays g all h2 ∧ Inv (i + 1) σ2 h2) : ∃ σ' h', forL asg body g all all σ h = some (.nx, σ', h') ∧ Inv all.length σ' h' := by
  obtain ⟨fl, σ', h', e, p⟩ := forL_run (asg := asg) (body := body) (g := g) (all := all) (σ := σ) (h := h) Inv (fun fl σ h => fl = .nx ∧ Inv all.length σ h) start
    (fun i x σ h hx iv => let ⟨σ1, σ2, h2, a, b, c⟩ := turn i x σ h hx iv; ⟨σ1, .nx, σ2, h2, a, b, c⟩) (fun σ h iv => ⟨rfl, iv⟩)
  obtain ⟨rfl, p⟩ := p
  exact ⟨σ', h', e, p⟩
@[simp] theorem stays_none {xs : List D} {h : LH} : stays none xs h = True := rfl
/-- the i-th of a range's numbers -/
theorem rng_at {lo : Int} {n i : Nat} {x : D} (h : ((List.range n).map fun (k : Nat) => D.int (lo + k))[i]? = some x) : x = .int (lo + i) ∧ i < n := by
  rw [List.getElem?_map] at h
  cases q : (List.range n)[i]? with
  | none => rw [q] at h; cases h
  | some k =>
    rw [q] at h
    have hi : i < n := by have := (List.getElem?_eq_some_iff.mp q).1; simpa using this
    have : k = i := by rw [List.getElem?_range hi] at q; exact (Option.some.inj q).symm
    subst this
    exact ⟨by simpa using h.symm, hi⟩
theorem rng_at0 {n i : Nat} {x : D} (h : ((List.range n).map fun (k : Nat) => D.int k)[i]? = some x) : x = .int i ∧ i < n := by
  rw [List.getElem?_map] at h
  cases q : (List.range n)[i]? with
  | none => rw [q] at h; cases h
  | some k =>
    rw [q] at h
    have hi : i < n := by have := (List.getElem?_eq_some_iff.mp q).1; simpa using this
    have : k = i := by rw [List.getElem?_range hi] at q; exact (Option.some.inj q).symm
    subst this
    exact ⟨by simpa using h.symm, hi⟩
@[simp] theorem setLst_len (h : LH) (a : Nat) (xs : List D) : (setLst h a xs).length = h.length := by simp [setLst]
@[simp] theorem setLst_setLst (h : LH) (a : Nat) (xs ys : List D) : setLst (setLst h a xs) a ys = setLst h a ys := by simp [setLst]
theorem setLst_same {h : LH} {a : Nat} {xs : List D} (ha : a < h.length) : (setLst h a xs)[a]? = some (.lst xs) := by simp [setLst, ha]
theorem setLst_ne {h : LH} {a b : Nat} {xs : List D} (hb : b ≠ a) : (setLst h a xs)[b]? = h[b]? := by simp [setLst, List.getElem?_set_ne (Ne.symm hb)]
theorem lt_of_get {h : LH} {a : Nat} {o : LO} (e : h[a]? = some o) : a < h.length := (List.getElem?_eq_some_iff.mp e).1
/-- a place from the front -/
theorem atI_of {α : Type} {xs : List α} {i : Int} (h0 : 0 ≤ i) (h1 : i < xs.length) : atI xs i = xs[i.toNat]? := by
  unfold atI ixN
  rw [if_pos h0, if_pos h1]
  rfl
mutual
theorem pyeq_refl : ∀ d : D, pur d = true → pyeq d d = true
  | .non, _ => rfl
  | .bl _, _ => by simp [pyeq]
  | .int _, _ => by simp [pyeq]
  | .str _, _ => by simp [pyeq]
  | .tup xs, h => by simp only [pyeq]; exact pyeqs_refl xs (by simpa [pur] using h)
  | .ref _, h => by simp [pur] at h
  | .fn _, h => by simp [pur] at h
  | .kd _, h => by simp [pur] at h
theorem pyeqs_refl : ∀ xs : List D, purs xs = true → pyeqs xs xs = true
  | [], _ => rfl
  | x :: xs, h => by
    have h' : pur x = true ∧ purs xs = true := by simpa [purs] using h
    simp [pyeqs, pyeq_refl x h'.1, pyeqs_refl xs h'.2]
end
end FK
namespace FK
/-- what comes of it is a Q -/
noncomputable def WP {α : Type} (Q : α → Prop) (E : Option α) : Prop := ∃ r, E = some r ∧ Q r
theorem WP.mk {α : Type} {Q : α → Prop} {E : Option α} (k : ∀ R : α → Prop, (∀ r, Q r → R r) → WP R E) : WP Q E := k Q fun _ h => h
theorem wp_some {α : Type} {Q : α → Prop} {r : α} : WP Q (some r) = Q r := propext ⟨fun ⟨_, e, q⟩ => by cases e; exact q, fun q => ⟨r, rfl, q⟩⟩
theorem WP.of {α : Type} {Q : α → Prop} {r : α} (q : Q r) : WP Q (some r) := ⟨r, rfl, q⟩
theorem forL_go {asg : D → Lc → Option Lc} {body : Lc → LH → Option (Fl × Lc × LH)} {g : Option Nat} {all : List D} {σ : Lc} {h : LH} {L : Option (Fl × Lc × LH)} {G : Prop} (e : forL asg body g all all σ h = L) (Inv : Nat → Lc → LH → Prop) (start : Inv 0 σ h)
    (turn : ∀ i x σ h, all[i]? = some x → Inv i σ h → ∀ Q, (∀ σ2 h2, stays g all h2 → Inv (i + 1) σ2 h2 → Q (.nx, σ2, h2)) → WP Q ((asg x σ).bind fun σ1 => body σ1 h))
    (k : ∀ σ' h', L = some (.nx, σ', h') → Inv all.length σ' h' → G) : G := by
  obtain ⟨σ', h', q, iv⟩ := forL_thru (asg := asg) (body := body) (g := g) (all := all) (σ := σ) (h := h) Inv start (fun i x σ h hx iv => by
    obtain ⟨r, a, σ2, h2, rfl, b⟩ := turn i x σ h hx iv (fun r => ∃ σ2 h2, r = (.nx, σ2, h2) ∧ stays g all h2 ∧ Inv (i + 1) σ2 h2) (fun σ2 h2 a b => ⟨σ2, h2, rfl, a, b⟩)
    obtain ⟨σ1, c, d⟩ := Option.bind_eq_some_iff.mp a
    exact ⟨σ1, σ2, h2, c, d, b⟩)
  exact k σ' h' (e ▸ q) iv
theorem mulOk_r (i j : Int) (h : j.natAbs < 18446744073709551616) : mulOk i j = true := by
  have : j.natAbs < 2 ^ 64 := h
  simp [mulOk, this]
theorem mulOk_l (i j : Int) (h : i.natAbs < 18446744073709551616) : mulOk i j = true := by
  have : i.natAbs < 2 ^ 64 := h
  simp [mulOk, this]
theorem divOk_s (j : Int) (n : j ≠ 0) (h : j.natAbs < 18446744073709551616) : divOk j = true := by
  have h2 : j.natAbs < 2 ^ 9000 := Nat.lt_of_lt_of_le (show j.natAbs < 2 ^ 64 from h) (Nat.pow_le_pow_right (by decide) (by decide))
  simp [divOk, n, h2]
/-- the digits that a law draws from: the box b, the row d -/
noncomputable def Bx (h : LH) (b d : Nat) : Prop := ∃ (ds : List Int) (t : Nat), h[b]? = some (.lst [.ref d, .int t]) ∧ h[d]? = some (.lst (ds.map D.int)) ∧ b ≠ d ∧ ∀ x ∈ ds, 0 ≤ x ∧ x < 1000
/-- only b is changed, others may come -/
noncomputable def Ext (b : Nat) (h h' : LH) : Prop := h.length ≤ h'.length ∧ ∀ a, a < h.length → a ≠ b → h'[a]? = h[a]?
theorem Ext.refl (b : Nat) (h : LH) : Ext b h h := ⟨Nat.le_refl _, fun _ _ _ => rfl⟩
theorem Ext.trans {b : Nat} {h h' h'' : LH} (x : Ext b h h') (y : Ext b h' h'') : Ext b h h'' := ⟨Nat.le_trans x.1 y.1, fun a l n => (y.2 a (Nat.lt_of_lt_of_le l x.1) n).trans (x.2 a l n)⟩
theorem Ext.app (b : Nat) (h x : LH) : Ext b h (h ++ x) := ⟨by simp, fun a l n => by rw [List.getElem?_append_left l]⟩
theorem Bx.app {h : LH} {b d : Nat} (B : Bx h b d) (x : LH) : Bx (h ++ x) b d := by
  obtain ⟨ds, t, e1, e2, n, r⟩ := B
  exact ⟨ds, t, by rw [List.getElem?_append_left (lt_of_get e1), e1], by rw [List.getElem?_append_left (lt_of_get e2), e2], n, r⟩
theorem Bx.set {h : LH} {b d : Nat} (B : Bx h b d) (a : Nat) (hb : a ≠ b) (hd : a ≠ d) (xs : List D) : Bx (setLst h a xs) b d := by
  obtain ⟨ds, t, e1, e2, n, r⟩ := B
  exact ⟨ds, t, by rw [setLst_ne (Ne.symm hb), e1], by rw [setLst_ne (Ne.symm hd), e2], n, r⟩
theorem setLst_top (h : LH) (o : LO) (xs : List D) : setLst (h ++ [o]) h.length xs = h ++ [.lst xs] := by simp [setLst]
/-- data of at most n levels of tuples -/
noncomputable def okd : Nat → D → Bool
  | 0, .tup _ => false
  | n + 1, .tup xs => decide (xs.length < 4000000) && xs.all (okd n)
  | _, .str s => s.all fun c => decide (c < 1114112)
  | _, .non => true
  | _, .bl _ => true
  | _, .int _ => true
  | _, _ => false
theorem okd_get {n : Nat} {xs : List D} (h : okd (n + 1) (.tup xs) = true) {i : Nat} {x : D} (e : xs[i]? = some x) : okd n x = true := by
  simp [okd] at h
  exact h.2 x (List.mem_of_getElem? e)
theorem okd_len {n : Nat} {xs : List D} (h : okd (n + 1) (.tup xs) = true) : xs.length < 4000000 := by
  simp [okd] at h
  exact h.1
theorem okd_str (n : Nat) (s : List Nat) : okd n (.str s) = s.all fun c => decide (c < 1114112) := by cases n <;> rfl
theorem rngOf_1 (i : Int) (h : i.natAbs < 4000000) : rngOf [.int i] = some ((List.range i.toNat).map fun (k : Nat) => D.int k) := by
  rw [rngOf, cIf_pos (by omega)]
theorem rngOf_2 (i j : Int) (h : i.natAbs < 4000000) (h' : j.natAbs < 4000000) : rngOf [.int i, .int j] = some ((List.range (j - i).toNat).map fun (k : Nat) => D.int (i + k)) := by
  rw [rngOf, cIf_pos (by omega)]
theorem atI_0 {α : Type} (x : α) (r : List α) : atI (x :: r) 0 = some x := by
  rw [atI_of (Int.le_refl 0) (by simp only [List.length_cons]; omega)]; rfl
theorem atI_1 {α : Type} (x y : α) (r : List α) : atI (x :: y :: r) 1 = some y := by
  rw [atI_of (by decide) (by simp; omega)]; rfl
theorem atI_2 {α : Type} (x y z : α) (r : List α) : atI (x :: y :: z :: r) 2 = some z := by
  rw [atI_of (by decide) (by simp; omega)]; rfl
theorem atI_3 {α : Type} (x y z u : α) (r : List α) : atI (x :: y :: z :: u :: r) 3 = some u := by
  rw [atI_of (by decide) (by simp; omega)]; rfl
theorem atI_4 {α : Type} (x y z u v : α) (r : List α) : atI (x :: y :: z :: u :: v :: r) 4 = some v := by
  rw [atI_of (by decide) (by simp; omega)]; rfl
theorem atI_5 {α : Type} (x y z u v w : α) (r : List α) : atI (x :: y :: z :: u :: v :: w :: r) 5 = some w := by
  rw [atI_of (by decide) (by simp; omega)]; rfl
theorem atI_6 {α : Type} (x y z u v w a : α) (r : List α) : atI (x :: y :: z :: u :: v :: w :: a :: r) 6 = some a := by
  rw [atI_of (by decide) (by simp; omega)]; rfl
theorem atI_in {α : Type} {xs : List α} {i : Int} (h0 : 0 ≤ i) (h1 : i < xs.length) : ∃ x, atI xs i = some x ∧ x ∈ xs := by
  rw [atI_of h0 h1]
  have : i.toNat < xs.length := by omega
  exact ⟨xs[i.toNat], List.getElem?_eq_getElem this, List.getElem_mem this⟩
theorem ixN_of {n : Nat} {i : Int} (h0 : 0 ≤ i) (h1 : i < n) : ixN n i = some i.toNat := by
  unfold ixN
  rw [if_pos h0, if_pos h1]
/-- a text whose signs are signs -/
noncomputable def sgn (s : List Nat) : Prop := (s.all fun c => decide (c < 1114112)) = true
theorem op_rep (j : Int) (s : List Nat) (h0 : 0 ≤ j) (h1 : j < 4000) (hs : s.length < 4000) (h : LH) : binop .mul (.str s) (.int j) h = some (.str (List.replicate j.toNat s).flatten, h) := by
  show (if _ then _ else _) = _
  rw [if_pos]
  refine ⟨by omega, by unfold SZ; omega, ?_⟩
  have : s.length * j.toNat ≤ 4000 * 4000 := Nat.mul_le_mul (by omega) (by omega)
  unfold SZ; omega
section
variable (P : Pr) (h : LH)
theorem op_addi (i j : Int) : binop .add (.int i) (.int j) h = some (.int (i + j), h) := rfl
theorem op_subi (i j : Int) : binop .sub (.int i) (.int j) h = some (.int (i - j), h) := rfl
theorem op_muli (i j : Int) : binop .mul (.int i) (.int j) h = if mulOk i j then some (.int (i * j), h) else none := rfl
theorem op_divi (i j : Int) : binop .fdiv (.int i) (.int j) h = if divOk j then some (.int (i.fdiv j), h) else none := rfl
theorem op_modi (i j : Int) : binop .mod (.int i) (.int j) h = if j = 0 then none else some (.int (i.fmod j), h) := rfl
theorem op_powi (i j : Int) : binop .pow (.int i) (.int j) h = if 0 ≤ j ∧ j ≤ 1000000 ∧ i.natAbs < 2 ^ 64 then some (.int (i ^ j.toNat), h) else none := rfl
theorem op_adds (s t : List Nat) : binop .add (.str s) (.str t) h = if s.length + t.length ≤ SZ then some (.str (s ++ t), h) else none := rfl
theorem op_addt (xs ys : List D) : binop .add (.tup xs) (.tup ys) h = if xs.length + ys.length ≤ SZ then some (.tup (xs ++ ys), h) else none := rfl
theorem op_addl (p q : Nat) : binop .add (.ref p) (.ref q) h = match h[p]?, h[q]? with
    | some (.lst xs), some (.lst ys) => if xs.length + ys.length ≤ SZ then alloc h (.lst (xs ++ ys)) else none
    | _, _ => none := rfl
theorem cm_eq (a b : D) : cmpop P .eq a b h = if shp a && shp b then some (pyeq a b) else none := rfl
theorem cm_ne (a b : D) : cmpop P .ne a b h = if shp a && shp b then some (!pyeq a b) else none := rfl
theorem cm_lt (i j : Int) : cmpop P .lt (.int i) (.int j) h = some (decide (i < j)) := rfl
theorem cm_le (i j : Int) : cmpop P .le (.int i) (.int j) h = some (decide (i ≤ j)) := rfl
theorem cm_gt (i j : Int) : cmpop P .gt (.int i) (.int j) h = some (decide (j < i)) := rfl
theorem cm_ge (i j : Int) : cmpop P .ge (.int i) (.int j) h = some (decide (j ≤ i)) := rfl
theorem cm_is (a : D) : cmpop P .is a .non h = some (isNon a) := rfl
theorem cm_isn (a : D) : cmpop P .isnot a .non h = some (!isNon a) := rfl
theorem cm_in (a b : D) : cmpop P .isin a b h = inop P a b h := rfl
theorem cm_nin (a b : D) : cmpop P .notin a b h = (inop P a b h).map (!·) := rfl
theorem in_kd (s : List Nat) (n : Nat) : inop P (.str s) (.kd n) h = (P.kd n).map fun kvs => (kvs.lookup s).isSome := rfl
theorem in_tup (x : D) (xs : List D) : inop P x (.tup xs) h = if shp x && xs.all shp then some (xs.any fun y => pyeq y x) else none := rfl
theorem in_ref (x : D) (a : Nat) : inop P x (.ref a) h = match h[a]? with
    | some (.lst xs) => if shp x && xs.all shp then some (xs.any fun y => pyeq y x) else none
    | some (.dic kvs) => if keyOk x then some (dLook kvs x).isSome else none
    | some (.dlk kvs) => if keyOk x then some (dLook kvs x).isSome else none
    | _ => none := rfl
theorem tr_bl (b : Bool) : truth (.bl b) h = some b := rfl
theorem ix_tup (xs : List D) (i : Int) : getix P (.tup xs) (.int i) h = atI xs i := rfl
theorem ix_str (s : List Nat) (i : Int) : getix P (.str s) (.int i) h = if s.length ≤ SZ then (atI s i).map chr1 else none := rfl
theorem ix_kd (n : Nat) (k : List Nat) : getix P (.kd n) (.str k) h = (P.kd n).bind fun kvs => kvs.lookup k := rfl
theorem ix_ref (p : Nat) (i : Int) : getix P (.ref p) (.int i) h = match h[p]? with
    | some (.lst xs) => atI xs i
    | some (.scr ns) => (atI ns i).map D.int
    | some (.dic kvs) => if keyOk (.int i) then dLook kvs (.int i) else none
    | some (.dlk kvs) => if keyOk (.int i) then dLook kvs (.int i) else none
    | _ => none := rfl
theorem ln_tup (xs : List D) : lenOf (.tup xs) h = some xs.length := rfl
theorem ln_ref (a : Nat) : lenOf (.ref a) h = match h[a]? with
    | some (.lst xs) => some xs.length
    | some (.scr ns) => some ns.length
    | some (.dic kvs) => some kvs.length
    | some (.dlk kvs) => some kvs.length
    | _ => none := rfl
theorem ty_non (T : Ty) : isTy .non T h = some false := rfl
theorem ty_bl (b : Bool) (T : Ty) : isTy (.bl b) T h = some (T == .bool || T == .int) := rfl
theorem ty_int (i : Int) (T : Ty) : isTy (.int i) T h = some (T == .int) := rfl
theorem ty_str (s : List Nat) (T : Ty) : isTy (.str s) T h = some (T == .str) := rfl
theorem ty_tup (xs : List D) (T : Ty) : isTy (.tup xs) T h = some (T == .tuple) := rfl
theorem bf_len (d : D) : bltin .len [d] h = (lenOf d h).map fun n => (.int n, h) := by simp only [bltin]; cases lenOf d h <;> rfl
theorem bf_int (i : Int) : bltin .int [.int i] h = some (.int i, h) := rfl
theorem bf_intb (b : Bool) : bltin .int [.bl b] h = some (.int (b2i b), h) := rfl
theorem bf_tuple (d : D) : bltin .tuple [d] h = (seqOf d h).map fun xs => (.tup xs, h) := by cases d <;> rfl
theorem bf_list (d : D) : bltin .list [d] h = (seqOf d h).bind fun xs => alloc h (.lst xs) := by cases d <;> rfl
theorem sq_ref (a : Nat) : seqOf (.ref a) h = match h[a]? with
    | some (.lst xs) => some xs
    | some (.scr ns) => some (ns.map D.int)
    | _ => none := rfl
theorem wk_tup (xs : List D) : walkOf (.tup xs) h = some (xs, none) := rfl
theorem wk_ref (a : Nat) : walkOf (.ref a) h = match h[a]? with
    | some (.dlk kvs) => some (kvs.map (·.1), none)
    | _ => (seqOf (.ref a) h).map fun xs => (xs, some a) := rfl
theorem to_ref (a : Nat) : tyOf (.ref a) h = match h[a]? with
    | some (.lst _) => some .list
    | some (.dic _) => some .dict
    | some (.dlk _) => some .dict
    | _ => none := rfl
theorem me_app (a : Nat) (v : D) : method .list (.ref a) .append [v] h = match h[a]? with
      | some (.lst xs) => if xs.length < SZ then some (.non, setLst h a (xs ++ [v])) else none
      | _ => none := rfl
theorem me_ext (a b : Nat) : method .list (.ref a) .extend [.ref b] h = match h[a]?, h[b]? with
      | some (.lst xs), some (.lst ys) => if xs.length + ys.length ≤ SZ ∧ a ≠ b then some (.non, setLst h a (xs ++ ys)) else none
      | _, _ => none := rfl
theorem me_idx (xs : List D) (s : List Nat) : method .tuple (.tup xs) .index [.str s] h = (strsL xs).bind fun ss => (idxL s ss).map fun (j : Nat) => (D.int (j : Int), h) := rfl
theorem in_non : isNon .non = true := rfl
theorem in_bl (b) : isNon (.bl b) = false := rfl
theorem in_int (b) : isNon (.int b) = false := rfl
theorem in_str (b) : isNon (.str b) = false := rfl
theorem in_tup' (b) : isNon (.tup b) = false := rfl
theorem in_ref' (b) : isNon (.ref b) = false := rfl
theorem sl_tup (xs : List D) (l u : Option Int) : slice (.tup xs) l u h = some (.tup (cut xs l u), h) := rfl
theorem sl_str (s : List Nat) (l u : Option Int) : slice (.str s) l u h = if s.length ≤ SZ then some (.str (cut s l u), h) else none := rfl
end
theorem cut_from {α : Type} (xs : List α) (v : Int) (i : Nat) (hv : v = i) (hi : i ≤ xs.length) : cut xs (some v) none = xs.drop i := by
  subst hv
  unfold cut sIx
  simp only
  rw [if_neg (by omega)]
  have : min ((i : Int)).toNat xs.length = i := by omega
  rw [this]
  apply List.take_of_length_le
  simp
theorem pq_non_non : pyeq .non .non = true := rfl
theorem pq_non_bl (b : Bool) : pyeq .non (.bl b) = false := rfl
theorem pq_non_int (b : Int) : pyeq .non (.int b) = false := rfl
theorem pq_bl_non (a : Bool) : pyeq (.bl a) .non = false := rfl
theorem pq_int_non (a : Int) : pyeq (.int a) .non = false := rfl
theorem pq_int_int (a : Int) (b : Int) : pyeq (.int a) (.int b) = (a == b) := rfl
theorem pq_str_str (a : List Nat) (b : List Nat) : pyeq (.str a) (.str b) = (a == b) := rfl
theorem pqs_nn : pyeqs [] [] = true := rfl
theorem pur_non : pur .non = true := rfl
theorem pur_bl (a : Bool) : pur (.bl a) = true := rfl
theorem pur_int (a : Int) : pur (.int a) = true := rfl
theorem pur_str (a : List Nat) : pur (.str a) = a.all fun c => decide (c < 1114112) := rfl
theorem pur_ref (a : Nat) : pur (.ref a) = false := rfl
theorem pur_fn (a : Nat) : pur (.fn a) = false := rfl
theorem pur_kd (a : Nat) : pur (.kd a) = false := rfl
theorem purs_n : purs [] = true := rfl
theorem dep_non : dep .non = 0 := rfl
theorem dep_int (a : Int) : dep (.int a) = 0 := rfl
theorem dep_str (a : List Nat) : dep (.str a) = 0 := rfl
theorem in_fn (b) : isNon (.fn b) = false := rfl
theorem in_kd' (b) : isNon (.kd b) = false := rfl
end FK

end
section
set_option maxRecDepth 100000
set_option maxHeartbeats 4000000
/-! FkM: the evaluator step by step, without a look at what comes later. -/
namespace FK
section
variable (P : Pr) (cl : Nat → List D → LH → Option (D × LH))
noncomputable def kSs (ss : Sms) (r : Option (Fl × Lc × LH)) : Option (Fl × Lc × LH) := r.bind fun p => match p with
  | (.nx, σ1, h1) => evSs P cl ss σ1 h1
  | (.bk, σ1, h1) => some (.bk, σ1, h1)
  | (.rt d, σ1, h1) => some (.rt d, σ1, h1)
noncomputable def kEs1 (es : Exs) (σ : Lc) (r : Option (D × LH)) : Option (List D × LH) := r.bind fun p => (evEs P cl es σ p.2).bind fun q => some (p.1 :: q.1, q.2)
noncomputable def kEs2 (d : D) (r : Option (List D × LH)) : Option (List D × LH) := r.bind fun q => some (d :: q.1, q.2)
noncomputable def kTup (r : Option (List D × LH)) : Option (D × LH) := r.bind fun p => if p.1.length ≤ SZ then some (.tup p.1, p.2) else none
noncomputable def kLst (r : Option (List D × LH)) : Option (D × LH) := r.bind fun p => if p.1.length ≤ SZ then alloc p.2 (.lst p.1) else none
noncomputable def kB1 (o : Bop) (b : Ex) (σ : Lc) (r : Option (D × LH)) : Option (D × LH) := r.bind fun p => (evE P cl b σ p.2).bind fun q => binop o p.1 q.1 q.2
noncomputable def kB2 (o : Bop) (d : D) (r : Option (D × LH)) : Option (D × LH) := r.bind fun q => binop o d q.1 q.2
noncomputable def kNeg (r : Option (D × LH)) : Option (D × LH) := r.bind fun p => match p.1 with
    | .int i => some (.int (-i), p.2)
    | _ => none
noncomputable def kNot (r : Option (D × LH)) : Option (D × LH) := r.bind fun p => (truth p.1 p.2).map fun b => (.bl (!b), p.2)
noncomputable def kC1 (o : Cop) (b : Ex) (σ : Lc) (r : Option (D × LH)) : Option (D × LH) := r.bind fun p => (evE P cl b σ p.2).bind fun q => (cmpop P o p.1 q.1 q.2).map fun c => (.bl c, q.2)
noncomputable def kC2 (o : Cop) (d : D) (r : Option (D × LH)) : Option (D × LH) := r.bind fun q => (cmpop P o d q.1 q.2).map fun c => (.bl c, q.2)
noncomputable def kD1 (o o' : Cop) (b c : Ex) (σ : Lc) (r : Option (D × LH)) : Option (D × LH) := r.bind fun p => (evE P cl b σ p.2).bind fun q => (cmpop P o p.1 q.1 q.2).bind fun k =>
      if k then (evE P cl c σ q.2).bind fun r => (cmpop P o' q.1 r.1 r.2).map fun k' => (.bl k', r.2) else some (.bl false, q.2)
noncomputable def kD2 (o o' : Cop) (d : D) (c : Ex) (σ : Lc) (r : Option (D × LH)) : Option (D × LH) := r.bind fun q => (cmpop P o d q.1 q.2).bind fun k =>
      if k then (evE P cl c σ q.2).bind fun r => (cmpop P o' q.1 r.1 r.2).map fun k' => (.bl k', r.2) else some (.bl false, q.2)
noncomputable def kD3 (o' : Cop) (e : D) (c : Ex) (σ : Lc) (h : LH) (k : Option Bool) : Option (D × LH) := k.bind fun k => if k then (evE P cl c σ h).bind fun r => (cmpop P o' e r.1 r.2).map fun k' => (.bl k', r.2) else some (.bl false, h)
noncomputable def kAnd (es : Exs) (σ : Lc) (r : Option (D × LH)) : Option (D × LH) := r.bind fun p => (truth p.1 p.2).bind fun b => if b then evAnd P cl es σ p.2 else some p
noncomputable def kAnd2 (es : Exs) (σ : Lc) (d : D) (h : LH) (t : Option Bool) : Option (D × LH) := t.bind fun b => if b then evAnd P cl es σ h else some (d, h)
noncomputable def kOr (es : Exs) (σ : Lc) (r : Option (D × LH)) : Option (D × LH) := r.bind fun p => (truth p.1 p.2).bind fun b => if b then some p else evOr P cl es σ p.2
noncomputable def kOr2 (es : Exs) (σ : Lc) (d : D) (h : LH) (t : Option Bool) : Option (D × LH) := t.bind fun b => if b then some (d, h) else evOr P cl es σ h
noncomputable def kTs (es : Exs) (σ : Lc) (r : Option (D × LH)) : Option (Bool × LH) := r.bind fun p => (truth p.1 p.2).bind fun b => if b then evTs P cl es σ p.2 else some (false, p.2)
noncomputable def kTs2 (es : Exs) (σ : Lc) (h : LH) (t : Option Bool) : Option (Bool × LH) := t.bind fun b => if b then evTs P cl es σ h else some (false, h)
noncomputable def kI1 (i : Ex) (σ : Lc) (r : Option (D × LH)) : Option (D × LH) := r.bind fun p => (evE P cl i σ p.2).bind fun q => (getix P p.1 q.1 q.2).map fun d => (d, q.2)
noncomputable def kI2 (d : D) (r : Option (D × LH)) : Option (D × LH) := r.bind fun q => (getix P d q.1 q.2).map fun d => (d, q.2)
noncomputable def kSl1 (lo hi : Ex) (σ : Lc) (r : Option (D × LH)) : Option (D × LH) := r.bind fun p => (evE P cl lo σ p.2).bind fun q => (evE P cl hi σ q.2).bind fun r => (ptI (isNonE lo) q.1).bind fun l => (ptI (isNonE hi) r.1).bind fun u => slice p.1 l u r.2
noncomputable def kSl2 (a : D) (bl : Bool) (hi : Ex) (σ : Lc) (r : Option (D × LH)) : Option (D × LH) := r.bind fun q => (evE P cl hi σ q.2).bind fun r => (ptI bl q.1).bind fun l => (ptI (isNonE hi) r.1).bind fun u => slice a l u r.2
noncomputable def kSl3 (a l : D) (bl bh : Bool) (r : Option (D × LH)) : Option (D × LH) := r.bind fun r => (ptI bl l).bind fun l => (ptI bh r.1).bind fun u => slice a l u r.2
noncomputable def kCall (f : Nat) (r : Option (List D × LH)) : Option (D × LH) := r.bind fun p => cl f p.1 p.2
noncomputable def kBlt (f : Bf) (r : Option (List D × LH)) : Option (D × LH) := r.bind fun p => bltin f p.1 p.2
noncomputable def kIsi (T : Ty) (r : Option (D × LH)) : Option (D × LH) := r.bind fun p => (isTy p.1 T p.2).map fun b => (.bl b, p.2)
noncomputable def kM1 (m : Bm) (es : Exs) (σ : Lc) (r : Option (D × LH)) : Option (D × LH) := r.bind fun p => (tyOf p.1 p.2).bind fun T => (evEs P cl es σ p.2).bind fun q => method T p.1 m q.1 q.2
noncomputable def kM2 (m : Bm) (es : Exs) (σ : Lc) (d : D) (h : LH) (T : Option Ty) : Option (D × LH) := T.bind fun T => (evEs P cl es σ h).bind fun q => method T d m q.1 q.2
noncomputable def kM3 (T : Ty) (d : D) (m : Bm) (r : Option (List D × LH)) : Option (D × LH) := r.bind fun q => method T d m q.1 q.2
noncomputable def kCm1 (m : Nat) (es : Exs) (σ : Lc) (r : Option (D × LH)) : Option (D × LH) := r.bind fun p => match p.1 with
    | .ref a => match p.2[a]? with
      | some (.ins C _) => ((P.cls C).bind fun c => c.mts.lookup m).bind fun f => (evEs P cl es σ p.2).bind fun q => cl f (.ref a :: q.1) q.2
      | _ => none
    | _ => none
noncomputable def kCm2 (m : Nat) (es : Exs) (σ : Lc) (a : Nat) (h : LH) (o : Option LO) : Option (D × LH) := match o with
      | some (.ins C _) => ((P.cls C).bind fun c => c.mts.lookup m).bind fun f => (evEs P cl es σ h).bind fun q => cl f (.ref a :: q.1) q.2
      | _ => none
noncomputable def kCm3 (es : Exs) (σ : Lc) (a : Nat) (h : LH) (f : Option Nat) : Option (D × LH) := f.bind fun f => (evEs P cl es σ h).bind fun q => cl f (.ref a :: q.1) q.2
noncomputable def kCm4 (f a : Nat) (r : Option (List D × LH)) : Option (D × LH) := r.bind fun q => cl f (.ref a :: q.1) q.2
noncomputable def clMt (c : Option Cl) (m : Nat) : Option Nat := c.bind fun c => c.mts.lookup m
noncomputable def kMk1 (C : Nat) (es : Exs) (σ : Lc) (h : LH) (c : Option Cl) : Option (D × LH) := c.bind fun c => (evEs P cl es σ h).bind fun p => (alloc p.2 (.ins C [])).bind fun q => (cl c.ini (q.1 :: p.1) q.2).bind fun r => if isNon r.1 then some (q.1, r.2) else none
noncomputable def kMk2 (C ini : Nat) (r : Option (List D × LH)) : Option (D × LH) := r.bind fun p => (alloc p.2 (.ins C [])).bind fun q => (cl ini (q.1 :: p.1) q.2).bind fun r => if isNon r.1 then some (q.1, r.2) else none
noncomputable def kMk3 (a : Nat) (r : Option (D × LH)) : Option (D × LH) := r.bind fun r => if isNon r.1 then some (.ref a, r.2) else none
noncomputable def kF1 (f : Nat) (r : Option (D × LH)) : Option (D × LH) := r.bind fun p => match p.1 with
    | .ref a => match p.2[a]? with
      | some (.ins _ fs) => (fs.lookup f).map fun d => (d, p.2)
      | _ => none
    | _ => none
noncomputable def kF2 (f : Nat) (h : LH) (o : Option LO) : Option (D × LH) := match o with
      | some (.ins _ fs) => (fs.lookup f).map fun d => (d, h)
      | _ => none
noncomputable def kLc1 (e : Ex) (t : Tg) (ts : Exs) (σ : Lc) (r : Option (List D × Option Nat × LH)) : Option (D × LH) := r.bind fun p => (lcL (tgF t) (tstF P cl ts) (eltF P cl e) p.2.1 p.1 (wipe σ (tgSl t)) [] p.1 p.2.2).bind fun q => alloc q.2 (.lst q.1)
noncomputable def kLc2 (r : Option (List D × LH)) : Option (D × LH) := r.bind fun q => alloc q.2 (.lst q.1)
noncomputable def kLb1 (f : Bf) (e : Ex) (t : Tg) (ts : Exs) (σ : Lc) (r : Option (List D × Option Nat × LH)) : Option (D × LH) := r.bind fun p => (lcL (tgF t) (tstF P cl ts) (eltF P cl e) p.2.1 p.1 (wipe σ (tgSl t)) [] p.1 p.2.2).bind fun q => (lcbF f q.1).map fun d => (d, q.2)
noncomputable def kLb2 (f : Bf) (r : Option (List D × LH)) : Option (D × LH) := r.bind fun q => (lcbF f q.1).map fun d => (d, q.2)
noncomputable def kW (r : Option (D × LH)) : Option (List D × Option Nat × LH) := r.bind fun p => (walkOf p.1 p.2).map fun w => (w.1, w.2, p.2)
noncomputable def kR (r : Option (List D × LH)) : Option (List D × Option Nat × LH) := r.bind fun p => (rngOf p.1).map fun xs => (xs, none, p.2)
noncomputable def kT (r : Option (D × LH)) : Option (Bool × LH) := r.bind fun p => (truth p.1 p.2).map fun b => (b, p.2)
noncomputable def kA (t : Tg) (σ : Lc) (r : Option (D × LH)) : Option (Fl × Lc × LH) := r.bind fun p => (tgA t p.1 σ).map fun σ1 => (.nx, σ1, p.2)
noncomputable def kAl (i : Nat) (σ : Lc) (r : Option (D × LH)) : Option (Fl × Lc × LH) := r.bind fun p => (setSl i p.1 σ).map fun σ1 => (.nx, σ1, p.2)
noncomputable def kX (σ : Lc) (r : Option (D × LH)) : Option (Fl × Lc × LH) := r.map fun p => (.nx, σ, p.2)
noncomputable def kRt (σ : Lc) (r : Option (D × LH)) : Option (Fl × Lc × LH) := r.map fun p => (.rt p.1, σ, p.2)
noncomputable def kIf (a b : Sms) (σ : Lc) (r : Option (Bool × LH)) : Option (Fl × Lc × LH) := r.bind fun p => if p.1 then evSs P cl a σ p.2 else evSs P cl b σ p.2
noncomputable def kFr (t : Tg) (b : Sms) (σ : Lc) (r : Option (List D × Option Nat × LH)) : Option (Fl × Lc × LH) := r.bind fun p => forL (tgF t) (bodyF P cl b) p.2.1 p.1 p.1 σ p.2.2
noncomputable def kSx1 (o i : Ex) (σ : Lc) (r : Option (D × LH)) : Option (Fl × Lc × LH) := r.bind fun p => (evE P cl o σ p.2).bind fun q => (evE P cl i σ q.2).bind fun r =>
      match q.1 with
      | .ref a => match r.2[a]? with
        | some (.lst xs) => match r.1 with
          | .int k => (ixN xs.length k).map fun j => (.nx, σ, setLst r.2 a (xs.set j p.1))
          | _ => none
        | some (.dic kvs) => if keyOk r.1 ∧ kvs.length < SZ then some (.nx, σ, setDic r.2 a (dPut kvs r.1 p.1)) else none
        | _ => none
      | _ => none
noncomputable def kSx2 (d : D) (i : Ex) (σ : Lc) (r : Option (D × LH)) : Option (Fl × Lc × LH) := r.bind fun q => (evE P cl i σ q.2).bind fun r =>
      match q.1 with
      | .ref a => match r.2[a]? with
        | some (.lst xs) => match r.1 with
          | .int k => (ixN xs.length k).map fun j => (.nx, σ, setLst r.2 a (xs.set j d))
          | _ => none
        | some (.dic kvs) => if keyOk r.1 ∧ kvs.length < SZ then some (.nx, σ, setDic r.2 a (dPut kvs r.1 d)) else none
        | _ => none
      | _ => none
noncomputable def kSx3 (d q : D) (σ : Lc) (r : Option (D × LH)) : Option (Fl × Lc × LH) := r.bind fun r =>
      match q with
      | .ref a => match r.2[a]? with
        | some (.lst xs) => match r.1 with
          | .int k => (ixN xs.length k).map fun j => (.nx, σ, setLst r.2 a (xs.set j d))
          | _ => none
        | some (.dic kvs) => if keyOk r.1 ∧ kvs.length < SZ then some (.nx, σ, setDic r.2 a (dPut kvs r.1 d)) else none
        | _ => none
      | _ => none
noncomputable def kSf1 (o : Ex) (f : Nat) (σ : Lc) (r : Option (D × LH)) : Option (Fl × Lc × LH) := r.bind fun p => (evE P cl o σ p.2).bind fun q =>
      match q.1 with
      | .ref a => match q.2[a]? with
        | some (.ins C fs) => if fldOk P C f ∧ fs.length < 100 then some (.nx, σ, setIns q.2 a C (putL f p.1 fs)) else none
        | _ => none
      | _ => none
noncomputable def kSf2 (d : D) (f : Nat) (σ : Lc) (r : Option (D × LH)) : Option (Fl × Lc × LH) := r.bind fun q =>
      match q.1 with
      | .ref a => match q.2[a]? with
        | some (.ins C fs) => if fldOk P C f ∧ fs.length < 100 then some (.nx, σ, setIns q.2 a C (putL f d fs)) else none
        | _ => none
      | _ => none
noncomputable def kAg1 (i : Nat) (o : Bop) (σ : Lc) (d : D) (r : Option (D × LH)) : Option (Fl × Lc × LH) := r.bind fun p => match d, p.1 with
      | .int x, .int y => (binop o (.int x) (.int y) p.2).bind fun q => (setSl i q.1 σ).map fun σ1 => (.nx, σ1, q.2)
      | _, _ => none
noncomputable def kAg0 (i : Nat) (o : Bop) (e : Ex) (σ : Lc) (h : LH) (s : Option (Option D)) : Option (Fl × Lc × LH) := match s with
    | some (some d) => kAg1 i o σ d (evE P cl e σ h)
    | _ => none
noncomputable def kAf1 (f : Nat) (b : Bop) (e : Ex) (σ : Lc) (r : Option (D × LH)) : Option (Fl × Lc × LH) := r.bind fun q =>
      match q.1 with
      | .ref a => match q.2[a]? with
        | some (.ins C fs) => (fs.lookup f).bind fun d => (evE P cl e σ q.2).bind fun p => match d, p.1 with
          | .int x, .int y => (binop b (.int x) (.int y) p.2).bind fun z => match z.2[a]? with
            | some (.ins C' fs') => if C' = C ∧ fldOk P C f ∧ fs'.length < 100 then some (.nx, σ, setIns z.2 a C (putL f z.1 fs')) else none
            | _ => none
          | _, _ => none
        | _ => none
      | _ => none
noncomputable def kDl1 (i : Ex) (σ : Lc) (r : Option (D × LH)) : Option (Fl × Lc × LH) := r.bind fun q => (evE P cl i σ q.2).bind fun r =>
      match q.1 with
      | .ref a => match r.2[a]? with
        | some (.dic kvs) => if keyOk r.1 then (dLook kvs r.1).map fun _ => (.nx, σ, setDic r.2 a (dDel kvs r.1)) else none
        | _ => none
      | _ => none
noncomputable def kDl2 (q : D) (σ : Lc) (r : Option (D × LH)) : Option (Fl × Lc × LH) := r.bind fun r =>
      match q with
      | .ref a => match r.2[a]? with
        | some (.dic kvs) => if keyOk r.1 then (dLook kvs r.1).map fun _ => (.nx, σ, setDic r.2 a (dDel kvs r.1)) else none
        | _ => none
      | _ => none
end
section
variable (P : Pr) (cl : Nat → List D → LH → Option (D × LH)) (σ : Lc) (h : LH)
theorem z_n : evSs P cl .nil σ h = some (.nx, σ, h) := rfl
theorem z_c (s ss) : evSs P cl (.cons s ss) σ h = kSs P cl ss (evS P cl s σ h) := rfl
theorem z_nx (ss) : kSs P cl ss (some (.nx, σ, h)) = evSs P cl ss σ h := rfl
theorem z_bk (ss) : kSs P cl ss (some (.bk, σ, h)) = some (.bk, σ, h) := rfl
theorem z_rt (ss d) : kSs P cl ss (some (.rt d, σ, h)) = some (.rt d, σ, h) := rfl
theorem z_en : evEs P cl .nil σ h = some ([], h) := rfl
theorem z_ec (e es) : evEs P cl (.cons e es) σ h = kEs1 P cl es σ (evE P cl e σ h) := rfl
theorem z_e1 (es d) : kEs1 P cl es σ (some (d, h)) = kEs2 d (evEs P cl es σ h) := rfl
theorem z_e2 (d ds) : kEs2 d (some (ds, h)) = some (d :: ds, h) := rfl
theorem z_tup (es) : evE P cl (.tup es) σ h = kTup (evEs P cl es σ h) := rfl
theorem z_tup1 (ds) : kTup (some (ds, h)) = if ds.length ≤ SZ then some (.tup ds, h) else none := rfl
theorem z_lst (es) : evE P cl (.lst es) σ h = kLst (evEs P cl es σ h) := rfl
theorem z_lst1 (ds) : kLst (some (ds, h)) = if ds.length ≤ SZ then alloc h (.lst ds) else none := rfl
theorem z_bop (o a b) : evE P cl (.bop o a b) σ h = kB1 P cl o b σ (evE P cl a σ h) := rfl
theorem z_b1 (o b d) : kB1 P cl o b σ (some (d, h)) = kB2 o d (evE P cl b σ h) := rfl
theorem z_b2 (o d e) : kB2 o d (some (e, h)) = binop o d e h := rfl
theorem z_neg (a) : evE P cl (.neg a) σ h = kNeg (evE P cl a σ h) := rfl
theorem z_neg1 (i) : kNeg (some (.int i, h)) = some (.int (-i), h) := rfl
theorem z_not (a) : evE P cl (.not a) σ h = kNot (evE P cl a σ h) := rfl
theorem z_not1 (d) : kNot (some (d, h)) = (truth d h).map fun b => (.bl (!b), h) := rfl
theorem z_cmp (o a b) : evE P cl (.cmp o a b) σ h = kC1 P cl o b σ (evE P cl a σ h) := rfl
theorem z_c1 (o b d) : kC1 P cl o b σ (some (d, h)) = kC2 P o d (evE P cl b σ h) := rfl
theorem z_c2 (o d e) : kC2 P o d (some (e, h)) = (cmpop P o d e h).map fun c => (.bl c, h) := rfl
theorem z_and1 (e) : evAnd P cl (.cons e .nil) σ h = evE P cl e σ h := rfl
theorem z_and (e e' es) : evAnd P cl (.cons e (.cons e' es)) σ h = kAnd P cl (.cons e' es) σ (evE P cl e σ h) := rfl
theorem z_and2 (es d) : kAnd P cl es σ (some (d, h)) = kAnd2 P cl es σ d h (truth d h) := rfl
theorem z_and3 (es d b) : kAnd2 P cl es σ d h (some b) = if b then evAnd P cl es σ h else some (d, h) := rfl
theorem z_or1 (e) : evOr P cl (.cons e .nil) σ h = evE P cl e σ h := rfl
theorem z_or (e e' es) : evOr P cl (.cons e (.cons e' es)) σ h = kOr P cl (.cons e' es) σ (evE P cl e σ h) := rfl
theorem z_or2 (es d) : kOr P cl es σ (some (d, h)) = kOr2 P cl es σ d h (truth d h) := rfl
theorem z_or3 (es d b) : kOr2 P cl es σ d h (some b) = if b then some (d, h) else evOr P cl es σ h := rfl
theorem z_tsn : evTs P cl .nil σ h = some (true, h) := rfl
theorem z_ix (a i) : evE P cl (.ix a i) σ h = kI1 P cl i σ (evE P cl a σ h) := rfl
theorem z_i1 (i d) : kI1 P cl i σ (some (d, h)) = kI2 P d (evE P cl i σ h) := rfl
theorem z_i2 (d e) : kI2 P d (some (e, h)) = (getix P d e h).map fun d => (d, h) := rfl
theorem z_sl (a lo hi) : evE P cl (.sl a lo hi) σ h = kSl1 P cl lo hi σ (evE P cl a σ h) := rfl
theorem z_sl1 (lo hi d) : kSl1 P cl lo hi σ (some (d, h)) = kSl2 P cl d (isNonE lo) hi σ (evE P cl lo σ h) := rfl
theorem z_sl2 (d bl hi e) : kSl2 P cl d bl hi σ (some (e, h)) = kSl3 d e bl (isNonE hi) (evE P cl hi σ h) := rfl
theorem z_sl3 (d l bl bh e) : kSl3 d l bl bh (some (e, h)) = (ptI bl l).bind fun l => (ptI bh e).bind fun u => slice d l u h := rfl
theorem z_call (f es) : evE P cl (.call f es) σ h = kCall cl f (evEs P cl es σ h) := rfl
theorem z_call1 (f ds) : kCall cl f (some (ds, h)) = cl f ds h := rfl
theorem z_blt (f es) : evE P cl (.blt f es) σ h = kBlt f (evEs P cl es σ h) := rfl
theorem z_blt1 (f ds) : kBlt f (some (ds, h)) = bltin f ds h := rfl
theorem z_isi (a T) : evE P cl (.isi a T) σ h = kIsi T (evE P cl a σ h) := rfl
theorem z_isi1 (T d) : kIsi T (some (d, h)) = (isTy d T h).map fun b => (.bl b, h) := rfl
theorem z_bm (o m es) : evE P cl (.bm o m es) σ h = kM1 P cl m es σ (evE P cl o σ h) := rfl
theorem z_m1 (m es d) : kM1 P cl m es σ (some (d, h)) = kM2 P cl m es σ d h (tyOf d h) := rfl
theorem z_m2 (m es d T) : kM2 P cl m es σ d h (some T) = kM3 T d m (evEs P cl es σ h) := rfl
theorem z_m3 (T d m ds) : kM3 T d m (some (ds, h)) = method T d m ds h := rfl
theorem z_cm (o m es) : evE P cl (.cm o m es) σ h = kCm1 P cl m es σ (evE P cl o σ h) := rfl
theorem z_cm1 (m es a) : kCm1 P cl m es σ (some (.ref a, h)) = kCm2 P cl m es σ a h h[a]? := rfl
theorem z_cm2 (m es a C fs) : kCm2 P cl m es σ a h (some (.ins C fs)) = kCm3 P cl es σ a h (clMt (P.cls C) m) := rfl
theorem z_cm3 (es a f) : kCm3 P cl es σ a h (some f) = kCm4 cl f a (evEs P cl es σ h) := rfl
theorem z_cm4 (f a ds) : kCm4 cl f a (some (ds, h)) = cl f (.ref a :: ds) h := rfl
theorem z_mt (c m) : clMt (some c) m = c.mts.lookup m := rfl
theorem z_mk (C es) : evE P cl (.mk C es) σ h = kMk1 P cl C es σ h (P.cls C) := rfl
theorem z_mk1 (C es i f m) : kMk1 P cl C es σ h (some ⟨i, f, m⟩) = kMk2 cl C i (evEs P cl es σ h) := rfl
theorem z_mk2 (C i ds) : kMk2 cl C i (some (ds, h)) = kMk3 h.length (cl i (.ref h.length :: ds) (h ++ [.ins C []])) := rfl
theorem z_mk3 (a d) : kMk3 a (some (d, h)) = if isNon d then some (.ref a, h) else none := rfl
theorem z_fld (o f) : evE P cl (.fld o f) σ h = kF1 f (evE P cl o σ h) := rfl
theorem z_f1 (f a) : kF1 f (some (.ref a, h)) = kF2 f h h[a]? := rfl
theorem z_f2 (f C fs) : kF2 f h (some (.ins C fs)) = (fs.lookup f).map fun d => (d, h) := rfl
theorem z_lc (sc e t s ts) : evE P cl (.lc sc e t s ts) σ h = kLc1 P cl e t ts σ (evIs P cl s σ h) := rfl
theorem z_lc1 (e t ts xs g) : kLc1 P cl e t ts σ (some (xs, g, h)) = kLc2 (lcL (tgF t) (tstF P cl ts) (eltF P cl e) g xs (wipe σ (tgSl t)) [] xs h) := rfl
theorem z_lc2 (ds) : kLc2 (some (ds, h)) = alloc h (.lst ds) := rfl
theorem z_lb (f sc e t s ts) : evE P cl (.lcb f sc e t s ts) σ h = kLb1 P cl f e t ts σ (evIs P cl s σ h) := rfl
theorem z_lb1 (f e t ts xs g) : kLb1 P cl f e t ts σ (some (xs, g, h)) = kLb2 f (lcL (tgF t) (tstF P cl ts) (eltF P cl e) g xs (wipe σ (tgSl t)) [] xs h) := rfl
theorem z_lb2 (f ds) : kLb2 f (some (ds, h)) = (lcbF f ds).map fun d => (d, h) := rfl
theorem z_w (e) : evIs P cl (.ex e) σ h = kW (evE P cl e σ h) := rfl
theorem z_w1 (d) : kW (some (d, h)) = (walkOf d h).map fun w => (w.1, w.2, h) := rfl
theorem z_r (es) : evIs P cl (.rng es) σ h = kR (evEs P cl es σ h) := rfl
theorem z_r1 (ds) : kR (some (ds, h)) = (rngOf ds).map fun xs => (xs, none, h) := rfl
theorem z_t (e) : tsE P cl e σ h = kT (evE P cl e σ h) := rfl
theorem z_t1 (d) : kT (some (d, h)) = (truth d h).map fun b => (b, h) := rfl
theorem z_asg (t e) : evS P cl (.asg t e) σ h = kA t σ (evE P cl e σ h) := rfl
theorem z_a1 (t d) : kA t σ (some (d, h)) = (tgA t d σ).map fun σ1 => (.nx, σ1, h) := rfl
theorem z_exp (e) : evS P cl (.exp e) σ h = kX σ (evE P cl e σ h) := rfl
theorem z_x1 (d) : kX σ (some (d, h)) = some (.nx, σ, h) := rfl
theorem z_ret (e) : evS P cl (.ret e) σ h = kRt σ (evE P cl e σ h) := rfl
theorem z_rt1 (d) : kRt σ (some (d, h)) = some (.rt d, σ, h) := rfl
theorem z_if (c a b) : evS P cl (.ife c a b) σ h = kIf P cl a b σ (tsE P cl c σ h) := rfl
theorem z_if1 (a b x) : kIf P cl a b σ (some (x, h)) = if x then evSs P cl a σ h else evSs P cl b σ h := rfl
theorem z_fr (t s b) : evS P cl (.fr t s b) σ h = kFr P cl t b σ (evIs P cl s σ h) := rfl
theorem z_fr1 (t b xs g) : kFr P cl t b σ (some (xs, g, h)) = forL (tgF t) (bodyF P cl b) g xs xs σ h := rfl
theorem z_six (o i e) : evS P cl (.six o i e) σ h = kSx1 P cl o i σ (evE P cl e σ h) := rfl
theorem z_sx1 (o i d) : kSx1 P cl o i σ (some (d, h)) = kSx2 P cl d i σ (evE P cl o σ h) := rfl
theorem z_sx2 (i d e) : kSx2 P cl d i σ (some (e, h)) = kSx3 d e σ (evE P cl i σ h) := rfl
theorem z_sx3 (d a e) : kSx3 d (.ref a) σ (some (e, h)) = match h[a]? with
        | some (.lst xs) => match e with
          | .int k => (ixN xs.length k).map fun j => (.nx, σ, setLst h a (xs.set j d))
          | _ => none
        | some (.dic kvs) => if keyOk e ∧ kvs.length < SZ then some (.nx, σ, setDic h a (dPut kvs e d)) else none
        | _ => none := rfl
theorem z_sfl (o f e) : evS P cl (.sfl o f e) σ h = kSf1 P cl o f σ (evE P cl e σ h) := rfl
theorem z_sf1 (o f d) : kSf1 P cl o f σ (some (d, h)) = kSf2 P d f σ (evE P cl o σ h) := rfl
theorem z_sf2 (d f a) : kSf2 P d f σ (some (.ref a, h)) = match h[a]? with
        | some (.ins C fs) => if fldOk P C f ∧ fs.length < 100 then some (.nx, σ, setIns h a C (putL f d fs)) else none
        | _ => none := rfl
end
end FK

end
section
set_option maxRecDepth 100000
set_option maxHeartbeats 4000000
namespace FK.K13
open FK
/-- _wall(0 k) -/
noncomputable def F__wall : Fn where
  nm := [107]
  np := 1
  sc := [(107, .loc)]
  body := (.cons (.whl (.bl true) (.cons .pas
 .nil))
 .nil)
/-- check_name(0 names, 1 line, 2 name) -/
noncomputable def F_check_name : Fn where
  nm := [29733122803, 228226917, 232290021]
  np := 3
  sc := [(29733122803, .loc), (228226917, .loc), (232290021, .loc), (5675581356839368308, .glo)]
  body := (.cons (.ife (.and (.cons (.cmp .is (.cm (.lv 0) 439252175106802 (.cons (.lv 2) .nil)) .non) (.cons (.cmp .is (.cm (.lv 0) 66858650416232037 (.cons (.lv 2) .nil)) .non) .nil))) (.cons .stk
 .nil) .nil)
 .nil)
/-- check_target(0 names, 1 line, 2 name) -/
noncomputable def F_check_target : Fn where
  nm := [29733122803, 228226917, 232290021]
  np := 3
  sc := [(29733122803, .loc), (228226917, .loc), (232290021, .loc), (5675581356839368308, .glo)]
  body := (.cons (.ife (.cmp .isnot (.cm (.lv 0) 439252175106802 (.cons (.lv 2) .nil)) .non) (.cons .stk
 .nil) .nil)
 .nil)
/-- check_field(0 names, 1 line, 2 name) -/
noncomputable def F_check_field : Fn where
  nm := [29733122803, 228226917, 232290021]
  np := 3
  sc := [(29733122803, .loc), (228226917, .loc), (232290021, .loc), (5675581356839368308, .glo)]
  body := (.cons (.ife (.not (.cm (.lv 0) 7549104992552580708 (.cons (.lv 2) .nil))) (.cons .stk
 .nil) .nil)
 .nil)
/-- check_expression(0 names, 1 line, 2 tree, 3 part) -/
noncomputable def F_check_expression : Fn where
  nm := [29733122803, 228226917, 245150437, 236484980]
  np := 3
  sc := [(29733122803, .loc), (228226917, .loc), (245150437, .loc), (236484980, .loc), (920665118482693125861, .glo), (4049128012237877937124712096888814, .glo), (117845135165782589273700, .glo), (5675581356839368308, .glo)]
  body := (.cons (.ife (.cmp .eq (.ix (.lv 2) (.int 0)) (.str [110,97,109,101])) (.cons (.exp (.call 920665118482693125861 (.cons (.lv 0) (.cons (.lv 1) (.cons (.ix (.lv 2) (.int 1)) .nil)))))
 .nil) (.cons (.ife (.cmp .eq (.ix (.lv 2) (.int 0)) (.str [102,105,101,108,100])) (.cons (.exp (.call 4049128012237877937124712096888814 (.cons (.lv 0) (.cons (.lv 1) (.cons (.ix (.lv 2) (.int 1)) .nil)))))
 (.cons (.exp (.call 117845135165782589273700 (.cons (.lv 0) (.cons (.lv 1) (.cons (.ix (.lv 2) (.int 2)) .nil)))))
 .nil)) (.cons (.ife (.cmp .eq (.ix (.lv 2) (.int 0)) (.str [110,101,119])) (.cons (.ife (.not (.cm (.lv 0) 966285439457969305956 (.cons (.ix (.lv 2) (.int 1)) .nil))) (.cons .stk
 .nil) .nil)
 .nil) (.cons (.ife (.cmp .eq (.ix (.lv 2) (.int 0)) (.str [98,111,116,104])) (.cons (.exp (.call 4049128012237877937124712096888814 (.cons (.lv 0) (.cons (.lv 1) (.cons (.ix (.lv 2) (.int 2)) .nil)))))
 (.cons (.exp (.call 4049128012237877937124712096888814 (.cons (.lv 0) (.cons (.lv 1) (.cons (.ix (.lv 2) (.int 3)) .nil)))))
 .nil)) (.cons (.ife (.cmp .ne (.ix (.lv 2) (.int 0)) (.str [99,111,110,115,116])) (.cons (.fr (.nm 3) (.ex (.sl (.lv 2) (.int 1) .non)) (.cons (.exp (.call 4049128012237877937124712096888814 (.cons (.lv 0) (.cons (.lv 1) (.cons (.lv 3) .nil)))))
 .nil))
 .nil) .nil)
 .nil))
 .nil))
 .nil))
 .nil))
 .nil)
/-- check_call(0 names, 1 line, 2 name, 3 arguments, 4 number, 5 expected, 6 argument) -/
noncomputable def F_check_call : Fn where
  nm := [29733122803, 228226917, 232290021, 7054219964722166387, 3811208377074, 57389586489094884, 55111093474391924]
  np := 4
  sc := [(29733122803, .loc), (228226917, .loc), (232290021, .loc), (7054219964722166387, .loc), (3811208377074, .loc), (57389586489094884, .loc), (55111093474391924, .loc), (5675581356839368308, .glo), (1782510, .glo), (1899122, .glo), (4049128012237877937124712096888814, .glo)]
  body := (.cons (.asg (.nm 4) (.cm (.lv 0) 8135118439038417253 (.cons (.lv 2) .nil)))
 (.cons (.ife (.cmp .is (.lv 4) .non) (.cons .stk
 .nil) .nil)
 (.cons (.asg (.nm 5) (.ix (.ix (.fld (.lv 0) 1041295160196917408499) (.lv 4)) (.int 1)))
 (.cons (.ife (.cmp .ne (.blt .len (.cons (.lv 3) .nil)) (.lv 5)) (.cons .stk
 .nil) .nil)
 (.cons (.fr (.nm 6) (.ex (.lv 3)) (.cons (.exp (.call 4049128012237877937124712096888814 (.cons (.lv 0) (.cons (.lv 1) (.cons (.lv 6) .nil)))))
 .nil))
 .nil)))))
/-- check_right(0 names, 1 line, 2 right) -/
noncomputable def F_check_right : Fn where
  nm := [29733122803, 228226917, 30823543924]
  np := 3
  sc := [(29733122803, .loc), (228226917, .loc), (30823543924, .loc), (4049128012237877937124712096888814, .glo), (920665118482670057068, .glo)]
  body := (.cons (.ife (.cmp .eq (.ix (.lv 2) (.int 0)) (.str [101,120,112,114])) (.cons (.exp (.call 4049128012237877937124712096888814 (.cons (.lv 0) (.cons (.lv 1) (.cons (.ix (.lv 2) (.int 1)) .nil)))))
 .nil) (.cons (.ife (.cmp .eq (.ix (.lv 2) (.int 0)) (.str [99,97,108,108])) (.cons (.exp (.call 920665118482670057068 (.cons (.lv 0) (.cons (.lv 1) (.cons (.ix (.lv 2) (.int 1)) (.cons (.ix (.lv 2) (.int 2)) .nil))))))
 .nil) .nil)
 .nil))
 .nil)
/-- check_var(0 names, 1 tree) -/
noncomputable def F_check_var : Fn where
  nm := [29733122803, 245150437]
  np := 2
  sc := [(29733122803, .loc), (245150437, .loc), (117845135165785810531444, .glo), (15084177301220650343068404, .glo)]
  body := (.cons (.exp (.call 117845135165785810531444 (.cons (.lv 0) (.cons (.ix (.lv 1) (.int 1)) (.cons (.ix (.lv 1) (.int 3)) .nil)))))
 (.cons (.exp (.call 15084177301220650343068404 (.cons (.lv 0) (.cons (.ix (.lv 1) (.int 1)) (.cons (.ix (.lv 1) (.int 2)) .nil)))))
 .nil))
/-- check_set(0 names, 1 tree) -/
noncomputable def F_check_set : Fn where
  nm := [29733122803, 245150437]
  np := 2
  sc := [(29733122803, .loc), (245150437, .loc), (7192696238146171122, .glo), (920665118482693125861, .glo)]
  body := (.cons (.exp (.call 7192696238146171122 (.cons (.lv 0) (.cons (.lv 1) .nil))))
 (.cons (.exp (.call 920665118482693125861 (.cons (.lv 0) (.cons (.ix (.lv 1) (.int 1)) (.cons (.ix (.lv 1) (.int 2)) .nil)))))
 .nil))
/-- check_set_field(0 names, 1 tree) -/
noncomputable def F_check_set_field : Fn where
  nm := [29733122803, 245150437]
  np := 2
  sc := [(29733122803, .loc), (245150437, .loc), (4049128012237877937124712096888814, .glo), (117845135165782589273700, .glo)]
  body := (.cons (.exp (.call 4049128012237877937124712096888814 (.cons (.lv 0) (.cons (.ix (.lv 1) (.int 1)) (.cons (.ix (.lv 1) (.int 2)) .nil)))))
 (.cons (.exp (.call 117845135165782589273700 (.cons (.lv 0) (.cons (.ix (.lv 1) (.int 1)) (.cons (.ix (.lv 1) (.int 3)) .nil)))))
 (.cons (.exp (.call 4049128012237877937124712096888814 (.cons (.lv 0) (.cons (.ix (.lv 1) (.int 1)) (.cons (.ix (.lv 1) (.int 4)) .nil)))))
 .nil)))
/-- check_set_item(0 names, 1 tree, 2 part) -/
noncomputable def F_check_set_item : Fn where
  nm := [29733122803, 245150437, 236484980]
  np := 2
  sc := [(29733122803, .loc), (245150437, .loc), (236484980, .loc), (4049128012237877937124712096888814, .glo)]
  body := (.cons (.fr (.nm 2) (.ex (.sl (.lv 1) (.int 2) .non)) (.cons (.exp (.call 4049128012237877937124712096888814 (.cons (.lv 0) (.cons (.ix (.lv 1) (.int 1)) (.cons (.lv 2) .nil)))))
 .nil))
 .nil)
/-- check_call_statement(0 names, 1 tree) -/
noncomputable def F_check_call_statement : Fn where
  nm := [29733122803, 245150437]
  np := 2
  sc := [(29733122803, .loc), (245150437, .loc), (920665118482670057068, .glo)]
  body := (.cons (.exp (.call 920665118482670057068 (.cons (.lv 0) (.cons (.ix (.lv 1) (.int 1)) (.cons (.ix (.lv 1) (.int 2)) (.cons (.ix (.lv 1) (.int 3)) .nil))))))
 .nil)
/-- check_if(0 names, 1 tree) -/
noncomputable def F_check_if : Fn where
  nm := [29733122803, 245150437]
  np := 2
  sc := [(29733122803, .loc), (245150437, .loc), (4049128012237877937124712096888814, .glo), (117845135165781521986027, .glo)]
  body := (.cons (.exp (.call 4049128012237877937124712096888814 (.cons (.lv 0) (.cons (.ix (.lv 1) (.int 1)) (.cons (.ix (.lv 1) (.int 2)) .nil)))))
 (.cons (.exp (.call 117845135165781521986027 (.cons (.lv 0) (.cons (.ix (.lv 1) (.int 3)) .nil))))
 (.cons (.exp (.call 117845135165781521986027 (.cons (.lv 0) (.cons (.ix (.lv 1) (.int 4)) .nil))))
 .nil)))
/-- check_while(0 names, 1 tree) -/
noncomputable def F_check_while : Fn where
  nm := [29733122803, 245150437]
  np := 2
  sc := [(29733122803, .loc), (245150437, .loc), (4049128012237877937124712096888814, .glo), (117845135165781521986027, .glo)]
  body := (.cons (.exp (.call 4049128012237877937124712096888814 (.cons (.lv 0) (.cons (.ix (.lv 1) (.int 1)) (.cons (.ix (.lv 1) (.int 2)) .nil)))))
 (.cons (.exp (.call 117845135165781521986027 (.cons (.cm (.lv 0) 141467274622545436604400 .nil) (.cons (.ix (.lv 1) (.int 3)) .nil))))
 .nil))
/-- check_for(0 names, 1 tree) -/
noncomputable def F_check_for : Fn where
  nm := [29733122803, 245150437]
  np := 2
  sc := [(29733122803, .loc), (245150437, .loc), (4049128012237877937124712096888814, .glo), (5675581356839368308, .glo), (117845135165781521986027, .glo)]
  body := (.cons (.exp (.call 4049128012237877937124712096888814 (.cons (.lv 0) (.cons (.ix (.lv 1) (.int 1)) (.cons (.ix (.lv 1) (.int 3)) .nil)))))
 (.cons (.exp (.call 4049128012237877937124712096888814 (.cons (.lv 0) (.cons (.ix (.lv 1) (.int 1)) (.cons (.ix (.lv 1) (.int 4)) .nil)))))
 (.cons (.ife (.cmp .isnot (.cm (.lv 0) 439252175106802 (.cons (.ix (.lv 1) (.int 2)) .nil)) .non) (.cons .stk
 .nil) .nil)
 (.cons (.exp (.call 117845135165781521986027 (.cons (.cm (.lv 0) 56224278413735783 (.cons (.ix (.lv 1) (.int 2)) .nil)) (.cons (.ix (.lv 1) (.int 5)) .nil))))
 .nil))))
/-- check_return(0 names, 1 tree) -/
noncomputable def F_check_return : Fn where
  nm := [29733122803, 245150437]
  np := 2
  sc := [(29733122803, .loc), (245150437, .loc), (5675581356839368308, .glo), (4049128012237877937124712096888814, .glo)]
  body := (.cons (.ife (.cmp .is (.fld (.lv 0) 1833966) .non) (.cons .stk
 .nil) .nil)
 (.cons (.exp (.call 4049128012237877937124712096888814 (.cons (.lv 0) (.cons (.ix (.lv 1) (.int 1)) (.cons (.ix (.lv 1) (.int 2)) .nil)))))
 .nil))
/-- check_break(0 names, 1 tree) -/
noncomputable def F_check_break : Fn where
  nm := [29733122803, 245150437]
  np := 2
  sc := [(29733122803, .loc), (245150437, .loc), (5675581356839368308, .glo)]
  body := (.cons (.ife (.not (.fld (.lv 0) 29225646195)) (.cons .stk
 .nil) .nil)
 .nil)
/-- check_value(0 names, 1 tree) -/
noncomputable def F_check_value : Fn where
  nm := [29733122803, 245150437]
  np := 2
  sc := [(29733122803, .loc), (245150437, .loc), (4049128012237877937124712096888814, .glo)]
  body := (.cons (.exp (.call 4049128012237877937124712096888814 (.cons (.lv 0) (.cons (.ix (.lv 1) (.int 1)) (.cons (.ix (.lv 1) (.int 2)) .nil)))))
 .nil)
/-- check_try(0 names, 1 tree) -/
noncomputable def F_check_try : Fn where
  nm := [29733122803, 245150437]
  np := 2
  sc := [(29733122803, .loc), (245150437, .loc), (117845135165781521986027, .glo), (15084177301220650343068404, .glo)]
  body := (.cons (.exp (.call 117845135165781521986027 (.cons (.lv 0) (.cons (.ix (.lv 1) (.int 2)) .nil))))
 (.cons (.exp (.call 15084177301220650343068404 (.cons (.lv 0) (.cons (.ix (.lv 1) (.int 1)) (.cons (.ix (.lv 1) (.int 3)) .nil)))))
 (.cons (.exp (.call 117845135165781521986027 (.cons (.lv 0) (.cons (.ix (.lv 1) (.int 4)) .nil))))
 .nil)))
/-- check_block(0 names, 1 block, 2 statement, 3 rule) -/
noncomputable def F_check_block : Fn where
  nm := [29733122803, 26534998507, 8352356132542052212, 241006181]
  np := 2
  sc := [(29733122803, .loc), (26534998507, .loc), (8352356132542052212, .loc), (241006181, .loc), (2321575634387, .glo)]
  body := (.cons (.fr (.nm 2) (.ex (.lv 1)) (.cons (.asg (.nm 3) (.ix (.gv 2321575634387) (.ix (.lv 2) (.int 0))))
 (.cons (.exp (.calv 3 (.cons (.lv 0) (.cons (.lv 2) .nil))))
 .nil)))
 .nil)
/-- check_heads(0 heads, 1 word, 2 seen, 3 line, 4 name, 5 inner, 6 at) -/
noncomputable def F_check_heads : Fn where
  nm := [28130701939, 251394404, 242840302, 228226917, 232290021, 28418224882, 12532]
  np := 2
  sc := [(28130701939, .loc), (251394404, .loc), (242840302, .loc), (228226917, .loc), (232290021, .loc), (28418224882, .loc), (12532, .loc), (5675581356839368308, .glo), (30806881253, .glo), (1782510, .glo)]
  body := (.cons (.asg (.nm 2) (.lst .nil))
 (.cons (.fr (.tp (.cons (.nm 3) (.cons (.nm 4) (.cons (.nm 5) .nil)))) (.ex (.lv 0)) (.cons (.ife (.cmp .isin (.lv 4) (.lv 2)) (.cons .stk
 .nil) .nil)
 (.cons (.exp (.bm (.lv 2) .append (.cons (.lv 4) .nil)))
 (.cons (.fr (.nm 6) (.rng (.cons (.blt .len (.cons (.lv 5) .nil)) .nil)) (.cons (.ife (.cmp .isin (.ix (.lv 5) (.lv 6)) (.sl (.lv 5) .non (.lv 6))) (.cons .stk
 .nil) .nil)
 .nil))
 .nil))))
 .nil))
/-- lower_name(0 names, 1 at, 2 tree, 3 distance) -/
noncomputable def F_lower_name : Fn where
  nm := [29733122803, 12532, 245150437, 56760772939461093]
  np := 3
  sc := [(29733122803, .loc), (12532, .loc), (245150437, .loc), (56760772939461093, .loc)]
  body := (.cons (.asg (.nm 3) (.cm (.lv 0) 439252175106802 (.cons (.ix (.lv 2) (.int 1)) .nil)))
 (.cons (.ife (.cmp .isnot (.lv 3) .non) (.cons (.ret (.lst (.cons (.tup (.cons (.str [99,111,117,110,116,101,114]) (.cons (.lv 3) .nil))) .nil)))
 .nil) .nil)
 (.cons (.ret (.lst (.cons (.tup (.cons (.str [108,111,97,100]) (.cons (.cm (.lv 0) 66858650416232037 (.cons (.ix (.lv 2) (.int 1)) .nil)) .nil))) .nil)))
 .nil)))
/-- lower_both(0 names, 1 at, 2 tree, 3 code) -/
noncomputable def F_lower_both : Fn where
  nm := [29733122803, 12532, 245150437, 209449573]
  np := 3
  sc := [(29733122803, .loc), (12532, .loc), (245150437, .loc), (209449573, .loc), (4416474379238857999729212337584110, .glo), (1782510, .glo), (2909208289988, .glo)]
  body := (.cons (.asg (.nm 3) (.call 4416474379238857999729212337584110 (.cons (.lv 0) (.cons (.lv 1) (.cons (.ix (.lv 2) (.int 2)) .nil)))))
 (.cons (.asg (.nm 3) (.bop .add (.lv 3) (.call 4416474379238857999729212337584110 (.cons (.lv 0) (.cons (.bop .add (.lv 1) (.blt .len (.cons (.lv 3) .nil))) (.cons (.ix (.lv 2) (.int 3)) .nil))))))
 (.cons (.ife (.cmp .isin (.ix (.lv 2) (.int 1)) (.gv 2909208289988)) (.cons (.ret (.bop .add (.lv 3) (.lst (.cons (.tup (.cons (.str [98,111,116,104]) (.cons (.ix (.gv 2909208289988) (.ix (.lv 2) (.int 1))) .nil))) (.cons (.tup (.cons (.str [110,111,116]) .nil)) .nil)))))
 .nil) .nil)
 (.cons (.ret (.bop .add (.lv 3) (.lst (.cons (.tup (.cons (.str [98,111,116,104]) (.cons (.ix (.lv 2) (.int 1)) .nil))) .nil))))
 .nil))))
/-- lower_shortcut(0 names, 1 at, 2 tree, 3 first, 4 second) -/
noncomputable def F_lower_shortcut : Fn where
  nm := [29733122803, 12532, 245150437, 27602500084, 3978691344228]
  np := 3
  sc := [(29733122803, .loc), (12532, .loc), (245150437, .loc), (27602500084, .loc), (3978691344228, .loc), (4416474379238857999729212337584110, .glo), (1782510, .glo)]
  body := (.cons (.asg (.nm 3) (.call 4416474379238857999729212337584110 (.cons (.lv 0) (.cons (.lv 1) (.cons (.ix (.lv 2) (.int 1)) .nil)))))
 (.cons (.asg (.nm 4) (.call 4416474379238857999729212337584110 (.cons (.lv 0) (.cons (.bop .add (.bop .add (.lv 1) (.blt .len (.cons (.lv 3) .nil))) (.int 1)) (.cons (.ix (.lv 2) (.int 2)) .nil)))))
 (.cons (.ret (.bop .add (.bop .add (.lv 3) (.lst (.cons (.tup (.cons (.bop .add (.ix (.lv 2) (.int 0)) (.str [95,106,117,109,112])) (.cons (.bop .add (.bop .add (.bop .add (.lv 1) (.blt .len (.cons (.lv 3) .nil))) (.int 1)) (.blt .len (.cons (.lv 4) .nil))) .nil))) .nil))) (.lv 4)))
 .nil)))
/-- lower_item(0 names, 1 at, 2 tree, 3 code) -/
noncomputable def F_lower_item : Fn where
  nm := [29733122803, 12532, 245150437, 209449573]
  np := 3
  sc := [(29733122803, .loc), (12532, .loc), (245150437, .loc), (209449573, .loc), (4416474379238857999729212337584110, .glo), (1782510, .glo)]
  body := (.cons (.asg (.nm 3) (.bop .add (.call 4416474379238857999729212337584110 (.cons (.lv 0) (.cons (.lv 1) (.cons (.ix (.lv 2) (.int 1)) .nil)))) (.lst (.cons (.tup (.cons (.str [107,105,110,100]) .nil)) .nil))))
 (.cons (.ret (.bop .add (.bop .add (.lv 3) (.call 4416474379238857999729212337584110 (.cons (.lv 0) (.cons (.bop .add (.lv 1) (.blt .len (.cons (.lv 3) .nil))) (.cons (.ix (.lv 2) (.int 2)) .nil))))) (.lst (.cons (.tup (.cons (.str [105,116,101,109]) .nil)) .nil))))
 .nil))
/-- lower_expression(0 names, 1 at, 2 tree, 3 code) -/
noncomputable def F_lower_expression : Fn where
  nm := [29733122803, 12532, 245150437, 209449573]
  np := 3
  sc := [(29733122803, .loc), (12532, .loc), (245150437, .loc), (209449573, .loc), (1004190012108424378085, .glo), (1004190012108399442536, .glo), (269560203810973264981310110452, .glo), (1004190012108414202605, .glo), (4416474379238857999729212337584110, .glo)]
  body := (.cons (.ife (.cmp .eq (.ix (.lv 2) (.int 0)) (.str [99,111,110,115,116])) (.cons (.ret (.lst (.cons (.tup (.cons (.str [112,117,115,104]) (.cons (.ix (.lv 2) (.int 1)) .nil))) .nil)))
 .nil) .nil)
 (.cons (.ife (.cmp .eq (.ix (.lv 2) (.int 0)) (.str [110,97,109,101])) (.cons (.ret (.call 1004190012108424378085 (.cons (.lv 0) (.cons (.lv 1) (.cons (.lv 2) .nil)))))
 .nil) .nil)
 (.cons (.ife (.cmp .eq (.ix (.lv 2) (.int 0)) (.str [98,111,116,104])) (.cons (.ret (.call 1004190012108399442536 (.cons (.lv 0) (.cons (.lv 1) (.cons (.lv 2) .nil)))))
 .nil) .nil)
 (.cons (.ife (.cmp .isin (.ix (.lv 2) (.int 0)) (.tup (.cons (.str [97,110,100]) (.cons (.str [111,114]) .nil)))) (.cons (.ret (.call 269560203810973264981310110452 (.cons (.lv 0) (.cons (.lv 1) (.cons (.lv 2) .nil)))))
 .nil) .nil)
 (.cons (.ife (.cmp .eq (.ix (.lv 2) (.int 0)) (.str [105,116,101,109])) (.cons (.ret (.call 1004190012108414202605 (.cons (.lv 0) (.cons (.lv 1) (.cons (.lv 2) .nil)))))
 .nil) .nil)
 (.cons (.ife (.cmp .eq (.ix (.lv 2) (.int 0)) (.str [110,101,119])) (.cons (.ret (.lst (.cons (.tup (.cons (.str [109,97,107,101]) .nil)) (.cons (.tup (.cons (.str [116,97,103]) (.cons (.ix (.lv 2) (.int 1)) .nil))) .nil))))
 .nil) .nil)
 (.cons (.asg (.nm 3) (.call 4416474379238857999729212337584110 (.cons (.lv 0) (.cons (.lv 1) (.cons (.ix (.lv 2) (.int 1)) .nil)))))
 (.cons (.ife (.cmp .eq (.ix (.lv 2) (.int 0)) (.str [102,105,101,108,100])) (.cons (.ret (.bop .add (.lv 3) (.lst (.cons (.tup (.cons (.str [107,105,110,100]) .nil)) (.cons (.tup (.cons (.str [102,105,101,108,100]) (.cons (.ix (.lv 2) (.int 2)) .nil))) .nil)))))
 .nil) .nil)
 (.cons (.ife (.cmp .eq (.ix (.lv 2) (.int 0)) (.str [115,105,122,101])) (.cons (.ret (.bop .add (.lv 3) (.lst (.cons (.tup (.cons (.str [115,105,122,101]) .nil)) (.cons (.tup (.cons (.str [115,105,122,101,100]) .nil)) .nil)))))
 .nil) .nil)
 (.cons (.ife (.cmp .eq (.ix (.lv 2) (.int 0)) (.str [97,114,114,97,121])) (.cons (.ret (.bop .add (.lv 3) (.lst (.cons (.tup (.cons (.str [99,104,101,99,107,95,115,105,122,101]) .nil)) (.cons (.tup (.cons (.str [109,97,107,101]) .nil)) (.cons (.tup (.cons (.str [116,97,103,95,115,105,122,101]) .nil)) .nil))))))
 .nil) .nil)
 (.cons (.ret (.bop .add (.lv 3) (.lst (.cons (.tup (.cons (.ix (.lv 2) (.int 0)) .nil)) .nil))))
 .nil)))))))))))
/-- lower_call(0 names, 1 at, 2 name, 3 arguments, 4 ahead, 5 last, 6 code, 7 begin, 8 argument) -/
noncomputable def F_lower_call : Fn where
  nm := [29733122803, 12532, 232290021, 7054219964722166387, 26258010340, 228096500, 209449573, 26520188142, 55111093474391924]
  np := 6
  sc := [(29733122803, .loc), (12532, .loc), (232290021, .loc), (7054219964722166387, .loc), (26258010340, .loc), (228096500, .loc), (209449573, .loc), (26520188142, .loc), (55111093474391924, .loc), (4416474379238857999729212337584110, .glo), (1782510, .glo)]
  body := (.cons (.asg (.nm 6) (.lst .nil))
 (.cons (.asg (.nm 7) (.lv 1))
 (.cons (.ife (.lv 4) (.cons (.asg (.nm 7) (.bop .add (.lv 1) (.int 1)))
 .nil) .nil)
 (.cons (.fr (.nm 8) (.ex (.lv 3)) (.cons (.asg (.nm 6) (.bop .add (.lv 6) (.call 4416474379238857999729212337584110 (.cons (.lv 0) (.cons (.bop .add (.lv 7) (.blt .len (.cons (.lv 6) .nil))) (.cons (.lv 8) .nil))))))
 .nil))
 (.cons (.asg (.nm 6) (.bop .add (.lv 6) (.lst (.cons (.tup (.cons (.str [99,97,108,108]) (.cons (.cm (.lv 0) 8135118439038417253 (.cons (.lv 2) .nil)) (.cons (.blt .len (.cons (.lv 3) .nil)) .nil)))) (.cons (.lv 5) .nil)))))
 (.cons (.ife (.lv 4) (.cons (.ret (.bop .add (.bop .add (.lst (.cons (.tup (.cons (.str [115,112,97,119,110]) (.cons (.bop .add (.bop .add (.lv 1) (.blt .len (.cons (.lv 6) .nil))) (.int 2)) .nil))) .nil)) (.lv 6)) (.lst (.cons (.tup (.cons (.str [102,105,110,105,115,104]) .nil)) .nil))))
 .nil) .nil)
 (.cons (.ret (.lv 6))
 .nil)))))))
/-- lower_assign(0 names, 1 at, 2 tree, 3 last, 4 right) -/
noncomputable def F_lower_assign : Fn where
  nm := [29733122803, 12532, 245150437, 228096500, 30823543924]
  np := 3
  sc := [(29733122803, .loc), (12532, .loc), (245150437, .loc), (228096500, .loc), (30823543924, .loc), (1004190012108401309292, .glo), (4416474379238857999729212337584110, .glo)]
  body := (.cons (.asg (.nm 3) (.tup (.cons (.str [115,116,111,114,101]) (.cons (.cm (.lv 0) 66858650416232037 (.cons (.ix (.lv 2) (.int 2)) .nil)) .nil))))
 (.cons (.asg (.nm 4) (.ix (.lv 2) (.int 3)))
 (.cons (.ife (.cmp .eq (.ix (.lv 4) (.int 0)) (.str [114,101,97,100])) (.cons (.ret (.lst (.cons (.tup (.cons (.str [105,110,112,117,116]) .nil)) (.cons (.lv 3) .nil))))
 .nil) .nil)
 (.cons (.ife (.cmp .eq (.ix (.lv 4) (.int 0)) (.str [99,97,108,108])) (.cons (.ret (.call 1004190012108401309292 (.cons (.lv 0) (.cons (.lv 1) (.cons (.ix (.lv 4) (.int 1)) (.cons (.ix (.lv 4) (.int 2)) (.cons (.ix (.lv 4) (.int 3)) (.cons (.lv 3) .nil))))))))
 .nil) .nil)
 (.cons (.ret (.bop .add (.call 4416474379238857999729212337584110 (.cons (.lv 0) (.cons (.lv 1) (.cons (.ix (.lv 4) (.int 1)) .nil)))) (.lst (.cons (.lv 3) .nil))))
 .nil)))))
/-- lower_set_field(0 names, 1 at, 2 tree, 3 code) -/
noncomputable def F_lower_set_field : Fn where
  nm := [29733122803, 12532, 245150437, 209449573]
  np := 3
  sc := [(29733122803, .loc), (12532, .loc), (245150437, .loc), (209449573, .loc), (4416474379238857999729212337584110, .glo), (1782510, .glo)]
  body := (.cons (.asg (.nm 3) (.bop .add (.call 4416474379238857999729212337584110 (.cons (.lv 0) (.cons (.lv 1) (.cons (.ix (.lv 2) (.int 2)) .nil)))) (.lst (.cons (.tup (.cons (.str [107,105,110,100]) .nil)) .nil))))
 (.cons (.ret (.bop .add (.bop .add (.lv 3) (.call 4416474379238857999729212337584110 (.cons (.lv 0) (.cons (.bop .add (.lv 1) (.blt .len (.cons (.lv 3) .nil))) (.cons (.ix (.lv 2) (.int 4)) .nil))))) (.lst (.cons (.tup (.cons (.str [115,101,116,95,102,105,101,108,100]) (.cons (.ix (.lv 2) (.int 3)) .nil))) .nil))))
 .nil))
/-- lower_set_item(0 names, 1 at, 2 tree, 3 code) -/
noncomputable def F_lower_set_item : Fn where
  nm := [29733122803, 12532, 245150437, 209449573]
  np := 3
  sc := [(29733122803, .loc), (12532, .loc), (245150437, .loc), (209449573, .loc), (4416474379238857999729212337584110, .glo), (1782510, .glo)]
  body := (.cons (.asg (.nm 3) (.bop .add (.call 4416474379238857999729212337584110 (.cons (.lv 0) (.cons (.lv 1) (.cons (.ix (.lv 2) (.int 2)) .nil)))) (.lst (.cons (.tup (.cons (.str [107,105,110,100]) .nil)) .nil))))
 (.cons (.asg (.nm 3) (.bop .add (.lv 3) (.call 4416474379238857999729212337584110 (.cons (.lv 0) (.cons (.bop .add (.lv 1) (.blt .len (.cons (.lv 3) .nil))) (.cons (.ix (.lv 2) (.int 3)) .nil))))))
 (.cons (.ret (.bop .add (.bop .add (.lv 3) (.call 4416474379238857999729212337584110 (.cons (.lv 0) (.cons (.bop .add (.lv 1) (.blt .len (.cons (.lv 3) .nil))) (.cons (.ix (.lv 2) (.int 4)) .nil))))) (.lst (.cons (.tup (.cons (.str [115,101,116,95,105,116,101,109]) .nil)) .nil))))
 .nil)))
/-- lower_call_statement(0 names, 1 at, 2 tree) -/
noncomputable def F_lower_call_statement : Fn where
  nm := [29733122803, 12532, 245150437]
  np := 3
  sc := [(29733122803, .loc), (12532, .loc), (245150437, .loc), (1004190012108401309292, .glo)]
  body := (.cons (.ret (.call 1004190012108401309292 (.cons (.lv 0) (.cons (.lv 1) (.cons (.ix (.lv 2) (.int 2)) (.cons (.ix (.lv 2) (.int 3)) (.cons (.ix (.lv 2) (.int 4)) (.cons (.tup (.cons (.str [100,114,111,112]) .nil)) .nil))))))))
 .nil)
/-- lower_value(0 names, 1 at, 2 tree) -/
noncomputable def F_lower_value : Fn where
  nm := [29733122803, 12532, 245150437]
  np := 3
  sc := [(29733122803, .loc), (12532, .loc), (245150437, .loc), (4416474379238857999729212337584110, .glo)]
  body := (.cons (.ret (.bop .add (.call 4416474379238857999729212337584110 (.cons (.lv 0) (.cons (.lv 1) (.cons (.ix (.lv 2) (.int 2)) .nil)))) (.lst (.cons (.tup (.cons (.ix (.lv 2) (.int 0)) .nil)) .nil))))
 .nil)
/-- lower_break(0 names, 1 at, 2 tree) -/
noncomputable def F_lower_break : Fn where
  nm := [29733122803, 12532, 245150437]
  np := 3
  sc := [(29733122803, .loc), (12532, .loc), (245150437, .loc)]
  body := (.cons (.ret (.lst (.cons (.tup (.cons (.str [98,114,101,97,107]) .nil)) .nil)))
 .nil)
/-- with_line(0 line, 1 code, 2 parts) -/
noncomputable def F_with_line : Fn where
  nm := [228226917, 209449573, 30270077555]
  np := 2
  sc := [(228226917, .cel), (209449573, .loc)]
  body := (.cons (.ret (.lc [(5936, .loc), (30270077555, .loc), (228226917, .fre)] (.tup (.cons (.lv 0) (.cons (.lv 2) .nil))) (.nm 2) (.ex (.lv 1)) .nil))
 .nil)
/-- lower_if(0 names, 1 at, 2 tree, 3 head, 4 yes, 5 behind, 6 no, 7 pairs) -/
noncomputable def F_lower_if : Fn where
  nm := [29733122803, 12532, 245150437, 219771108, 1995507, 3394586179428, 14191, 30269929843]
  np := 3
  sc := [(29733122803, .loc), (12532, .loc), (245150437, .loc), (219771108, .loc), (1995507, .loc), (3394586179428, .loc), (14191, .loc), (30269929843, .loc), (4416474379238857999729212337584110, .glo), (128536321549875122270699, .glo), (1782510, .glo), (8634477208160335717, .glo)]
  body := (.cons (.asg (.nm 3) (.call 4416474379238857999729212337584110 (.cons (.lv 0) (.cons (.lv 1) (.cons (.ix (.lv 2) (.int 2)) .nil)))))
 (.cons (.asg (.nm 4) (.call 128536321549875122270699 (.cons (.lv 0) (.cons (.bop .add (.bop .add (.lv 1) (.blt .len (.cons (.lv 3) .nil))) (.int 1)) (.cons (.ix (.lv 2) (.int 3)) .nil)))))
 (.cons (.asg (.nm 5) (.bop .add (.bop .add (.bop .add (.bop .add (.lv 1) (.blt .len (.cons (.lv 3) .nil))) (.int 1)) (.blt .len (.cons (.lv 4) .nil))) (.int 1)))
 (.cons (.asg (.nm 6) (.call 128536321549875122270699 (.cons (.lv 0) (.cons (.lv 5) (.cons (.ix (.lv 2) (.int 4)) .nil)))))
 (.cons (.asg (.nm 7) (.bop .add (.call 8634477208160335717 (.cons (.ix (.lv 2) (.int 1)) (.cons (.bop .add (.lv 3) (.lst (.cons (.tup (.cons (.str [106,117,109,112,95,110,111,116]) (.cons (.lv 5) .nil))) .nil))) .nil))) (.lv 4)))
 (.cons (.ret (.bop .add (.bop .add (.lv 7) (.lst (.cons (.tup (.cons (.ix (.lv 2) (.int 1)) (.cons (.tup (.cons (.str [106,117,109,112]) (.cons (.bop .add (.lv 5) (.blt .len (.cons (.lv 6) .nil))) .nil))) .nil))) .nil))) (.lv 6)))
 .nil))))))
/-- lower_while(0 names, 1 at, 2 tree, 3 head, 4 inner, 5 last, 6 pairs) -/
noncomputable def F_lower_while : Fn where
  nm := [29733122803, 12532, 245150437, 219771108, 28418224882, 228096500, 30269929843]
  np := 3
  sc := [(29733122803, .loc), (12532, .loc), (245150437, .loc), (219771108, .loc), (28418224882, .loc), (228096500, .loc), (30269929843, .loc), (4416474379238857999729212337584110, .glo), (128536321549875122270699, .glo), (1782510, .glo), (8634477208160335717, .glo)]
  body := (.cons (.asg (.nm 3) (.call 4416474379238857999729212337584110 (.cons (.lv 0) (.cons (.bop .add (.lv 1) (.int 1)) (.cons (.ix (.lv 2) (.int 2)) .nil)))))
 (.cons (.asg (.nm 4) (.call 128536321549875122270699 (.cons (.cm (.lv 0) 141467274622545436604400 .nil) (.cons (.bop .add (.bop .add (.bop .add (.lv 1) (.int 1)) (.blt .len (.cons (.lv 3) .nil))) (.int 1)) (.cons (.ix (.lv 2) (.int 3)) .nil)))))
 (.cons (.asg (.nm 5) (.bop .add (.bop .add (.bop .add (.bop .add (.bop .add (.lv 1) (.int 1)) (.blt .len (.cons (.lv 3) .nil))) (.int 1)) (.blt .len (.cons (.lv 4) .nil))) (.int 1)))
 (.cons (.asg (.nm 6) (.bop .add (.call 8634477208160335717 (.cons (.ix (.lv 2) (.int 1)) (.cons (.bop .add (.bop .add (.lst (.cons (.tup (.cons (.str [108,111,111,112]) (.cons (.bop .add (.lv 5) (.int 1)) .nil))) .nil)) (.lv 3)) (.lst (.cons (.tup (.cons (.str [106,117,109,112,95,110,111,116]) (.cons (.lv 5) .nil))) .nil))) .nil))) (.lv 4)))
 (.cons (.ret (.bop .add (.lv 6) (.call 8634477208160335717 (.cons (.ix (.lv 2) (.int 1)) (.cons (.lst (.cons (.tup (.cons (.str [106,117,109,112]) (.cons (.bop .add (.lv 1) (.int 1)) .nil))) (.cons (.tup (.cons (.str [101,110,100,95,108,111,111,112]) .nil)) .nil))) .nil)))))
 .nil)))))
/-- lower_for(0 names, 1 at, 2 tree, 3 low, 4 head, 5 test, 6 begin, 7 inner, 8 step, 9 pairs) -/
noncomputable def F_lower_for : Fn where
  nm := [29733122803, 12532, 245150437, 1783799, 219771108, 244939252, 26520188142, 28418224882, 243086064, 30269929843]
  np := 3
  sc := [(29733122803, .loc), (12532, .loc), (245150437, .loc), (1783799, .loc), (219771108, .loc), (244939252, .loc), (26520188142, .loc), (28418224882, .loc), (243086064, .loc), (30269929843, .loc), (4416474379238857999729212337584110, .glo), (1782510, .glo), (128536321549875122270699, .glo), (8634477208160335717, .glo)]
  body := (.cons (.asg (.nm 3) (.call 4416474379238857999729212337584110 (.cons (.lv 0) (.cons (.lv 1) (.cons (.ix (.lv 2) (.int 3)) .nil)))))
 (.cons (.asg (.nm 4) (.bop .add (.lv 3) (.call 4416474379238857999729212337584110 (.cons (.lv 0) (.cons (.bop .add (.lv 1) (.blt .len (.cons (.lv 3) .nil))) (.cons (.ix (.lv 2) (.int 4)) .nil))))))
 (.cons (.asg (.nm 5) (.bop .add (.bop .add (.lv 1) (.blt .len (.cons (.lv 4) .nil))) (.int 1)))
 (.cons (.asg (.nm 6) (.bop .add (.lv 5) (.int 1)))
 (.cons (.ife (.ix (.lv 2) (.int 6)) (.cons (.asg (.nm 6) (.bop .add (.lv 5) (.int 2)))
 .nil) .nil)
 (.cons (.asg (.nm 7) (.call 128536321549875122270699 (.cons (.cm (.lv 0) 56224278413735783 (.cons (.ix (.lv 2) (.int 2)) .nil)) (.cons (.lv 6) (.cons (.ix (.lv 2) (.int 5)) .nil)))))
 (.cons (.asg (.nm 8) (.bop .add (.lv 6) (.blt .len (.cons (.lv 7) .nil))))
 (.cons (.ife (.ix (.lv 2) (.int 6)) (.cons (.asg (.nm 8) (.bop .add (.lv 8) (.int 1)))
 (.cons (.asg (.nm 7) (.bop .add (.bop .add (.lst (.cons (.tup (.cons (.ix (.lv 2) (.int 1)) (.cons (.tup (.cons (.str [115,112,97,119,110]) (.cons (.lv 8) .nil))) .nil))) .nil)) (.lv 7)) (.lst (.cons (.tup (.cons (.ix (.lv 2) (.int 1)) (.cons (.tup (.cons (.str [102,105,110,105,115,104]) .nil)) .nil))) .nil))))
 .nil)) .nil)
 (.cons (.asg (.nm 9) (.bop .add (.call 8634477208160335717 (.cons (.ix (.lv 2) (.int 1)) (.cons (.bop .add (.lv 4) (.lst (.cons (.tup (.cons (.str [101,97,99,104]) (.cons (.bop .add (.lv 8) (.int 2)) .nil))) (.cons (.tup (.cons (.str [116,101,115,116]) (.cons (.bop .add (.lv 8) (.int 1)) .nil))) .nil)))) .nil))) (.lv 7)))
 (.cons (.ret (.bop .add (.lv 9) (.call 8634477208160335717 (.cons (.ix (.lv 2) (.int 1)) (.cons (.lst (.cons (.tup (.cons (.str [110,101,120,116]) (.cons (.lv 5) .nil))) (.cons (.tup (.cons (.str [101,110,100,95,108,111,111,112]) .nil)) .nil))) .nil)))))
 .nil))))))))))
/-- lower_try(0 names, 1 at, 2 tree, 3 inner, 4 handler, 5 other, 6 pairs, 7 end, 8 last) -/
noncomputable def F_lower_try : Fn where
  nm := [29733122803, 12532, 245150437, 28418224882, 460759471174386, 30041322226, 30269929843, 1668964, 228096500]
  np := 3
  sc := [(29733122803, .loc), (12532, .loc), (245150437, .loc), (28418224882, .loc), (460759471174386, .loc), (30041322226, .loc), (30269929843, .loc), (1668964, .loc), (228096500, .loc), (128536321549875122270699, .glo), (1782510, .glo), (8634477208160335717, .glo)]
  body := (.cons (.asg (.nm 3) (.call 128536321549875122270699 (.cons (.lv 0) (.cons (.bop .add (.lv 1) (.int 1)) (.cons (.ix (.lv 2) (.int 2)) .nil)))))
 (.cons (.asg (.nm 4) (.bop .add (.bop .add (.bop .add (.lv 1) (.int 1)) (.blt .len (.cons (.lv 3) .nil))) (.int 2)))
 (.cons (.asg (.nm 5) (.call 128536321549875122270699 (.cons (.lv 0) (.cons (.bop .add (.lv 4) (.int 1)) (.cons (.ix (.lv 2) (.int 4)) .nil)))))
 (.cons (.asg (.nm 6) (.bop .add (.lst (.cons (.tup (.cons (.ix (.lv 2) (.int 1)) (.cons (.tup (.cons (.str [103,117,97,114,100]) (.cons (.lv 4) .nil))) .nil))) .nil)) (.lv 3)))
 (.cons (.asg (.nm 7) (.bop .add (.bop .add (.lv 4) (.int 1)) (.blt .len (.cons (.lv 5) .nil))))
 (.cons (.asg (.nm 8) (.tup (.cons (.str [115,116,111,114,101]) (.cons (.cm (.lv 0) 66858650416232037 (.cons (.ix (.lv 2) (.int 3)) .nil)) .nil))))
 (.cons (.ret (.bop .add (.bop .add (.lv 6) (.call 8634477208160335717 (.cons (.ix (.lv 2) (.int 1)) (.cons (.lst (.cons (.tup (.cons (.str [117,110,103,117,97,114,100]) .nil)) (.cons (.tup (.cons (.str [106,117,109,112]) (.cons (.lv 7) .nil))) (.cons (.lv 8) .nil)))) .nil)))) (.lv 5)))
 .nil)))))))
/-- lower_statement(0 names, 1 at, 2 tree, 3 rule, 4 other) -/
noncomputable def F_lower_statement : Fn where
  nm := [29733122803, 12532, 245150437, 241006181, 30041322226]
  np := 3
  sc := [(29733122803, .loc), (12532, .loc), (245150437, .loc), (241006181, .loc), (30041322226, .loc), (21635294414, .glo), (8634477208160335717, .glo), (2698757087940, .glo)]
  body := (.cons (.ife (.cmp .isin (.ix (.lv 2) (.int 0)) (.gv 21635294414)) (.cons (.asg (.nm 3) (.ix (.gv 21635294414) (.ix (.lv 2) (.int 0))))
 (.cons (.ret (.call 8634477208160335717 (.cons (.ix (.lv 2) (.int 1)) (.cons (.calv 3 (.cons (.lv 0) (.cons (.lv 1) (.cons (.lv 2) .nil)))) .nil))))
 .nil)) .nil)
 (.cons (.asg (.nm 4) (.ix (.gv 2698757087940) (.ix (.lv 2) (.int 0))))
 (.cons (.ret (.calv 4 (.cons (.lv 0) (.cons (.lv 1) (.cons (.lv 2) .nil)))))
 .nil)))
/-- lower_block(0 names, 1 at, 2 block, 3 pairs, 4 statement) -/
noncomputable def F_lower_block : Fn where
  nm := [29733122803, 12532, 26534998507, 30269929843, 8352356132542052212]
  np := 3
  sc := [(29733122803, .loc), (12532, .loc), (26534998507, .loc), (30269929843, .loc), (8352356132542052212, .loc), (34503706087804584611499197691764, .glo), (1782510, .glo)]
  body := (.cons (.asg (.nm 3) (.lst .nil))
 (.cons (.fr (.nm 4) (.ex (.lv 2)) (.cons (.asg (.nm 3) (.bop .add (.lv 3) (.call 34503706087804584611499197691764 (.cons (.lv 0) (.cons (.bop .add (.lv 1) (.blt .len (.cons (.lv 3) .nil))) (.cons (.lv 4) .nil))))))
 .nil))
 (.cons (.ret (.lv 3))
 .nil)))
/-- lower_procedure(0 names, 1 at, 2 parameters, 3 block, 4 pairs, 5 number) -/
noncomputable def F_lower_procedure : Fn where
  nm := [29733122803, 12532, 1040071861427183909235, 26534998507, 30269929843, 3811208377074]
  np := 4
  sc := [(29733122803, .loc), (12532, .loc), (1040071861427183909235, .loc), (26534998507, .loc), (30269929843, .loc), (3811208377074, .loc), (30806881253, .glo), (1782510, .glo), (128536321549875122270699, .glo), (164882245, .glo)]
  body := (.cons (.asg (.nm 4) (.lst .nil))
 (.cons (.fr (.nm 5) (.rng (.cons (.blt .len (.cons (.lv 2) .nil)) .nil)) (.cons (.exp (.bm (.lv 4) .append (.cons (.tup (.cons (.int 0) (.cons (.tup (.cons (.str [115,116,111,114,101]) (.cons (.tup (.cons (.str [111,119,110]) (.cons (.bop .sub (.bop .sub (.blt .len (.cons (.lv 2) .nil)) (.int 1)) (.lv 5)) .nil))) .nil))) .nil))) .nil)))
 .nil))
 (.cons (.asg (.nm 4) (.bop .add (.lv 4) (.call 128536321549875122270699 (.cons (.lv 0) (.cons (.bop .add (.lv 1) (.blt .len (.cons (.lv 4) .nil))) (.cons (.lv 3) .nil))))))
 (.cons (.ret (.bop .add (.lv 4) (.lst (.cons (.tup (.cons (.int 0) (.cons (.tup (.cons (.str [112,117,115,104]) (.cons (.gv 164882245) .nil))) .nil))) (.cons (.tup (.cons (.int 0) (.cons (.tup (.cons (.str [114,101,116,117,114,110]) .nil)) .nil))) .nil)))))
 .nil))))
/-- declared_by(0 statement) -/
noncomputable def F_declared_by : Fn where
  nm := [8352356132542052212]
  np := 1
  sc := [(8352356132542052212, .loc), (118997917578423032083694, .glo)]
  body := (.cons (.ife (.cmp .eq (.ix (.lv 0) (.int 0)) (.str [118,97,114])) (.cons (.ret (.lst (.cons (.ix (.lv 0) (.int 2)) .nil)))
 .nil) .nil)
 (.cons (.ife (.cmp .eq (.ix (.lv 0) (.int 0)) (.str [105,102])) (.cons (.ret (.bop .add (.call 118997917578423032083694 (.cons (.ix (.lv 0) (.int 3)) .nil)) (.call 118997917578423032083694 (.cons (.ix (.lv 0) (.int 4)) .nil))))
 .nil) .nil)
 (.cons (.ife (.cmp .eq (.ix (.lv 0) (.int 0)) (.str [119,104,105,108,101])) (.cons (.ret (.call 118997917578423032083694 (.cons (.ix (.lv 0) (.int 3)) .nil)))
 .nil) .nil)
 (.cons (.ife (.cmp .eq (.ix (.lv 0) (.int 0)) (.str [102,111,114])) (.cons (.ret (.call 118997917578423032083694 (.cons (.ix (.lv 0) (.int 5)) .nil)))
 .nil) .nil)
 (.cons (.ife (.cmp .eq (.ix (.lv 0) (.int 0)) (.str [116,114,121])) (.cons (.ret (.bop .add (.bop .add (.call 118997917578423032083694 (.cons (.ix (.lv 0) (.int 2)) .nil)) (.lst (.cons (.ix (.lv 0) (.int 3)) .nil))) (.call 118997917578423032083694 (.cons (.ix (.lv 0) (.int 4)) .nil))))
 .nil) .nil)
 (.cons (.ret (.lst .nil))
 .nil))))))
/-- declared_in(0 block, 1 names, 2 statement) -/
noncomputable def F_declared_in : Fn where
  nm := [26534998507, 29733122803, 8352356132542052212]
  np := 1
  sc := [(26534998507, .loc), (29733122803, .loc), (8352356132542052212, .loc), (118997917578423032082809, .glo)]
  body := (.cons (.asg (.nm 1) (.lst .nil))
 (.cons (.fr (.nm 2) (.ex (.lv 0)) (.cons (.exp (.bm (.lv 1) .extend (.cons (.call 118997917578423032082809 (.cons (.lv 2) .nil)) .nil)))
 .nil))
 (.cons (.ret (.lv 1))
 .nil)))
/-- variables_of(0 block, 1 parameters, 2 names, 3 name) -/
noncomputable def F_variables_of : Fn where
  nm := [26534998507, 1040071861427183909235, 29733122803, 232290021]
  np := 2
  sc := [(26534998507, .loc), (1040071861427183909235, .loc), (29733122803, .loc), (232290021, .loc), (228227572, .glo), (118997917578423032083694, .glo), (31385728613, .glo)]
  body := (.cons (.asg (.nm 2) (.lst .nil))
 (.cons (.fr (.nm 3) (.ex (.bop .add (.blt .list (.cons (.lv 1) .nil)) (.call 118997917578423032083694 (.cons (.lv 0) .nil)))) (.cons (.ife (.cmp .notin (.lv 3) (.lv 2)) (.cons (.exp (.bm (.lv 2) .append (.cons (.lv 3) .nil)))
 .nil) .nil)
 .nil))
 (.cons (.ret (.blt .tuple (.cons (.lv 2) .nil)))
 .nil)))
/-- Names.__init__(0 self, 1 records, 2 procedures, 3 top, 4 own, 5 counters, 6 loops) -/
noncomputable def F_Names___init__ : Fn where
  nm := [242841190, 504874445615731, 1041295160196917408499, 1914864, 1833966, 56224278413670771, 29225646195]
  np := 7
  sc := [(242841190, .loc), (504874445615731, .loc), (1041295160196917408499, .loc), (1914864, .loc), (1833966, .loc), (56224278413670771, .loc), (29225646195, .loc)]
  dfs := [.non, (.tup []), (.bl false)]
  body := (.cons (.sfl (.lv 0) 504874445615731 (.lv 1))
 (.cons (.sfl (.lv 0) 1041295160196917408499 (.lv 2))
 (.cons (.sfl (.lv 0) 1914864 (.lv 3))
 (.cons (.sfl (.lv 0) 1833966 (.lv 4))
 (.cons (.sfl (.lv 0) 56224278413670771 (.lv 5))
 (.cons (.sfl (.lv 0) 29225646195 (.lv 6))
 .nil))))))
/-- Names.inside(0 self, 1 own) -/
noncomputable def F_Names_inside : Fn where
  nm := [242841190, 1833966]
  np := 2
  sc := [(242841190, .loc), (1833966, .loc), (21143188211, .glo)]
  body := (.cons (.ret (.mk 21143188211 (.cons (.fld (.lv 0) 504874445615731) (.cons (.fld (.lv 0) 1041295160196917408499) (.cons (.fld (.lv 0) 1914864) (.cons (.lv 1) .nil))))))
 .nil)
/-- Names.within_loop(0 self) -/
noncomputable def F_Names_within_loop : Fn where
  nm := [242841190]
  np := 1
  sc := [(242841190, .loc), (21143188211, .glo)]
  body := (.cons (.ret (.mk 21143188211 (.cons (.fld (.lv 0) 504874445615731) (.cons (.fld (.lv 0) 1041295160196917408499) (.cons (.fld (.lv 0) 1914864) (.cons (.fld (.lv 0) 1833966) (.cons (.fld (.lv 0) 56224278413670771) (.cons (.bl true) .nil))))))))
 .nil)
/-- Names.counting(0 self, 1 name) -/
noncomputable def F_Names_counting : Fn where
  nm := [242841190, 232290021]
  np := 2
  sc := [(242841190, .loc), (232290021, .loc), (21143188211, .glo)]
  body := (.cons (.ret (.mk 21143188211 (.cons (.fld (.lv 0) 504874445615731) (.cons (.fld (.lv 0) 1041295160196917408499) (.cons (.fld (.lv 0) 1914864) (.cons (.fld (.lv 0) 1833966) (.cons (.bop .add (.fld (.lv 0) 56224278413670771) (.tup (.cons (.lv 1) .nil))) (.cons (.bl true) .nil))))))))
 .nil)
/-- Names.variable(0 self, 1 name) -/
noncomputable def F_Names_variable : Fn where
  nm := [242841190, 232290021]
  np := 2
  sc := [(242841190, .loc), (232290021, .loc)]
  body := (.cons (.ife (.and (.cons (.cmp .isnot (.fld (.lv 0) 1833966) .non) (.cons (.cmp .isin (.lv 1) (.fld (.lv 0) 1833966)) .nil))) (.cons (.ret (.tup (.cons (.str [111,119,110]) (.cons (.bm (.fld (.lv 0) 1833966) .index (.cons (.lv 1) .nil)) .nil))))
 .nil) .nil)
 (.cons (.ife (.cmp .isin (.lv 1) (.fld (.lv 0) 1914864)) (.cons (.ret (.tup (.cons (.str [116,111,112]) (.cons (.bm (.fld (.lv 0) 1914864) .index (.cons (.lv 1) .nil)) .nil))))
 .nil) .nil)
 (.cons (.ret .non)
 .nil)))
/-- Names.counter(0 self, 1 name, 2 distance) -/
noncomputable def F_Names_counter : Fn where
  nm := [242841190, 232290021, 56760772939461093]
  np := 2
  sc := [(242841190, .loc), (232290021, .loc), (56760772939461093, .loc), (30806881253, .glo), (1782510, .glo)]
  body := (.cons (.fr (.nm 2) (.rng (.cons (.blt .len (.cons (.fld (.lv 0) 56224278413670771) .nil)) .nil)) (.cons (.ife (.cmp .eq (.ix (.fld (.lv 0) 56224278413670771) (.bop .sub (.bop .sub (.blt .len (.cons (.fld (.lv 0) 56224278413670771) .nil)) (.int 1)) (.lv 2))) (.lv 1)) (.cons (.ret (.lv 2))
 .nil) .nil)
 .nil))
 (.cons (.ret .non)
 .nil))
/-- Names.procedure(0 self, 1 name, 2 number) -/
noncomputable def F_Names_procedure : Fn where
  nm := [242841190, 232290021, 3811208377074]
  np := 2
  sc := [(242841190, .loc), (232290021, .loc), (3811208377074, .loc), (30806881253, .glo), (1782510, .glo)]
  body := (.cons (.fr (.nm 2) (.rng (.cons (.blt .len (.cons (.fld (.lv 0) 1041295160196917408499) .nil)) .nil)) (.cons (.ife (.cmp .eq (.ix (.ix (.fld (.lv 0) 1041295160196917408499) (.lv 2)) (.int 0)) (.lv 1)) (.cons (.ret (.lv 2))
 .nil) .nil)
 .nil))
 (.cons (.ret .non)
 .nil))
/-- Names.has_record(0 self, 1 name, 2 fields, 3 record) -/
noncomputable def F_Names_has_record : Fn where
  nm := [242841190, 232290021, 3533092631155, 3944331606372]
  np := 2
  sc := [(242841190, .loc), (232290021, .loc)]
  body := (.cons (.ret (.cmp .isin (.lv 1) (.lc [(5936, .loc), (3944331606372, .loc), (3533092631155, .loc)] (.lv 3) (.tp (.cons (.nm 3) (.cons (.nm 2) .nil))) (.ex (.fld (.lv 0) 504874445615731)) .nil)))
 .nil)
/-- Names.has_field(0 self, 1 name, 2 fields, 3 record) -/
noncomputable def F_Names_has_field : Fn where
  nm := [242841190, 232290021, 3533092631155, 3944331606372]
  np := 2
  sc := [(242841190, .loc), (232290021, .cel), (1603449, .glo)]
  body := (.cons (.ret (.lcb .any [(5936, .loc), (3944331606372, .loc), (3533092631155, .loc), (232290021, .fre)] (.cmp .isin (.lv 1) (.lv 2)) (.tp (.cons (.nm 3) (.cons (.nm 2) .nil))) (.ex (.fld (.lv 0) 504874445615731)) .nil))
 .nil)
/-- Program.__init__(0 self, 1 code, 2 lines, 3 records, 4 variables, 5 procedures) -/
noncomputable def F_Program___init__ : Fn where
  nm := [242841190, 209449573, 29213045491, 504874445615731, 8557907253277700851, 1041295160196917408499]
  np := 6
  sc := [(242841190, .loc), (209449573, .loc), (29213045491, .loc), (504874445615731, .loc), (8557907253277700851, .loc), (1041295160196917408499, .loc)]
  body := (.cons (.sfl (.lv 0) 209449573 (.lv 1))
 (.cons (.sfl (.lv 0) 29213045491 (.lv 2))
 (.cons (.sfl (.lv 0) 504874445615731 (.lv 3))
 (.cons (.sfl (.lv 0) 8557907253277700851 (.lv 4))
 (.cons (.sfl (.lv 0) 1041295160196917408499 (.lv 5))
 .nil)))))
/-- check_program(0 names, 1 procedures, 2 block, 3 line, 4 name, 5 parameters, 6 inner) -/
noncomputable def F_check_program : Fn where
  nm := [29733122803, 1041295160196917408499, 26534998507, 228226917, 232290021, 1040071861427183909235, 28418224882]
  np := 3
  sc := [(29733122803, .loc), (1041295160196917408499, .loc), (26534998507, .loc), (228226917, .loc), (232290021, .loc), (1040071861427183909235, .loc), (28418224882, .loc), (117845135165781521986027, .glo), (17947232312025836896647142, .glo)]
  body := (.cons (.fr (.tp (.cons (.nm 3) (.cons (.nm 4) (.cons (.nm 5) (.cons (.nm 6) .nil))))) (.ex (.lv 1)) (.cons (.exp (.call 117845135165781521986027 (.cons (.cm (.lv 0) 3637543334501 (.cons (.call 17947232312025836896647142 (.cons (.lv 6) (.cons (.lv 5) .nil))) .nil)) (.cons (.lv 6) .nil))))
 .nil))
 (.cons (.exp (.call 117845135165781521986027 (.cons (.lv 0) (.cons (.lv 2) .nil))))
 .nil))
/-- compile_tree(0 tree, 1 records, 2 procedures, 3 block, 4 line, 5 name, 6 parameters, 7 inner, 8 heads, 9 known, 10 names, 11 pairs, 12 told, 13 own, 14 code, 15 lines, 16 head, 17 fields, 18 parts) -/
noncomputable def F_compile_tree : Fn where
  nm := [245150437, 504874445615731, 1041295160196917408499, 26534998507, 228226917, 232290021, 1040071861427183909235, 28418224882, 28130701939, 28955114478, 29733122803, 30269929843, 245102180, 1833966, 209449573, 29213045491, 219771108, 3533092631155, 30270077555]
  np := 1
  sc := [(245150437, .loc), (504874445615731, .loc), (1041295160196917408499, .loc), (26534998507, .loc), (228226917, .loc), (232290021, .loc), (1040071861427183909235, .loc), (28418224882, .loc), (28130701939, .loc), (28955114478, .loc), (29733122803, .loc), (30269929843, .loc), (245102180, .loc), (1833966, .loc), (209449573, .loc), (29213045491, .loc), (117845135165783117689459, .glo), (31385728613, .glo), (21143188211, .glo), (17947232312025836896647142, .glo), (1930774694556226235037167853, .glo), (128536321549875122270699, .glo), (1782510, .glo), (34503706087804367373805694056805, .glo), (403037992397131578731689930623543123, .glo), (5675581356839368308, .glo), (355790745284845, .glo)]
  body := (.cons (.asg (.tp (.cons (.nm 1) (.cons (.nm 2) (.cons (.nm 3) .nil)))) (.sl (.lv 0) (.int 1) .non))
 (.cons (.exp (.call 117845135165783117689459 (.cons (.lv 1) (.cons (.str [114,101,99,111,114,100]) .nil))))
 (.cons (.exp (.call 117845135165783117689459 (.cons (.lc [(5936, .loc), (219771108, .loc)] (.sl (.lv 16) .non (.int 3)) (.nm 16) (.ex (.lv 2)) .nil) (.cons (.str [112,114,111,99,101,100,117,114,101]) .nil))))
 (.cons (.asg (.nm 8) (.lcb .tuple [(5936, .loc), (228226917, .loc), (232290021, .loc), (1040071861427183909235, .loc), (28418224882, .loc), (1782510, .glo)] (.tup (.cons (.lv 5) (.cons (.blt .len (.cons (.lv 6) .nil)) .nil))) (.tp (.cons (.nm 4) (.cons (.nm 5) (.cons (.nm 6) (.cons (.nm 7) .nil))))) (.ex (.lv 2)) .nil))
 (.cons (.asg (.nm 9) (.lcb .tuple [(5936, .loc), (228226917, .loc), (232290021, .loc), (3533092631155, .loc)] (.tup (.cons (.lv 5) (.cons (.lv 17) .nil))) (.tp (.cons (.nm 4) (.cons (.nm 5) (.cons (.nm 17) .nil)))) (.ex (.lv 1)) .nil))
 (.cons (.asg (.nm 10) (.mk 21143188211 (.cons (.lv 9) (.cons (.lv 8) (.cons (.call 17947232312025836896647142 (.cons (.lv 3) (.cons (.tup .nil) .nil))) .nil)))))
 (.cons (.exp (.call 1930774694556226235037167853 (.cons (.lv 10) (.cons (.lv 2) (.cons (.lv 3) .nil)))))
 (.cons (.asg (.nm 11) (.bop .add (.bop .add (.lst (.cons (.tup (.cons (.int 0) (.cons (.tup (.cons (.str [101,110,116,101,114]) .nil)) .nil))) .nil)) (.call 128536321549875122270699 (.cons (.lv 10) (.cons (.int 1) (.cons (.lv 3) .nil))))) (.lst (.cons (.tup (.cons (.int 0) (.cons (.tup (.cons (.str [104,97,108,116]) .nil)) .nil))) .nil))))
 (.cons (.asg (.nm 12) (.lst .nil))
 (.cons (.fr (.tp (.cons (.nm 4) (.cons (.nm 5) (.cons (.nm 6) (.cons (.nm 7) .nil))))) (.ex (.lv 2)) (.cons (.asg (.nm 13) (.call 17947232312025836896647142 (.cons (.lv 7) (.cons (.lv 6) .nil))))
 (.cons (.exp (.bm (.lv 12) .append (.cons (.tup (.cons (.lv 5) (.cons (.lv 13) (.cons (.blt .len (.cons (.lv 11) .nil)) .nil)))) .nil)))
 (.cons (.asg (.nm 11) (.bop .add (.lv 11) (.call 34503706087804367373805694056805 (.cons (.cm (.lv 10) 3637543334501 (.cons (.lv 13) .nil)) (.cons (.blt .len (.cons (.lv 11) .nil)) (.cons (.lv 6) (.cons (.lv 7) .nil)))))))
 .nil))))
 (.cons (.ife (.cmp .gt (.blt .len (.cons (.lv 11) .nil)) (.gv 403037992397131578731689930623543123)) (.cons .stk
 .nil) .nil)
 (.cons (.asg (.nm 14) (.lcb .tuple [(5936, .loc), (228226917, .loc), (30270077555, .loc)] (.lv 18) (.tp (.cons (.nm 4) (.cons (.nm 18) .nil))) (.ex (.lv 11)) .nil))
 (.cons (.asg (.nm 15) (.lcb .tuple [(5936, .loc), (228226917, .loc), (30270077555, .loc)] (.lv 4) (.tp (.cons (.nm 4) (.cons (.nm 18) .nil))) (.ex (.lv 11)) .nil))
 (.cons (.ret (.mk 355790745284845 (.cons (.lv 14) (.cons (.lv 15) (.cons (.lv 9) (.cons (.fld (.lv 10) 1914864) (.cons (.blt .tuple (.cons (.lv 12) .nil)) .nil)))))))
 .nil))))))))))))))
/-- _law_cell(0 _law_script, 1 _law_k) -/
noncomputable def F__law_cell : Fn where
  nm := [113159385147593130145908, 3293371559915]
  np := 2
  sc := [(113159385147593130145908, .loc), (3293371559915, .loc), (1782510, .glo)]
  body := (.cons (.ife (.cmp .lt (.lv 1) (.blt .len (.cons (.lv 0) .nil))) (.cons (.ret (.ix (.lv 0) (.lv 1)))
 .nil) .nil)
 (.cons (.ret (.int 0))
 .nil))
/-- _law_digits(0 _law_script, 1 _law_first, 2 _law_last, 3 _law_digits_here, 4 _law_k, 5 _law_cell_here, 6 _law_turn, 7 _law_seed) -/
noncomputable def F__law_digits : Fn where
  nm := [113159385147593130145908, 884057696462094252532, 6906700753622563316, 3888126867537390690033081635141989, 3293371559915, 237312430879893406177264499045, 6906700753639668078, 6906700753637307108]
  np := 3
  sc := [(113159385147593130145908, .loc), (884057696462094252532, .loc), (6906700753622563316, .loc), (3888126867537390690033081635141989, .loc), (3293371559915, .loc), (237312430879893406177264499045, .loc), (6906700753639668078, .loc), (6906700753637307108, .loc), (30806881253, .glo), (6906700753603753580, .glo), (1734516, .glo)]
  body := (.cons (.asg (.nm 3) (.lst .nil))
 (.cons (.fr (.nm 4) (.rng (.cons (.lv 1) (.cons (.lv 2) .nil))) (.cons (.asg (.nm 5) (.call 6906700753603753580 (.cons (.lv 0) (.cons (.lv 4) .nil))))
 (.cons (.ife (.cmp .lt (.lv 5) (.int 0)) (.cons (.asg (.nm 5) (.bop .sub (.int 1) (.bop .mul (.int 2) (.lv 5))))
 .nil) .nil)
 (.cons (.ife (.cmp .ge (.lv 5) (.bop .pow (.int 10) (.int 18))) (.cons (.fr (.nm 6) (.rng (.cons (.int 60) .nil)) (.cons (.ife (.cmp .gt (.lv 5) (.int 0)) (.cons (.exp (.bm (.lv 3) .append (.cons (.bop .mod (.blt .int (.cons (.lv 5) .nil)) (.int 1000)) .nil)))
 (.cons (.asg (.nm 5) (.bop .fdiv (.lv 5) (.int 1000)))
 .nil)) .nil)
 .nil))
 .nil) (.cons (.asg (.nm 7) (.bop .mod (.blt .int (.cons (.bop .add (.bop .add (.bop .mul (.lv 5) (.int 48271)) (.bop .mul (.lv 4) (.int 69621))) (.int 11)) .nil)) (.int 2147483647)))
 (.cons (.fr (.nm 6) (.rng (.cons (.int 12) .nil)) (.cons (.asg (.nm 7) (.bop .mod (.blt .int (.cons (.bop .add (.bop .add (.bop .mul (.lv 7) (.int 16807)) (.bop .mul (.int 7) (.lv 6))) (.int 1)) .nil)) (.int 2147483647)))
 (.cons (.exp (.bm (.lv 3) .append (.cons (.bop .mod (.blt .int (.cons (.bop .fdiv (.lv 7) (.int 997)) .nil)) (.int 1000)) .nil)))
 .nil)))
 .nil)))
 .nil))))
 (.cons (.ret (.lv 3))
 .nil)))
/-- _law_draw(0 _law_box, 1 _law_many, 2 _law_at) -/
noncomputable def F__law_draw : Fn where
  nm := [53958599637514232, 6906700753624659833, 421551559667956]
  np := 2
  sc := [(53958599637514232, .loc), (6906700753624659833, .loc), (421551559667956, .loc), (1782510, .glo), (1734516, .glo)]
  body := (.cons (.asg (.nm 2) (.ix (.lv 0) (.int 1)))
 (.cons (.six (.lv 0) (.int 1) (.bop .add (.lv 2) (.int 1)))
 (.cons (.ife (.cmp .lt (.lv 2) (.blt .len (.cons (.ix (.lv 0) (.int 0)) .nil))) (.cons (.ret (.bop .mod (.blt .int (.cons (.ix (.ix (.lv 0) (.int 0)) (.lv 2)) .nil)) (.lv 1)))
 .nil) .nil)
 (.cons (.ret (.int 0))
 .nil))))
/-- _law_name(0 _law_cell_here, 1 _law_k, 2 _law_letters) -/
noncomputable def F__law_name : Fn where
  nm := [237312430879893406177264499045, 3293371559915, 14484401298861203612334451]
  np := 2
  sc := [(237312430879893406177264499045, .loc), (3293371559915, .loc), (14484401298861203612334451, .loc), (1734516, .glo)]
  body := (.cons (.asg (.nm 2) (.str [97,98,99,100,101,102,103,104,105,106,107,108,109,110,111,112,113,114,115,116,117,118,119,120,121,122]))
 (.cons (.ret (.bop .add (.bop .add (.str [113]) (.ix (.lv 2) (.bop .mod (.blt .int (.cons (.bop .add (.lv 0) (.bop .mul (.int 5) (.lv 1))) .nil)) (.int 26)))) (.str [117])))
 .nil))
/-- _law_pay(0 _law_box, 1 _law_cost) -/
noncomputable def F__law_pay : Fn where
  nm := [53958599637514232, 6906700753603918324]
  np := 2
  sc := [(53958599637514232, .loc), (6906700753603918324, .loc)]
  body := (.cons (.six (.lv 0) (.int 2) (.bop .sub (.ix (.lv 0) (.int 2)) (.lv 1)))
 (.cons (.ret (.cmp .gt (.ix (.lv 0) (.int 2)) (.int 0)))
 .nil))
/-- _law_constant(0 _law_box, 1 _law_kind) -/
noncomputable def F__law_constant : Fn where
  nm := [53958599637514232, 6906700753620596580]
  np := 1
  sc := [(53958599637514232, .loc), (6906700753620596580, .loc), (6906700753606062327, .glo)]
  body := (.cons (.asg (.nm 1) (.call 6906700753606062327 (.cons (.lv 0) (.cons (.int 9) .nil))))
 (.cons (.ife (.cmp .lt (.lv 1) (.int 4)) (.cons (.ret (.tup (.cons (.str [99,111,110,115,116]) (.cons (.tup (.cons (.str [105,110,116]) (.cons (.call 6906700753606062327 (.cons (.lv 0) (.cons (.int 4) .nil))) .nil))) .nil))))
 .nil) .nil)
 (.cons (.ife (.cmp .eq (.lv 1) (.int 4)) (.cons (.ret (.tup (.cons (.str [99,111,110,115,116]) (.cons (.tup (.cons (.str [105,110,116]) (.cons (.bop .add (.bop .mul (.call 6906700753606062327 (.cons (.lv 0) (.cons (.int 1000) .nil))) (.bop .pow (.int 10) (.int 57))) (.call 6906700753606062327 (.cons (.lv 0) (.cons (.int 1000) .nil)))) .nil))) .nil))))
 .nil) .nil)
 (.cons (.ife (.cmp .eq (.lv 1) (.int 5)) (.cons (.ret (.tup (.cons (.str [99,111,110,115,116]) (.cons (.tup (.cons (.str [98,111,111,108]) (.cons (.cmp .eq (.call 6906700753606062327 (.cons (.lv 0) (.cons (.int 2) .nil))) (.int 1)) .nil))) .nil))))
 .nil) .nil)
 (.cons (.ife (.cmp .eq (.lv 1) (.int 6)) (.cons (.ret (.tup (.cons (.str [99,111,110,115,116]) (.cons (.tup (.cons (.str [116,101,120,116]) (.cons (.sl (.str [97,98,35,126,10]) .non (.call 6906700753606062327 (.cons (.lv 0) (.cons (.int 6) .nil)))) .nil))) .nil))))
 .nil) .nil)
 (.cons (.ife (.cmp .eq (.lv 1) (.int 7)) (.cons (.ret (.tup (.cons (.str [99,111,110,115,116]) (.cons (.tup (.cons (.str [110,111,110,101]) .nil)) .nil))))
 .nil) .nil)
 (.cons (.ret (.tup (.cons (.str [99,111,110,115,116]) (.cons (.tup (.cons (.str [105,110,116]) (.cons (.call 6906700753606062327 (.cons (.lv 0) (.cons (.int 1000) .nil))) .nil))) .nil))))
 .nil)))))))
/-- _law_integer(0 _law_box, 1 _law_scope, 2 _law_depth, 3 _law_kind, 4 _law_op, 5 _law_first) -/
noncomputable def F__law_integer : Fn where
  nm := [53958599637514232, 884057696465571280997, 884057696461548960360, 6906700753620596580, 421551559669744, 884057696462094252532]
  np := 3
  sc := [(53958599637514232, .loc), (884057696465571280997, .loc), (884057696461548960360, .loc), (6906700753620596580, .loc), (421551559669744, .loc), (884057696462094252532, .loc), (6906700753606062327, .glo), (53958599637741817, .glo), (1782510, .glo), (14484401298848318679020274, .glo)]
  body := (.cons (.asg (.nm 3) (.call 6906700753606062327 (.cons (.lv 0) (.cons (.int 8) .nil))))
 (.cons (.ife (.or (.cons (.not (.call 53958599637741817 (.cons (.lv 0) (.cons (.int 4) .nil)))) (.cons (.cmp .le (.lv 2) (.int 0)) (.cons (.cmp .lt (.lv 3) (.int 2)) .nil)))) (.cons (.ret (.tup (.cons (.str [99,111,110,115,116]) (.cons (.tup (.cons (.str [105,110,116]) (.cons (.call 6906700753606062327 (.cons (.lv 0) (.cons (.int 4) .nil))) .nil))) .nil))))
 .nil) .nil)
 (.cons (.ife (.cmp .lt (.lv 3) (.int 5)) (.cons (.ret (.tup (.cons (.str [110,97,109,101]) (.cons (.ix (.ix (.lv 1) (.int 3)) (.call 6906700753606062327 (.cons (.lv 0) (.cons (.blt .len (.cons (.ix (.lv 1) (.int 3)) .nil)) .nil)))) .nil))))
 .nil) .nil)
 (.cons (.asg (.nm 4) (.ix (.lst (.cons (.str [43]) (.cons (.str [45]) (.cons (.str [42]) (.cons (.str [43]) (.cons (.str [109,111,100]) .nil)))))) (.call 6906700753606062327 (.cons (.lv 0) (.cons (.int 5) .nil)))))
 (.cons (.asg (.nm 5) (.call 14484401298848318679020274 (.cons (.lv 0) (.cons (.lv 1) (.cons (.bop .sub (.lv 2) (.int 1)) .nil)))))
 (.cons (.ret (.tup (.cons (.str [98,111,116,104]) (.cons (.lv 4) (.cons (.lv 5) (.cons (.call 14484401298848318679020274 (.cons (.lv 0) (.cons (.lv 1) (.cons (.bop .sub (.lv 2) (.int 1)) .nil)))) .nil))))))
 .nil))))))
/-- _law_expression(0 _law_box, 1 _law_scope, 2 _law_depth, 3 _law_kind, 4 _law_op, 5 _law_first) -/
noncomputable def F__law_expression : Fn where
  nm := [53958599637514232, 884057696465571280997, 884057696461548960360, 6906700753620596580, 421551559669744, 884057696462094252532]
  np := 3
  sc := [(53958599637514232, .loc), (884057696465571280997, .loc), (884057696461548960360, .loc), (6906700753620596580, .loc), (421551559669744, .loc), (884057696462094252532, .loc), (6906700753606062327, .glo), (53958599637741817, .glo), (1854003366249211286867441524, .glo), (1782510, .glo), (14484401298848318679020274, .glo), (30375991152646174107447519246318, .glo), (6906700753639406068, .glo)]
  body := (.cons (.asg (.nm 3) (.call 6906700753606062327 (.cons (.lv 0) (.cons (.int 20) .nil))))
 (.cons (.ife (.or (.cons (.not (.call 53958599637741817 (.cons (.lv 0) (.cons (.int 4) .nil)))) (.cons (.cmp .le (.lv 2) (.int 0)) (.cons (.cmp .lt (.lv 3) (.int 2)) .nil)))) (.cons (.ret (.call 1854003366249211286867441524 (.cons (.lv 0) .nil)))
 .nil) .nil)
 (.cons (.ife (.cmp .lt (.lv 3) (.int 6)) (.cons (.ret (.tup (.cons (.str [110,97,109,101]) (.cons (.ix (.ix (.lv 1) (.int 0)) (.call 6906700753606062327 (.cons (.lv 0) (.cons (.blt .len (.cons (.ix (.lv 1) (.int 0)) .nil)) .nil)))) .nil))))
 .nil) .nil)
 (.cons (.ife (.cmp .lt (.lv 3) (.int 10)) (.cons (.ret (.call 14484401298848318679020274 (.cons (.lv 0) (.cons (.lv 1) (.cons (.lv 2) .nil)))))
 .nil) .nil)
 (.cons (.ife (.cmp .lt (.lv 3) (.int 14)) (.cons (.asg (.nm 4) (.ix (.lst (.cons (.str [43]) (.cons (.str [47]) (.cons (.str [109,111,100]) (.cons (.str [38]) (.cons (.str [60]) (.cons (.str [60,61]) (.cons (.str [61,61]) (.cons (.str [62]) (.cons (.str [62,61]) (.cons (.str [33,61]) .nil))))))))))) (.call 6906700753606062327 (.cons (.lv 0) (.cons (.int 10) .nil)))))
 (.cons (.asg (.nm 5) (.call 30375991152646174107447519246318 (.cons (.lv 0) (.cons (.lv 1) (.cons (.bop .sub (.lv 2) (.int 1)) .nil)))))
 (.cons (.ret (.tup (.cons (.str [98,111,116,104]) (.cons (.lv 4) (.cons (.lv 5) (.cons (.call 30375991152646174107447519246318 (.cons (.lv 0) (.cons (.lv 1) (.cons (.bop .sub (.lv 2) (.int 1)) .nil)))) .nil))))))
 .nil))) .nil)
 (.cons (.ife (.cmp .eq (.lv 3) (.int 14)) (.cons (.asg (.nm 5) (.call 6906700753639406068 (.cons (.lv 0) (.cons (.lv 1) (.cons (.bop .sub (.lv 2) (.int 1)) .nil)))))
 (.cons (.ret (.tup (.cons (.ix (.lst (.cons (.str [97,110,100]) (.cons (.str [111,114]) .nil))) (.call 6906700753606062327 (.cons (.lv 0) (.cons (.int 2) .nil)))) (.cons (.lv 5) (.cons (.call 30375991152646174107447519246318 (.cons (.lv 0) (.cons (.lv 1) (.cons (.bop .sub (.lv 2) (.int 1)) .nil)))) .nil)))))
 .nil)) .nil)
 (.cons (.ife (.cmp .eq (.lv 3) (.int 15)) (.cons (.ret (.tup (.cons (.ix (.lst (.cons (.str [110,111,116]) (.cons (.str [109,105,110,117,115]) (.cons (.str [115,105,122,101]) (.cons (.str [97,114,114,97,121]) .nil))))) (.call 6906700753606062327 (.cons (.lv 0) (.cons (.int 4) .nil)))) (.cons (.call 30375991152646174107447519246318 (.cons (.lv 0) (.cons (.lv 1) (.cons (.bop .sub (.lv 2) (.int 1)) .nil)))) .nil))))
 .nil) .nil)
 (.cons (.ife (.cmp .eq (.lv 3) (.int 16)) (.cons (.ret (.tup (.cons (.str [110,101,119]) (.cons (.ix (.lv 1) (.int 2)) .nil))))
 .nil) .nil)
 (.cons (.ife (.cmp .eq (.lv 3) (.int 17)) (.cons (.ret (.tup (.cons (.str [97,114,114,97,121]) (.cons (.tup (.cons (.str [99,111,110,115,116]) (.cons (.tup (.cons (.str [105,110,116]) (.cons (.call 6906700753606062327 (.cons (.lv 0) (.cons (.int 4) .nil))) .nil))) .nil))) .nil))))
 .nil) .nil)
 (.cons (.ife (.cmp .eq (.lv 3) (.int 18)) (.cons (.ret (.tup (.cons (.str [102,105,101,108,100]) (.cons (.call 30375991152646174107447519246318 (.cons (.lv 0) (.cons (.lv 1) (.cons (.bop .sub (.lv 2) (.int 1)) .nil)))) (.cons (.ix (.ix (.lv 1) (.int 1)) (.call 6906700753606062327 (.cons (.lv 0) (.cons (.int 2) .nil)))) .nil)))))
 .nil) .nil)
 (.cons (.asg (.nm 5) (.call 30375991152646174107447519246318 (.cons (.lv 0) (.cons (.lv 1) (.cons (.bop .sub (.lv 2) (.int 1)) .nil)))))
 (.cons (.ret (.tup (.cons (.str [105,116,101,109]) (.cons (.lv 5) (.cons (.call 14484401298848318679020274 (.cons (.lv 0) (.cons (.lv 1) (.cons (.bop .sub (.lv 2) (.int 1)) .nil)))) .nil)))))
 .nil))))))))))))
/-- _law_test(0 _law_box, 1 _law_scope, 2 _law_depth, 3 _law_kind, 4 _law_op, 5 _law_first) -/
noncomputable def F__law_test : Fn where
  nm := [53958599637514232, 884057696465571280997, 884057696461548960360, 6906700753620596580, 421551559669744, 884057696462094252532]
  np := 3
  sc := [(53958599637514232, .loc), (884057696465571280997, .loc), (884057696461548960360, .loc), (6906700753620596580, .loc), (421551559669744, .loc), (884057696462094252532, .loc), (6906700753606062327, .glo), (53958599637741817, .glo), (30375991152646174107447519246318, .glo), (14484401298848318679020274, .glo)]
  body := (.cons (.asg (.nm 3) (.call 6906700753606062327 (.cons (.lv 0) (.cons (.int 6) .nil))))
 (.cons (.ife (.or (.cons (.not (.call 53958599637741817 (.cons (.lv 0) (.cons (.int 4) .nil)))) (.cons (.cmp .eq (.lv 3) (.int 0)) .nil))) (.cons (.ret (.tup (.cons (.str [99,111,110,115,116]) (.cons (.tup (.cons (.str [98,111,111,108]) (.cons (.cmp .eq (.call 6906700753606062327 (.cons (.lv 0) (.cons (.int 2) .nil))) (.int 1)) .nil))) .nil))))
 .nil) .nil)
 (.cons (.ife (.and (.cons (.cmp .eq (.lv 3) (.int 1)) (.cons (.cmp .gt (.lv 2) (.int 0)) .nil))) (.cons (.ret (.call 30375991152646174107447519246318 (.cons (.lv 0) (.cons (.lv 1) (.cons (.lv 2) .nil)))))
 .nil) .nil)
 (.cons (.asg (.nm 4) (.ix (.lst (.cons (.str [60]) (.cons (.str [60,61]) (.cons (.str [61,61]) (.cons (.str [62]) (.cons (.str [62,61]) (.cons (.str [33,61]) .nil))))))) (.call 6906700753606062327 (.cons (.lv 0) (.cons (.int 6) .nil)))))
 (.cons (.asg (.nm 5) (.call 14484401298848318679020274 (.cons (.lv 0) (.cons (.lv 1) (.cons (.lv 2) .nil)))))
 (.cons (.ret (.tup (.cons (.str [98,111,116,104]) (.cons (.lv 4) (.cons (.lv 5) (.cons (.call 14484401298848318679020274 (.cons (.lv 0) (.cons (.lv 1) (.cons (.lv 2) .nil)))) .nil))))))
 .nil))))))
/-- _law_arguments(0 _law_box, 1 _law_place, 2 _law_many, 3 _law_parts, 4 _law_k) -/
noncomputable def F__law_arguments : Fn where
  nm := [53958599637514232, 884057696464784617957, 6906700753624659833, 884057696464761830003, 3293371559915]
  np := 3
  sc := [(53958599637514232, .loc), (884057696464784617957, .loc), (6906700753624659833, .loc), (884057696464761830003, .loc), (3293371559915, .loc), (30806881253, .glo), (14484401298848318679020274, .glo)]
  body := (.cons (.asg (.nm 3) (.tup .nil))
 (.cons (.fr (.nm 4) (.rng (.cons (.lv 2) .nil)) (.cons (.asg (.nm 3) (.bop .add (.lv 3) (.tup (.cons (.call 14484401298848318679020274 (.cons (.lv 0) (.cons (.ix (.lv 1) (.int 1)) (.cons (.int 1) .nil)))) .nil))))
 .nil))
 (.cons (.ret (.lv 3))
 .nil)))
/-- _law_right(0 _law_box, 1 _law_place, 2 _law_kind, 3 _law_called) -/
noncomputable def F__law_right : Fn where
  nm := [53958599637514232, 884057696464784617957, 6906700753620596580, 113159385147042824925924]
  np := 2
  sc := [(53958599637514232, .loc), (884057696464784617957, .loc), (6906700753620596580, .loc), (113159385147042824925924, .loc), (6906700753606062327, .glo), (1782510, .glo), (237312430879756587661340162675, .glo), (30375991152646174107447519246318, .glo), (14484401298848318679020274, .glo)]
  body := (.cons (.asg (.nm 2) (.call 6906700753606062327 (.cons (.lv 0) (.cons (.int 10) .nil))))
 (.cons (.ife (.cmp .eq (.lv 2) (.int 9)) (.cons (.ret (.tup (.cons (.str [114,101,97,100]) .nil)))
 .nil) .nil)
 (.cons (.ife (.and (.cons (.cmp .gt (.lv 2) (.int 6)) (.cons (.cmp .gt (.blt .len (.cons (.ix (.lv 1) (.int 3)) .nil)) (.int 0)) .nil))) (.cons (.asg (.nm 3) (.ix (.ix (.lv 1) (.int 3)) (.call 6906700753606062327 (.cons (.lv 0) (.cons (.blt .len (.cons (.ix (.lv 1) (.int 3)) .nil)) .nil)))))
 (.cons (.ret (.tup (.cons (.str [99,97,108,108]) (.cons (.ix (.lv 3) (.int 0)) (.cons (.call 237312430879756587661340162675 (.cons (.lv 0) (.cons (.lv 1) (.cons (.ix (.lv 3) (.int 1)) .nil)))) (.cons (.cmp .eq (.call 6906700753606062327 (.cons (.lv 0) (.cons (.int 2) .nil))) (.int 1)) .nil))))))
 .nil)) .nil)
 (.cons (.ife (.cmp .gt (.lv 2) (.int 4)) (.cons (.ret (.tup (.cons (.str [101,120,112,114]) (.cons (.call 30375991152646174107447519246318 (.cons (.lv 0) (.cons (.ix (.lv 1) (.int 1)) (.cons (.int 2) .nil)))) .nil))))
 .nil) .nil)
 (.cons (.ret (.tup (.cons (.str [101,120,112,114]) (.cons (.call 14484401298848318679020274 (.cons (.lv 0) (.cons (.ix (.lv 1) (.int 1)) (.cons (.int 2) .nil)))) .nil))))
 .nil)))))
/-- _law_simple(0 _law_box, 1 _law_place, 2 _law_line, 3 _law_kind, 4 _law_target, 5 _law_at, 6 _law_field, 7 _law_called) -/
noncomputable def F__law_simple : Fn where
  nm := [53958599637514232, 884057696464784617957, 6906700753622693733, 6906700753620596580, 113159385147626952979188, 421551559667956, 884057696462094038628, 113159385147042824925924]
  np := 3
  sc := [(53958599637514232, .loc), (884057696464784617957, .loc), (6906700753622693733, .loc), (6906700753620596580, .loc), (113159385147626952979188, .loc), (421551559667956, .loc), (884057696462094038628, .loc), (113159385147042824925924, .loc), (6906700753606062327, .glo), (53958599637741817, .glo), (1782510, .glo), (30375991152646174107447519246318, .glo), (884057696465315296372, .glo), (14484401298848318679020274, .glo), (237312430879756587661340162675, .glo)]
  body := (.cons (.asg (.nm 3) (.call 6906700753606062327 (.cons (.lv 0) (.cons (.int 18) .nil))))
 (.cons (.ife (.not (.call 53958599637741817 (.cons (.lv 0) (.cons (.int 10) .nil)))) (.cons (.ret (.tup (.cons (.str [112,114,105,110,116]) (.cons (.lv 2) (.cons (.tup (.cons (.str [99,111,110,115,116]) (.cons (.tup (.cons (.str [105,110,116]) (.cons (.int 0) .nil))) .nil))) .nil)))))
 .nil) .nil)
 (.cons (.asg (.nm 4) (.ix (.ix (.lv 1) (.int 2)) (.call 6906700753606062327 (.cons (.lv 0) (.cons (.blt .len (.cons (.ix (.lv 1) (.int 2)) .nil)) .nil)))))
 (.cons (.ife (.cmp .lt (.lv 3) (.int 3)) (.cons (.ret (.tup (.cons (.str [112,114,105,110,116]) (.cons (.lv 2) (.cons (.call 30375991152646174107447519246318 (.cons (.lv 0) (.cons (.ix (.lv 1) (.int 1)) (.cons (.int 1) .nil)))) .nil)))))
 .nil) .nil)
 (.cons (.ife (.cmp .lt (.lv 3) (.int 8)) (.cons (.ret (.tup (.cons (.str [115,101,116]) (.cons (.lv 2) (.cons (.ix (.ix (.lv 1) (.int 2)) (.call 6906700753606062327 (.cons (.lv 0) (.cons (.int 2) .nil)))) (.cons (.call 884057696465315296372 (.cons (.lv 0) (.cons (.lv 1) .nil))) .nil))))))
 .nil) .nil)
 (.cons (.ife (.cmp .eq (.lv 3) (.int 8)) (.cons (.ret (.tup (.cons (.str [115,101,116]) (.cons (.lv 2) (.cons (.lv 4) (.cons (.call 884057696465315296372 (.cons (.lv 0) (.cons (.lv 1) .nil))) .nil))))))
 .nil) .nil)
 (.cons (.ife (.cmp .lt (.lv 3) (.int 11)) (.cons (.asg (.nm 5) (.call 14484401298848318679020274 (.cons (.lv 0) (.cons (.ix (.lv 1) (.int 1)) (.cons (.int 1) .nil)))))
 (.cons (.ret (.tup (.cons (.str [115,101,116,95,105,116,101,109]) (.cons (.lv 2) (.cons (.tup (.cons (.str [110,97,109,101]) (.cons (.ix (.ix (.lv 1) (.int 2)) (.int 2)) .nil))) (.cons (.lv 5) (.cons (.call 14484401298848318679020274 (.cons (.lv 0) (.cons (.ix (.lv 1) (.int 1)) (.cons (.int 1) .nil)))) .nil)))))))
 .nil)) .nil)
 (.cons (.ife (.cmp .eq (.lv 3) (.int 11)) (.cons (.asg (.nm 6) (.ix (.ix (.ix (.lv 1) (.int 1)) (.int 1)) (.call 6906700753606062327 (.cons (.lv 0) (.cons (.int 2) .nil)))))
 (.cons (.ret (.tup (.cons (.str [115,101,116,95,102,105,101,108,100]) (.cons (.lv 2) (.cons (.tup (.cons (.str [110,97,109,101]) (.cons (.ix (.ix (.lv 1) (.int 2)) (.int 3)) .nil))) (.cons (.lv 6) (.cons (.call 30375991152646174107447519246318 (.cons (.lv 0) (.cons (.ix (.lv 1) (.int 1)) (.cons (.int 1) .nil)))) .nil)))))))
 .nil)) .nil)
 (.cons (.ife (.and (.cons (.cmp .eq (.lv 3) (.int 12)) (.cons (.ix (.lv 1) (.int 4)) .nil))) (.cons (.ret (.tup (.cons (.str [114,101,116,117,114,110]) (.cons (.lv 2) (.cons (.call 30375991152646174107447519246318 (.cons (.lv 0) (.cons (.ix (.lv 1) (.int 1)) (.cons (.int 1) .nil)))) .nil)))))
 .nil) .nil)
 (.cons (.ife (.and (.cons (.cmp .eq (.lv 3) (.int 13)) (.cons (.ix (.lv 1) (.int 5)) .nil))) (.cons (.ret (.tup (.cons (.str [98,114,101,97,107]) (.cons (.lv 2) .nil))))
 .nil) .nil)
 (.cons (.ife (.and (.cons (.cmp .eq (.lv 3) (.int 14)) (.cons (.cmp .eq (.call 6906700753606062327 (.cons (.lv 0) (.cons (.int 3) .nil))) (.int 0)) .nil))) (.cons (.ret (.tup (.cons (.str [116,104,114,111,119]) (.cons (.lv 2) (.cons (.call 30375991152646174107447519246318 (.cons (.lv 0) (.cons (.ix (.lv 1) (.int 1)) (.cons (.int 1) .nil)))) .nil)))))
 .nil) .nil)
 (.cons (.ife (.and (.cons (.cmp .gt (.lv 3) (.int 14)) (.cons (.cmp .gt (.blt .len (.cons (.ix (.lv 1) (.int 3)) .nil)) (.int 0)) .nil))) (.cons (.asg (.nm 7) (.ix (.ix (.lv 1) (.int 3)) (.call 6906700753606062327 (.cons (.lv 0) (.cons (.blt .len (.cons (.ix (.lv 1) (.int 3)) .nil)) .nil)))))
 (.cons (.ret (.tup (.cons (.str [99,97,108,108]) (.cons (.lv 2) (.cons (.ix (.lv 7) (.int 0)) (.cons (.call 237312430879756587661340162675 (.cons (.lv 0) (.cons (.lv 1) (.cons (.ix (.lv 7) (.int 1)) .nil)))) (.cons (.cmp .gt (.call 6906700753606062327 (.cons (.lv 0) (.cons (.int 3) .nil))) (.int 0)) .nil)))))))
 .nil)) .nil)
 (.cons (.ret (.tup (.cons (.str [118,97,114]) (.cons (.lv 2) (.cons (.lv 4) (.cons (.tup (.cons (.str [101,120,112,114]) (.cons (.call 14484401298848318679020274 (.cons (.lv 0) (.cons (.ix (.lv 1) (.int 1)) (.cons (.int 1) .nil)))) .nil))) .nil))))))
 .nil)))))))))))))
/-- _law_block(0 _law_box, 1 _law_place, 2 _law_depth, 3 _law_line, 4 _law_rows, 5 _law_k) -/
noncomputable def F__law_block : Fn where
  nm := [53958599637514232, 884057696464784617957, 884057696461548960360, 6906700753622693733, 6906700753635376115, 3293371559915]
  np := 4
  sc := [(53958599637514232, .loc), (884057696464784617957, .loc), (884057696461548960360, .loc), (6906700753622693733, .loc), (6906700753635376115, .loc), (3293371559915, .loc), (30806881253, .glo), (6906700753606062327, .glo), (237312430881054723829160048500, .glo)]
  body := (.cons (.asg (.nm 4) (.tup .nil))
 (.cons (.fr (.nm 5) (.rng (.cons (.bop .add (.int 1) (.call 6906700753606062327 (.cons (.lv 0) (.cons (.int 2) .nil)))) .nil)) (.cons (.asg (.nm 4) (.bop .add (.lv 4) (.call 237312430881054723829160048500 (.cons (.lv 0) (.cons (.lv 1) (.cons (.lv 2) (.cons (.bop .add (.lv 3) (.lv 5)) .nil)))))))
 .nil))
 (.cons (.ret (.lv 4))
 .nil)))
/-- _law_statement(0 _law_box, 1 _law_place, 2 _law_depth, 3 _law_line, 4 _law_kind, 5 _law_test_here, 6 _law_yes, 7 _law_no, 8 _law_inner, 9 _law_other) -/
noncomputable def F__law_statement : Fn where
  nm := [53958599637514232, 884057696464784617957, 884057696461548960360, 6906700753622693733, 6906700753620596580, 237312430881118416337112758629, 53958599637889779, 421551559669615, 884057696462909977330, 884057696464533074674]
  np := 4
  sc := [(53958599637514232, .loc), (884057696464784617957, .loc), (884057696461548960360, .loc), (6906700753622693733, .loc), (6906700753620596580, .loc), (237312430881118416337112758629, .loc), (53958599637889779, .loc), (421551559669615, .loc), (884057696462909977330, .loc), (884057696464533074674, .loc), (6906700753606062327, .glo), (113159385147594730387045, .glo), (53958599637741817, .glo), (6906700753639406068, .glo), (884057696461026750955, .glo), (884057696466655409765, .glo), (6906700753626756837, .glo), (53958599637579762, .glo)]
  body := (.cons (.asg (.nm 4) (.call 6906700753606062327 (.cons (.lv 0) (.cons (.int 12) .nil))))
 (.cons (.ife (.or (.cons (.cmp .le (.lv 2) (.int 0)) (.cons (.cmp .lt (.lv 4) (.int 5)) (.cons (.cmp .le (.ix (.lv 0) (.int 2)) (.int 0)) .nil)))) (.cons (.ret (.tup (.cons (.call 113159385147594730387045 (.cons (.lv 0) (.cons (.lv 1) (.cons (.lv 3) .nil)))) .nil)))
 .nil) .nil)
 (.cons (.exp (.call 53958599637741817 (.cons (.lv 0) (.cons (.int 20) .nil))))
 (.cons (.ife (.cmp .eq (.lv 4) (.int 5)) (.cons (.asg (.nm 5) (.call 6906700753639406068 (.cons (.lv 0) (.cons (.ix (.lv 1) (.int 1)) (.cons (.int 1) .nil)))))
 (.cons (.asg (.nm 6) (.call 884057696461026750955 (.cons (.lv 0) (.cons (.lv 1) (.cons (.bop .sub (.lv 2) (.int 1)) (.cons (.bop .add (.lv 3) (.int 1)) .nil))))))
 (.cons (.asg (.nm 7) (.tup .nil))
 (.cons (.ife (.cmp .eq (.call 6906700753606062327 (.cons (.lv 0) (.cons (.int 2) .nil))) (.int 1)) (.cons (.asg (.nm 7) (.call 884057696461026750955 (.cons (.lv 0) (.cons (.lv 1) (.cons (.bop .sub (.lv 2) (.int 1)) (.cons (.bop .add (.lv 3) (.int 2)) .nil))))))
 .nil) .nil)
 (.cons (.ret (.tup (.cons (.tup (.cons (.str [105,102]) (.cons (.lv 3) (.cons (.lv 5) (.cons (.lv 6) (.cons (.lv 7) .nil)))))) .nil)))
 .nil))))) .nil)
 (.cons (.ife (.cmp .eq (.lv 4) (.int 6)) (.cons (.ret (.call 884057696466655409765 (.cons (.lv 0) (.cons (.lv 1) (.cons (.lv 2) (.cons (.lv 3) .nil))))))
 .nil) .nil)
 (.cons (.ife (.cmp .eq (.lv 4) (.int 7)) (.cons (.asg (.nm 8) (.call 884057696461026750955 (.cons (.lv 0) (.cons (.lv 1) (.cons (.bop .sub (.lv 2) (.int 1)) (.cons (.bop .add (.lv 3) (.int 1)) .nil))))))
 (.cons (.asg (.nm 9) (.call 884057696461026750955 (.cons (.lv 0) (.cons (.lv 1) (.cons (.bop .sub (.lv 2) (.int 1)) (.cons (.bop .add (.lv 3) (.int 2)) .nil))))))
 (.cons (.ret (.tup (.cons (.tup (.cons (.str [116,114,121]) (.cons (.lv 3) (.cons (.lv 8) (.cons (.call 6906700753626756837 (.cons (.ix (.lv 1) (.int 0)) (.cons (.int 9) .nil))) (.cons (.lv 9) .nil)))))) .nil)))
 .nil))) .nil)
 (.cons (.ret (.tup (.cons (.call 53958599637579762 (.cons (.lv 0) (.cons (.lv 1) (.cons (.lv 2) (.cons (.lv 3) .nil))))) .nil)))
 .nil)))))))
/-- _law_for(0 _law_box, 1 _law_place, 2 _law_depth, 3 _law_line, 4 _law_name_here, 5 _law_low, 6 _law_high, 7 _law_names, 8 _law_scope, 9 _law_inner, 10 _law_block_here, 11 _law_bounds) -/
noncomputable def F__law_for : Fn where
  nm := [53958599637514232, 884057696464784617957, 884057696461548960360, 6906700753622693733, 237312430880683792069396363621, 53958599637678071, 6906700753614304232, 884057696464224875251, 884057696465571280997, 884057696462909977330, 30375991152617638671488615283045, 113159385147012242190963]
  np := 4
  sc := [(53958599637514232, .loc), (884057696464784617957, .loc), (884057696461548960360, .loc), (6906700753622693733, .loc), (237312430880683792069396363621, .loc), (53958599637678071, .loc), (6906700753614304232, .loc), (884057696464224875251, .loc), (884057696465571280997, .loc), (884057696462909977330, .loc), (30375991152617638671488615283045, .loc), (113159385147012242190963, .loc), (6906700753626756837, .glo), (6906700753606062327, .glo), (884057696461026750955, .glo)]
  body := (.cons (.asg (.nm 4) (.call 6906700753626756837 (.cons (.ix (.lv 1) (.int 0)) (.cons (.ix (.lst (.cons (.int 18) (.cons (.int 18) (.cons (.int 7) (.cons (.int 8) .nil))))) (.lv 2)) .nil))))
 (.cons (.asg (.nm 5) (.call 6906700753606062327 (.cons (.lv 0) (.cons (.int 3) .nil))))
 (.cons (.asg (.nm 6) (.bop .sub (.bop .add (.lv 5) (.call 6906700753606062327 (.cons (.lv 0) (.cons (.int 4) .nil)))) (.int 1)))
 (.cons (.asg (.nm 7) (.bop .add (.ix (.ix (.lv 1) (.int 1)) (.int 0)) (.tup (.cons (.lv 4) .nil))))
 (.cons (.asg (.nm 8) (.tup (.cons (.lv 7) (.cons (.ix (.ix (.lv 1) (.int 1)) (.int 1)) (.cons (.ix (.ix (.lv 1) (.int 1)) (.int 2)) (.cons (.bop .add (.ix (.ix (.lv 1) (.int 1)) (.int 3)) (.tup (.cons (.lv 4) .nil))) .nil))))))
 (.cons (.asg (.nm 9) (.tup (.cons (.ix (.lv 1) (.int 0)) (.cons (.lv 8) (.cons (.ix (.lv 1) (.int 2)) (.cons (.ix (.lv 1) (.int 3)) (.cons (.ix (.lv 1) (.int 4)) (.cons (.bl true) .nil))))))))
 (.cons (.asg (.nm 10) (.call 884057696461026750955 (.cons (.lv 0) (.cons (.lv 9) (.cons (.bop .sub (.lv 2) (.int 1)) (.cons (.bop .add (.lv 3) (.int 1)) .nil))))))
 (.cons (.asg (.nm 11) (.tup (.cons (.tup (.cons (.str [99,111,110,115,116]) (.cons (.tup (.cons (.str [105,110,116]) (.cons (.lv 5) .nil))) .nil))) (.cons (.tup (.cons (.str [99,111,110,115,116]) (.cons (.tup (.cons (.str [105,110,116]) (.cons (.lv 6) .nil))) .nil))) .nil))))
 (.cons (.ret (.tup (.cons (.str [102,111,114]) (.cons (.lv 3) (.cons (.lv 4) (.cons (.ix (.lv 11) (.int 0)) (.cons (.ix (.lv 11) (.int 1)) (.cons (.lv 10) (.cons (.cmp .gt (.call 6906700753606062327 (.cons (.lv 0) (.cons (.int 4) .nil))) (.int 0)) .nil)))))))))
 .nil)))))))))
/-- _law_while(0 _law_box, 1 _law_place, 2 _law_depth, 3 _law_line, 4 _law_name_here, 5 _law_inner, 6 _law_count, 7 _law_block_here, 8 _law_test_here) -/
noncomputable def F__law_while : Fn where
  nm := [53958599637514232, 884057696464784617957, 884057696461548960360, 6906700753622693733, 237312430880683792069396363621, 884057696462909977330, 884057696461301577588, 30375991152617638671488615283045, 237312430881118416337112758629]
  np := 4
  sc := [(53958599637514232, .loc), (884057696464784617957, .loc), (884057696461548960360, .loc), (6906700753622693733, .loc), (237312430880683792069396363621, .loc), (884057696462909977330, .loc), (884057696461301577588, .loc), (30375991152617638671488615283045, .loc), (237312430881118416337112758629, .loc), (6906700753626756837, .glo), (884057696461026750955, .glo), (6906700753606062327, .glo)]
  body := (.cons (.asg (.nm 4) (.call 6906700753626756837 (.cons (.ix (.lv 1) (.int 0)) (.cons (.bop .add (.int 14) (.lv 2)) .nil))))
 (.cons (.asg (.nm 5) (.tup (.cons (.ix (.lv 1) (.int 0)) (.cons (.ix (.lv 1) (.int 1)) (.cons (.ix (.lv 1) (.int 2)) (.cons (.ix (.lv 1) (.int 3)) (.cons (.ix (.lv 1) (.int 4)) (.cons (.bl true) .nil))))))))
 (.cons (.asg (.nm 6) (.tup (.cons (.str [115,101,116]) (.cons (.lv 3) (.cons (.lv 4) (.cons (.tup (.cons (.str [101,120,112,114]) (.cons (.tup (.cons (.str [98,111,116,104]) (.cons (.str [43]) (.cons (.tup (.cons (.str [110,97,109,101]) (.cons (.lv 4) .nil))) (.cons (.tup (.cons (.str [99,111,110,115,116]) (.cons (.tup (.cons (.str [105,110,116]) (.cons (.int 1) .nil))) .nil))) .nil))))) .nil))) .nil))))))
 (.cons (.asg (.nm 7) (.bop .add (.tup (.cons (.lv 6) .nil)) (.call 884057696461026750955 (.cons (.lv 0) (.cons (.lv 5) (.cons (.bop .sub (.lv 2) (.int 1)) (.cons (.bop .add (.lv 3) (.int 1)) .nil)))))))
 (.cons (.asg (.nm 8) (.tup (.cons (.str [98,111,116,104]) (.cons (.str [60]) (.cons (.tup (.cons (.str [110,97,109,101]) (.cons (.lv 4) .nil))) (.cons (.tup (.cons (.str [99,111,110,115,116]) (.cons (.tup (.cons (.str [105,110,116]) (.cons (.call 6906700753606062327 (.cons (.lv 0) (.cons (.int 4) .nil))) .nil))) .nil))) .nil))))))
 (.cons (.ret (.tup (.cons (.tup (.cons (.str [118,97,114]) (.cons (.lv 3) (.cons (.lv 4) (.cons (.tup (.cons (.str [101,120,112,114]) (.cons (.tup (.cons (.str [99,111,110,115,116]) (.cons (.tup (.cons (.str [105,110,116]) (.cons (.int 0) .nil))) .nil))) .nil))) .nil))))) (.cons (.tup (.cons (.str [119,104,105,108,101]) (.cons (.lv 3) (.cons (.lv 8) (.cons (.lv 7) .nil))))) .nil))))
 .nil))))))
/-- _law_procedures(0 _law_box, 1 _law_cell_here, 2 _law_top, 3 _law_fields, 4 _law_record, 5 _law_procedures_here, 6 _law_k, 7 _law_own, 8 _law_n, 9 _law_names, 10 _law_scope, 11 _law_heads, 12 _law_place, 13 _law_block_here) -/
noncomputable def F__law_procedures : Fn where
  nm := [53958599637514232, 237312430879893406177264499045, 53958599637809136, 113159385147148036944499, 113159385147559275919716, 1043711108677076455468541660830853563513189, 3293371559915, 53958599637728238, 3293371559918, 884057696464224875251, 884057696465571280997, 884057696462622454387, 884057696464784617957, 30375991152617638671488615283045]
  np := 5
  sc := [(53958599637514232, .loc), (237312430879893406177264499045, .loc), (53958599637809136, .loc), (113159385147148036944499, .loc), (113159385147559275919716, .loc), (1043711108677076455468541660830853563513189, .loc), (3293371559915, .loc), (53958599637728238, .loc), (3293371559918, .loc), (884057696464224875251, .loc), (884057696465571280997, .loc), (884057696462622454387, .loc), (884057696464784617957, .loc), (30375991152617638671488615283045, .loc), (30806881253, .glo), (6906700753626756837, .glo), (884057696461026750955, .glo)]
  body := (.cons (.asg (.nm 5) (.tup .nil))
 (.cons (.fr (.nm 6) (.rng (.cons (.int 2) .nil)) (.cons (.asg (.nm 7) (.tup .nil))
 (.cons (.fr (.nm 8) (.rng (.cons (.bop .add (.int 1) (.lv 6)) .nil)) (.cons (.asg (.nm 7) (.bop .add (.lv 7) (.tup (.cons (.call 6906700753626756837 (.cons (.lv 1) (.cons (.bop .add (.int 5) (.lv 8)) .nil))) .nil))))
 .nil))
 (.cons (.asg (.nm 9) (.bop .add (.lv 2) (.lv 7)))
 (.cons (.asg (.nm 10) (.tup (.cons (.lv 9) (.cons (.lv 3) (.cons (.lv 4) (.cons (.bop .add (.tup (.cons (.ix (.lv 2) (.int 0)) (.cons (.ix (.lv 2) (.int 1)) .nil))) (.lv 7)) .nil))))))
 (.cons (.asg (.nm 11) (.tup .nil))
 (.cons (.fr (.nm 8) (.rng (.cons (.lv 6) .nil)) (.cons (.asg (.nm 11) (.bop .add (.lv 11) (.tup (.cons (.tup (.cons (.call 6906700753626756837 (.cons (.lv 1) (.cons (.bop .add (.int 10) (.lv 8)) .nil))) (.cons (.bop .add (.int 1) (.lv 8)) .nil))) .nil))))
 .nil))
 (.cons (.asg (.nm 12) (.tup (.cons (.lv 1) (.cons (.lv 10) (.cons (.lv 9) (.cons (.lv 11) (.cons (.bl true) (.cons (.bl false) .nil))))))))
 (.cons (.asg (.nm 13) (.call 884057696461026750955 (.cons (.lv 0) (.cons (.lv 12) (.cons (.int 2) (.cons (.bop .add (.int 91) (.lv 6)) .nil))))))
 (.cons (.asg (.nm 5) (.bop .add (.lv 5) (.tup (.cons (.tup (.cons (.bop .add (.int 90) (.lv 6)) (.cons (.call 6906700753626756837 (.cons (.lv 1) (.cons (.bop .add (.int 10) (.lv 6)) .nil))) (.cons (.lv 7) (.cons (.lv 13) .nil))))) .nil))))
 .nil))))))))))
 (.cons (.ret (.lv 5))
 .nil)))
/-- _law_tree(0 _law_script, 1 _law_cell_here, 2 _law_box, 3 _law_record, 4 _law_fields, 5 _law_top, 6 _law_k, 7 _law_start, 8 _law_rows, 9 _law_procedures_here, 10 _law_heads, 11 _law_place) -/
noncomputable def F__law_tree : Fn where
  nm := [113159385147593130145908, 237312430879893406177264499045, 53958599637514232, 113159385147559275919716, 113159385147148036944499, 53958599637809136, 3293371559915, 884057696465606703476, 6906700753635376115, 1043711108677076455468541660830853563513189, 884057696462622454387, 884057696464784617957]
  np := 1
  sc := [(113159385147593130145908, .loc), (237312430879893406177264499045, .loc), (53958599637514232, .loc), (113159385147559275919716, .loc), (113159385147148036944499, .loc), (53958599637809136, .loc), (3293371559915, .loc), (884057696465606703476, .loc), (6906700753635376115, .loc), (1043711108677076455468541660830853563513189, .loc), (884057696462622454387, .loc), (884057696464784617957, .loc), (6906700753603753580, .glo), (113159385147079321614963, .glo), (6906700753626756837, .glo), (30806881253, .glo), (30375991152747198225364020933363, .glo), (1782510, .glo), (237312430881054723829160048500, .glo), (1734516, .glo)]
  body := (.cons (.asg (.nm 1) (.call 6906700753603753580 (.cons (.lv 0) (.cons (.int 0) .nil))))
 (.cons (.ife (.cmp .lt (.lv 1) (.int 0)) (.cons (.asg (.nm 1) (.bop .sub (.int 1) (.bop .mul (.int 2) (.lv 1))))
 .nil) .nil)
 (.cons (.asg (.nm 2) (.lst (.cons (.call 113159385147079321614963 (.cons (.lv 0) (.cons (.int 1) (.cons (.int 26) .nil)))) (.cons (.int 0) (.cons (.int 700) .nil)))))
 (.cons (.asg (.nm 3) (.call 6906700753626756837 (.cons (.lv 1) (.cons (.int 12) .nil))))
 (.cons (.asg (.nm 4) (.tup (.cons (.call 6906700753626756837 (.cons (.lv 1) (.cons (.int 13) .nil))) (.cons (.call 6906700753626756837 (.cons (.lv 1) (.cons (.int 14) .nil))) .nil))))
 (.cons (.asg (.nm 5) (.tup .nil))
 (.cons (.fr (.nm 6) (.rng (.cons (.int 5) .nil)) (.cons (.asg (.nm 5) (.bop .add (.lv 5) (.tup (.cons (.call 6906700753626756837 (.cons (.lv 1) (.cons (.lv 6) .nil))) .nil))))
 .nil))
 (.cons (.asg (.nm 7) (.tup (.cons (.tup (.cons (.str [99,111,110,115,116]) (.cons (.tup (.cons (.str [105,110,116]) (.cons (.int 1) .nil))) .nil))) (.cons (.tup (.cons (.str [99,111,110,115,116]) (.cons (.tup (.cons (.str [105,110,116]) (.cons (.int 0) .nil))) .nil))) (.cons (.tup (.cons (.str [97,114,114,97,121]) (.cons (.tup (.cons (.str [99,111,110,115,116]) (.cons (.tup (.cons (.str [105,110,116]) (.cons (.int 3) .nil))) .nil))) .nil))) (.cons (.tup (.cons (.str [110,101,119]) (.cons (.lv 3) .nil))) .nil))))))
 (.cons (.asg (.nm 8) (.tup .nil))
 (.cons (.fr (.nm 6) (.rng (.cons (.int 4) .nil)) (.cons (.asg (.nm 8) (.bop .add (.lv 8) (.tup (.cons (.tup (.cons (.str [118,97,114]) (.cons (.bop .add (.int 1) (.lv 6)) (.cons (.ix (.lv 5) (.lv 6)) (.cons (.tup (.cons (.str [101,120,112,114]) (.cons (.ix (.lv 7) (.lv 6)) .nil))) .nil))))) .nil))))
 .nil))
 (.cons (.asg (.nm 8) (.bop .add (.lv 8) (.tup (.cons (.tup (.cons (.str [118,97,114]) (.cons (.int 5) (.cons (.ix (.lv 5) (.int 4)) (.cons (.tup (.cons (.str [101,120,112,114]) (.cons (.tup (.cons (.str [99,111,110,115,116]) (.cons (.tup (.cons (.str [116,101,120,116]) (.cons (.str [116]) .nil))) .nil))) .nil))) .nil))))) .nil))))
 (.cons (.asg (.nm 9) (.call 30375991152747198225364020933363 (.cons (.lv 2) (.cons (.lv 1) (.cons (.lv 5) (.cons (.lv 4) (.cons (.lv 3) .nil)))))))
 (.cons (.asg (.nm 10) (.tup (.cons (.tup (.cons (.call 6906700753626756837 (.cons (.lv 1) (.cons (.int 10) .nil))) (.cons (.int 1) .nil))) (.cons (.tup (.cons (.call 6906700753626756837 (.cons (.lv 1) (.cons (.int 11) .nil))) (.cons (.int 2) .nil))) .nil))))
 (.cons (.asg (.nm 11) (.tup (.cons (.lv 1) (.cons (.tup (.cons (.lv 5) (.cons (.lv 4) (.cons (.lv 3) (.cons (.tup (.cons (.ix (.lv 5) (.int 0)) (.cons (.ix (.lv 5) (.int 1)) .nil))) .nil))))) (.cons (.lv 5) (.cons (.lv 10) (.cons (.bl false) (.cons (.bl false) .nil))))))))
 (.cons (.fr (.nm 6) (.rng (.cons (.int 26) .nil)) (.cons (.ife (.and (.cons (.cmp .lt (.ix (.lv 2) (.int 1)) (.blt .len (.cons (.ix (.lv 2) (.int 0)) .nil))) (.cons (.cmp .gt (.ix (.lv 2) (.int 2)) (.int 0)) .nil))) (.cons (.asg (.nm 8) (.bop .add (.lv 8) (.call 237312430881054723829160048500 (.cons (.lv 2) (.cons (.lv 11) (.cons (.int 3) (.cons (.bop .add (.int 6) (.bop .mod (.blt .int (.cons (.lv 6) .nil)) (.int 9))) .nil)))))))
 .nil) .nil)
 .nil))
 (.cons (.ret (.tup (.cons (.str [112,114,111,103,114,97,109]) (.cons (.tup (.cons (.tup (.cons (.int 89) (.cons (.lv 3) (.cons (.lv 4) .nil)))) .nil)) (.cons (.lv 9) (.cons (.lv 8) .nil))))))
 .nil))))))))))))))))
/-- _law_same(0 _law_actual, 1 _law_expected, 2 _law_k) -/
noncomputable def F__law_same : Fn where
  nm := [113159385146974659244268, 1854003366250376834118922980, 3293371559915]
  np := 2
  sc := [(113159385146974659244268, .loc), (1854003366250376834118922980, .loc), (3293371559915, .loc), (976800284697052295653, .glo), (31385728613, .glo), (1782510, .glo), (30806881253, .glo), (6906700753637242597, .glo), (207353836, .glo), (1734516, .glo), (1899122, .glo)]
  body := (.cons (.ife (.isi (.lv 1) .tuple) (.cons (.ife (.or (.cons (.not (.isi (.lv 0) .tuple)) (.cons (.cmp .ne (.blt .len (.cons (.lv 0) .nil)) (.blt .len (.cons (.lv 1) .nil))) .nil))) (.cons (.ret (.bl false))
 .nil) .nil)
 (.cons (.fr (.nm 2) (.rng (.cons (.blt .len (.cons (.lv 1) .nil)) .nil)) (.cons (.ife (.not (.call 6906700753637242597 (.cons (.ix (.lv 0) (.lv 2)) (.cons (.ix (.lv 1) (.lv 2)) .nil)))) (.cons (.ret (.bl false))
 .nil) .nil)
 .nil))
 (.cons (.ret (.bl true))
 .nil))) .nil)
 (.cons (.ife (.cmp .is (.lv 1) .non) (.cons (.ret (.cmp .is (.lv 0) .non))
 .nil) .nil)
 (.cons (.ife (.isi (.lv 1) .bool) (.cons (.ret (.and (.cons (.isi (.lv 0) .bool) (.cons (.cmp .eq (.lv 0) (.lv 1)) .nil))))
 .nil) .nil)
 (.cons (.ife (.isi (.lv 1) .int) (.cons (.ret (.and (.cons (.isi (.lv 0) .int) (.cons (.not (.isi (.lv 0) .bool)) (.cons (.cmp .eq (.lv 0) (.lv 1)) .nil)))))
 .nil) .nil)
 (.cons (.ret (.and (.cons (.isi (.lv 0) .str) (.cons (.cmp .eq (.lv 0) (.lv 1)) .nil))))
 .nil)))))
/-- _law_declared(0 _law_block_here, 1 _law_names, 2 _law_row) -/
noncomputable def F__law_declared : Fn where
  nm := [30375991152617638671488615283045, 884057696464224875251, 53958599637776375]
  np := 1
  sc := [(30375991152617638671488615283045, .loc), (884057696464224875251, .loc), (53958599637776375, .loc), (1854003366249729876480013028, .glo)]
  body := (.cons (.asg (.nm 1) (.tup .nil))
 (.cons (.fr (.nm 2) (.ex (.lv 0)) (.cons (.ife (.cmp .eq (.ix (.lv 2) (.int 0)) (.str [118,97,114])) (.cons (.asg (.nm 1) (.bop .add (.lv 1) (.tup (.cons (.ix (.lv 2) (.int 2)) .nil))))
 .nil) (.cons (.ife (.cmp .eq (.ix (.lv 2) (.int 0)) (.str [105,102])) (.cons (.asg (.nm 1) (.bop .add (.bop .add (.lv 1) (.call 1854003366249729876480013028 (.cons (.ix (.lv 2) (.int 3)) .nil))) (.call 1854003366249729876480013028 (.cons (.ix (.lv 2) (.int 4)) .nil))))
 .nil) (.cons (.ife (.cmp .eq (.ix (.lv 2) (.int 0)) (.str [119,104,105,108,101])) (.cons (.asg (.nm 1) (.bop .add (.lv 1) (.call 1854003366249729876480013028 (.cons (.ix (.lv 2) (.int 3)) .nil))))
 .nil) (.cons (.ife (.cmp .eq (.ix (.lv 2) (.int 0)) (.str [102,111,114])) (.cons (.asg (.nm 1) (.bop .add (.lv 1) (.call 1854003366249729876480013028 (.cons (.ix (.lv 2) (.int 5)) .nil))))
 .nil) (.cons (.ife (.cmp .eq (.ix (.lv 2) (.int 0)) (.str [116,114,121])) (.cons (.asg (.nm 1) (.bop .add (.bop .add (.bop .add (.lv 1) (.call 1854003366249729876480013028 (.cons (.ix (.lv 2) (.int 2)) .nil))) (.tup (.cons (.ix (.lv 2) (.int 3)) .nil))) (.call 1854003366249729876480013028 (.cons (.ix (.lv 2) (.int 4)) .nil))))
 .nil) .nil)
 .nil))
 .nil))
 .nil))
 .nil))
 .nil))
 (.cons (.ret (.lv 1))
 .nil)))
/-- _law_once(0 _law_names, 1 _law_kept, 2 _law_name_here) -/
noncomputable def F__law_once : Fn where
  nm := [884057696464224875251, 6906700753620531316, 237312430880683792069396363621]
  np := 1
  sc := [(884057696464224875251, .loc), (6906700753620531316, .loc), (237312430880683792069396363621, .loc)]
  body := (.cons (.asg (.nm 1) (.tup .nil))
 (.cons (.fr (.nm 2) (.ex (.lv 0)) (.cons (.ife (.cmp .notin (.lv 2) (.lv 1)) (.cons (.asg (.nm 1) (.bop .add (.lv 1) (.tup (.cons (.lv 2) .nil))))
 .nil) .nil)
 .nil))
 (.cons (.ret (.lv 1))
 .nil)))
/-- _law_found(0 _law_names, 1 _law_name_here, 2 _law_k) -/
noncomputable def F__law_found : Fn where
  nm := [884057696464224875251, 237312430880683792069396363621, 3293371559915]
  np := 2
  sc := [(884057696464224875251, .loc), (237312430880683792069396363621, .loc), (3293371559915, .loc), (30806881253, .glo), (1782510, .glo)]
  body := (.cons (.fr (.nm 2) (.rng (.cons (.blt .len (.cons (.lv 0) .nil)) .nil)) (.cons (.ife (.cmp .eq (.ix (.lv 0) (.lv 2)) (.lv 1)) (.cons (.ret (.lv 2))
 .nil) .nil)
 .nil))
 (.cons (.ret (.neg (.int 1)))
 .nil))
/-- _law_variable(0 _law_known, 1 _law_name_here) -/
noncomputable def F__law_variable : Fn where
  nm := [884057696463446866926, 237312430880683792069396363621]
  np := 2
  sc := [(884057696463446866926, .loc), (237312430880683792069396363621, .loc), (884057696462106883940, .glo)]
  body := (.cons (.ife (.and (.cons (.cmp .isnot (.ix (.lv 0) (.int 0)) .non) (.cons (.cmp .ge (.call 884057696462106883940 (.cons (.ix (.lv 0) (.int 0)) (.cons (.lv 1) .nil))) (.int 0)) .nil))) (.cons (.ret (.tup (.cons (.str [111,119,110]) (.cons (.call 884057696462106883940 (.cons (.ix (.lv 0) (.int 0)) (.cons (.lv 1) .nil))) .nil))))
 .nil) .nil)
 (.cons (.ret (.tup (.cons (.str [116,111,112]) (.cons (.call 884057696462106883940 (.cons (.ix (.lv 0) (.int 1)) (.cons (.lv 1) .nil))) .nil))))
 .nil))
/-- _law_read_name(0 _law_known, 1 _law_name_here, 2 _law_k) -/
noncomputable def F__law_read_name : Fn where
  nm := [884057696463446866926, 237312430880683792069396363621, 3293371559915]
  np := 2
  sc := [(884057696463446866926, .loc), (237312430880683792069396363621, .loc), (3293371559915, .loc), (30806881253, .glo), (1782510, .glo), (1854003366259845898046060133, .glo)]
  body := (.cons (.fr (.nm 2) (.rng (.cons (.blt .len (.cons (.ix (.lv 0) (.int 2)) .nil)) .nil)) (.cons (.ife (.cmp .eq (.ix (.ix (.lv 0) (.int 2)) (.lv 2)) (.lv 1)) (.cons (.ret (.tup (.cons (.str [99,111,117,110,116,101,114]) (.cons (.lv 2) .nil))))
 .nil) .nil)
 .nil))
 (.cons (.ret (.tup (.cons (.str [108,111,97,100]) (.cons (.call 1854003366259845898046060133 (.cons (.lv 0) (.cons (.lv 1) .nil))) .nil))))
 .nil))
/-- _law_value_code(0 _law_known, 1 _law_at, 2 _law_e, 3 _law_kind, 4 _law_code, 5 _law_rest) -/
noncomputable def F__law_value_code : Fn where
  nm := [884057696463446866926, 421551559667956, 3293371559909, 6906700753620596580, 6906700753603916389, 6906700753635211764]
  np := 3
  sc := [(884057696463446866926, .loc), (421551559667956, .loc), (3293371559909, .loc), (6906700753620596580, .loc), (6906700753603916389, .loc), (6906700753635211764, .loc), (237312430880974221434456405733, .glo), (30375991152801311868800101773925, .glo), (1782510, .glo)]
  body := (.cons (.asg (.nm 3) (.ix (.lv 2) (.int 0)))
 (.cons (.ife (.cmp .eq (.lv 3) (.str [99,111,110,115,116])) (.cons (.ret (.lst (.cons (.tup (.cons (.str [112,117,115,104]) (.cons (.ix (.lv 2) (.int 1)) .nil))) .nil)))
 .nil) .nil)
 (.cons (.ife (.cmp .eq (.lv 3) (.str [110,97,109,101])) (.cons (.ret (.lst (.cons (.call 237312430880974221434456405733 (.cons (.lv 0) (.cons (.ix (.lv 2) (.int 1)) .nil))) .nil)))
 .nil) .nil)
 (.cons (.ife (.cmp .eq (.lv 3) (.str [110,101,119])) (.cons (.ret (.lst (.cons (.tup (.cons (.str [109,97,107,101]) .nil)) (.cons (.tup (.cons (.str [116,97,103]) (.cons (.ix (.lv 2) (.int 1)) .nil))) .nil))))
 .nil) .nil)
 (.cons (.ife (.cmp .eq (.lv 3) (.str [98,111,116,104])) (.cons (.asg (.nm 4) (.call 30375991152801311868800101773925 (.cons (.lv 0) (.cons (.lv 1) (.cons (.ix (.lv 2) (.int 2)) .nil)))))
 (.cons (.asg (.nm 4) (.bop .add (.lv 4) (.call 30375991152801311868800101773925 (.cons (.lv 0) (.cons (.bop .add (.lv 1) (.blt .len (.cons (.lv 4) .nil))) (.cons (.ix (.lv 2) (.int 3)) .nil))))))
 (.cons (.ife (.cmp .eq (.ix (.lv 2) (.int 1)) (.str [62])) (.cons (.ret (.bop .add (.lv 4) (.lst (.cons (.tup (.cons (.str [98,111,116,104]) (.cons (.str [60,61]) .nil))) (.cons (.tup (.cons (.str [110,111,116]) .nil)) .nil)))))
 .nil) .nil)
 (.cons (.ife (.cmp .eq (.ix (.lv 2) (.int 1)) (.str [62,61])) (.cons (.ret (.bop .add (.lv 4) (.lst (.cons (.tup (.cons (.str [98,111,116,104]) (.cons (.str [60]) .nil))) (.cons (.tup (.cons (.str [110,111,116]) .nil)) .nil)))))
 .nil) .nil)
 (.cons (.ife (.cmp .eq (.ix (.lv 2) (.int 1)) (.str [33,61])) (.cons (.ret (.bop .add (.lv 4) (.lst (.cons (.tup (.cons (.str [98,111,116,104]) (.cons (.str [61,61]) .nil))) (.cons (.tup (.cons (.str [110,111,116]) .nil)) .nil)))))
 .nil) .nil)
 (.cons (.ret (.bop .add (.lv 4) (.lst (.cons (.tup (.cons (.str [98,111,116,104]) (.cons (.ix (.lv 2) (.int 1)) .nil))) .nil))))
 .nil)))))) .nil)
 (.cons (.asg (.nm 4) (.call 30375991152801311868800101773925 (.cons (.lv 0) (.cons (.lv 1) (.cons (.ix (.lv 2) (.int 1)) .nil)))))
 (.cons (.ife (.or (.cons (.cmp .eq (.lv 3) (.str [97,110,100])) (.cons (.cmp .eq (.lv 3) (.str [111,114])) .nil))) (.cons (.asg (.nm 5) (.call 30375991152801311868800101773925 (.cons (.lv 0) (.cons (.bop .add (.bop .add (.lv 1) (.blt .len (.cons (.lv 4) .nil))) (.int 1)) (.cons (.ix (.lv 2) (.int 2)) .nil)))))
 (.cons (.ret (.bop .add (.bop .add (.lv 4) (.lst (.cons (.tup (.cons (.bop .add (.lv 3) (.str [95,106,117,109,112])) (.cons (.bop .add (.bop .add (.bop .add (.lv 1) (.blt .len (.cons (.lv 4) .nil))) (.int 1)) (.blt .len (.cons (.lv 5) .nil))) .nil))) .nil))) (.lv 5)))
 .nil)) .nil)
 (.cons (.ife (.cmp .eq (.lv 3) (.str [102,105,101,108,100])) (.cons (.ret (.bop .add (.lv 4) (.lst (.cons (.tup (.cons (.str [107,105,110,100]) .nil)) (.cons (.tup (.cons (.str [102,105,101,108,100]) (.cons (.ix (.lv 2) (.int 2)) .nil))) .nil)))))
 .nil) .nil)
 (.cons (.ife (.cmp .eq (.lv 3) (.str [105,116,101,109])) (.cons (.asg (.nm 5) (.call 30375991152801311868800101773925 (.cons (.lv 0) (.cons (.bop .add (.bop .add (.lv 1) (.blt .len (.cons (.lv 4) .nil))) (.int 1)) (.cons (.ix (.lv 2) (.int 2)) .nil)))))
 (.cons (.ret (.bop .add (.bop .add (.bop .add (.lv 4) (.lst (.cons (.tup (.cons (.str [107,105,110,100]) .nil)) .nil))) (.lv 5)) (.lst (.cons (.tup (.cons (.str [105,116,101,109]) .nil)) .nil))))
 .nil)) .nil)
 (.cons (.ife (.cmp .eq (.lv 3) (.str [115,105,122,101])) (.cons (.ret (.bop .add (.lv 4) (.lst (.cons (.tup (.cons (.str [115,105,122,101]) .nil)) (.cons (.tup (.cons (.str [115,105,122,101,100]) .nil)) .nil)))))
 .nil) .nil)
 (.cons (.ife (.cmp .eq (.lv 3) (.str [97,114,114,97,121])) (.cons (.ret (.bop .add (.lv 4) (.lst (.cons (.tup (.cons (.str [99,104,101,99,107,95,115,105,122,101]) .nil)) (.cons (.tup (.cons (.str [109,97,107,101]) .nil)) (.cons (.tup (.cons (.str [116,97,103,95,115,105,122,101]) .nil)) .nil))))))
 .nil) .nil)
 (.cons (.ret (.bop .add (.lv 4) (.lst (.cons (.tup (.cons (.lv 3) .nil)) .nil))))
 .nil))))))))))))
/-- _law_call_code(0 _law_known, 1 _law_at, 2 _law_called, 3 _law_ahead, 4 _law_last, 5 _law_code, 6 _law_e) -/
noncomputable def F__law_call_code : Fn where
  nm := [884057696463446866926, 421551559667956, 113159385147042824925924, 884057696460749762788, 6906700753622563316, 6906700753603916389, 3293371559909]
  np := 5
  sc := [(884057696463446866926, .loc), (421551559667956, .loc), (113159385147042824925924, .loc), (884057696460749762788, .loc), (6906700753622563316, .loc), (6906700753603916389, .loc), (3293371559909, .loc), (30375991152801311868800101773925, .glo), (1782510, .glo), (884057696462106883940, .glo)]
  body := (.cons (.asg (.nm 5) (.lst .nil))
 (.cons (.ife (.lv 3) (.cons (.asg (.nm 5) (.lst (.cons (.tup (.cons (.str [115,112,97,119,110]) (.cons (.int 0) .nil))) .nil)))
 .nil) .nil)
 (.cons (.fr (.nm 6) (.ex (.ix (.lv 2) (.int 1))) (.cons (.asg (.nm 5) (.bop .add (.lv 5) (.call 30375991152801311868800101773925 (.cons (.lv 0) (.cons (.bop .add (.lv 1) (.blt .len (.cons (.lv 5) .nil))) (.cons (.lv 6) .nil))))))
 .nil))
 (.cons (.asg (.nm 5) (.bop .add (.lv 5) (.lst (.cons (.tup (.cons (.str [99,97,108,108]) (.cons (.call 884057696462106883940 (.cons (.ix (.lv 0) (.int 3)) (.cons (.ix (.lv 2) (.int 0)) .nil))) (.cons (.blt .len (.cons (.ix (.lv 2) (.int 1)) .nil)) .nil)))) (.cons (.lv 4) .nil)))))
 (.cons (.ife (.lv 3) (.cons (.asg (.nm 5) (.bop .add (.lv 5) (.lst (.cons (.tup (.cons (.str [102,105,110,105,115,104]) .nil)) .nil))))
 (.cons (.six (.lv 5) (.int 0) (.tup (.cons (.str [115,112,97,119,110]) (.cons (.bop .add (.lv 1) (.blt .len (.cons (.lv 5) .nil))) .nil))))
 .nil)) .nil)
 (.cons (.ret (.lv 5))
 .nil))))))
/-- _law_plain_code(0 _law_known, 1 _law_at, 2 _law_row, 3 _law_kind, 4 _law_last, 5 _law_code) -/
noncomputable def F__law_plain_code : Fn where
  nm := [884057696463446866926, 421551559667956, 53958599637776375, 6906700753620596580, 6906700753622563316, 6906700753603916389]
  np := 3
  sc := [(884057696463446866926, .loc), (421551559667956, .loc), (53958599637776375, .loc), (6906700753620596580, .loc), (6906700753622563316, .loc), (6906700753603916389, .loc), (1854003366259845898046060133, .glo), (237312430879891154377440490085, .glo), (30375991152801311868800101773925, .glo), (1782510, .glo)]
  body := (.cons (.asg (.nm 3) (.ix (.lv 2) (.int 0)))
 (.cons (.ife (.or (.cons (.cmp .eq (.lv 3) (.str [118,97,114])) (.cons (.cmp .eq (.lv 3) (.str [115,101,116])) .nil))) (.cons (.asg (.nm 4) (.tup (.cons (.str [115,116,111,114,101]) (.cons (.call 1854003366259845898046060133 (.cons (.lv 0) (.cons (.ix (.lv 2) (.int 2)) .nil))) .nil))))
 (.cons (.ife (.cmp .eq (.ix (.ix (.lv 2) (.int 3)) (.int 0)) (.str [114,101,97,100])) (.cons (.ret (.lst (.cons (.tup (.cons (.str [105,110,112,117,116]) .nil)) (.cons (.lv 4) .nil))))
 .nil) .nil)
 (.cons (.ife (.cmp .eq (.ix (.ix (.lv 2) (.int 3)) (.int 0)) (.str [99,97,108,108])) (.cons (.ret (.call 237312430879891154377440490085 (.cons (.lv 0) (.cons (.lv 1) (.cons (.sl (.ix (.lv 2) (.int 3)) (.int 1) (.int 3)) (.cons (.ix (.ix (.lv 2) (.int 3)) (.int 3)) (.cons (.lv 4) .nil)))))))
 .nil) .nil)
 (.cons (.ret (.bop .add (.call 30375991152801311868800101773925 (.cons (.lv 0) (.cons (.lv 1) (.cons (.ix (.ix (.lv 2) (.int 3)) (.int 1)) .nil)))) (.lst (.cons (.lv 4) .nil))))
 .nil)))) .nil)
 (.cons (.ife (.cmp .eq (.lv 3) (.str [99,97,108,108])) (.cons (.ret (.call 237312430879891154377440490085 (.cons (.lv 0) (.cons (.lv 1) (.cons (.sl (.lv 2) (.int 2) (.int 4)) (.cons (.ix (.lv 2) (.int 4)) (.cons (.tup (.cons (.str [100,114,111,112]) .nil)) .nil)))))))
 .nil) .nil)
 (.cons (.ife (.cmp .eq (.lv 3) (.str [98,114,101,97,107])) (.cons (.ret (.lst (.cons (.tup (.cons (.str [98,114,101,97,107]) .nil)) .nil)))
 .nil) .nil)
 (.cons (.asg (.nm 5) (.call 30375991152801311868800101773925 (.cons (.lv 0) (.cons (.lv 1) (.cons (.ix (.lv 2) (.int 2)) .nil)))))
 (.cons (.ife (.cmp .eq (.lv 3) (.str [115,101,116,95,102,105,101,108,100])) (.cons (.asg (.nm 5) (.bop .add (.lv 5) (.lst (.cons (.tup (.cons (.str [107,105,110,100]) .nil)) .nil))))
 (.cons (.ret (.bop .add (.bop .add (.lv 5) (.call 30375991152801311868800101773925 (.cons (.lv 0) (.cons (.bop .add (.lv 1) (.blt .len (.cons (.lv 5) .nil))) (.cons (.ix (.lv 2) (.int 4)) .nil))))) (.lst (.cons (.tup (.cons (.str [115,101,116,95,102,105,101,108,100]) (.cons (.ix (.lv 2) (.int 3)) .nil))) .nil))))
 .nil)) .nil)
 (.cons (.ife (.cmp .eq (.lv 3) (.str [115,101,116,95,105,116,101,109])) (.cons (.asg (.nm 5) (.bop .add (.lv 5) (.lst (.cons (.tup (.cons (.str [107,105,110,100]) .nil)) .nil))))
 (.cons (.asg (.nm 5) (.bop .add (.lv 5) (.call 30375991152801311868800101773925 (.cons (.lv 0) (.cons (.bop .add (.lv 1) (.blt .len (.cons (.lv 5) .nil))) (.cons (.ix (.lv 2) (.int 3)) .nil))))))
 (.cons (.ret (.bop .add (.bop .add (.lv 5) (.call 30375991152801311868800101773925 (.cons (.lv 0) (.cons (.bop .add (.lv 1) (.blt .len (.cons (.lv 5) .nil))) (.cons (.ix (.lv 2) (.int 4)) .nil))))) (.lst (.cons (.tup (.cons (.str [115,101,116,95,105,116,101,109]) .nil)) .nil))))
 .nil))) .nil)
 (.cons (.ret (.bop .add (.lv 5) (.lst (.cons (.tup (.cons (.lv 3) .nil)) .nil))))
 .nil))))))))
/-- _law_pairs(0 _law_line, 1 _law_code, 2 _law_parts) -/
noncomputable def F__law_pairs : Fn where
  nm := [6906700753622693733, 6906700753603916389, 884057696464761830003]
  np := 2
  sc := [(6906700753622693733, .cel), (6906700753603916389, .loc)]
  body := (.cons (.ret (.lc [(5936, .loc), (884057696464761830003, .loc), (6906700753622693733, .fre)] (.tup (.cons (.lv 0) (.cons (.lv 2) .nil))) (.nm 2) (.ex (.lv 1)) .nil))
 .nil)
/-- _law_nested_code(0 _law_known, 1 _law_at, 2 _law_row, 3 _law_kind, 4 _law_line, 5 _law_inner, 6 _law_here, 7 _law_other, 8 _law_last, 9 _law_middle, 10 _law_head, 11 _law_yes, 12 _law_no, 13 _law_pairs_here, 14 _law_more, 15 _law_deeper) -/
noncomputable def F__law_nested_code : Fn where
  nm := [884057696463446866926, 421551559667956, 53958599637776375, 6906700753620596580, 6906700753622693733, 884057696462909977330, 6906700753614240101, 884057696464533074674, 6906700753622563316, 113159385147388552885861, 6906700753614237924, 53958599637889779, 421551559669615, 30375991152745969935016019982693, 6906700753624889701, 113159385147078243791602]
  np := 3
  sc := [(884057696463446866926, .loc), (421551559667956, .loc), (53958599637776375, .loc), (6906700753620596580, .loc), (6906700753622693733, .loc), (884057696462909977330, .loc), (6906700753614240101, .loc), (884057696464533074674, .loc), (6906700753622563316, .loc), (113159385147388552885861, .loc), (6906700753614237924, .loc), (53958599637889779, .loc), (421551559669615, .loc), (30375991152745969935016019982693, .loc), (6906700753624889701, .loc), (113159385147078243791602, .loc), (30375991152617638671488604959333, .glo), (1782510, .glo), (1854003366259845898046060133, .glo), (884057696464761682291, .glo), (30375991152801311868800101773925, .glo), (1734516, .glo)]
  body := (.cons (.asg (.nm 3) (.ix (.lv 2) (.int 0)))
 (.cons (.asg (.nm 4) (.ix (.lv 2) (.int 1)))
 (.cons (.ife (.cmp .eq (.lv 3) (.str [116,114,121])) (.cons (.asg (.nm 5) (.call 30375991152617638671488604959333 (.cons (.lv 0) (.cons (.bop .add (.lv 1) (.int 1)) (.cons (.ix (.lv 2) (.int 2)) .nil)))))
 (.cons (.asg (.nm 6) (.bop .add (.bop .add (.lv 1) (.int 1)) (.blt .len (.cons (.lv 5) .nil))))
 (.cons (.asg (.nm 7) (.call 30375991152617638671488604959333 (.cons (.lv 0) (.cons (.bop .add (.lv 6) (.int 3)) (.cons (.ix (.lv 2) (.int 4)) .nil)))))
 (.cons (.asg (.nm 8) (.tup (.cons (.str [115,116,111,114,101]) (.cons (.call 1854003366259845898046060133 (.cons (.lv 0) (.cons (.ix (.lv 2) (.int 3)) .nil))) .nil))))
 (.cons (.asg (.nm 9) (.call 884057696464761682291 (.cons (.lv 4) (.cons (.lst (.cons (.tup (.cons (.str [117,110,103,117,97,114,100]) .nil)) (.cons (.tup (.cons (.str [106,117,109,112]) (.cons (.bop .add (.bop .add (.lv 6) (.int 3)) (.blt .len (.cons (.lv 7) .nil))) .nil))) (.cons (.lv 8) .nil)))) .nil))))
 (.cons (.ret (.bop .add (.bop .add (.bop .add (.lst (.cons (.tup (.cons (.lv 4) (.cons (.tup (.cons (.str [103,117,97,114,100]) (.cons (.bop .add (.lv 6) (.int 2)) .nil))) .nil))) .nil)) (.lv 5)) (.lv 9)) (.lv 7)))
 .nil)))))) .nil)
 (.cons (.ife (.cmp .eq (.lv 3) (.str [105,102])) (.cons (.asg (.nm 10) (.call 30375991152801311868800101773925 (.cons (.lv 0) (.cons (.lv 1) (.cons (.ix (.lv 2) (.int 2)) .nil)))))
 (.cons (.asg (.nm 11) (.call 30375991152617638671488604959333 (.cons (.lv 0) (.cons (.bop .add (.bop .add (.lv 1) (.blt .len (.cons (.lv 10) .nil))) (.int 1)) (.cons (.ix (.lv 2) (.int 3)) .nil)))))
 (.cons (.asg (.nm 6) (.bop .add (.bop .add (.bop .add (.bop .add (.lv 1) (.blt .len (.cons (.lv 10) .nil))) (.int 1)) (.blt .len (.cons (.lv 11) .nil))) (.int 1)))
 (.cons (.asg (.nm 12) (.call 30375991152617638671488604959333 (.cons (.lv 0) (.cons (.lv 6) (.cons (.ix (.lv 2) (.int 4)) .nil)))))
 (.cons (.ret (.bop .add (.bop .add (.bop .add (.call 884057696464761682291 (.cons (.lv 4) (.cons (.bop .add (.lv 10) (.lst (.cons (.tup (.cons (.str [106,117,109,112,95,110,111,116]) (.cons (.lv 6) .nil))) .nil))) .nil))) (.lv 11)) (.lst (.cons (.tup (.cons (.lv 4) (.cons (.tup (.cons (.str [106,117,109,112]) (.cons (.bop .add (.lv 6) (.blt .len (.cons (.lv 12) .nil))) .nil))) .nil))) .nil))) (.lv 12)))
 .nil))))) .nil)
 (.cons (.ife (.cmp .eq (.lv 3) (.str [119,104,105,108,101])) (.cons (.asg (.nm 10) (.call 30375991152801311868800101773925 (.cons (.lv 0) (.cons (.bop .add (.lv 1) (.int 1)) (.cons (.ix (.lv 2) (.int 2)) .nil)))))
 (.cons (.asg (.nm 5) (.call 30375991152617638671488604959333 (.cons (.lv 0) (.cons (.bop .add (.bop .add (.lv 1) (.blt .len (.cons (.lv 10) .nil))) (.int 2)) (.cons (.ix (.lv 2) (.int 3)) .nil)))))
 (.cons (.asg (.nm 6) (.bop .add (.bop .add (.bop .add (.lv 1) (.blt .len (.cons (.lv 10) .nil))) (.int 2)) (.blt .len (.cons (.lv 5) .nil))))
 (.cons (.asg (.nm 13) (.bop .add (.call 884057696464761682291 (.cons (.lv 4) (.cons (.bop .add (.bop .add (.lst (.cons (.tup (.cons (.str [108,111,111,112]) (.cons (.bop .add (.lv 6) (.int 2)) .nil))) .nil)) (.lv 10)) (.lst (.cons (.tup (.cons (.str [106,117,109,112,95,110,111,116]) (.cons (.bop .add (.lv 6) (.int 1)) .nil))) .nil))) .nil))) (.lv 5)))
 (.cons (.ret (.bop .add (.lv 13) (.call 884057696464761682291 (.cons (.lv 4) (.cons (.lst (.cons (.tup (.cons (.str [106,117,109,112]) (.cons (.bop .add (.lv 1) (.int 1)) .nil))) (.cons (.tup (.cons (.str [101,110,100,95,108,111,111,112]) .nil)) .nil))) .nil)))))
 .nil))))) .nil)
 (.cons (.asg (.nm 10) (.call 30375991152801311868800101773925 (.cons (.lv 0) (.cons (.lv 1) (.cons (.ix (.lv 2) (.int 3)) .nil)))))
 (.cons (.asg (.nm 10) (.bop .add (.lv 10) (.call 30375991152801311868800101773925 (.cons (.lv 0) (.cons (.bop .add (.lv 1) (.blt .len (.cons (.lv 10) .nil))) (.cons (.ix (.lv 2) (.int 4)) .nil))))))
 (.cons (.asg (.nm 14) (.blt .int (.cons (.ix (.lv 2) (.int 6)) .nil)))
 (.cons (.asg (.nm 15) (.tup (.cons (.ix (.lv 0) (.int 0)) (.cons (.ix (.lv 0) (.int 1)) (.cons (.bop .add (.tup (.cons (.ix (.lv 2) (.int 2)) .nil)) (.ix (.lv 0) (.int 2))) (.cons (.ix (.lv 0) (.int 3)) .nil))))))
 (.cons (.asg (.nm 5) (.call 30375991152617638671488604959333 (.cons (.lv 15) (.cons (.bop .add (.bop .add (.bop .add (.lv 1) (.blt .len (.cons (.lv 10) .nil))) (.int 2)) (.lv 14)) (.cons (.ix (.lv 2) (.int 5)) .nil)))))
 (.cons (.asg (.nm 6) (.bop .add (.bop .add (.bop .add (.bop .add (.lv 1) (.blt .len (.cons (.lv 10) .nil))) (.int 2)) (.bop .mul (.int 2) (.lv 14))) (.blt .len (.cons (.lv 5) .nil))))
 (.cons (.ife (.ix (.lv 2) (.int 6)) (.cons (.asg (.nm 5) (.bop .add (.bop .add (.lst (.cons (.tup (.cons (.lv 4) (.cons (.tup (.cons (.str [115,112,97,119,110]) (.cons (.lv 6) .nil))) .nil))) .nil)) (.lv 5)) (.lst (.cons (.tup (.cons (.lv 4) (.cons (.tup (.cons (.str [102,105,110,105,115,104]) .nil)) .nil))) .nil))))
 .nil) .nil)
 (.cons (.asg (.nm 13) (.bop .add (.call 884057696464761682291 (.cons (.lv 4) (.cons (.bop .add (.lv 10) (.lst (.cons (.tup (.cons (.str [101,97,99,104]) (.cons (.bop .add (.lv 6) (.int 2)) .nil))) (.cons (.tup (.cons (.str [116,101,115,116]) (.cons (.bop .add (.lv 6) (.int 1)) .nil))) .nil)))) .nil))) (.lv 5)))
 (.cons (.ret (.bop .add (.lv 13) (.call 884057696464761682291 (.cons (.lv 4) (.cons (.lst (.cons (.tup (.cons (.str [110,101,120,116]) (.cons (.bop .add (.bop .add (.lv 1) (.blt .len (.cons (.lv 10) .nil))) (.int 1)) .nil))) (.cons (.tup (.cons (.str [101,110,100,95,108,111,111,112]) .nil)) .nil))) .nil)))))
 .nil))))))))))))))
/-- _law_block_code(0 _law_known, 1 _law_at, 2 _law_block_here, 3 _law_pairs_here, 4 _law_row) -/
noncomputable def F__law_block_code : Fn where
  nm := [884057696463446866926, 421551559667956, 30375991152617638671488615283045, 30375991152745969935016019982693, 53958599637776375]
  np := 3
  sc := [(884057696463446866926, .loc), (421551559667956, .loc), (30375991152617638671488615283045, .loc), (30375991152745969935016019982693, .loc), (53958599637776375, .loc), (3888126867549160583569200167776869, .glo), (1782510, .glo), (884057696464761682291, .glo), (30375991152746758025196582204005, .glo)]
  body := (.cons (.asg (.nm 3) (.lst .nil))
 (.cons (.fr (.nm 4) (.ex (.lv 2)) (.cons (.ife (.cmp .isin (.ix (.lv 4) (.int 0)) (.lst (.cons (.str [105,102]) (.cons (.str [119,104,105,108,101]) (.cons (.str [102,111,114]) (.cons (.str [116,114,121]) .nil)))))) (.cons (.asg (.nm 3) (.bop .add (.lv 3) (.call 3888126867549160583569200167776869 (.cons (.lv 0) (.cons (.bop .add (.lv 1) (.blt .len (.cons (.lv 3) .nil))) (.cons (.lv 4) .nil))))))
 .nil) (.cons (.asg (.nm 3) (.bop .add (.lv 3) (.call 884057696464761682291 (.cons (.ix (.lv 4) (.int 1)) (.cons (.call 30375991152746758025196582204005 (.cons (.lv 0) (.cons (.bop .add (.lv 1) (.blt .len (.cons (.lv 3) .nil))) (.cons (.lv 4) .nil)))) .nil)))))
 .nil))
 .nil))
 (.cons (.ret (.lv 3))
 .nil)))
/-- _law_whole_code(0 _law_tree_here, 1 _law_top, 2 _law_called, 3 _law_row, 4 _law_pairs_here, 5 _law_told, 6 _law_own, 7 _law_k) -/
noncomputable def F__law_whole_code : Fn where
  nm := [237312430881125672598460004709, 53958599637809136, 113159385147042824925924, 53958599637776375, 30375991152745969935016019982693, 6906700753639568996, 53958599637728238, 3293371559915]
  np := 1
  sc := [(237312430881125672598460004709, .loc), (53958599637809136, .loc), (113159385147042824925924, .loc), (53958599637776375, .loc), (30375991152745969935016019982693, .loc), (6906700753639568996, .loc), (53958599637728238, .loc), (3293371559915, .loc), (6906700753629065701, .glo), (1854003366249729876480013028, .glo), (30375991152617638671488604959333, .glo), (1782510, .glo), (30806881253, .glo)]
  body := (.cons (.asg (.nm 1) (.call 6906700753629065701 (.cons (.call 1854003366249729876480013028 (.cons (.ix (.lv 0) (.int 3)) .nil)) .nil)))
 (.cons (.asg (.nm 2) (.tup .nil))
 (.cons (.fr (.nm 3) (.ex (.ix (.lv 0) (.int 2))) (.cons (.asg (.nm 2) (.bop .add (.lv 2) (.tup (.cons (.ix (.lv 3) (.int 1)) .nil))))
 .nil))
 (.cons (.asg (.nm 4) (.bop .add (.bop .add (.lst (.cons (.tup (.cons (.int 0) (.cons (.tup (.cons (.str [101,110,116,101,114]) .nil)) .nil))) .nil)) (.call 30375991152617638671488604959333 (.cons (.tup (.cons .non (.cons (.lv 1) (.cons (.tup .nil) (.cons (.lv 2) .nil))))) (.cons (.int 1) (.cons (.ix (.lv 0) (.int 3)) .nil))))) (.lst (.cons (.tup (.cons (.int 0) (.cons (.tup (.cons (.str [104,97,108,116]) .nil)) .nil))) .nil))))
 (.cons (.asg (.nm 5) (.tup .nil))
 (.cons (.fr (.nm 3) (.ex (.ix (.lv 0) (.int 2))) (.cons (.asg (.nm 6) (.call 6906700753629065701 (.cons (.bop .add (.ix (.lv 3) (.int 2)) (.call 1854003366249729876480013028 (.cons (.ix (.lv 3) (.int 3)) .nil))) .nil)))
 (.cons (.asg (.nm 5) (.bop .add (.lv 5) (.tup (.cons (.tup (.cons (.ix (.lv 3) (.int 1)) (.cons (.lv 6) (.cons (.blt .len (.cons (.lv 4) .nil)) .nil)))) .nil))))
 (.cons (.fr (.nm 7) (.rng (.cons (.blt .len (.cons (.ix (.lv 3) (.int 2)) .nil)) .nil)) (.cons (.exp (.bm (.lv 4) .append (.cons (.tup (.cons (.int 0) (.cons (.tup (.cons (.str [115,116,111,114,101]) (.cons (.tup (.cons (.str [111,119,110]) (.cons (.bop .sub (.bop .sub (.blt .len (.cons (.ix (.lv 3) (.int 2)) .nil)) (.int 1)) (.lv 7)) .nil))) .nil))) .nil))) .nil)))
 .nil))
 (.cons (.asg (.nm 4) (.bop .add (.lv 4) (.call 30375991152617638671488604959333 (.cons (.tup (.cons (.lv 6) (.cons (.lv 1) (.cons (.tup .nil) (.cons (.lv 2) .nil))))) (.cons (.blt .len (.cons (.lv 4) .nil)) (.cons (.ix (.lv 3) (.int 3)) .nil))))))
 (.cons (.asg (.nm 4) (.bop .add (.lv 4) (.lst (.cons (.tup (.cons (.int 0) (.cons (.tup (.cons (.str [112,117,115,104]) (.cons (.tup (.cons (.str [110,111,110,101]) .nil)) .nil))) .nil))) (.cons (.tup (.cons (.int 0) (.cons (.tup (.cons (.str [114,101,116,117,114,110]) .nil)) .nil))) .nil)))))
 .nil))))))
 (.cons (.ret (.lst (.cons (.lv 4) (.cons (.lv 1) (.cons (.lv 5) .nil)))))
 .nil)))))))
/-- law(0 _law_script, 1 _law_tree_here, 2 _law_program, 3 _law_due, 4 _law_code, 5 _law_lines, 6 _law_pair, 7 _law_records) -/
noncomputable def F_law : Fn where
  nm := [113159385147593130145908, 237312430881125672598460004709, 14484401298879241105748205, 53958599637547749, 6906700753603916389, 884057696463704797939, 6906700753630950642, 14484401298887587317723763]
  np := 1
  sc := [(113159385147593130145908, .loc), (237312430881125672598460004709, .loc), (14484401298879241105748205, .loc), (53958599637547749, .loc), (6906700753603916389, .loc), (884057696463704797939, .loc), (6906700753630950642, .loc), (14484401298887587317723763, .loc), (6906700753639617253, .glo), (15092516165221448322691813, .glo), (30375991152811041293262663709285, .glo), (6906700753637242597, .glo)]
  body := (.cons (.asg (.nm 1) (.call 6906700753639617253 (.cons (.lv 0) .nil)))
 (.cons (.asg (.nm 2) (.call 15092516165221448322691813 (.cons (.lv 1) .nil)))
 (.cons (.asg (.nm 3) (.call 30375991152811041293262663709285 (.cons (.lv 1) .nil)))
 (.cons (.asg (.nm 4) (.tup .nil))
 (.cons (.asg (.nm 5) (.tup .nil))
 (.cons (.fr (.nm 6) (.ex (.ix (.lv 3) (.int 0))) (.cons (.asg (.nm 5) (.bop .add (.lv 5) (.tup (.cons (.ix (.lv 6) (.int 0)) .nil))))
 (.cons (.asg (.nm 4) (.bop .add (.lv 4) (.tup (.cons (.ix (.lv 6) (.int 1)) .nil))))
 .nil)))
 (.cons (.ife (.or (.cons (.not (.call 6906700753637242597 (.cons (.fld (.lv 2) 209449573) (.cons (.lv 4) .nil)))) (.cons (.not (.call 6906700753637242597 (.cons (.fld (.lv 2) 29213045491) (.cons (.lv 5) .nil)))) .nil))) (.cons (.ret (.bl false))
 .nil) .nil)
 (.cons (.asg (.nm 7) (.tup (.cons (.tup (.cons (.ix (.ix (.ix (.lv 1) (.int 1)) (.int 0)) (.int 1)) (.cons (.ix (.ix (.ix (.lv 1) (.int 1)) (.int 0)) (.int 2)) .nil))) .nil)))
 (.cons (.ife (.or (.cons (.not (.call 6906700753637242597 (.cons (.fld (.lv 2) 504874445615731) (.cons (.lv 7) .nil)))) (.cons (.not (.call 6906700753637242597 (.cons (.fld (.lv 2) 8557907253277700851) (.cons (.ix (.lv 3) (.int 1)) .nil)))) .nil))) (.cons (.ret (.bl false))
 .nil) .nil)
 (.cons (.ret (.call 6906700753637242597 (.cons (.fld (.lv 2) 1041295160196917408499) (.cons (.ix (.lv 3) (.int 2)) .nil))))
 .nil))))))))))
noncomputable def names : List Nat := [53901865833295839, 421105671663583, 113040549807442359840735, 883127105072890949599, 53902041641709535, 30343803369384018519279032659935, 14469062692678738009452511, 53901593100775391, 883121977020451991519, 25752532588, 1370906291134671687176206322, 5675581356839368308, 920665118482693125861, 15084177301220650343068404, 117845135165782589273700, 4049128012237877937124712096888814, 920665118482670057068, 117845135165785810531444, 7192696238146171122, 7192696238146122484, 31633812595609419510993827493476, 247139160903198589929645748973, 1086929524367442947267950861656524089554804, 56192939360515302, 117845135165787150644837, 7192696238145910770, 15084177301220582701758830, 117845135165781534404843, 117845135165786867579621, 7192696238146140537, 2321575634387, 117845135165781521986027, 117845135165783117689459, 403037992397131578731689930623543123, 164882245, 2909208289988, 1004190012108424378085, 1004190012108399442536, 269560203810973264981310110452, 1004190012108414202605, 4416474379238857999729212337584110, 1004190012108401309292, 16452649158383983178445806, 34503706087804576250091485623908, 269560203810973251953846203117, 1185538313903294382820098431419675628369780, 128536321549880467864293, 128536321549875134689515, 8634477208160335717, 61290894293726438, 128536321549880750929509, 7845234469596936178, 7845234469597165945, 21635294414, 2698757087940, 34503706087804584611499197691764, 128536321549875122270699, 34503706087804367373805694056805, 118997917578423032082809, 118997917578423032083694, 17947232312025836896647142, 21143188211, 355790745284845, 1930774694556226235037167853, 15092516165221448322691813, 6906700753603753580, 113159385147079321614963, 6906700753606062327, 6906700753626756837, 53958599637741817, 1854003366249211286867441524, 14484401298848318679020274, 30375991152646174107447519246318, 6906700753639406068, 237312430879756587661340162675, 884057696465315296372, 113159385147594730387045, 884057696461026750955, 237312430881054723829160048500, 53958599637579762, 884057696466655409765, 30375991152747198225364020933363, 6906700753639617253, 6906700753637242597, 1854003366249729876480013028, 6906700753629065701, 884057696462106883940, 1854003366259845898046060133, 237312430880974221434456405733, 30375991152801311868800101773925, 237312430879891154377440490085, 30375991152746758025196582204005, 884057696464761682291, 3888126867549160583569200167776869, 30375991152617638671488604959333, 30375991152811041293262663709285, 1782007]
noncomputable def progL : List (Nat × Fn) := [(920665118482693125861, F_check_name), (15084177301220650343068404, F_check_target), (117845135165782589273700, F_check_field), (4049128012237877937124712096888814, F_check_expression), (920665118482670057068, F_check_call), (117845135165785810531444, F_check_right), (7192696238146171122, F_check_var), (7192696238146122484, F_check_set), (31633812595609419510993827493476, F_check_set_field), (247139160903198589929645748973, F_check_set_item), (1086929524367442947267950861656524089554804, F_check_call_statement), (56192939360515302, F_check_if), (117845135165787150644837, F_check_while), (7192696238145910770, F_check_for), (15084177301220582701758830, F_check_return), (117845135165781534404843, F_check_break), (117845135165786867579621, F_check_value), (7192696238146140537, F_check_try), (117845135165781521986027, F_check_block), (117845135165783117689459, F_check_heads), (1004190012108424378085, F_lower_name), (1004190012108399442536, F_lower_both), (269560203810973264981310110452, F_lower_shortcut), (1004190012108414202605, F_lower_item), (4416474379238857999729212337584110, F_lower_expression), (1004190012108401309292, F_lower_call), (16452649158383983178445806, F_lower_assign), (34503706087804576250091485623908, F_lower_set_field), (269560203810973251953846203117, F_lower_set_item), (1185538313903294382820098431419675628369780, F_lower_call_statement), (128536321549880467864293, F_lower_value), (128536321549875134689515, F_lower_break), (8634477208160335717, F_with_line), (61290894293726438, F_lower_if), (128536321549880750929509, F_lower_while), (7845234469596936178, F_lower_for), (7845234469597165945, F_lower_try), (34503706087804584611499197691764, F_lower_statement), (128536321549875122270699, F_lower_block), (34503706087804367373805694056805, F_lower_procedure), (118997917578423032082809, F_declared_by), (118997917578423032083694, F_declared_in), (17947232312025836896647142, F_variables_of), (1930774694556226235037167853, F_check_program), (15092516165221448322691813, F_compile_tree), (6906700753603753580, F__law_cell), (113159385147079321614963, F__law_digits), (6906700753606062327, F__law_draw), (6906700753626756837, F__law_name), (53958599637741817, F__law_pay), (1854003366249211286867441524, F__law_constant), (14484401298848318679020274, F__law_integer), (30375991152646174107447519246318, F__law_expression), (6906700753639406068, F__law_test), (237312430879756587661340162675, F__law_arguments), (884057696465315296372, F__law_right), (113159385147594730387045, F__law_simple), (884057696461026750955, F__law_block), (237312430881054723829160048500, F__law_statement), (53958599637579762, F__law_for), (884057696466655409765, F__law_while), (30375991152747198225364020933363, F__law_procedures), (6906700753639617253, F__law_tree), (6906700753637242597, F__law_same), (1854003366249729876480013028, F__law_declared), (6906700753629065701, F__law_once), (884057696462106883940, F__law_found), (1854003366259845898046060133, F__law_variable), (237312430880974221434456405733, F__law_read_name), (30375991152801311868800101773925, F__law_value_code), (237312430879891154377440490085, F__law_call_code), (30375991152746758025196582204005, F__law_plain_code), (884057696464761682291, F__law_pairs), (3888126867549160583569200167776869, F__law_nested_code), (30375991152617638671488604959333, F__law_block_code), (30375991152811041293262663709285, F__law_whole_code), (1782007, F_law)]
noncomputable def mtL : List Mt := [⟨726838724295606890549323807888004534353641360687318060281490199180639288113397923326191050713763565560762716617757096597039007643021279, 21143188211, 53901697516122079, 195011490918663504406014406623, F_Names___init__⟩, ⟨726838724295606890549323807888004534353641360687318060281490199180639288113397923326191050713763565560762521618168734752301032306012773, 21143188211, 3637543334501, 11902556818766430677398117, F_Names_inside⟩, ⟨726838724295606890549323807888004534353641360687318060281490199180639288113397923326191050713763565969731259809351610747489741493237744, 21143188211, 141467274622545436604400, 408968738203085432813955139864623088, F_Names_within_loop⟩, ⟨726838724295606890549323807888004534353641360687318060281490199180639288113397923326191050713763565560762716617757096599361588540634983, 21143188211, 56224278413735783, 195011490918665826986912020327, F_Names_counting⟩, ⟨726838724295606890549323807888004534353641360687318060281490199180639288113397923326191050713763565560762716617757096609995960543131237, 21143188211, 66858650416232037, 195011490918676461358914516581, F_Names_variable⟩, ⟨726838724295606890549323807888004534353641360687318060281490199180639288113397923326191050713763565560762523129793450735611374963864306, 21143188211, 439252175106802, 1523527272802076773335249650, F_Names_counter⟩, ⟨726838724295606890549323807888004534353641360687318060281490199180639288113397923326191050713763565560787483077103768097799728447453541, 21143188211, 8135118439038417253, 24961470837590164265126818838885, F_Names_procedure⟩, ⟨726838724295606890549323807888004534353641360687318060281490199180639288113397923326191050713763565563957589873477643949750095491889508, 21143188211, 966285439457969305956, 3195068267211466016215493863274852, F_Names_has_record⟩, ⟨726838724295606890549323807888004534353641360687318060281490199180639288113397923326191050713763565560787483077103767511786281961616996, 21143188211, 7549104992552580708, 24961470837589578251680333002340, F_Names_has_field⟩, ⟨726838724295606890549323807888004534353641360687318060281490199180639288113397923326191050713763565564044112017298140851459820464451551, 355790745284845, 53901697516122079, 3281590411031962917925218835836895, F_Program___init__⟩]
noncomputable def clL : List (Nat × Cl) := [(21143188211, ⟨726838724295606890549323807888004534353641360687318060281490199180639288113397923326191050713763565560762716617757096597039007643021279, [504874445615731, 1041295160196917408499, 1914864, 1833966, 56224278413670771, 29225646195], [(3637543334501, 726838724295606890549323807888004534353641360687318060281490199180639288113397923326191050713763565560762521618168734752301032306012773), (141467274622545436604400, 726838724295606890549323807888004534353641360687318060281490199180639288113397923326191050713763565969731259809351610747489741493237744), (56224278413735783, 726838724295606890549323807888004534353641360687318060281490199180639288113397923326191050713763565560762716617757096599361588540634983), (66858650416232037, 726838724295606890549323807888004534353641360687318060281490199180639288113397923326191050713763565560762716617757096609995960543131237), (439252175106802, 726838724295606890549323807888004534353641360687318060281490199180639288113397923326191050713763565560762523129793450735611374963864306), (8135118439038417253, 726838724295606890549323807888004534353641360687318060281490199180639288113397923326191050713763565560787483077103768097799728447453541), (966285439457969305956, 726838724295606890549323807888004534353641360687318060281490199180639288113397923326191050713763565563957589873477643949750095491889508), (7549104992552580708, 726838724295606890549323807888004534353641360687318060281490199180639288113397923326191050713763565560787483077103767511786281961616996)]⟩), (355790745284845, ⟨726838724295606890549323807888004534353641360687318060281490199180639288113397923326191050713763565564044112017298140851459820464451551, [209449573, 29213045491, 504874445615731, 8557907253277700851, 1041295160196917408499], []⟩)]
noncomputable def gvL : List (Nat × D) := [(2321575634387, (.kd 2321575634387)), (403037992397131578731689930623543123, (.int 2000)), (164882245, (.tup [(.str [110,111,110,101])])), (2909208289988, (.kd 2909208289988)), (21635294414, (.kd 21635294414)), (2698757087940, (.kd 2698757087940))]
noncomputable def kdL : List (Nat × List (List Nat × D)) := [(2321575634387, [([118,97,114], (.fn 7192696238146171122)), ([115,101,116], (.fn 7192696238146122484)), ([115,101,116,95,102,105,101,108,100], (.fn 31633812595609419510993827493476)), ([115,101,116,95,105,116,101,109], (.fn 247139160903198589929645748973)), ([99,97,108,108], (.fn 1086929524367442947267950861656524089554804)), ([105,102], (.fn 56192939360515302)), ([119,104,105,108,101], (.fn 117845135165787150644837)), ([102,111,114], (.fn 7192696238145910770)), ([114,101,116,117,114,110], (.fn 15084177301220582701758830)), ([98,114,101,97,107], (.fn 117845135165781534404843)), ([116,104,114,111,119], (.fn 117845135165786867579621)), ([112,114,105,110,116], (.fn 117845135165786867579621)), ([116,114,121], (.fn 7192696238146140537))]), (2909208289988, [([62], (.str [60,61])), ([62,61], (.str [60])), ([33,61], (.str [61,61]))]), (21635294414, [([118,97,114], (.fn 16452649158383983178445806)), ([115,101,116], (.fn 16452649158383983178445806)), ([115,101,116,95,102,105,101,108,100], (.fn 34503706087804576250091485623908)), ([115,101,116,95,105,116,101,109], (.fn 269560203810973251953846203117)), ([99,97,108,108], (.fn 1185538313903294382820098431419675628369780)), ([114,101,116,117,114,110], (.fn 128536321549880467864293)), ([116,104,114,111,119], (.fn 128536321549880467864293)), ([112,114,105,110,116], (.fn 128536321549880467864293)), ([98,114,101,97,107], (.fn 128536321549875134689515))]), (2698757087940, [([105,102], (.fn 61290894293726438)), ([119,104,105,108,101], (.fn 128536321549880750929509)), ([102,111,114], (.fn 7845234469596936178)), ([116,114,121], (.fn 7845234469597165945))])]
noncomputable def TT : Top := ⟨names, progL, gvL, kdL, clL, mtL⟩
theorem gv_CHECKS : TT.pr.gv 2321575634387 = some (.kd 2321575634387) := by rfl
theorem gv_MOST_INSTRUCTIONS : TT.pr.gv 403037992397131578731689930623543123 = some (.int 2000) := by rfl
theorem gv_NONE : TT.pr.gv 164882245 = some (.tup [(.str [110,111,110,101])]) := by rfl
theorem gv_TURNED : TT.pr.gv 2909208289988 = some (.kd 2909208289988) := by rfl
theorem gv_PLAIN : TT.pr.gv 21635294414 = some (.kd 21635294414) := by rfl
theorem gv_NESTED : TT.pr.gv 2698757087940 = some (.kd 2698757087940) := by rfl
theorem kd_CHECKS : TT.pr.kd 2321575634387 = some [([118,97,114], (.fn 7192696238146171122)), ([115,101,116], (.fn 7192696238146122484)), ([115,101,116,95,102,105,101,108,100], (.fn 31633812595609419510993827493476)), ([115,101,116,95,105,116,101,109], (.fn 247139160903198589929645748973)), ([99,97,108,108], (.fn 1086929524367442947267950861656524089554804)), ([105,102], (.fn 56192939360515302)), ([119,104,105,108,101], (.fn 117845135165787150644837)), ([102,111,114], (.fn 7192696238145910770)), ([114,101,116,117,114,110], (.fn 15084177301220582701758830)), ([98,114,101,97,107], (.fn 117845135165781534404843)), ([116,104,114,111,119], (.fn 117845135165786867579621)), ([112,114,105,110,116], (.fn 117845135165786867579621)), ([116,114,121], (.fn 7192696238146140537))] := by rfl
theorem kd_TURNED : TT.pr.kd 2909208289988 = some [([62], (.str [60,61])), ([62,61], (.str [60])), ([33,61], (.str [61,61]))] := by rfl
theorem kd_PLAIN : TT.pr.kd 21635294414 = some [([118,97,114], (.fn 16452649158383983178445806)), ([115,101,116], (.fn 16452649158383983178445806)), ([115,101,116,95,102,105,101,108,100], (.fn 34503706087804576250091485623908)), ([115,101,116,95,105,116,101,109], (.fn 269560203810973251953846203117)), ([99,97,108,108], (.fn 1185538313903294382820098431419675628369780)), ([114,101,116,117,114,110], (.fn 128536321549880467864293)), ([116,104,114,111,119], (.fn 128536321549880467864293)), ([112,114,105,110,116], (.fn 128536321549880467864293)), ([98,114,101,97,107], (.fn 128536321549875134689515))] := by rfl
theorem kd_NESTED : TT.pr.kd 2698757087940 = some [([105,102], (.fn 61290894293726438)), ([119,104,105,108,101], (.fn 128536321549880750929509)), ([102,111,114], (.fn 7845234469596936178)), ([116,114,121], (.fn 7845234469597165945))] := by rfl
theorem fn_check_name : TT.pr.fn 920665118482693125861 = some F_check_name := by rfl
theorem fn_check_target : TT.pr.fn 15084177301220650343068404 = some F_check_target := by rfl
theorem fn_check_field : TT.pr.fn 117845135165782589273700 = some F_check_field := by rfl
theorem fn_check_expression : TT.pr.fn 4049128012237877937124712096888814 = some F_check_expression := by rfl
theorem fn_check_call : TT.pr.fn 920665118482670057068 = some F_check_call := by rfl
theorem fn_check_right : TT.pr.fn 117845135165785810531444 = some F_check_right := by rfl
theorem fn_check_var : TT.pr.fn 7192696238146171122 = some F_check_var := by rfl
theorem fn_check_set : TT.pr.fn 7192696238146122484 = some F_check_set := by rfl
theorem fn_check_set_field : TT.pr.fn 31633812595609419510993827493476 = some F_check_set_field := by rfl
theorem fn_check_set_item : TT.pr.fn 247139160903198589929645748973 = some F_check_set_item := by rfl
theorem fn_check_call_statement : TT.pr.fn 1086929524367442947267950861656524089554804 = some F_check_call_statement := by rfl
theorem fn_check_if : TT.pr.fn 56192939360515302 = some F_check_if := by rfl
theorem fn_check_while : TT.pr.fn 117845135165787150644837 = some F_check_while := by rfl
theorem fn_check_for : TT.pr.fn 7192696238145910770 = some F_check_for := by rfl
theorem fn_check_return : TT.pr.fn 15084177301220582701758830 = some F_check_return := by rfl
theorem fn_check_break : TT.pr.fn 117845135165781534404843 = some F_check_break := by rfl
theorem fn_check_value : TT.pr.fn 117845135165786867579621 = some F_check_value := by rfl
theorem fn_check_try : TT.pr.fn 7192696238146140537 = some F_check_try := by rfl
theorem fn_check_block : TT.pr.fn 117845135165781521986027 = some F_check_block := by rfl
theorem fn_check_heads : TT.pr.fn 117845135165783117689459 = some F_check_heads := by rfl
theorem fn_lower_name : TT.pr.fn 1004190012108424378085 = some F_lower_name := by rfl
theorem fn_lower_both : TT.pr.fn 1004190012108399442536 = some F_lower_both := by rfl
theorem fn_lower_shortcut : TT.pr.fn 269560203810973264981310110452 = some F_lower_shortcut := by rfl
theorem fn_lower_item : TT.pr.fn 1004190012108414202605 = some F_lower_item := by rfl
theorem fn_lower_expression : TT.pr.fn 4416474379238857999729212337584110 = some F_lower_expression := by rfl
theorem fn_lower_call : TT.pr.fn 1004190012108401309292 = some F_lower_call := by rfl
theorem fn_lower_assign : TT.pr.fn 16452649158383983178445806 = some F_lower_assign := by rfl
theorem fn_lower_set_field : TT.pr.fn 34503706087804576250091485623908 = some F_lower_set_field := by rfl
theorem fn_lower_set_item : TT.pr.fn 269560203810973251953846203117 = some F_lower_set_item := by rfl
theorem fn_lower_call_statement : TT.pr.fn 1185538313903294382820098431419675628369780 = some F_lower_call_statement := by rfl
theorem fn_lower_value : TT.pr.fn 128536321549880467864293 = some F_lower_value := by rfl
theorem fn_lower_break : TT.pr.fn 128536321549875134689515 = some F_lower_break := by rfl
theorem fn_with_line : TT.pr.fn 8634477208160335717 = some F_with_line := by rfl
theorem fn_lower_if : TT.pr.fn 61290894293726438 = some F_lower_if := by rfl
theorem fn_lower_while : TT.pr.fn 128536321549880750929509 = some F_lower_while := by rfl
theorem fn_lower_for : TT.pr.fn 7845234469596936178 = some F_lower_for := by rfl
theorem fn_lower_try : TT.pr.fn 7845234469597165945 = some F_lower_try := by rfl
theorem fn_lower_statement : TT.pr.fn 34503706087804584611499197691764 = some F_lower_statement := by rfl
theorem fn_lower_block : TT.pr.fn 128536321549875122270699 = some F_lower_block := by rfl
theorem fn_lower_procedure : TT.pr.fn 34503706087804367373805694056805 = some F_lower_procedure := by rfl
theorem fn_declared_by : TT.pr.fn 118997917578423032082809 = some F_declared_by := by rfl
theorem fn_declared_in : TT.pr.fn 118997917578423032083694 = some F_declared_in := by rfl
theorem fn_variables_of : TT.pr.fn 17947232312025836896647142 = some F_variables_of := by rfl
theorem fn_Names___init__ : TT.pr.fn 726838724295606890549323807888004534353641360687318060281490199180639288113397923326191050713763565560762716617757096597039007643021279 = some F_Names___init__ := by rfl
theorem fn_Names_inside : TT.pr.fn 726838724295606890549323807888004534353641360687318060281490199180639288113397923326191050713763565560762521618168734752301032306012773 = some F_Names_inside := by rfl
theorem fn_Names_within_loop : TT.pr.fn 726838724295606890549323807888004534353641360687318060281490199180639288113397923326191050713763565969731259809351610747489741493237744 = some F_Names_within_loop := by rfl
theorem fn_Names_counting : TT.pr.fn 726838724295606890549323807888004534353641360687318060281490199180639288113397923326191050713763565560762716617757096599361588540634983 = some F_Names_counting := by rfl
theorem fn_Names_variable : TT.pr.fn 726838724295606890549323807888004534353641360687318060281490199180639288113397923326191050713763565560762716617757096609995960543131237 = some F_Names_variable := by rfl
theorem fn_Names_counter : TT.pr.fn 726838724295606890549323807888004534353641360687318060281490199180639288113397923326191050713763565560762523129793450735611374963864306 = some F_Names_counter := by rfl
theorem fn_Names_procedure : TT.pr.fn 726838724295606890549323807888004534353641360687318060281490199180639288113397923326191050713763565560787483077103768097799728447453541 = some F_Names_procedure := by rfl
theorem fn_Names_has_record : TT.pr.fn 726838724295606890549323807888004534353641360687318060281490199180639288113397923326191050713763565563957589873477643949750095491889508 = some F_Names_has_record := by rfl
theorem fn_Names_has_field : TT.pr.fn 726838724295606890549323807888004534353641360687318060281490199180639288113397923326191050713763565560787483077103767511786281961616996 = some F_Names_has_field := by rfl
theorem fn_Program___init__ : TT.pr.fn 726838724295606890549323807888004534353641360687318060281490199180639288113397923326191050713763565564044112017298140851459820464451551 = some F_Program___init__ := by rfl
theorem fn_check_program : TT.pr.fn 1930774694556226235037167853 = some F_check_program := by rfl
theorem fn_compile_tree : TT.pr.fn 15092516165221448322691813 = some F_compile_tree := by rfl
theorem fn__law_cell : TT.pr.fn 6906700753603753580 = some F__law_cell := by rfl
theorem fn__law_digits : TT.pr.fn 113159385147079321614963 = some F__law_digits := by rfl
theorem fn__law_draw : TT.pr.fn 6906700753606062327 = some F__law_draw := by rfl
theorem fn__law_name : TT.pr.fn 6906700753626756837 = some F__law_name := by rfl
theorem fn__law_pay : TT.pr.fn 53958599637741817 = some F__law_pay := by rfl
theorem fn__law_constant : TT.pr.fn 1854003366249211286867441524 = some F__law_constant := by rfl
theorem fn__law_integer : TT.pr.fn 14484401298848318679020274 = some F__law_integer := by rfl
theorem fn__law_expression : TT.pr.fn 30375991152646174107447519246318 = some F__law_expression := by rfl
theorem fn__law_test : TT.pr.fn 6906700753639406068 = some F__law_test := by rfl
theorem fn__law_arguments : TT.pr.fn 237312430879756587661340162675 = some F__law_arguments := by rfl
theorem fn__law_right : TT.pr.fn 884057696465315296372 = some F__law_right := by rfl
theorem fn__law_simple : TT.pr.fn 113159385147594730387045 = some F__law_simple := by rfl
theorem fn__law_block : TT.pr.fn 884057696461026750955 = some F__law_block := by rfl
theorem fn__law_statement : TT.pr.fn 237312430881054723829160048500 = some F__law_statement := by rfl
theorem fn__law_for : TT.pr.fn 53958599637579762 = some F__law_for := by rfl
theorem fn__law_while : TT.pr.fn 884057696466655409765 = some F__law_while := by rfl
theorem fn__law_procedures : TT.pr.fn 30375991152747198225364020933363 = some F__law_procedures := by rfl
theorem fn__law_tree : TT.pr.fn 6906700753639617253 = some F__law_tree := by rfl
theorem fn__law_same : TT.pr.fn 6906700753637242597 = some F__law_same := by rfl
theorem fn__law_declared : TT.pr.fn 1854003366249729876480013028 = some F__law_declared := by rfl
theorem fn__law_once : TT.pr.fn 6906700753629065701 = some F__law_once := by rfl
theorem fn__law_found : TT.pr.fn 884057696462106883940 = some F__law_found := by rfl
theorem fn__law_variable : TT.pr.fn 1854003366259845898046060133 = some F__law_variable := by rfl
theorem fn__law_read_name : TT.pr.fn 237312430880974221434456405733 = some F__law_read_name := by rfl
theorem fn__law_value_code : TT.pr.fn 30375991152801311868800101773925 = some F__law_value_code := by rfl
theorem fn__law_call_code : TT.pr.fn 237312430879891154377440490085 = some F__law_call_code := by rfl
theorem fn__law_plain_code : TT.pr.fn 30375991152746758025196582204005 = some F__law_plain_code := by rfl
theorem fn__law_pairs : TT.pr.fn 884057696464761682291 = some F__law_pairs := by rfl
theorem fn__law_nested_code : TT.pr.fn 3888126867549160583569200167776869 = some F__law_nested_code := by rfl
theorem fn__law_block_code : TT.pr.fn 30375991152617638671488604959333 = some F__law_block_code := by rfl
theorem fn__law_whole_code : TT.pr.fn 30375991152811041293262663709285 = some F__law_whole_code := by rfl
theorem fn_law : TT.pr.fn 1782007 = some F_law := by rfl
theorem cl_Names : TT.pr.cls 21143188211 = some ⟨726838724295606890549323807888004534353641360687318060281490199180639288113397923326191050713763565560762716617757096597039007643021279, [504874445615731, 1041295160196917408499, 1914864, 1833966, 56224278413670771, 29225646195], [(3637543334501, 726838724295606890549323807888004534353641360687318060281490199180639288113397923326191050713763565560762521618168734752301032306012773), (141467274622545436604400, 726838724295606890549323807888004534353641360687318060281490199180639288113397923326191050713763565969731259809351610747489741493237744), (56224278413735783, 726838724295606890549323807888004534353641360687318060281490199180639288113397923326191050713763565560762716617757096599361588540634983), (66858650416232037, 726838724295606890549323807888004534353641360687318060281490199180639288113397923326191050713763565560762716617757096609995960543131237), (439252175106802, 726838724295606890549323807888004534353641360687318060281490199180639288113397923326191050713763565560762523129793450735611374963864306), (8135118439038417253, 726838724295606890549323807888004534353641360687318060281490199180639288113397923326191050713763565560787483077103768097799728447453541), (966285439457969305956, 726838724295606890549323807888004534353641360687318060281490199180639288113397923326191050713763565563957589873477643949750095491889508), (7549104992552580708, 726838724295606890549323807888004534353641360687318060281490199180639288113397923326191050713763565560787483077103767511786281961616996)]⟩ := by rfl
theorem cl_Program : TT.pr.cls 355790745284845 = some ⟨726838724295606890549323807888004534353641360687318060281490199180639288113397923326191050713763565564044112017298140851459820464451551, [209449573, 29213045491, 504874445615731, 8557907253277700851, 1041295160196917408499], []⟩ := by rfl

end FK.K13
end
section
set_option maxRecDepth 100000
set_option maxHeartbeats 4000000
namespace FK
namespace K13
local macro_rules | `(tactic| simp! [$ts,*]) => `(tactic| simp (implicitDefEqProofs := false) [fin_rt, fin_nx, start, bodyF_ap, tgF_ap, op_addi, op_subi, op_muli, op_divi, op_modi, op_powi, op_adds, op_addt, op_addl, cm_eq, cm_ne, cm_lt, cm_le, cm_gt, cm_ge, cm_is, cm_isn, cm_in, cm_nin, in_kd, in_tup, in_ref, tr_bl, ix_tup, ix_str, ix_kd, ix_ref, ln_tup, ln_ref, ty_non, ty_bl, ty_int, ty_str, ty_tup, bf_len, bf_int, bf_intb, bf_tuple, bf_list, sq_ref, wk_tup, wk_ref, to_ref, me_app, in_non, in_bl, in_int, in_str, in_tup', in_ref', sl_tup, sl_str, tgA, tgsA, setSl, atI_0, atI_1, atI_2, atI_3, atI_4, atI_5, atI_6, List.lookup, isNonE, ptI, mulOk_r, mulOk_l, divOk_s, rngOf_1, rngOf_2, b2i, shp, pq_non_non, pq_non_bl, pq_non_int, pq_bl_non, pq_int_non, pq_int_int, pq_str_str, pqs_nn, pur_non, pur_bl, pur_int, pur_str, pur_ref, pur_fn, pur_kd, purs_n, dep_non, dep_int, dep_str, SZ, evE_non, evE_bl, evE_int, evE_str, evE_lv, evE_gv, evE_and, evE_or, evE_calv, me_ext, me_idx, tstF_ap, eltF_ap, z_n, z_c, z_nx, z_rt, z_en, z_ec, z_e1, z_e2, z_tup, z_tup1, z_lst, z_lst1, z_bop, z_b1, z_b2, z_neg, z_neg1, z_not, z_not1, z_cmp, z_c1, z_c2, z_and1, z_and, z_and2, z_and3, z_or1, z_or, z_or2, z_or3, z_tsn, z_ix, z_i1, z_i2, z_sl, z_sl1, z_sl2, z_sl3, z_call, z_call1, z_blt, z_blt1, z_isi, z_isi1, z_bm, z_m1, z_m2, z_m3, z_cm, z_cm1, z_cm2, z_cm3, z_cm4, z_mt, z_mk, z_mk1, z_mk2, z_mk3, z_fld, z_f1, z_f2, z_lc, z_lc1, z_lc2, z_lb, z_lb1, z_lb2, z_w, z_w1, z_r, z_r1, z_t, z_t1, z_asg, z_a1, z_exp, z_x1, z_ret, z_rt1, z_if, z_if1, z_fr, z_fr1, z_six, z_sx1, z_sx2, z_sx3, z_sfl, z_sf1, z_sf2, $ts,*])
/-! trees of programs: their data, what names mean, what is checked, what code they give -/
abbrev Nm := List Nat
inductive Un where
  | not | minus | size | array
noncomputable def Un.s : Un → Nm
  | .not => [110,111,116] | .minus => [109,105,110,117,115] | .size => [115,105,122,101] | .array => [97,114,114,97,121]
noncomputable def lgS (o : Bool) : Nm := if o then [111,114] else [97,110,100]
inductive TE where
  | cst (v : D) | nam (x : Nm) | both (op : Nm) (a b : TE) | lg (o : Bool) (a b : TE) | un (u : Un) (a : TE) | new (r : Nm) | fld (a : TE) (f : Nm) | itm (a b : TE)
noncomputable def teD : TE → D
  | .cst v => .tup [.str [99,111,110,115,116], v]
  | .nam x => .tup [.str [110,97,109,101], .str x]
  | .both op a b => .tup [.str [98,111,116,104], .str op, teD a, teD b]
  | .lg o a b => .tup [.str (lgS o), teD a, teD b]
  | .un u a => .tup [.str u.s, teD a]
  | .new r => .tup [.str [110,101,119], .str r]
  | .fld a f => .tup [.str [102,105,101,108,100], teD a, .str f]
  | .itm a b => .tup [.str [105,116,101,109], teD a, teD b]
noncomputable def TE.ht : TE → Nat
  | .cst _ => 0
  | .nam _ => 0
  | .both _ a b => max a.ht b.ht + 1
  | .lg _ a b => max a.ht b.ht + 1
  | .un _ a => a.ht + 1
  | .new _ => 0
  | .fld a _ => a.ht + 1
  | .itm a b => max a.ht b.ht + 1
inductive TR where
  | read | expr (e : TE) | call (p : Nm) (as : List TE) (ah : Bool)
noncomputable def trD : TR → D
  | .read => .tup [.str [114,101,97,100]]
  | .expr e => .tup [.str [101,120,112,114], teD e]
  | .call p as ah => .tup [.str [99,97,108,108], .str p, .tup (as.map teD), .bl ah]
noncomputable def TR.ht : TR → Nat
  | .read => 0
  | .expr e => e.ht
  | .call _ as _ => (as.map TE.ht).foldl max 0
inductive Vk where
  | ret | thr | prn
noncomputable def Vk.s : Vk → Nm
  | .ret => [114,101,116,117,114,110] | .thr => [116,104,114,111,119] | .prn => [112,114,105,110,116]
noncomputable def asS (v : Bool) : Nm := if v then [118,97,114] else [115,101,116]
mutual
inductive TS where
  | asg (v : Bool) (l : Int) (x : Nm) (r : TR)
  | sfl (l : Int) (a : TE) (f : Nm) (b : TE)
  | sit (l : Int) (a i b : TE)
  | cal (l : Int) (p : Nm) (as : List TE) (ah : Bool)
  | val (k : Vk) (l : Int) (a : TE)
  | brk (l : Int)
  | ite (l : Int) (c : TE) (y n : TSs)
  | whl (l : Int) (c : TE) (b : TSs)
  | for_ (l : Int) (x : Nm) (lo hi : TE) (b : TSs) (ah : Bool)
  | try_ (l : Int) (b : TSs) (x : Nm) (c : TSs)
inductive TSs where
  | nil | cons (s : TS) (r : TSs)
end
mutual
noncomputable def tsD : TS → D
  | .asg v l x r => .tup [.str (asS v), .int l, .str x, trD r]
  | .sfl l a f b => .tup [.str [115,101,116,95,102,105,101,108,100], .int l, teD a, .str f, teD b]
  | .sit l a i b => .tup [.str [115,101,116,95,105,116,101,109], .int l, teD a, teD i, teD b]
  | .cal l p as ah => .tup [.str [99,97,108,108], .int l, .str p, .tup (as.map teD), .bl ah]
  | .val k l a => .tup [.str k.s, .int l, teD a]
  | .brk l => .tup [.str [98,114,101,97,107], .int l]
  | .ite l c y n => .tup [.str [105,102], .int l, teD c, .tup (tssD y), .tup (tssD n)]
  | .whl l c b => .tup [.str [119,104,105,108,101], .int l, teD c, .tup (tssD b)]
  | .for_ l x lo hi b ah => .tup [.str [102,111,114], .int l, .str x, teD lo, teD hi, .tup (tssD b), .bl ah]
  | .try_ l b x c => .tup [.str [116,114,121], .int l, .tup (tssD b), .str x, .tup (tssD c)]
noncomputable def tssD : TSs → List D
  | .nil => []
  | .cons s r => tsD s :: tssD r
end
noncomputable def TSs.app : TSs → TSs → TSs
  | .nil, t => t
  | .cons s r, t => .cons s (r.app t)
theorem tssD_app : ∀ a b : TSs, tssD (a.app b) = tssD a ++ tssD b
  | .nil, b => by simp [TSs.app, tssD]
  | .cons s r, b => by simp [TSs.app, tssD, tssD_app r b]
/-- the names that are known at a place -/
structure Ev where
  recs : List (Nm × List Nm)
  procs : List (Nm × Nat)
  top : List Nm
  own : Option (List Nm)
  ctr : List Nm
  loops : Bool
noncomputable def namesD (ss : List Nm) : D := .tup (ss.map D.str)
noncomputable def recD (p : Nm × List Nm) : D := .tup [.str p.1, namesD p.2]
noncomputable def procD (p : Nm × Nat) : D := .tup [.str p.1, .int p.2]
noncomputable def ownD : Option (List Nm) → D
  | none => .non
  | some o => namesD o
noncomputable def Ev.obj (E : Ev) : LO := .ins 21143188211 [(504874445615731, .tup (E.recs.map recD)), (1041295160196917408499, .tup (E.procs.map procD)), (1914864, namesD E.top), (1833966, ownD E.own), (56224278413670771, namesD E.ctr), (29225646195, .bl E.loops)]
noncomputable def NmAt (h : LH) (n : Nat) (E : Ev) : Prop := h[n]? = some E.obj
theorem NmAt.app {h : LH} {n : Nat} {E : Ev} (a : NmAt h n E) (x : LH) : NmAt (h ++ x) n E := by
  unfold NmAt at *
  rw [List.getElem?_append_left (lt_of_get a), a]
noncomputable def sgs (ss : List Nm) : Prop := ∀ s ∈ ss, sgn s
structure Ev.ok (E : Ev) : Prop where
  recs : ∀ p ∈ E.recs, sgn p.1 ∧ sgs p.2
  procs : ∀ p ∈ E.procs, sgn p.1
  top : sgs E.top
  own : ∀ o, E.own = some o → sgs o
  ctr : sgs E.ctr
noncomputable def Ev.counter (E : Ev) (x : Nm) : Option Nat := idxL x E.ctr.reverse
/-- own: true -/
noncomputable def Ev.variable (E : Ev) (x : Nm) : Option (Bool × Nat) := match E.own.bind (idxL x) with
  | some i => some (true, i)
  | none => (idxL x E.top).map fun i => (false, i)
noncomputable def Ev.procedure (E : Ev) (x : Nm) : Option Nat := idxL x (E.procs.map (·.1))
noncomputable def Ev.hasRec (E : Ev) (x : Nm) : Bool := (E.recs.map (·.1)).contains x
noncomputable def Ev.hasFld (E : Ev) (x : Nm) : Bool := E.recs.any fun p => p.2.contains x
noncomputable def Ev.inside (E : Ev) (o : List Nm) : Ev := ⟨E.recs, E.procs, E.top, some o, [], false⟩
noncomputable def Ev.within (E : Ev) : Ev := { E with loops := true }
noncomputable def Ev.counting (E : Ev) (x : Nm) : Ev := { E with ctr := E.ctr ++ [x], loops := true }
noncomputable def varD : Option (Bool × Nat) → D
  | some (true, i) => .tup [.str [111,119,110], .int i]
  | some (false, i) => .tup [.str [116,111,112], .int i]
  | none => .non
theorem idxL_any (s : Nm) : ∀ ss : List Nm, ((ss.map D.str).any fun y => pyeq y (.str s)) = (idxL s ss).isSome
  | [] => rfl
  | t :: r => by
    simp only [List.map_cons, List.any_cons, pq_str_str, idxL]
    by_cases e : t = s
    · simp [e]
    · have : (t == s) = false := by simpa using e
      rw [this, Bool.false_or, idxL_any s r]
      simp [e]
theorem idxL_mem {s : Nm} : ∀ {ss : List Nm}, s ∈ ss → ∃ i, idxL s ss = some i
  | [], h => by cases h
  | t :: r, h => by
    unfold idxL
    by_cases e : t = s
    · exact ⟨0, by simp [e]⟩
    · obtain ⟨i, hi⟩ := idxL_mem (ss := r) (by rcases List.mem_cons.mp h with h | h; exact absurd h.symm e; exact h)
      exact ⟨i + 1, by simp [e, hi]⟩
theorem idxL_at {s : Nm} : ∀ {ss : List Nm} {i : Nat}, idxL s ss = some i → ss[i]? = some s
  | [], _, h => by cases h
  | t :: r, i, h => by
    unfold idxL at h
    by_cases e : t = s
    · simp [e] at h; subst h; simp [e]
    · simp [e] at h
      obtain ⟨j, hj, rfl⟩ := h
      simpa using idxL_at hj
theorem idxL_none {s : Nm} : ∀ {ss : List Nm}, s ∉ ss → idxL s ss = none
  | [], h => rfl
  | t :: r, h => by
    have h' : ¬ s = t ∧ s ∉ r := by simpa using h
    unfold idxL
    simp [Ne.symm h'.1, idxL_none h'.2]
theorem idxL_lt {s : Nm} {ss : List Nm} {i : Nat} (h : idxL s ss = some i) : i < ss.length := (List.getElem?_eq_some_iff.mp (idxL_at h)).1
theorem strsL_map : ∀ ss : List Nm, strsL (ss.map D.str) = some ss
  | [] => rfl
  | s :: r => by simp [strsL, strsL_map r]
theorem shp_str {s : Nm} (h : sgn s) : shp (.str s) = true := by
  unfold sgn at h
  simp only [shp, pur_str, h, dep_str]
  rfl
theorem shp_names {ss : List Nm} (h : sgs ss) : (ss.map D.str).all shp = true := by
  rw [List.all_eq_true]
  intro x hx
  obtain ⟨s, hs, rfl⟩ := List.mem_map.mp hx
  exact shp_str (h s hs)
/-- a walk for the first one that fits -/
theorem forL_find {asg : D → Lc → Option Lc} {body : Lc → LH → Option (Fl × Lc × LH)} {all : List D} (p : Nat → Bool) (r : Nat → D) (Inv : Lc → LH → Prop)
    (turn : ∀ i x σ h, all[i]? = some x → Inv σ h → ∃ σ' h', Inv σ' h' ∧ (asg x σ).bind (fun σ1 => body σ1 h) = some (if p i then .rt (r i) else .nx, σ', h')) {σ : Lc} {h : LH} (start : Inv σ h) :
    ∃ σ' h', Inv σ' h' ∧ forL asg body none all all σ h = some (match (List.range all.length).find? p with | some i => .rt (r i) | none => .nx, σ', h') := by
  obtain ⟨fl, σ', h', e, q⟩ := forL_run (asg := asg) (body := body) (g := none) (all := all) (σ := σ) (h := h) (fun i σ h => Inv σ h ∧ ∀ j < i, p j = false)
    (fun fl σ h => Inv σ h ∧ fl = match (List.range all.length).find? p with | some i => .rt (r i) | none => .nx) ⟨start, fun j hj => by omega⟩
    (fun i x σ h hx iv => by
      obtain ⟨σ', h', iv', e⟩ := turn i x σ h hx iv.1
      obtain ⟨σ1, a, b⟩ := Option.bind_eq_some_iff.mp e
      have hi : i < all.length := (List.getElem?_eq_some_iff.mp hx).1
      by_cases hp : p i = true
      · simp only [hp, if_true] at b
        refine ⟨σ1, _, σ', h', a, b, iv', ?_⟩
        have : (List.range all.length).find? p = some i := by
          rw [List.find?_range_eq_some]
          exact ⟨hp, by simpa using hi, fun j hj => by simpa using iv.2 j hj⟩
        rw [this]
      · have hp' : p i = false := by simpa using hp
        simp only [hp', Bool.false_eq_true, if_false] at b
        exact ⟨σ1, _, σ', h', a, b, trivial, iv', fun j hj => by
          by_cases q : j = i
          · subst q; exact hp'
          · exact iv.2 j (by omega)⟩)
    (fun σ h iv => ⟨iv.1, by
      have : (List.range all.length).find? p = none := by
        rw [List.find?_range_eq_none]
        intro j hj
        simpa using iv.2 j hj
      rw [this]⟩)
  exact ⟨σ', h', q.1, by rw [e, q.2]⟩
theorem find_go {asg : D → Lc → Option Lc} {body : Lc → LH → Option (Fl × Lc × LH)} {all : List D} {σ : Lc} {h : LH} {L : Option (Fl × Lc × LH)} {G : Prop} (e : forL asg body none all all σ h = L) (p : Nat → Bool) (r : Nat → D) (Inv : Lc → LH → Prop) (start : Inv σ h)
    (turn : ∀ i x σ h, all[i]? = some x → Inv σ h → ∃ σ' h', Inv σ' h' ∧ (asg x σ).bind (fun σ1 => body σ1 h) = some (if p i then .rt (r i) else .nx, σ', h'))
    (k : ∀ σ' h', Inv σ' h' → L = some (match (List.range all.length).find? p with | some i => .rt (r i) | none => .nx, σ', h') → G) : G := by
  obtain ⟨σ', h', iv, q⟩ := forL_find p r Inv turn start
  exact k σ' h' iv (e ▸ q)
theorem find_idxL (s : Nm) (ss : List Nm) (p : Nat → Bool) (hp : ∀ i < ss.length, p i = (ss[i]? == some s)) : (List.range ss.length).find? p = idxL s ss := by
  cases q : idxL s ss with
  | none =>
    rw [List.find?_range_eq_none]
    intro i hi
    rw [hp i hi]
    have : s ∉ ss := fun hm => by obtain ⟨j, hj⟩ := idxL_mem hm; rw [q] at hj; cases hj
    rw [List.getElem?_eq_getElem hi]
    simp
    intro e
    exact this (e ▸ List.getElem_mem hi)
  | some i =>
    rw [List.find?_range_eq_some]
    have hi := idxL_lt q
    refine ⟨by rw [hp i hi, idxL_at q]; simp, by simpa using hi, fun j hj => ?_⟩
    rw [hp j (by omega), List.getElem?_eq_getElem (by omega)]
    simp
    intro e
    have key : ∀ (ss : List Nm) (i j : Nat) (hj : j < ss.length), idxL s ss = some i → ss[j] = s → i ≤ j := by
      intro ss
      induction ss with
      | nil => intro i j hj; simp at hj
      | cons t r ih =>
        intro i j hj h e
        unfold idxL at h
        by_cases et : t = s
        · simp [et] at h; omega
        · simp [et] at h
          obtain ⟨k, hk, rfl⟩ := h
          cases j with
          | zero => exact absurd e et
          | succ j => have := ih k j (by simpa using hj) hk (by simpa using e); omega
    have := key ss i j (by omega) q e
    omega
theorem sg_all {s : Nm} (h : sgn s) : (s.all fun c => decide (c < 1114112)) = true := h
theorem nm_get {E : Ev} {h : LH} {n : Nat} (a : NmAt h n E) : h[n]? = some (.ins 21143188211 [(504874445615731, .tup (E.recs.map recD)), (1041295160196917408499, .tup (E.procs.map procD)), (1914864, namesD E.top), (1833966, ownD E.own), (56224278413670771, namesD E.ctr), (29225646195, .bl E.loops)]) := a
noncomputable def optI : Option Nat → D
  | some i => .int i
  | none => .non
theorem counter_ok (j : Nat) (hj : 1 ≤ j) {E : Ev} (ok : E.ok) (lc : E.ctr.length < 1000) {x : Nm} (sx : sgn x) {h : LH} {n : Nat} (a : NmAt h n E) : callN TT.pr j 726838724295606890549323807888004534353641360687318060281490199180639288113397923326191050713763565560762523129793450735611374963864306 [.ref n, .str x] h = some (optI (E.counter x), h) := by
  obtain ⟨j', hk'⟩ : ∃ k', j = k' + 1 := ⟨j - 1, by omega⟩
  subst hk'
  rw [callN_succ fn_Names_counter rfl]
  have e := nm_get a
  have lr : E.ctr.length < 4000000 := by omega
  simp! [F_Names_counter, e, namesD, lr]
  generalize hL : forL _ _ _ _ _ _ _ = L
  refine find_go hL (fun i => E.ctr.reverse[i]? == some x) (fun i => .int i) (fun σ h' => (∃ d, σ = [some (.ref n), some (.str x), d]) ∧ h' = h) ⟨⟨_, rfl⟩, rfl⟩ ?_ ?_
  · rintro i y σ h' hy ⟨⟨d, rfl⟩, rfl⟩
    obtain ⟨rfl, hi⟩ := rng_at0 hy
    have hat : atI (E.ctr.map D.str) ((E.ctr.length : Int) - 1 - i) = some (.str (E.ctr[E.ctr.length - 1 - i]'(by omega))) := by
      rw [atI_of (by omega) (by simp; omega)]
      rw [List.getElem?_map, show ((E.ctr.length : Int) - 1 - i).toNat = E.ctr.length - 1 - i by omega, List.getElem?_eq_getElem (by omega)]
      rfl
    have s1 := sg_all (ok.ctr _ (List.getElem_mem (l := E.ctr) (n := E.ctr.length - 1 - i) (by omega)))
    have s2 := sg_all sx
    refine ⟨[some (.ref n), some (.str x), some (.int i)], h', ⟨⟨_, rfl⟩, rfl⟩, ?_⟩
    have hr : E.ctr.reverse[i]? = some (E.ctr[E.ctr.length - 1 - i]'(by omega)) := by
      rw [List.getElem?_reverse (by omega), List.getElem?_eq_getElem (by omega)]
    rw [hr]
    by_cases q : E.ctr[E.ctr.length - 1 - i]'(by omega) = x
    · simp! [e, namesD, hat, s1, s2, q]
    · simp! [e, namesD, hat, s1, s2, q]
  · rintro σ' h' ⟨⟨d, rfl⟩, rfl⟩ rfl
    have fi := find_idxL x E.ctr.reverse (fun i => E.ctr.reverse[i]? == some x) (fun i _ => rfl)
    rw [List.length_reverse] at fi
    simp only [List.length_map, List.length_range, fi]
    unfold Ev.counter
    cases idxL x E.ctr.reverse <;> rfl
theorem procedure_ok (j : Nat) (hj : 1 ≤ j) {E : Ev} (ok : E.ok) (lc : E.procs.length < 1000) {x : Nm} (sx : sgn x) {h : LH} {n : Nat} (a : NmAt h n E) : callN TT.pr j 726838724295606890549323807888004534353641360687318060281490199180639288113397923326191050713763565560787483077103768097799728447453541 [.ref n, .str x] h = some (optI (E.procedure x), h) := by
  obtain ⟨j', hk'⟩ : ∃ k', j = k' + 1 := ⟨j - 1, by omega⟩
  subst hk'
  rw [callN_succ fn_Names_procedure rfl]
  have e := nm_get a
  have lr : E.procs.length < 4000000 := by omega
  simp! [F_Names_procedure, e, lr]
  generalize hL : forL _ _ _ _ _ _ _ = L
  refine find_go hL (fun i => (E.procs.map (·.1))[i]? == some x) (fun i => .int i) (fun σ h' => (∃ d, σ = [some (.ref n), some (.str x), d]) ∧ h' = h) ⟨⟨_, rfl⟩, rfl⟩ ?_ ?_
  · rintro i y σ h' hy ⟨⟨d, rfl⟩, rfl⟩
    obtain ⟨rfl, hi⟩ := rng_at0 hy
    have hat : atI (E.procs.map procD) (i : Int) = some (procD E.procs[i]) := by
      rw [atI_of (by omega) (by simp; omega)]
      simp [hi]
    have s1 := sg_all (ok.procs _ (List.getElem_mem hi))
    have s2 := sg_all sx
    refine ⟨[some (.ref n), some (.str x), some (.int i)], h', ⟨⟨_, rfl⟩, rfl⟩, ?_⟩
    have hr : (E.procs.map (·.1))[i]? = some E.procs[i].1 := by simp [hi]
    rw [hr]
    by_cases q : E.procs[i].1 = x
    · simp! [e, hat, s1, s2, q, procD]
    · simp! [e, hat, s1, s2, q, procD]
  · rintro σ' h' ⟨⟨d, rfl⟩, rfl⟩ rfl
    have fi := find_idxL x (E.procs.map (·.1)) (fun i => (E.procs.map (·.1))[i]? == some x) (fun i _ => rfl)
    rw [List.length_map] at fi
    simp only [List.length_map, List.length_range, fi]
    unfold Ev.procedure
    cases idxL x (E.procs.map (·.1)) <;> rfl
theorem in_names (ss : List Nm) (h : sgs ss) {x : Nm} (sx : sgn x) (H : LH) : inop TT.pr (.str x) (namesD ss) H = some (idxL x ss).isSome := by
  rw [namesD, in_tup, shp_str sx, shp_names h, idxL_any]
  rfl
theorem idx_names (ss : List Nm) (x : Nm) (H : LH) : method .tuple (namesD ss) .index [.str x] H = (idxL x ss).map fun (j : Nat) => (D.int (j : Int), H) := by
  rw [namesD, me_idx, strsL_map]; rfl
theorem variable_ok (j : Nat) (hj : 1 ≤ j) {E : Ev} (ok : E.ok) {x : Nm} (sx : sgn x) {h : LH} {n : Nat} (a : NmAt h n E) : callN TT.pr j 726838724295606890549323807888004534353641360687318060281490199180639288113397923326191050713763565560762716617757096609995960543131237 [.ref n, .str x] h = some (varD (E.variable x), h) := by
  obtain ⟨j', hk'⟩ : ∃ k', j = k' + 1 := ⟨j - 1, by omega⟩
  subst hk'
  rw [callN_succ fn_Names_variable rfl]
  have e := nm_get a
  have i1 := in_names E.top ok.top sx h
  have i2 := idx_names E.top x h
  have t1 : tyOf (namesD E.top) h = some .tuple := rfl
  unfold Ev.variable
  cases q : E.own with
  | none =>
    cases q1 : idxL x E.top with
    | none => simp! [F_Names_variable, e, q, ownD, i1, i2, t1, q1, varD]
    | some i => simp! [F_Names_variable, e, q, ownD, i1, i2, t1, q1, varD]
  | some o =>
    have i3 := in_names o (ok.own o q) sx h
    have i4 := idx_names o x h
    have t2 : tyOf (namesD o) h = some .tuple := rfl
    have n2 : isNon (namesD o) = false := rfl
    cases q0 : idxL x o with
    | none =>
      cases q1 : idxL x E.top with
      | none => simp! [F_Names_variable, e, q, ownD, i1, i2, t1, i3, i4, t2, n2, q0, q1, varD]
      | some i => simp! [F_Names_variable, e, q, ownD, i1, i2, t1, i3, i4, t2, n2, q0, q1, varD]
    | some i => simp! [F_Names_variable, e, q, ownD, i1, i2, t1, i3, i4, t2, n2, q0, varD]
theorem lc_map {α : Type} {asg : D → Lc → Option Lc} {test : Lc → LH → Option (Bool × LH)} {elt : Lc → LH → Option (D × LH)} {g : Option Nat} {all : List D} {σ : Lc} {h : LH} (gg : α → D) (b : α → Bool) (f : α → D) (hs : stays g all h) :
    ∀ (rest : List α) (acc : List D), (∀ x ∈ rest, ∃ σ1, asg (gg x) σ = some σ1 ∧ test σ1 h = some (b x, h) ∧ (b x = true → elt σ1 h = some (f x, h))) → acc.length + rest.length ≤ SZ →
      lcL asg test elt g all σ acc (rest.map gg) h = some (acc ++ (rest.filter b).map f, h)
  | [], acc, _, _ => by simp [lcL]
  | x :: r, acc, hx, hl => by
    obtain ⟨σ1, e1, e2, e3⟩ := hx x List.mem_cons_self
    have hr := fun y hy => hx y (List.mem_cons_of_mem _ hy)
    rw [List.map_cons]
    unfold lcL
    simp only [e1, e2, Option.bind_some]
    cases q : b x with
    | true =>
      simp only [if_true, e3 q, Option.bind_some]
      rw [if_pos ⟨hs, by simp at hl; omega⟩, lc_map gg b f hs r (acc ++ [f x]) hr (by simp at hl ⊢; omega)]
      simp [q]
    | false =>
      simp only [Bool.false_eq_true, if_false]
      rw [if_pos hs, lc_map gg b f hs r acc hr (by simp at hl ⊢; omega)]
      simp [q]
theorem hasrec_ok (j : Nat) (hj : 1 ≤ j) {E : Ev} (ok : E.ok) (lc : E.recs.length < 1000) {x : Nm} (sx : sgn x) {h : LH} {n : Nat} (a : NmAt h n E) : callN TT.pr j 726838724295606890549323807888004534353641360687318060281490199180639288113397923326191050713763565563957589873477643949750095491889508 [.ref n, .str x] h = some (.bl (E.hasRec x), h ++ [.lst (E.recs.map fun p => .str p.1)]) := by
  obtain ⟨j', hk'⟩ : ∃ k', j = k' + 1 := ⟨j - 1, by omega⟩
  subst hk'
  rw [callN_succ fn_Names_has_record rfl]
  have e := nm_get a
  simp! [F_Names_has_record, e]
  rw [lc_map recD (fun _ => true) (fun p => .str p.1) (by simp) E.recs [] (fun p _ => by simp! [recD, wipe, tgSl, tgsSl]) (by unfold SZ; simp; omega)]
  have s : ∀ p ∈ E.recs, shp (.str p.1) = true := fun p hp => shp_str (ok.recs p hp).1
  have s1 : (E.recs.map fun p => D.str p.1).all shp = true := by simpa using s
  have s2 := shp_str sx
  have i := idxL_any x (E.recs.map (·.1))
  rw [List.map_map] at i
  have i' : ((E.recs.map fun p => D.str p.1).any fun y => pyeq y (.str x)) = (idxL x (E.recs.map (·.1))).isSome := i
  have hc : (idxL x (E.recs.map (·.1))).isSome = E.hasRec x := by
    unfold Ev.hasRec
    cases q : idxL x (E.recs.map (·.1)) with
    | none =>
      have : ¬ x ∈ E.recs.map (·.1) := fun hm => by obtain ⟨j, hj⟩ := idxL_mem hm; rw [q] at hj; cases hj
      simpa using this
    | some i =>
      have := List.mem_of_getElem? (idxL_at q)
      simpa using this
  have fe : List.filter (fun _ => true) E.recs = E.recs := by simp
  simp only [fe, List.nil_append, z_lc2, alloc, z_c2, cm_in, in_ref]
  rw [List.getElem?_append_right (Nat.le_refl _), Nat.sub_self]
  simp only [List.getElem?_cons_zero, s1, s2, Bool.true_and, Bool.and_self, if_true, i', hc, Option.map_some, z_rt1, z_rt, fin_rt]
theorem hasfld_ok (j : Nat) (hj : 1 ≤ j) {E : Ev} (ok : E.ok) (lc : E.recs.length < 1000) {x : Nm} (sx : sgn x) {h : LH} {n : Nat} (a : NmAt h n E) : callN TT.pr j 726838724295606890549323807888004534353641360687318060281490199180639288113397923326191050713763565560787483077103767511786281961616996 [.ref n, .str x] h = some (.bl (E.hasFld x), h) := by
  obtain ⟨j', hk'⟩ : ∃ k', j = k' + 1 := ⟨j - 1, by omega⟩
  subst hk'
  rw [callN_succ fn_Names_has_field rfl]
  have e := nm_get a
  simp! [F_Names_has_field, e]
  rw [lc_map recD (fun _ => true) (fun p => .bl (idxL x p.2).isSome) (by simp) E.recs [] (fun p hp => by simp! [recD, wipe, tgSl, tgsSl, in_names p.2 (ok.recs p hp).2 sx h]) (by unfold SZ; simp; omega)]
  have fe : List.filter (fun _ => true) E.recs = E.recs := by simp
  have b : ∀ l : List (Nm × List Nm), bls (l.map fun p => D.bl (idxL x p.2).isSome) = some (l.map fun p => (idxL x p.2).isSome) := by
    intro l
    induction l with
    | nil => rfl
    | cons p l ih => simp [bls, ih]
  simp only [fe, List.nil_append, z_lb2, lcbF, b, Option.map_some, z_rt1, z_rt, fin_rt]
  have : (E.recs.map fun p => (idxL x p.2).isSome).any id = E.hasFld x := by
    unfold Ev.hasFld
    rw [List.any_map]
    congr 1
    funext p
    show (idxL x p.2).isSome = p.2.contains x
    cases q : idxL x p.2 with
    | none =>
      have : ¬ x ∈ p.2 := fun hm => by obtain ⟨j, hj⟩ := idxL_mem hm; rw [q] at hj; cases hj
      simpa using this
    | some i =>
      have := List.mem_of_getElem? (idxL_at q)
      simpa using this
  rw [this]
theorem names_new (j : Nat) (hj : 1 ≤ j) (E : Ev) (h : LH) (m : Nat) (hm : m = h.length) : callN TT.pr j 726838724295606890549323807888004534353641360687318060281490199180639288113397923326191050713763565560762716617757096597039007643021279 [.ref m, .tup (E.recs.map recD), .tup (E.procs.map procD), namesD E.top, ownD E.own, namesD E.ctr, .bl E.loops] (h ++ [.ins 21143188211 []]) = some (.non, h ++ [E.obj]) := by
  obtain ⟨j', hk'⟩ : ∃ k', j = k' + 1 := ⟨j - 1, by omega⟩
  subst hk'
  rw [callN_succ fn_Names___init__ rfl]
  subst hm
  have s : ∀ fs, setIns (h ++ [.ins 21143188211 []]) h.length 21143188211 fs = h ++ [.ins 21143188211 fs] := fun fs => by simp [setIns]
  have s2 : ∀ fs gs, setIns (h ++ [.ins 21143188211 fs]) h.length 21143188211 gs = h ++ [.ins 21143188211 gs] := fun fs gs => by simp [setIns]
  simp! [F_Names___init__, fldOk, cl_Names, s2, putL]
  rfl
theorem inside_ok (j : Nat) (hj : 2 ≤ j) {E : Ev} {h : LH} {n : Nat} (a : NmAt h n E) (o : List Nm) : callN TT.pr j 726838724295606890549323807888004534353641360687318060281490199180639288113397923326191050713763565560762521618168734752301032306012773 [.ref n, namesD o] h = some (.ref h.length, h ++ [(E.inside o).obj]) := by
  obtain ⟨j', hk'⟩ : ∃ k', j = k' + 1 := ⟨j - 1, by omega⟩
  subst hk'
  rw [callN_succ fn_Names_inside rfl]
  have e := nm_get a
  have nn := names_new j' (by omega) (E.inside o) h _ rfl
  have hf : callN TT.pr j' 726838724295606890549323807888004534353641360687318060281490199180639288113397923326191050713763565560762716617757096597039007643021279 [.ref h.length, .tup (E.recs.map recD), .tup (E.procs.map procD), namesD E.top, namesD o] (h ++ [.ins 21143188211 []]) = some (.non, h ++ [(E.inside o).obj]) := by
    obtain ⟨k, rfl⟩ : ∃ k, j' = k + 1 := ⟨j' - 1, by omega⟩
    rw [callN_def] at nn ⊢
    exact nn
  simp! [F_Names_inside, e, cl_Names, alloc, hf]
theorem within_ok (j : Nat) (hj : 2 ≤ j) {E : Ev} {h : LH} {n : Nat} (a : NmAt h n E) : callN TT.pr j 726838724295606890549323807888004534353641360687318060281490199180639288113397923326191050713763565969731259809351610747489741493237744 [.ref n] h = some (.ref h.length, h ++ [E.within.obj]) := by
  obtain ⟨j', hk'⟩ : ∃ k', j = k' + 1 := ⟨j - 1, by omega⟩
  subst hk'
  rw [callN_succ fn_Names_within_loop rfl]
  have e := nm_get a
  have nn := names_new j' (by omega) E.within h _ rfl
  simp only [Ev.within] at nn ⊢
  simp! [F_Names_within_loop, e, cl_Names, alloc, nn]
theorem counting_ok (j : Nat) (hj : 2 ≤ j) {E : Ev} {h : LH} {n : Nat} (a : NmAt h n E) (x : Nm) (lc : E.ctr.length < 1000) : callN TT.pr j 726838724295606890549323807888004534353641360687318060281490199180639288113397923326191050713763565560762716617757096599361588540634983 [.ref n, .str x] h = some (.ref h.length, h ++ [(E.counting x).obj]) := by
  obtain ⟨j', hk'⟩ : ∃ k', j = k' + 1 := ⟨j - 1, by omega⟩
  subst hk'
  rw [callN_succ fn_Names_counting rfl]
  have e := nm_get a
  have nn := names_new j' (by omega) (E.counting x) h _ rfl
  have l : E.ctr.length ≤ 16777215 := by omega
  simp only [Ev.counting, namesD, List.map_append, List.map_cons, List.map_nil] at nn ⊢
  simp! [F_Names_counting, e, cl_Names, alloc, nn, namesD, l]
noncomputable def TE.sg : TE → Prop
  | .cst _ => True
  | .nam x => sgn x
  | .both op a b => sgn op ∧ a.sg ∧ b.sg
  | .lg _ a b => a.sg ∧ b.sg
  | .un _ a => a.sg
  | .new r => sgn r
  | .fld a f => a.sg ∧ sgn f
  | .itm a b => a.sg ∧ b.sg
noncomputable def TR.sg : TR → Prop
  | .read => True
  | .expr e => e.sg
  | .call p as _ => sgn p ∧ ∀ e ∈ as, e.sg
mutual
noncomputable def TS.sg : TS → Prop
  | .asg _ _ x r => sgn x ∧ r.sg
  | .sfl _ a f b => a.sg ∧ sgn f ∧ b.sg
  | .sit _ a i b => a.sg ∧ i.sg ∧ b.sg
  | .cal _ p as _ => sgn p ∧ ∀ e ∈ as, e.sg
  | .val _ _ a => a.sg
  | .brk _ => True
  | .ite _ c y n => c.sg ∧ y.sg ∧ n.sg
  | .whl _ c b => c.sg ∧ b.sg
  | .for_ _ x lo hi b _ => sgn x ∧ lo.sg ∧ hi.sg ∧ b.sg
  | .try_ _ b x c => b.sg ∧ sgn x ∧ c.sg
noncomputable def TSs.sg : TSs → Prop
  | .nil => True
  | .cons s r => s.sg ∧ r.sg
end
noncomputable def htL (as : List TE) : Nat := (as.map TE.ht).foldl max 0
theorem foldl_max (l : List Nat) : ∀ a, a ≤ l.foldl max a ∧ ∀ x ∈ l, x ≤ l.foldl max a := by
  induction l with
  | nil => intro a; exact ⟨Nat.le_refl _, fun x h => by cases h⟩
  | cons y l ih =>
    intro a
    rw [List.foldl_cons]
    have := ih (max a y)
    refine ⟨by omega, fun x hx => ?_⟩
    rcases List.mem_cons.mp hx with rfl | hx
    · omega
    · exact this.2 x hx
theorem htL_mem {as : List TE} {e : TE} (h : e ∈ as) : e.ht ≤ htL as := (foldl_max (as.map TE.ht) 0).2 _ (List.mem_map.mpr ⟨e, h, rfl⟩)
noncomputable def TR.h : TR → Nat
  | .read => 0
  | .expr e => e.ht
  | .call _ as _ => htL as
mutual
noncomputable def TS.ht : TS → Nat
  | .asg _ _ _ r => r.h
  | .sfl _ a _ b => max a.ht b.ht
  | .sit _ a i b => max a.ht (max i.ht b.ht)
  | .cal _ _ as _ => htL as
  | .val _ _ a => a.ht
  | .brk _ => 0
  | .ite _ c y n => max c.ht (max y.ht n.ht + 2)
  | .whl _ c b => max c.ht (b.ht + 2)
  | .for_ _ _ lo hi b _ => max lo.ht (max hi.ht (b.ht + 2))
  | .try_ _ b _ c => max b.ht c.ht + 2
noncomputable def TSs.ht : TSs → Nat
  | .nil => 0
  | .cons s r => max s.ht r.ht
end
noncomputable def okE (E : Ev) : TE → Bool
  | .cst _ => true
  | .nam x => (E.counter x).isSome || (E.variable x).isSome
  | .both _ a b => okE E a && okE E b
  | .lg _ a b => okE E a && okE E b
  | .un _ a => okE E a
  | .new r => E.hasRec r
  | .fld a f => okE E a && E.hasFld f
  | .itm a b => okE E a && okE E b
noncomputable def okC (E : Ev) (p : Nm) (as : List TE) : Bool := (match E.procedure p with
  | some i => match E.procs[i]? with
    | some q => decide (as.length = q.2)
    | none => false
  | none => false) && as.all (okE E)
noncomputable def okR (E : Ev) : TR → Bool
  | .read => true
  | .expr e => okE E e
  | .call p as _ => okC E p as
mutual
noncomputable def okS (E : Ev) : TS → Bool
  | .asg v _ x r => okR E r && (E.counter x).isNone && (v || (E.counter x).isSome || (E.variable x).isSome)
  | .sfl _ a f b => okE E a && E.hasFld f && okE E b
  | .sit _ a i b => okE E a && okE E i && okE E b
  | .cal _ p as _ => okC E p as
  | .val k _ a => (match k with | .ret => E.own.isSome | _ => true) && okE E a
  | .brk _ => E.loops
  | .ite _ c y n => okE E c && okSs E y && okSs E n
  | .whl _ c b => okE E c && okSs E.within b
  | .for_ _ x lo hi b _ => okE E lo && okE E hi && (E.counter x).isNone && okSs (E.counting x) b
  | .try_ _ b x c => okSs E b && (E.counter x).isNone && okSs E c
noncomputable def okSs (E : Ev) : TSs → Bool
  | .nil => true
  | .cons s r => okS E s && okSs E r
end
/-- fit to be asked -/
structure Ev.fit (E : Ev) : Prop where
  ok : E.ok
  recs : E.recs.length < 1000
  procs : E.procs.length < 1000
  ctr : E.ctr.length < 900
noncomputable def Nop (r : Option (D × LH)) (h : LH) : Prop := ∃ x, r = some (.non, h ++ x)
theorem forL_n {asg : D → Lc → Option Lc} {body : Lc → LH → Option (Fl × Lc × LH)} {all : List D} {σ : Lc} {h : LH} : forL asg body none all [] σ h = some (.nx, σ, h) := rfl
theorem forL_c {asg : D → Lc → Option Lc} {body : Lc → LH → Option (Fl × Lc × LH)} {all : List D} {x : D} {r : List D} {σ : Lc} {h : LH} : forL asg body none all (x :: r) σ h = (asg x σ).bind fun σ1 => (body σ1 h).bind fun p => match p with
    | (.nx, σ2, h2) => forL asg body none all r σ2 h2
    | (.bk, σ2, h2) => some (.nx, σ2, h2)
    | (.rt d, σ2, h2) => some (.rt d, σ2, h2) := by
  rw [forL]
  congr 1
  funext σ1
  congr 1
  funext p
  obtain ⟨fl, σ2, h2⟩ := p
  cases fl <;> simp
theorem cut_1 (a : D) (r : List D) : cut (a :: r) (some 1) none = r := by
  rw [cut_from _ 1 1 rfl (by simp)]; rfl
theorem cut_2 (a b : D) (r : List D) : cut (a :: b :: r) (some 2) none = r := by
  rw [cut_from _ 2 2 rfl (by simp)]; rfl
theorem isNon_optI (o : Option Nat) : isNon (optI o) = o.isNone := by cases o <;> rfl
theorem isNon_varD (o : Option (Bool × Nat)) : isNon (varD o) = o.isNone := by
  cases o with
  | none => rfl
  | some p => obtain ⟨b, i⟩ := p; cases b <;> rfl
theorem check_name_ok (j : Nat) (hj : 2 ≤ j) {E : Ev} (F : E.fit) {x : Nm} (sx : sgn x) {h : LH} {n : Nat} (a : NmAt h n E) (l : D) (o : ((E.counter x).isSome || (E.variable x).isSome) = true) : callN TT.pr j 920665118482693125861 [.ref n, l, .str x] h = some (.non, h) := by
  obtain ⟨j', hk'⟩ : ∃ k', j = k' + 1 := ⟨j - 1, by omega⟩
  subst hk'
  rw [callN_succ fn_check_name rfl]
  have e := nm_get a
  have c := counter_ok j' (by omega) F.ok (by have := F.ctr; omega) sx a
  have v := variable_ok j' (by omega) F.ok sx a
  cases q : E.counter x with
  | some i => simp! [F_check_name, e, cl_Names, c, v, isNon_optI, q]
  | none =>
    cases q1 : E.variable x with
    | some i => simp! [F_check_name, e, cl_Names, c, v, isNon_optI, isNon_varD, q, q1]
    | none => rw [q, q1] at o; cases o
theorem check_target_ok (j : Nat) (hj : 2 ≤ j) {E : Ev} (F : E.fit) {x : Nm} (sx : sgn x) {h : LH} {n : Nat} (a : NmAt h n E) (l : D) (o : (E.counter x).isNone = true) : callN TT.pr j 15084177301220650343068404 [.ref n, l, .str x] h = some (.non, h) := by
  obtain ⟨j', hk'⟩ : ∃ k', j = k' + 1 := ⟨j - 1, by omega⟩
  subst hk'
  rw [callN_succ fn_check_target rfl]
  have e := nm_get a
  have c := counter_ok j' (by omega) F.ok (by have := F.ctr; omega) sx a
  simp! [F_check_target, e, cl_Names, c, isNon_optI, o]
theorem check_field_ok (j : Nat) (hj : 2 ≤ j) {E : Ev} (F : E.fit) {x : Nm} (sx : sgn x) {h : LH} {n : Nat} (a : NmAt h n E) (l : D) (o : E.hasFld x = true) : callN TT.pr j 117845135165782589273700 [.ref n, l, .str x] h = some (.non, h) := by
  obtain ⟨j', hk'⟩ : ∃ k', j = k' + 1 := ⟨j - 1, by omega⟩
  subst hk'
  rw [callN_succ fn_check_field rfl]
  have e := nm_get a
  have c := hasfld_ok j' (by omega) F.ok F.recs sx a
  simp! [F_check_field, e, cl_Names, c, o]
theorem check_expr_ok {E : Ev} (F : E.fit) : ∀ (t : TE), okE E t = true → t.sg → ∀ (j : Nat), t.ht + 3 ≤ j → ∀ (h : LH) (n : Nat) (l : D), NmAt h n E → Nop (callN TT.pr j 4049128012237877937124712096888814 [.ref n, l, teD t] h) h
  | .cst v, o, s, j, hj, h, n, l, a => by
    obtain ⟨j', hk'⟩ : ∃ k', j = k' + 1 := ⟨j - 1, by omega⟩
    subst hk'
    rw [callN_succ fn_check_expression rfl]
    refine ⟨[], ?_⟩
    simp! [F_check_expression, teD]
  | .nam x, o, s, j, hj, h, n, l, a => by
    obtain ⟨j', hk'⟩ : ∃ k', j = k' + 1 := ⟨j - 1, by omega⟩
    subst hk'
    rw [callN_succ fn_check_expression rfl]
    refine ⟨[], ?_⟩
    have c := check_name_ok j' (by omega) F s a l o
    simp! [F_check_expression, teD, c]
  | .new x, o, s, j, hj, h, n, l, a => by
    obtain ⟨j', hk'⟩ : ∃ k', j = k' + 1 := ⟨j - 1, by omega⟩
    subst hk'
    rw [callN_succ fn_check_expression rfl]
    have e := nm_get a
    have c := hasrec_ok j' (by omega) F.ok F.recs s a
    have o : E.hasRec x = true := o
    refine ⟨[.lst (E.recs.map fun p => .str p.1)], ?_⟩
    simp! [F_check_expression, teD, c, e, cl_Names, o]
  | .fld t x, o, s, j, hj, h, n, l, a => by
    have o : okE E t = true ∧ E.hasFld x = true := by simpa [okE] using o
    obtain ⟨j', hk'⟩ : ∃ k', j = k' + 1 := ⟨j - 1, by omega⟩
    subst hk'
    rw [callN_succ fn_check_expression rfl]
    obtain ⟨y, c⟩ := check_expr_ok F t o.1 s.1 j' (by simp [TE.ht] at hj; omega) h n l a
    have c2 := check_field_ok j' (by omega) F s.2 (a.app y) l o.2
    refine ⟨y, ?_⟩
    simp! [F_check_expression, teD, c, c2]
  | .both op t u, o, s, j, hj, h, n, l, a => by
    have o : okE E t = true ∧ okE E u = true := by simpa [okE] using o
    obtain ⟨j', hk'⟩ : ∃ k', j = k' + 1 := ⟨j - 1, by omega⟩
    subst hk'
    rw [callN_succ fn_check_expression rfl]
    obtain ⟨y, c⟩ := check_expr_ok F t o.1 s.2.1 j' (by simp [TE.ht] at hj; omega) h n l a
    obtain ⟨z, c2⟩ := check_expr_ok F u o.2 s.2.2 j' (by simp [TE.ht] at hj; omega) (h ++ y) n l (a.app y)
    refine ⟨y ++ z, ?_⟩
    simp! [F_check_expression, teD, c, c2]
  | .itm t u, o, s, j, hj, h, n, l, a => by
    have o : okE E t = true ∧ okE E u = true := by simpa [okE] using o
    obtain ⟨j', hk'⟩ : ∃ k', j = k' + 1 := ⟨j - 1, by omega⟩
    subst hk'
    rw [callN_succ fn_check_expression rfl]
    obtain ⟨y, c⟩ := check_expr_ok F t o.1 s.1 j' (by simp [TE.ht] at hj; omega) h n l a
    obtain ⟨z, c2⟩ := check_expr_ok F u o.2 s.2 j' (by simp [TE.ht] at hj; omega) (h ++ y) n l (a.app y)
    refine ⟨y ++ z, ?_⟩
    simp! [F_check_expression, teD, c, c2, cut_1, forL_c, forL_n]
  | .lg g t u, o, s, j, hj, h, n, l, a => by
    have o : okE E t = true ∧ okE E u = true := by simpa [okE] using o
    obtain ⟨j', hk'⟩ : ∃ k', j = k' + 1 := ⟨j - 1, by omega⟩
    subst hk'
    rw [callN_succ fn_check_expression rfl]
    obtain ⟨y, c⟩ := check_expr_ok F t o.1 s.1 j' (by simp [TE.ht] at hj; omega) h n l a
    obtain ⟨z, c2⟩ := check_expr_ok F u o.2 s.2 j' (by simp [TE.ht] at hj; omega) (h ++ y) n l (a.app y)
    refine ⟨y ++ z, ?_⟩
    cases g <;> simp! [F_check_expression, teD, c, c2, cut_1, forL_c, forL_n, lgS]
  | .un g t, o, s, j, hj, h, n, l, a => by
    obtain ⟨j', hk'⟩ : ∃ k', j = k' + 1 := ⟨j - 1, by omega⟩
    subst hk'
    rw [callN_succ fn_check_expression rfl]
    obtain ⟨y, c⟩ := check_expr_ok F t o s j' (by simp [TE.ht] at hj; omega) h n l a
    refine ⟨y, ?_⟩
    cases g <;> simp! [F_check_expression, teD, c, cut_1, forL_c, forL_n, Un.s]
/-- a walk that only says yes -/
theorem forL_nop {α : Type} {asg : D → Lc → Option Lc} {body : Lc → LH → Option (Fl × Lc × LH)} {all : List D} (gg : α → D) (Inv : Lc → Prop) (h0 : LH)
    : ∀ (rest : List α) (σ : Lc) (y : LH), Inv σ → (∀ x ∈ rest, ∀ σ y, Inv σ → ∃ σ' z, Inv σ' ∧ (asg (gg x) σ).bind (fun σ1 => body σ1 (h0 ++ y)) = some (.nx, σ', (h0 ++ y) ++ z)) → ∃ σ' z, Inv σ' ∧ forL asg body none all (rest.map gg) σ (h0 ++ y) = some (.nx, σ', h0 ++ z)
  | [], σ, y, iv, _ => ⟨σ, y, iv, rfl⟩
  | x :: r, σ, y, iv, t => by
    obtain ⟨σ1, z, iv1, e⟩ := t x List.mem_cons_self σ y iv
    obtain ⟨σ2, a, b⟩ := Option.bind_eq_some_iff.mp e
    rw [List.append_assoc] at b
    obtain ⟨σ', z', iv', e'⟩ := forL_nop gg Inv h0 r σ1 (y ++ z) iv1 fun x hx => t x (List.mem_cons_of_mem _ hx)
    refine ⟨σ', z', iv', ?_⟩
    rw [List.map_cons, forL_c, a, Option.bind_some, b, Option.bind_some]
    exact e'
theorem forL_nop0 {α : Type} {asg : D → Lc → Option Lc} {body : Lc → LH → Option (Fl × Lc × LH)} {all : List D} {σ : Lc} {h : LH} {L : Option (Fl × Lc × LH)} {G : Prop} (gg : α → D) (rest : List α) (e : forL asg body none all (rest.map gg) σ h = L) (Inv : Lc → Prop) (start : Inv σ)
    (t : ∀ x ∈ rest, ∀ σ y, Inv σ → ∃ σ' z, Inv σ' ∧ (asg (gg x) σ).bind (fun σ1 => body σ1 (h ++ y)) = some (.nx, σ', (h ++ y) ++ z)) (k : ∀ σ' z, Inv σ' → L = some (.nx, σ', h ++ z) → G) : G := by
  obtain ⟨σ', z, iv, q⟩ := forL_nop (all := all) gg Inv h rest σ [] start t
  rw [List.append_nil, e] at q
  exact k σ' z iv q
theorem check_call_ok {E : Ev} (F : E.fit) (p : Nm) (as : List TE) (o : okC E p as = true) (sp : sgn p) (ss : ∀ e ∈ as, e.sg) (j : Nat) (hj : htL as + 4 ≤ j) (h : LH) (n : Nat) (l : D) (a : NmAt h n E) : Nop (callN TT.pr j 920665118482670057068 [.ref n, l, .str p, .tup (as.map teD)] h) h := by
  obtain ⟨j', hk'⟩ : ∃ k', j = k' + 1 := ⟨j - 1, by omega⟩
  subst hk'
  rw [callN_succ fn_check_call rfl]
  have e := nm_get a
  have c := procedure_ok j' (by omega) F.ok F.procs sp a
  unfold okC at o
  cases q : E.procedure p with
  | none => rw [q] at o; cases o
  | some i =>
    rw [q] at o
    simp only at o
    cases q1 : E.procs[i]? with
    | none => rw [q1] at o; cases o
    | some pr =>
      rw [q1] at o
      simp only [Bool.and_eq_true, decide_eq_true_eq, List.all_eq_true] at o
      have hi : i < E.procs.length := (List.getElem?_eq_some_iff.mp q1).1
      have hat : atI (E.procs.map procD) (i : Int) = some (procD pr) := by
        rw [atI_of (by omega) (by simp; omega)]
        simp [q1]
      simp! [F_check_call, e, cl_Names, c, q, optI, hat, procD, o.1]
      generalize hL : forL _ _ _ _ _ _ _ = L
      refine forL_nop0 teD as hL (fun σ => ∃ d, σ = [some (.ref n), some l, some (.str p), some (.tup (as.map teD)), some (.int i), some (.int pr.2), d]) ⟨_, rfl⟩ ?_ ?_
      · rintro t ht σ y ⟨d, rfl⟩
        obtain ⟨z, c2⟩ := check_expr_ok F t (o.2 t ht) (ss t ht) j' (by have := htL_mem ht; omega) (h ++ y) n l (a.app y)
        refine ⟨_, z, ⟨some (teD t), rfl⟩, ?_⟩
        simp! [c2]
      · rintro σ' z ⟨d, rfl⟩ rfl
        exact ⟨z, rfl⟩
theorem check_right_ok {E : Ev} (F : E.fit) (r : TR) (o : okR E r = true) (s : r.sg) (j : Nat) (hj : r.h + 5 ≤ j) (h : LH) (n : Nat) (l : D) (a : NmAt h n E) : Nop (callN TT.pr j 117845135165785810531444 [.ref n, l, trD r] h) h := by
  obtain ⟨j', hk'⟩ : ∃ k', j = k' + 1 := ⟨j - 1, by omega⟩
  subst hk'
  rw [callN_succ fn_check_right rfl]
  cases r with
  | read => exact ⟨[], by simp! [F_check_right, trD]⟩
  | expr e =>
    obtain ⟨z, c⟩ := check_expr_ok F e o s j' (by simp [TR.h] at hj; omega) h n l a
    exact ⟨z, by simp! [F_check_right, trD, c]⟩
  | call p as ah =>
    obtain ⟨z, c⟩ := check_call_ok F p as o s.1 s.2 j' (by simp [TR.h] at hj; omega) h n l a
    exact ⟨z, by simp! [F_check_right, trD, c]⟩
theorem check_var_ok {E : Ev} (F : E.fit) (k : D) (l : Int) (x : Nm) (r : TR) (o : okR E r = true) (o2 : (E.counter x).isNone = true) (sx : sgn x) (s : r.sg) (j : Nat) (hj : r.h + 6 ≤ j) (h : LH) (n : Nat) (a : NmAt h n E) : Nop (callN TT.pr j 7192696238146171122 [.ref n, .tup [k, .int l, .str x, trD r]] h) h := by
  obtain ⟨j', hk'⟩ : ∃ k', j = k' + 1 := ⟨j - 1, by omega⟩
  subst hk'
  rw [callN_succ fn_check_var rfl]
  obtain ⟨z, c⟩ := check_right_ok F r o s j' (by omega) h n (.int l) a
  have c2 := check_target_ok j' (by omega) F sx (a.app z) (.int l) o2
  exact ⟨z, by simp! [F_check_var, c, c2]⟩
noncomputable def ruleOf : TS → Nat
  | .asg v _ _ _ => if v then 7192696238146171122 else 7192696238146122484
  | .sfl _ _ _ _ => 31633812595609419510993827493476
  | .sit _ _ _ _ => 247139160903198589929645748973
  | .cal _ _ _ _ => 1086929524367442947267950861656524089554804
  | .val k _ _ => match k with | .ret => 15084177301220582701758830 | _ => 117845135165786867579621
  | .brk _ => 117845135165781534404843
  | .ite _ _ _ _ => 56192939360515302
  | .whl _ _ _ => 117845135165787150644837
  | .for_ _ _ _ _ _ _ => 7192696238145910770
  | .try_ _ _ _ _ => 7192696238146140537
noncomputable def kindOf : TS → Nm
  | .asg v _ _ _ => asS v
  | .sfl _ _ _ _ => [115,101,116,95,102,105,101,108,100]
  | .sit _ _ _ _ => [115,101,116,95,105,116,101,109]
  | .cal _ _ _ _ => [99,97,108,108]
  | .val k _ _ => k.s
  | .brk _ => [98,114,101,97,107]
  | .ite _ _ _ _ => [105,102]
  | .whl _ _ _ => [119,104,105,108,101]
  | .for_ _ _ _ _ _ _ => [102,111,114]
  | .try_ _ _ _ _ => [116,114,121]
theorem kind_at (s : TS) : ∃ r, tsD s = .tup (.str (kindOf s) :: r) := by cases s <;> exact ⟨_, rfl⟩
noncomputable def checksL : List (List Nat × D) := [([118,97,114], .fn 7192696238146171122), ([115,101,116], .fn 7192696238146122484), ([115,101,116,95,102,105,101,108,100], .fn 31633812595609419510993827493476), ([115,101,116,95,105,116,101,109], .fn 247139160903198589929645748973), ([99,97,108,108], .fn 1086929524367442947267950861656524089554804), ([105,102], .fn 56192939360515302), ([119,104,105,108,101], .fn 117845135165787150644837), ([102,111,114], .fn 7192696238145910770), ([114,101,116,117,114,110], .fn 15084177301220582701758830), ([98,114,101,97,107], .fn 117845135165781534404843), ([116,104,114,111,119], .fn 117845135165786867579621), ([112,114,105,110,116], .fn 117845135165786867579621), ([116,114,121], .fn 7192696238146140537)]
theorem kd_checks : TT.pr.kd 2321575634387 = some checksL := kd_CHECKS
theorem rule_at (s : TS) : checksL.lookup (kindOf s) = some (.fn (ruleOf s)) := by
  cases s with
  | asg v _ _ _ => cases v <;> rfl
  | val k _ _ => cases k <;> rfl
  | _ => rfl
theorem Ev.within_fit {E : Ev} (F : E.fit) : E.within.fit := ⟨⟨F.ok.recs, F.ok.procs, F.ok.top, F.ok.own, F.ok.ctr⟩, F.recs, F.procs, F.ctr⟩
mutual
theorem check_rule : ∀ (s : TS) {E : Ev} (F : E.fit) (m : Nat) (lc : E.ctr.length + m < 900) (hm : s.ht ≤ m) (o : okS E s = true) (g : s.sg) (j : Nat) (hj : s.ht + 8 ≤ j) (h : LH) (n : Nat) (a : NmAt h n E), Nop (callN TT.pr j (ruleOf s) [.ref n, tsD s] h) h
  | .asg v l x r, E, F, m, lc, hm, o, g, j, hj, h, n, a => by
    simp only [okS, Bool.and_eq_true] at o
    simp only [TS.ht] at hj
    cases v with
    | true => exact check_var_ok F _ l x r o.1.1 o.1.2 g.1 g.2 j (by omega) h n a
    | false =>
      show Nop (callN TT.pr j 7192696238146122484 _ h) h
      obtain ⟨j', hk'⟩ : ∃ k', j = k' + 1 := ⟨j - 1, by omega⟩
      subst hk'
      rw [callN_succ fn_check_set rfl]
      obtain ⟨z, c⟩ := check_var_ok F (.str (asS false)) l x r o.1.1 o.1.2 g.1 g.2 j' (by omega) h n a
      have c2 := check_name_ok j' (by omega) F g.1 (a.app z) (.int l) (by simpa using o.2)
      exact ⟨z, by simp! [F_check_set, tsD, c, c2]⟩
  | .sfl l t f u, E, F, m, lc, hm, o, g, j, hj, h, n, a => by
    simp only [okS, Bool.and_eq_true] at o
    simp only [TS.ht] at hj
    show Nop (callN TT.pr j 31633812595609419510993827493476 _ h) h
    obtain ⟨j', hk'⟩ : ∃ k', j = k' + 1 := ⟨j - 1, by omega⟩
    subst hk'
    rw [callN_succ fn_check_set_field rfl]
    obtain ⟨z, c⟩ := check_expr_ok F t o.1.1 g.1 j' (by omega) h n (.int l) a
    have c2 := check_field_ok j' (by omega) F g.2.1 (a.app z) (.int l) o.1.2
    obtain ⟨z', c3⟩ := check_expr_ok F u o.2 g.2.2 j' (by omega) (h ++ z) n (.int l) (a.app z)
    exact ⟨z ++ z', by simp! [F_check_set_field, tsD, c, c2, c3]⟩
  | .sit l t i u, E, F, m, lc, hm, o, g, j, hj, h, n, a => by
    simp only [okS, Bool.and_eq_true] at o
    simp only [TS.ht] at hj
    show Nop (callN TT.pr j 247139160903198589929645748973 _ h) h
    obtain ⟨j', hk'⟩ : ∃ k', j = k' + 1 := ⟨j - 1, by omega⟩
    subst hk'
    rw [callN_succ fn_check_set_item rfl]
    obtain ⟨z, c⟩ := check_expr_ok F t o.1.1 g.1 j' (by omega) h n (.int l) a
    obtain ⟨z', c2⟩ := check_expr_ok F i o.1.2 g.2.1 j' (by omega) (h ++ z) n (.int l) (a.app z)
    obtain ⟨z'', c3⟩ := check_expr_ok F u o.2 g.2.2 j' (by omega) (h ++ (z ++ z')) n (.int l) (a.app (z ++ z'))
    exact ⟨z ++ (z' ++ z''), by simp! [F_check_set_item, tsD, c, c2, c3, cut_2, forL_c, forL_n]⟩
  | .cal l p as ah, E, F, m, lc, hm, o, g, j, hj, h, n, a => by
    simp only [TS.ht] at hj
    show Nop (callN TT.pr j 1086929524367442947267950861656524089554804 _ h) h
    obtain ⟨j', hk'⟩ : ∃ k', j = k' + 1 := ⟨j - 1, by omega⟩
    subst hk'
    rw [callN_succ fn_check_call_statement rfl]
    obtain ⟨z, c⟩ := check_call_ok F p as o g.1 g.2 j' (by omega) h n (.int l) a
    exact ⟨z, by simp! [F_check_call_statement, tsD, c]⟩
  | .val k l t, E, F, m, lc, hm, o, g, j, hj, h, n, a => by
    simp only [okS, Bool.and_eq_true] at o
    simp only [TS.ht] at hj
    have e := nm_get a
    cases k with
    | ret =>
      show Nop (callN TT.pr j 15084177301220582701758830 _ h) h
      obtain ⟨j', hk'⟩ : ∃ k', j = k' + 1 := ⟨j - 1, by omega⟩
      subst hk'
      rw [callN_succ fn_check_return rfl]
      obtain ⟨z, c⟩ := check_expr_ok F t o.2 g j' (by omega) h n (.int l) a
      cases q : E.own with
      | none => rw [q] at o; cases o.1
      | some ow =>
        have n2 : isNon (namesD ow) = false := rfl
        exact ⟨z, by simp! [F_check_return, tsD, Vk.s, c, e, q, ownD, n2]⟩
    | thr =>
      show Nop (callN TT.pr j 117845135165786867579621 _ h) h
      obtain ⟨j', hk'⟩ : ∃ k', j = k' + 1 := ⟨j - 1, by omega⟩
      subst hk'
      rw [callN_succ fn_check_value rfl]
      obtain ⟨z, c⟩ := check_expr_ok F t o.2 g j' (by omega) h n (.int l) a
      exact ⟨z, by simp! [F_check_value, tsD, Vk.s, c]⟩
    | prn =>
      show Nop (callN TT.pr j 117845135165786867579621 _ h) h
      obtain ⟨j', hk'⟩ : ∃ k', j = k' + 1 := ⟨j - 1, by omega⟩
      subst hk'
      rw [callN_succ fn_check_value rfl]
      obtain ⟨z, c⟩ := check_expr_ok F t o.2 g j' (by omega) h n (.int l) a
      exact ⟨z, by simp! [F_check_value, tsD, Vk.s, c]⟩
  | .brk l, E, F, m, lc, hm, o, g, j, hj, h, n, a => by
    show Nop (callN TT.pr j 117845135165781534404843 _ h) h
    have e := nm_get a
    have o : E.loops = true := o
    obtain ⟨j', hk'⟩ : ∃ k', j = k' + 1 := ⟨j - 1, by omega⟩
    subst hk'
    rw [callN_succ fn_check_break rfl]
    exact ⟨[], by simp! [F_check_break, tsD, e, o]⟩
  | .ite l t y u, E, F, m, lc, hm, o, g, j, hj, h, n, a => by
    simp only [okS, Bool.and_eq_true] at o
    simp only [TS.ht] at hj hm
    show Nop (callN TT.pr j 56192939360515302 _ h) h
    obtain ⟨j', hk'⟩ : ∃ k', j = k' + 1 := ⟨j - 1, by omega⟩
    subst hk'
    rw [callN_succ fn_check_if rfl]
    obtain ⟨z, c⟩ := check_expr_ok F t o.1.1 g.1 j' (by omega) h n (.int l) a
    obtain ⟨z', c2⟩ := check_blk y F m lc (by omega) o.1.2 g.2.1 j' (by omega) (h ++ z) n (a.app z)
    obtain ⟨z'', c3⟩ := check_blk u F m lc (by omega) o.2 g.2.2 j' (by omega) (h ++ (z ++ z')) n (a.app (z ++ z'))
    exact ⟨z ++ (z' ++ z''), by simp! [F_check_if, tsD, c, c2, c3]⟩
  | .whl l t b, E, F, m, lc, hm, o, g, j, hj, h, n, a => by
    simp only [okS, Bool.and_eq_true] at o
    simp only [TS.ht] at hj hm
    show Nop (callN TT.pr j 117845135165787150644837 _ h) h
    obtain ⟨j', hk'⟩ : ∃ k', j = k' + 1 := ⟨j - 1, by omega⟩
    subst hk'
    rw [callN_succ fn_check_while rfl]
    have e := nm_get a
    obtain ⟨z, c⟩ := check_expr_ok F t o.1 g.1 j' (by omega) h n (.int l) a
    have c2 := within_ok j' (by omega) (a.app z)
    have e1 := nm_get (a.app z)
    obtain ⟨z', c3⟩ := check_blk b (Ev.within_fit F) m lc (by omega) o.2 g.2 j' (by omega) (h ++ (z ++ [E.within.obj])) (h ++ z).length (by unfold NmAt; rw [← List.append_assoc, List.getElem?_append_right (Nat.le_refl _), Nat.sub_self]; rfl)
    rw [List.length_append] at c2 c3
    exact ⟨z ++ E.within.obj :: z', by simp! [F_check_while, tsD, c, c2, c3, e1, cl_Names]⟩
  | .for_ l x t u b ah, E, F, m, lc, hm, o, g, j, hj, h, n, a => by
    simp only [okS, Bool.and_eq_true] at o
    simp only [TS.ht] at hj hm
    show Nop (callN TT.pr j 7192696238145910770 _ h) h
    obtain ⟨j', hk'⟩ : ∃ k', j = k' + 1 := ⟨j - 1, by omega⟩
    subst hk'
    rw [callN_succ fn_check_for rfl]
    obtain ⟨z, c⟩ := check_expr_ok F t o.1.1.1 g.2.1 j' (by omega) h n (.int l) a
    obtain ⟨z', c2⟩ := check_expr_ok F u o.1.1.2 g.2.2.1 j' (by omega) (h ++ z) n (.int l) (a.app z)
    have a2 := a.app (z ++ z')
    have c3 := counter_ok j' (by omega) F.ok (by have := F.ctr; omega) g.1 a2
    have c4 := counting_ok j' (by omega) a2 x (by have := F.ctr; omega)
    have e1 := nm_get a2
    have F' : (E.counting x).fit := ⟨⟨F.ok.recs, F.ok.procs, F.ok.top, F.ok.own, fun s hs => by
      rcases List.mem_append.mp hs with hs | hs
      · exact F.ok.ctr s hs
      · cases List.mem_singleton.mp hs; exact g.1⟩, F.recs, F.procs, by simp [Ev.counting]; omega⟩
    obtain ⟨z'', c5⟩ := check_blk b F' (m - 1) (by simp [Ev.counting]; omega) (by omega) o.2 g.2.2.2 j' (by omega) (h ++ ((z ++ z') ++ [(E.counting x).obj])) (h ++ (z ++ z')).length (by unfold NmAt; rw [← List.append_assoc, List.getElem?_append_right (Nat.le_refl _), Nat.sub_self]; rfl)
    have q : E.counter x = none := by
      have := o.1.2
      cases q : E.counter x with
      | none => rfl
      | some _ => rw [q] at this; cases this
    simp only [List.append_assoc, List.length_append] at c3 c4 c5 e1
    exact ⟨z ++ (z' ++ (E.counting x).obj :: z''), by simp! [F_check_for, tsD, c, c2, c3, c4, c5, e1, cl_Names, q, optI]⟩
  | .try_ l b x u, E, F, m, lc, hm, o, g, j, hj, h, n, a => by
    simp only [okS, Bool.and_eq_true] at o
    simp only [TS.ht] at hj hm
    show Nop (callN TT.pr j 7192696238146140537 _ h) h
    obtain ⟨j', hk'⟩ : ∃ k', j = k' + 1 := ⟨j - 1, by omega⟩
    subst hk'
    rw [callN_succ fn_check_try rfl]
    obtain ⟨z, c⟩ := check_blk b F m lc (by omega) o.1.1 g.1 j' (by omega) h n a
    have c2 := check_target_ok j' (by omega) F g.2.1 (a.app z) (.int l) o.1.2
    obtain ⟨z', c3⟩ := check_blk u F m lc (by omega) o.2 g.2.2 j' (by omega) (h ++ z) n (a.app z)
    exact ⟨z ++ z', by simp! [F_check_try, tsD, c, c2, c3]⟩
theorem check_blk : ∀ (r : TSs) {E : Ev} (F : E.fit) (m : Nat) (lc : E.ctr.length + m < 900) (hm : r.ht ≤ m) (o : okSs E r = true) (g : r.sg) (j : Nat) (hj : r.ht + 9 ≤ j) (h : LH) (n : Nat) (a : NmAt h n E), Nop (callN TT.pr j 117845135165781521986027 [.ref n, .tup (tssD r)] h) h
  | r, E, F, m, lc, hm, o, g, j, hj, h, n, a => by
    obtain ⟨j', hk'⟩ : ∃ k', j = k' + 1 := ⟨j - 1, by omega⟩
    subst hk'
    rw [callN_succ fn_check_block rfl]
    obtain ⟨σ', x, e⟩ := check_row r F m lc hm o g j' (by omega) h n a (tssD r) (.tup (tssD r)) none none
    simp! [F_check_block]
    rw [e]
    exact ⟨x, rfl⟩
theorem check_row : ∀ (r : TSs) {E : Ev} (F : E.fit) (m : Nat) (lc : E.ctr.length + m < 900) (hm : r.ht ≤ m) (o : okSs E r = true) (g : r.sg) (j : Nat) (hj : r.ht + 8 ≤ j) (h : LH) (n : Nat) (a : NmAt h n E) (all : List D) (b : D) (d e : Option D),
    ∃ σ' x, forL (tgF (.nm 2)) (bodyF TT.pr (callN TT.pr j) (.cons (.asg (.nm 3) (.ix (.gv 2321575634387) (.ix (.lv 2) (.int 0)))) (.cons (.exp (.calv 3 (.cons (.lv 0) (.cons (.lv 2) .nil)))) .nil))) none all (tssD r) [some (.ref n), some b, d, e] h = some (.nx, σ', h ++ x)
  | .nil, E, F, m, lc, hm, o, g, j, hj, h, n, a, all, b, d, e => ⟨[some (.ref n), some b, d, e], [], by simp [tssD, forL_n]⟩
  | .cons s r, E, F, m, lc, hm, o, g, j, hj, h, n, a, all, b, d, e => by
    simp only [okSs, Bool.and_eq_true] at o
    simp only [TSs.ht] at hj hm
    obtain ⟨z, c⟩ := check_rule s F m lc (by omega) o.1 g.1 j (by omega) h n a
    obtain ⟨rr, hr⟩ := kind_at s
    have l := rule_at s
    obtain ⟨σ', z', c2⟩ := check_row r F m lc (by omega) o.2 g.2 j (by omega) (h ++ z) n (a.app z) all b (some (tsD s)) (some (.fn (ruleOf s)))
    rw [hr] at c c2
    refine ⟨σ', z ++ z', ?_⟩
    rw [tssD, forL_c, hr]
    simp! [gv_CHECKS, kd_checks, l, c, c2]
end
noncomputable def Le (h h' : LH) : Prop := ∃ x, h' = h ++ x
theorem Le.refl (h : LH) : Le h h := ⟨[], by simp⟩
theorem Le.trans {h h' h'' : LH} (a : Le h h') (b : Le h' h'') : Le h h'' := by
  obtain ⟨x, rfl⟩ := a
  obtain ⟨y, rfl⟩ := b
  exact ⟨x ++ y, by simp⟩
theorem Le.app (h x : LH) : Le h (h ++ x) := ⟨x, rfl⟩
theorem Le.get {h h' : LH} (l : Le h h') {a : Nat} {o : LO} (e : h[a]? = some o) : h'[a]? = some o := by
  obtain ⟨x, rfl⟩ := l
  rw [List.getElem?_append_left (lt_of_get e), e]
theorem Le.nm {h h' : LH} (l : Le h h') {n : Nat} {E : Ev} (a : NmAt h n E) : NmAt h' n E := l.get a
/-- a list comes of it -/
noncomputable def RL (L : List D) (h : LH) (r : Option (D × LH)) : Prop := ∃ a h', r = some (.ref a, h') ∧ Le h h' ∧ h'[a]? = some (.lst L)
theorem at_end (h : LH) (o : LO) (r : LH) : (h ++ o :: r)[h.length]? = some o := by
  rw [List.getElem?_append_right (Nat.le_refl _), Nat.sub_self]; rfl
theorem at_end1 (h : LH) (o o' : LO) (r : LH) : (h ++ o :: o' :: r)[h.length + 1]? = some o' := by
  rw [List.getElem?_append_right (by omega), show h.length + 1 - h.length = 1 by omega]; rfl
theorem at_end2 (h : LH) (o o' o'' : LO) (r : LH) : (h ++ o :: o' :: o'' :: r)[h.length + 1 + 1]? = some o'' := by
  rw [List.getElem?_append_right (by omega), show h.length + 1 + 1 - h.length = 2 by omega]; rfl
theorem at_old {h : LH} {a : Nat} {o : LO} (e : h[a]? = some o) (r : LH) : (h ++ r)[a]? = some o := by
  rw [List.getElem?_append_left (lt_of_get e), e]
noncomputable def ins (k : Nm) (ps : List D) : D := .tup (.str k :: ps)
noncomputable def opC (op : Nm) : List D :=
  if op = [62] then [ins [98,111,116,104] [.str [60,61]], ins [110,111,116] []]
  else if op = [62,61] then [ins [98,111,116,104] [.str [60]], ins [110,111,116] []]
  else if op = [33,61] then [ins [98,111,116,104] [.str [61,61]], ins [110,111,116] []]
  else [ins [98,111,116,104] [.str op]]
noncomputable def Un.code : Un → List D
  | .not => [ins [110,111,116] []]
  | .minus => [ins [109,105,110,117,115] []]
  | .size => [ins [115,105,122,101] [], ins [115,105,122,101,100] []]
  | .array => [ins [99,104,101,99,107,95,115,105,122,101] [], ins [109,97,107,101] [], ins [116,97,103,95,115,105,122,101] []]
noncomputable def lowE (E : Ev) : Int → TE → List D
  | _, .cst v => [ins [112,117,115,104] [v]]
  | _, .nam x => match E.counter x with
    | some d => [ins [99,111,117,110,116,101,114] [.int d]]
    | none => [ins [108,111,97,100] [varD (E.variable x)]]
  | a, .both op t u => lowE E a t ++ lowE E (a + (lowE E a t).length) u ++ opC op
  | a, .lg o t u => lowE E a t ++ [ins (lgS o ++ [95,106,117,109,112]) [.int (a + (lowE E a t).length + 1 + (lowE E (a + (lowE E a t).length + 1) u).length)]] ++ lowE E (a + (lowE E a t).length + 1) u
  | a, .un k t => lowE E a t ++ k.code
  | _, .new r => [ins [109,97,107,101] [], ins [116,97,103] [.str r]]
  | a, .fld t f => lowE E a t ++ [ins [107,105,110,100] [], ins [102,105,101,108,100] [.str f]]
  | a, .itm t u => lowE E a t ++ [ins [107,105,110,100] []] ++ lowE E (a + (lowE E a t ++ [ins [107,105,110,100] []]).length) u ++ [ins [105,116,101,109] []]
noncomputable def TE.sz : TE → Nat
  | .cst _ => 1
  | .nam _ => 1
  | .both op t u => t.sz + u.sz + (opC op).length
  | .lg _ t u => t.sz + 1 + u.sz
  | .un k t => t.sz + k.code.length
  | .new _ => 2
  | .fld t _ => t.sz + 2
  | .itm t u => t.sz + 1 + (u.sz + 1)
theorem lowE_len (E : Ev) : ∀ (t : TE) (a : Int), (lowE E a t).length = t.sz
  | .cst _, _ => rfl
  | .nam x, _ => by unfold lowE; cases E.counter x <;> rfl
  | .both op t u, a => by simp [lowE, TE.sz, lowE_len E t, lowE_len E u]; omega
  | .lg _ t u, a => by simp [lowE, TE.sz, lowE_len E t, lowE_len E u]; omega
  | .un k t, a => by simp [lowE, TE.sz, lowE_len E t]
  | .new _, _ => rfl
  | .fld t _, a => by simp [lowE, TE.sz, lowE_len E t]
  | .itm t u, a => by simp [lowE, TE.sz, lowE_len E t, lowE_len E u]; omega
theorem opC_len (op : Nm) : (opC op).length ≤ 2 := by unfold opC; (repeat' split) <;> simp
theorem op_lst {h : LH} {p q : Nat} {xs ys : List D} (e1 : h[p]? = some (.lst xs)) (e2 : h[q]? = some (.lst ys)) (l : xs.length + ys.length ≤ 16000000) : binop .add (.ref p) (.ref q) h = some (.ref h.length, h ++ [.lst (xs ++ ys)]) := by
  rw [op_addl, e1, e2]
  simp only
  rw [if_pos (by unfold SZ; omega)]
  rfl
theorem lower_name_ok (j : Nat) (hj : 2 ≤ j) {E : Ev} (F : E.fit) {x : Nm} (sx : sgn x) {h : LH} {n : Nat} (a : NmAt h n E) (l : Int) : RL (lowE E l (.nam x)) h (callN TT.pr j 1004190012108424378085 [.ref n, .int l, teD (.nam x)] h) := by
  obtain ⟨j', hk'⟩ : ∃ k', j = k' + 1 := ⟨j - 1, by omega⟩
  subst hk'
  rw [callN_succ fn_lower_name rfl]
  have e := nm_get a
  have c := counter_ok j' (by omega) F.ok (by have := F.ctr; omega) sx a
  have v := variable_ok j' (by omega) F.ok sx a
  unfold lowE
  cases q : E.counter x with
  | some i => exact ⟨h.length, h ++ [.lst [ins [99,111,117,110,116,101,114] [.int i]]], by simp! [F_lower_name, e, cl_Names, c, isNon_optI, q, teD, alloc, optI, ins], .app _ _, at_end _ _ _⟩
  | none => exact ⟨h.length, h ++ [.lst [ins [108,111,97,100] [varD (E.variable x)]]], by simp! [F_lower_name, e, cl_Names, c, v, isNon_optI, q, teD, alloc, optI, ins], .app _ _, at_end _ _ _⟩
theorem turned_look : TT.pr.kd 2909208289988 = some [([62], .str [60,61]), ([62,61], .str [60]), ([33,61], .str [61,61])] := kd_TURNED
theorem lower_expr_ok {E : Ev} (F : E.fit) : ∀ (t : TE), t.sg → t.sz ≤ 1000000 → ∀ (j : Nat), 2 * t.ht + 3 ≤ j → ∀ (h : LH) (n : Nat) (l : Int), NmAt h n E → RL (lowE E l t) h (callN TT.pr j 4416474379238857999729212337584110 [.ref n, .int l, teD t] h)
  | .cst v, s, z, j, hj, h, n, l, a => by
    obtain ⟨j', hk'⟩ : ∃ k', j = k' + 1 := ⟨j - 1, by omega⟩
    subst hk'
    rw [callN_succ fn_lower_expression rfl]
    exact ⟨h.length, h ++ [.lst [ins [112,117,115,104] [v]]], by simp! [F_lower_expression, teD, alloc, ins], .app _ _, at_end _ _ _⟩
  | .nam x, s, z, j, hj, h, n, l, a => by
    obtain ⟨j', hk'⟩ : ∃ k', j = k' + 1 := ⟨j - 1, by omega⟩
    subst hk'
    rw [callN_succ fn_lower_expression rfl]
    obtain ⟨p, h1, c, l1, f1⟩ := lower_name_ok j' (by omega) F s a l
    exact ⟨p, h1, by simp only [teD] at c; simp! [F_lower_expression, teD, c], l1, f1⟩
  | .new x, s, z, j, hj, h, n, l, a => by
    obtain ⟨j', hk'⟩ : ∃ k', j = k' + 1 := ⟨j - 1, by omega⟩
    subst hk'
    rw [callN_succ fn_lower_expression rfl]
    exact ⟨h.length, h ++ [.lst [ins [109,97,107,101] [], ins [116,97,103] [.str x]]], by simp! [F_lower_expression, teD, alloc, ins], .app _ _, at_end _ _ _⟩
  | .fld t x, s, z, j, hj, h, n, l, a => by
    simp only [TE.sz] at z
    obtain ⟨j', hk'⟩ : ∃ k', j = k' + 1 := ⟨j - 1, by omega⟩
    subst hk'
    rw [callN_succ fn_lower_expression rfl]
    obtain ⟨p, h1, c, l1, f1⟩ := lower_expr_ok F t s.1 (by omega) j' (by simp [TE.ht] at hj; omega) h n l a
    have o := at_old f1 [.lst [ins [107,105,110,100] [], ins [102,105,101,108,100] [.str x]]]
    have ll : (lowE E l t).length ≤ 16777214 := by rw [lowE_len]; omega
    simp only [ins] at o
    exact ⟨h1.length + 1, h1 ++ [.lst [ins [107,105,110,100] [], ins [102,105,101,108,100] [.str x]], .lst (lowE E l t ++ [ins [107,105,110,100] [], ins [102,105,101,108,100] [.str x]])], by simp! [F_lower_expression, teD, c, alloc, ins, o, at_end, ll], l1.trans (.app _ _), at_end1 _ _ _ _⟩
  | .un k t, s, z, j, hj, h, n, l, a => by
    simp only [TE.sz] at z
    obtain ⟨j', hk'⟩ : ∃ k', j = k' + 1 := ⟨j - 1, by omega⟩
    subst hk'
    rw [callN_succ fn_lower_expression rfl]
    obtain ⟨p, h1, c, l1, f1⟩ := lower_expr_ok F t s (by omega) j' (by simp [TE.ht] at hj; omega) h n l a
    have o := at_old f1 [.lst k.code]
    have ll : (lowE E l t).length ≤ 16777213 := by rw [lowE_len]; omega
    refine ⟨h1.length + 1, h1 ++ [.lst k.code, .lst (lowE E l t ++ k.code)], ?_, l1.trans (.app _ _), at_end1 _ _ _ _⟩
    cases k <;> simp only [Un.code, ins] at o ⊢ <;> simp! [F_lower_expression, teD, Un.s, c, alloc, o, at_end, show (lowE E l t).length ≤ 16777214 by omega, show (lowE E l t).length ≤ 16777215 by omega, ll]
  | .both op t u, s, z, j, hj, h, n, l, a => by
    simp only [TE.sz] at z
    obtain ⟨j', hk'⟩ : ∃ k', j = k' + 1 := ⟨j - 1, by omega⟩
    subst hk'
    rw [callN_succ fn_lower_expression rfl]
    obtain ⟨k, rfl⟩ : ∃ k, j' = k + 1 := ⟨j' - 1, by simp [TE.ht] at hj; omega⟩
    obtain ⟨p, h1, c, l1, f1⟩ := lower_expr_ok F t s.2.1 (by omega) k (by simp [TE.ht] at hj; omega) h n l a
    obtain ⟨q, h2, c2, l2, f2⟩ := lower_expr_ok F u s.2.2 (by omega) k (by simp [TE.ht] at hj; omega) h1 n (l + (lowE E l t).length) (l1.nm a)
    have f1' := l2.get f1
    have ll : (lowE E l t).length + (lowE E (l + (lowE E l t).length) u).length ≤ 1000000 := by rw [lowE_len, lowE_len]; omega
    have ad := op_lst f1' f2 (by omega)
    have b : ∃ a3 h3, callN TT.pr (k + 1) 1004190012108399442536 [.ref n, .int l, teD (.both op t u)] h = some (.ref a3, h3) ∧ Le h2 h3 ∧ h3[a3]? = some (.lst (lowE E l (.both op t u))) := by
      rw [callN_succ fn_lower_both rfl]
      simp only [lowE]
      generalize hT : lowE E l t ++ lowE E (l + (lowE E l t).length) u = TU at ad ⊢
      have lt : TU.length ≤ 1000000 := by rw [← hT, List.length_append]; exact ll
      have g1 : TU.length ≤ 16777214 := by omega
      have g2 : TU.length ≤ 16777215 := by omega
      refine ⟨h2.length + 2, h2 ++ [.lst TU, .lst (opC op), .lst (TU ++ opC op)], ?_, .app _ _, at_end2 _ _ _ _ _⟩
      unfold opC
      by_cases q1 : op = [62]
      · subst q1; simp! [F_lower_both, teD, c, f1, c2, ad, alloc, gv_TURNED, turned_look, at_end, at_end1, g1, g2, ins]
      · by_cases q2 : op = [62,61]
        · subst q2; simp! [F_lower_both, teD, c, f1, c2, ad, alloc, gv_TURNED, turned_look, at_end, at_end1, g1, g2, ins]
        · by_cases q3 : op = [33,61]
          · subst q3; simp! [F_lower_both, teD, c, f1, c2, ad, alloc, gv_TURNED, turned_look, at_end, at_end1, g1, g2, ins]
          · have b1 : (op == [62]) = false := by simpa using q1
            have b2 : (op == [62,61]) = false := by simpa using q2
            have b3 : (op == [33,61]) = false := by simpa using q3
            simp! [F_lower_both, teD, c, f1, c2, ad, alloc, gv_TURNED, turned_look, at_end, at_end1, g1, g2, ins, q1, q2, q3, b1, b2, b3]
    obtain ⟨a3, h3, c3, l3, f3⟩ := b
    simp only [teD] at c3
    exact ⟨a3, h3, by simp! [F_lower_expression, teD, c3], l1.trans (l2.trans l3), f3⟩
  | .lg o t u, s, z, j, hj, h, n, l, a => by
    simp only [TE.sz] at z
    obtain ⟨j', hk'⟩ : ∃ k', j = k' + 1 := ⟨j - 1, by omega⟩
    subst hk'
    rw [callN_succ fn_lower_expression rfl]
    obtain ⟨k, rfl⟩ : ∃ k, j' = k + 1 := ⟨j' - 1, by simp [TE.ht] at hj; omega⟩
    obtain ⟨p, h1, c, l1, f1⟩ := lower_expr_ok F t s.1 (by omega) k (by simp [TE.ht] at hj; omega) h n l a
    obtain ⟨q, h2, c2, l2, f2⟩ := lower_expr_ok F u s.2 (by omega) k (by simp [TE.ht] at hj; omega) h1 n (l + (lowE E l t).length + 1) (l1.nm a)
    have f1' := l2.get f1
    have z1 : (lowE E l t).length ≤ 1000000 := by rw [lowE_len]; omega
    have z2 : (lowE E (l + (lowE E l t).length + 1) u).length ≤ 1000000 := by rw [lowE_len]; omega
    have b : ∃ a3 h3, callN TT.pr (k + 1) 269560203810973264981310110452 [.ref n, .int l, teD (.lg o t u)] h = some (.ref a3, h3) ∧ Le h2 h3 ∧ h3[a3]? = some (.lst (lowE E l (.lg o t u))) := by
      rw [callN_succ fn_lower_shortcut rfl]
      simp only [lowE]
      generalize lowE E l t = T at *
      generalize lowE E (l + (T.length : Int) + 1) u = U at *
      generalize hj : ins (lgS o ++ [95,106,117,109,112]) [.int (l + T.length + 1 + U.length)] = J
      have o1 := at_old f1' [.lst [J]]
      have o2 := at_old f2 [.lst [J], .lst (T ++ [J])]
      subst hj
      refine ⟨h2.length + 2, h2 ++ [.lst [ins (lgS o ++ [95,106,117,109,112]) [.int (l + T.length + 1 + U.length)]], .lst (T ++ [ins (lgS o ++ [95,106,117,109,112]) [.int (l + T.length + 1 + U.length)]]), .lst (T ++ [ins (lgS o ++ [95,106,117,109,112]) [.int (l + T.length + 1 + U.length)]] ++ U)], ?_, .app _ _, at_end2 _ _ _ _ _⟩
      cases o <;> simp only [lgS, ins, if_true, if_false, Bool.false_eq_true, List.cons_append, List.nil_append] at o1 o2 ⊢ <;> simp! [F_lower_shortcut, teD, lgS, c, f1, c2, f1', f2, alloc, at_end, at_end1, o1, o2, show T.length ≤ 16777215 by omega, show T.length + 1 + U.length ≤ 16777216 by omega]
    obtain ⟨a3, h3, c3, l3, f3⟩ := b
    simp only [teD] at c3
    exact ⟨a3, h3, by cases o <;> simp only [lgS, if_true, if_false, Bool.false_eq_true] at c3 <;> simp! [F_lower_expression, teD, lgS, c3], l1.trans (l2.trans l3), f3⟩
  | .itm t u, s, z, j, hj, h, n, l, a => by
    simp only [TE.sz] at z
    obtain ⟨j', hk'⟩ : ∃ k', j = k' + 1 := ⟨j - 1, by omega⟩
    subst hk'
    rw [callN_succ fn_lower_expression rfl]
    obtain ⟨k, rfl⟩ : ∃ k, j' = k + 1 := ⟨j' - 1, by simp [TE.ht] at hj; omega⟩
    obtain ⟨p, h1, c, l1, f1⟩ := lower_expr_ok F t s.1 (by omega) k (by simp [TE.ht] at hj; omega) h n l a
    have z1 : (lowE E l t).length ≤ 1000000 := by rw [lowE_len]; omega
    have o1 := at_old f1 [.lst [ins [107,105,110,100] []]]
    obtain ⟨q, h2, c2, l2, f2⟩ := lower_expr_ok F u s.2 (by omega) k (by simp [TE.ht] at hj; omega) (h1 ++ [.lst [ins [107,105,110,100] []], .lst (lowE E l t ++ [ins [107,105,110,100] []])]) n (l + (lowE E l t ++ [ins [107,105,110,100] []]).length) ((l1.trans (.app _ _)).nm a)
    have z2 : (lowE E (l + (lowE E l t ++ [ins [107,105,110,100] []]).length) u).length ≤ 1000000 := by rw [lowE_len]; omega
    have b : ∃ a3 h3, callN TT.pr (k + 1) 1004190012108414202605 [.ref n, .int l, teD (.itm t u)] h = some (.ref a3, h3) ∧ Le h2 h3 ∧ h3[a3]? = some (.lst (lowE E l (.itm t u))) := by
      rw [callN_succ fn_lower_item rfl]
      simp only [lowE]
      generalize lowE E l t = T at *
      have f3 := l2.get (at_end1 h1 (.lst [ins [107,105,110,100] []]) (.lst (T ++ [ins [107,105,110,100] []])) [])
      generalize lowE E (l + ((T ++ [ins [107,105,110,100] []]).length : Int)) u = U at *
      refine ⟨h2.length + 2, h2 ++ [.lst (T ++ [ins [107,105,110,100] []] ++ U), .lst [ins [105,116,101,109] []], .lst (T ++ [ins [107,105,110,100] []] ++ U ++ [ins [105,116,101,109] []])], ?_, .app _ _, at_end2 _ _ _ _ _⟩
      simp only [ins, List.length_append, List.length_singleton] at o1 f3 c2 ⊢
      push_cast at c2
      simp! [F_lower_item, teD, c, f1, c2, alloc, at_end, at_end1, o1, f3, f2, show T.length ≤ 16777215 by omega, show T.length + 1 + U.length ≤ 16777216 by omega, show T.length + (U.length + 1) ≤ 16777215 by omega]
    obtain ⟨a3, h3, c3, l3, f3⟩ := b
    simp only [teD] at c3
    exact ⟨a3, h3, by simp! [F_lower_expression, teD, c3], l1.trans ((Le.app _ _).trans (l2.trans l3)), f3⟩
noncomputable def wl (l : Int) (c : List D) : List D := c.map fun d => .tup [.int l, d]
@[simp] theorem wl_len (l : Int) (c : List D) : (wl l c).length = c.length := by simp [wl]
noncomputable def argsF (E : Ev) (b : Int) : List D → List TE → List D
  | acc, [] => acc
  | acc, e :: es => argsF E b (acc ++ lowE E (b + acc.length) e) es
noncomputable def asz (as : List TE) : Nat := (as.map TE.sz).sum
theorem argsF_len (E : Ev) (b : Int) : ∀ (as : List TE) (acc : List D), (argsF E b acc as).length = acc.length + asz as
  | [], acc => by simp [argsF, asz]
  | e :: es, acc => by simp [argsF, argsF_len E b es, lowE_len, asz]; omega
noncomputable def callC (E : Ev) (a : Int) (p : Nm) (as : List TE) (ah : Bool) (last : D) : List D :=
  if ah then [ins [115,112,97,119,110] [.int (a + (argsF E (a + 1) [] as ++ [ins [99,97,108,108] [optI (E.procedure p), .int as.length], last]).length + 2)]] ++ (argsF E (a + 1) [] as ++ [ins [99,97,108,108] [optI (E.procedure p), .int as.length], last]) ++ [ins [102,105,110,105,115,104] []]
  else argsF E a [] as ++ [ins [99,97,108,108] [optI (E.procedure p), .int as.length], last]
noncomputable def rightC (E : Ev) (a : Int) (last : D) : TR → List D
  | .read => [ins [105,110,112,117,116] [], last]
  | .call p as ah => callC E a p as ah last
  | .expr e => lowE E a e ++ [last]
noncomputable def storeD (E : Ev) (x : Nm) : D := ins [115,116,111,114,101] [varD (E.variable x)]
noncomputable def sfldC (E : Ev) (a : Int) (t : TE) (f : Nm) (u : TE) : List D := lowE E a t ++ [ins [107,105,110,100] []] ++ lowE E (a + (lowE E a t ++ [ins [107,105,110,100] []]).length) u ++ [ins [115,101,116,95,102,105,101,108,100] [.str f]]
noncomputable def sitC1 (E : Ev) (a : Int) (t i : TE) : List D := lowE E a t ++ [ins [107,105,110,100] []] ++ lowE E (a + (lowE E a t ++ [ins [107,105,110,100] []]).length) i
noncomputable def sitmC (E : Ev) (a : Int) (t i u : TE) : List D := sitC1 E a t i ++ lowE E (a + (sitC1 E a t i).length) u ++ [ins [115,101,116,95,105,116,101,109] []]
mutual
noncomputable def lowS (E : Ev) : Int → TS → List D
  | a, .asg _ l x r => wl l (rightC E a (storeD E x) r)
  | a, .sfl l t f u => wl l (sfldC E a t f u)
  | a, .sit l t i u => wl l (sitmC E a t i u)
  | a, .cal l p as ah => wl l (callC E a p as ah (ins [100,114,111,112] []))
  | a, .val k l t => wl l (lowE E a t ++ [ins k.s []])
  | _, .brk l => wl l [ins [98,114,101,97,107] []]
  | a, .ite l c y n => wl l (lowE E a c ++ [ins [106,117,109,112,95,110,111,116] [.int (a + (lowE E a c).length + 1 + (lowB E (a + (lowE E a c).length + 1) [] y).length + 1)]]) ++ lowB E (a + (lowE E a c).length + 1) [] y ++
      [.tup [.int l, ins [106,117,109,112] [.int (a + (lowE E a c).length + 1 + (lowB E (a + (lowE E a c).length + 1) [] y).length + 1 + (lowB E (a + (lowE E a c).length + 1 + (lowB E (a + (lowE E a c).length + 1) [] y).length + 1) [] n).length)]]] ++
      lowB E (a + (lowE E a c).length + 1 + (lowB E (a + (lowE E a c).length + 1) [] y).length + 1) [] n
  | a, .whl l c b => wl l ([ins [108,111,111,112] [.int (a + 1 + (lowE E (a + 1) c).length + 1 + (lowB E.within (a + 1 + (lowE E (a + 1) c).length + 1) [] b).length + 1 + 1)]] ++ lowE E (a + 1) c ++ [ins [106,117,109,112,95,110,111,116] [.int (a + 1 + (lowE E (a + 1) c).length + 1 + (lowB E.within (a + 1 + (lowE E (a + 1) c).length + 1) [] b).length + 1)]]) ++
      lowB E.within (a + 1 + (lowE E (a + 1) c).length + 1) [] b ++ wl l [ins [106,117,109,112] [.int (a + 1)], ins [101,110,100,95,108,111,111,112] []]
  | a, .for_ l x lo hi b ah =>
      let hd := lowE E a lo ++ lowE E (a + (lowE E a lo).length) hi
      let test := a + hd.length + 1
      if ah then
        let inn := lowB (E.counting x) (test + 2) [] b
        wl l (hd ++ [ins [101,97,99,104] [.int (test + 2 + inn.length + 1 + 2)], ins [116,101,115,116] [.int (test + 2 + inn.length + 1 + 1)]]) ++ ([.tup [.int l, ins [115,112,97,119,110] [.int (test + 2 + inn.length + 1)]]] ++ inn ++ [.tup [.int l, ins [102,105,110,105,115,104] []]]) ++ wl l [ins [110,101,120,116] [.int test], ins [101,110,100,95,108,111,111,112] []]
      else
        let inn := lowB (E.counting x) (test + 1) [] b
        wl l (hd ++ [ins [101,97,99,104] [.int (test + 1 + inn.length + 2)], ins [116,101,115,116] [.int (test + 1 + inn.length + 1)]]) ++ inn ++ wl l [ins [110,101,120,116] [.int test], ins [101,110,100,95,108,111,111,112] []]
  | a, .try_ l b x c =>
      let inn := lowB E (a + 1) [] b
      let han := a + 1 + inn.length + 2
      let oth := lowB E (han + 1) [] c
      [.tup [.int l, ins [103,117,97,114,100] [.int han]]] ++ inn ++ wl l [ins [117,110,103,117,97,114,100] [], ins [106,117,109,112] [.int (han + 1 + oth.length)], storeD E x] ++ oth
noncomputable def lowB (E : Ev) : Int → List D → TSs → List D
  | _, acc, .nil => acc
  | a, acc, .cons s r => lowB E a (acc ++ lowS E (a + acc.length) s) r
end
noncomputable def csz (as : List TE) (ah : Bool) : Nat := asz as + 2 + (if ah then 2 else 0)
noncomputable def TR.sz : TR → Nat
  | .read => 2
  | .call _ as ah => csz as ah
  | .expr e => e.sz + 1
mutual
noncomputable def TS.sz : TS → Nat
  | .asg _ _ _ r => r.sz
  | .sfl _ t _ u => t.sz + u.sz + 2
  | .sit _ t i u => t.sz + i.sz + u.sz + 2
  | .cal _ _ as ah => csz as ah
  | .val _ _ t => t.sz + 1
  | .brk _ => 1
  | .ite _ c y n => c.sz + y.sz + n.sz + 2
  | .whl _ c b => c.sz + b.sz + 4
  | .for_ _ _ lo hi b ah => lo.sz + hi.sz + b.sz + 4 + (if ah then 2 else 0)
  | .try_ _ b _ c => b.sz + c.sz + 4
noncomputable def TSs.sz : TSs → Nat
  | .nil => 0
  | .cons s r => s.sz + r.sz
end
theorem callC_len (E : Ev) (a : Int) (p : Nm) (as : List TE) (ah : Bool) (last : D) : (callC E a p as ah last).length = csz as ah := by
  cases ah <;> simp [callC, csz, argsF_len] <;> omega
theorem rightC_len (E : Ev) (a : Int) (last : D) (r : TR) : (rightC E a last r).length = r.sz := by
  cases r with
  | read => rfl
  | call p as ah => exact callC_len _ _ _ _ _ _
  | expr e => simp [rightC, TR.sz, lowE_len]
mutual
theorem lowS_len : ∀ (s : TS) (E : Ev) (a : Int), (lowS E a s).length = s.sz
  | .asg _ l x r, E, a => by simp [lowS, TS.sz, rightC_len]
  | .sfl l t f u, E, a => by simp [lowS, TS.sz, sfldC, lowE_len]; omega
  | .sit l t i u, E, a => by simp [lowS, TS.sz, sitmC, sitC1, lowE_len]; omega
  | .cal l p as ah, E, a => by simp [lowS, TS.sz, callC_len]
  | .val k l t, E, a => by simp [lowS, TS.sz, lowE_len]
  | .brk l, E, a => rfl
  | .ite l c y n, E, a => by simp [lowS, TS.sz, lowE_len, lowB_len y, lowB_len n]; omega
  | .whl l c b, E, a => by simp [lowS, TS.sz, lowE_len, lowB_len b]; omega
  | .for_ l x lo hi b ah, E, a => by cases ah <;> simp [lowS, TS.sz, lowE_len, lowB_len b] <;> omega
  | .try_ l b x c, E, a => by simp [lowS, TS.sz, lowB_len b, lowB_len c]; omega
theorem lowB_len : ∀ (r : TSs) (E : Ev) (a : Int) (acc : List D), (lowB E a acc r).length = acc.length + r.sz
  | .nil, E, a, acc => by simp [lowB, TSs.sz]
  | .cons s r, E, a, acc => by simp [lowB, TSs.sz, lowB_len r, lowS_len s]; omega
end
theorem RL.mk {L : List D} {h : LH} {r : Option (D × LH)} {a : Nat} {h' : LH} (e : r = some (.ref a, h')) (l : Le h h') (f : h'[a]? = some (.lst L)) : RL L h r := ⟨a, h', e, l, f⟩
theorem with_line_ok (j : Nat) (hj : 1 ≤ j) (l : Int) (c : List D) (hc : c.length ≤ 1000000) (h : LH) (p : Nat) (f : h[p]? = some (.lst c)) : callN TT.pr j 8634477208160335717 [.int l, .ref p] h = some (.ref h.length, h ++ [.lst (wl l c)]) := by
  obtain ⟨j', hk'⟩ : ∃ k', j = k' + 1 := ⟨j - 1, by omega⟩
  subst hk'
  rw [callN_succ fn_with_line rfl]
  simp! [F_with_line, f]
  rw [lcL_pure (fun _ => true) (fun d => .tup [.int l, d]) (by simp [stays, seqOf, f]) c [] (fun x _ => by simp! [wipe, tgSl, tgsSl]) (by unfold SZ; simp; omega)]
  simp only [Option.bind_some, List.nil_append, alloc, Function.comp_apply, Option.map_some, fin_rt]
  have fe : List.filter (fun _ => true) c = c := by simp
  rw [fe]
  rfl
theorem args_row {E : Ev} {b : Int} {asg : D → Lc → Option Lc} {body : Lc → LH → Option (Fl × Lc × LH)} {all : List D} (Inv : Nat → Lc → Prop) (h0 : LH) :
    ∀ (as : List TE) (acc : List D) (σ : Lc) (h : LH) (p : Nat), Inv p σ → Le h0 h → h[p]? = some (.lst acc) → acc.length + asz as ≤ 1000000 →
      (∀ e ∈ as, ∀ (acc : List D) (σ : Lc) (h : LH) (p : Nat), Inv p σ → Le h0 h → h[p]? = some (.lst acc) → acc.length + e.sz ≤ 1000000 → ∃ σ' h' p', Inv p' σ' ∧ Le h h' ∧ h'[p']? = some (.lst (acc ++ lowE E (b + acc.length) e)) ∧ (asg (teD e) σ).bind (fun σ1 => body σ1 h) = some (.nx, σ', h')) →
      ∃ σ' h' p', Inv p' σ' ∧ Le h h' ∧ h'[p']? = some (.lst (argsF E b acc as)) ∧ forL asg body none all (as.map teD) σ h = some (.nx, σ', h')
  | [], acc, σ, h, p, iv, l, f, hb, t => ⟨σ, h, p, iv, .refl _, f, rfl⟩
  | e :: es, acc, σ, h, p, iv, l, f, hb, t => by
    have hb' : acc.length + (e.sz + asz es) ≤ 1000000 := by simpa [asz] using hb
    obtain ⟨σ1, h1, p1, iv1, l1, f1, c⟩ := t e List.mem_cons_self acc σ h p iv l f (by omega)
    obtain ⟨σ2, h2, p2, iv2, l2, f2, c2⟩ := args_row Inv h0 es (acc ++ lowE E (b + acc.length) e) σ1 h1 p1 iv1 (l.trans l1) f1 (by simp [lowE_len]; omega) fun x hx => t x (List.mem_cons_of_mem _ hx)
    refine ⟨σ2, h2, p2, iv2, l1.trans l2, f2, ?_⟩
    obtain ⟨σ3, x1, x2⟩ := Option.bind_eq_some_iff.mp c
    rw [List.map_cons, forL_c, x1, Option.bind_some, x2, Option.bind_some]
    exact c2
theorem args_go {E : Ev} {b : Int} {asg : D → Lc → Option Lc} {body : Lc → LH → Option (Fl × Lc × LH)} {all : List D} {σ : Lc} {h : LH} {as : List TE} {L : Option (Fl × Lc × LH)} {G : Prop} (e : forL asg body none all (as.map teD) σ h = L) (Inv : Nat → Lc → Prop) (h0 : LH) (acc : List D) (p : Nat) (iv : Inv p σ) (l : Le h0 h) (f : h[p]? = some (.lst acc)) (hb : acc.length + asz as ≤ 1000000)
    (t : ∀ e ∈ as, ∀ (acc : List D) (σ : Lc) (h : LH) (p : Nat), Inv p σ → Le h0 h → h[p]? = some (.lst acc) → acc.length + e.sz ≤ 1000000 → ∃ σ' h' p', Inv p' σ' ∧ Le h h' ∧ h'[p']? = some (.lst (acc ++ lowE E (b + acc.length) e)) ∧ (asg (teD e) σ).bind (fun σ1 => body σ1 h) = some (.nx, σ', h'))
    (k : ∀ σ' h' p', Inv p' σ' → Le h h' → h'[p']? = some (.lst (argsF E b acc as)) → L = some (.nx, σ', h') → G) : G := by
  obtain ⟨σ', h', p', a1, a2, a3, a4⟩ := args_row Inv h0 as acc σ h p iv l f hb t
  exact k σ' h' p' a1 a2 a3 (e ▸ a4)
theorem lower_call_ok {E : Ev} (F : E.fit) (p : Nm) (as : List TE) (ah : Bool) (last : D) (sp : sgn p) (ss : ∀ e ∈ as, e.sg) (hz : asz as ≤ 500000) (j : Nat) (hj : 2 * htL as + 4 ≤ j) (h : LH) (n : Nat) (a : NmAt h n E) (l : Int) : RL (callC E l p as ah last) h (callN TT.pr j 1004190012108401309292 [.ref n, .int l, .str p, .tup (as.map teD), .bl ah, last] h) := by
  obtain ⟨j', hk'⟩ : ∃ k', j = k' + 1 := ⟨j - 1, by omega⟩
  subst hk'
  rw [callN_succ fn_lower_call rfl]
  have e := nm_get a
  simp! [F_lower_call, alloc]
  have st : (if ah = true then some (Fl.nx, [some (.ref n), some (.int l), some (.str p), some (.tup (as.map teD)), some (.bl ah), some last, some (.ref h.length), some (.int (l + 1)), none], h ++ [LO.lst []])
    else some (Fl.nx, [some (.ref n), some (.int l), some (.str p), some (.tup (as.map teD)), some (.bl ah), some last, some (.ref h.length), some (.int l), none], h ++ [.lst []]))
    = some (Fl.nx, [some (.ref n), some (.int l), some (.str p), some (.tup (as.map teD)), some (.bl ah), some last, some (.ref h.length), some (.int (if ah then l + 1 else l)), none], h ++ [.lst []]) := by cases ah <;> rfl
  rw [st]
  generalize hb : (if ah = true then l + 1 else l) = b
  simp! []
  generalize hL : forL _ _ _ _ _ _ _ = L
  refine args_go (E := E) (b := b) hL (fun p' σ => ∃ d, σ = [some (.ref n), some (.int l), some (.str p), some (.tup (as.map teD)), some (.bl ah), some last, some (.ref p'), some (.int b), d]) h [] h.length ⟨none, rfl⟩ (.app _ _) (at_end _ _ _) (by simp; omega) ?_ ?_
  · rintro t ht acc σ h1 p1 ⟨d, rfl⟩ l1 f1 hz1
    obtain ⟨p2, h2, c2, l2, f2⟩ := lower_expr_ok F t (ss t ht) (by omega) j' (by have := htL_mem ht; omega) h1 n (b + acc.length) (l1.nm a)
    have ad := op_lst (l2.get f1) f2 (by rw [lowE_len]; omega)
    exact ⟨[some (.ref n), some (.int l), some (.str p), some (.tup (as.map teD)), some (.bl ah), some last, some (.ref h2.length), some (.int b), some (teD t)], h2 ++ [.lst (acc ++ lowE E (b + acc.length) t)], h2.length, ⟨_, rfl⟩, l2.trans (.app _ _), at_end _ _ _, by simp! [f1, c2, ad]⟩
  rintro σ' h' q ⟨d, rfl⟩ l1 f1 rfl
  clear hL st
  generalize hT : argsF E b [] as = T at f1
  have lT : T.length ≤ 500000 := by rw [← hT, argsF_len]; simp; omega
  have pr := procedure_ok j' (by omega) F.ok F.procs sp (l1.nm (NmAt.app a _))
  have e1 := nm_get (l1.nm (NmAt.app a [.lst []]))
  have g1 : T.length ≤ 16777214 := by omega
  cases ah with
  | false =>
    have hb : l = b := hb
    have o := at_old f1 [.lst [ins [99,97,108,108] [optI (E.procedure p), .int as.length], last]]
    refine .mk (a := h'.length + 1) (h' := h' ++ [.lst [ins [99,97,108,108] [optI (E.procedure p), .int as.length], last], .lst (T ++ [ins [99,97,108,108] [optI (E.procedure p), .int as.length], last])]) ?_ ((Le.app _ _).trans (l1.trans (.app _ _))) (by rw [callC, hb, hT]; exact at_end1 _ _ _ _)
    simp only [ins] at o ⊢
    simp! [e1, pr, cl_Names, alloc, o, at_end, g1]
  | true =>
    have hb : l + 1 = b := hb
    have o := at_old f1 [.lst [ins [99,97,108,108] [optI (E.procedure p), .int as.length], last]]
    generalize hC : T ++ [ins [99,97,108,108] [optI (E.procedure p), .int as.length], last] = C
    have lC : C.length ≤ 500002 := by rw [← hC]; simp; omega
    refine .mk (a := h'.length + 5) (h' := h' ++ [.lst [ins [99,97,108,108] [optI (E.procedure p), .int as.length], last], .lst C, .lst [ins [115,112,97,119,110] [.int (l + C.length + 2)]], .lst ([ins [115,112,97,119,110] [.int (l + C.length + 2)]] ++ C), .lst [ins [102,105,110,105,115,104] []], .lst ([ins [115,112,97,119,110] [.int (l + C.length + 2)]] ++ C ++ [ins [102,105,110,105,115,104] []])]) ?_ ((Le.app _ _).trans (l1.trans (.app _ _))) ?_
    · have g2 : C.length ≤ 16777215 := by omega
      have k1 : ∀ (o0 o1 o2 o3 : LO) (r : LH), (h' ++ o0 :: o1 :: o2 :: o3 :: r)[h'.length + 3]? = some o3 := fun o0 o1 o2 o3 r => by rw [List.getElem?_append_right (by omega), show h'.length + 3 - h'.length = 3 by omega]; rfl
      have k2 : ∀ (o0 o1 o2 o3 o4 : LO) (r : LH), (h' ++ o0 :: o1 :: o2 :: o3 :: o4 :: r)[h'.length + 4]? = some o4 := fun o0 o1 o2 o3 o4 r => by rw [List.getElem?_append_right (by omega), show h'.length + 4 - h'.length = 4 by omega]; rfl
      have k3 : ∀ (o0 o1 o2 : LO) (r : LH), (h' ++ o0 :: o1 :: o2 :: r)[h'.length + 2]? = some o2 := fun o0 o1 o2 r => by rw [List.getElem?_append_right (by omega), show h'.length + 2 - h'.length = 2 by omega]; rfl
      have hC' : T ++ [D.tup [.str [99,97,108,108], optI (E.procedure p), .int as.length], last] = C := hC
      simp only [ins] at o ⊢
      simp! [e1, pr, cl_Names, alloc, o, at_end, g1, at_end1, hC', k1, k2, k3, g2, show C.length + 1 ≤ 16777215 by omega, show 1 + C.length ≤ 16777216 by omega, show 1 + C.length ≤ 16777215 by omega, show C.length ≤ 16777214 by omega]
    · rw [callC, hb, hT, hC]
      simp only [if_true]
      rw [List.getElem?_append_right (by omega), show h'.length + 5 - h'.length = 5 by omega]; rfl
theorem lower_assign_ok {E : Ev} (F : E.fit) (k : D) (l : Int) (x : Nm) (r : TR) (sx : sgn x) (s : r.sg) (hz : r.sz ≤ 500000) (j : Nat) (hj : 2 * r.h + 5 ≤ j) (h : LH) (n : Nat) (a : NmAt h n E) (ad : Int) : RL (rightC E ad (storeD E x) r) h (callN TT.pr j 16452649158383983178445806 [.ref n, .int ad, .tup [k, .int l, .str x, trD r]] h) := by
  obtain ⟨j', hk'⟩ : ∃ k', j = k' + 1 := ⟨j - 1, by omega⟩
  subst hk'
  rw [callN_succ fn_lower_assign rfl]
  have e := nm_get a
  have v := variable_ok j' (by omega) F.ok sx a
  cases r with
  | read => exact .mk (a := h.length) (h' := h ++ [.lst (rightC E ad (storeD E x) .read)]) (by simp! [F_lower_assign, e, cl_Names, v, trD, alloc, rightC, storeD, ins]) (.app _ _) (at_end _ _ _)
  | expr t =>
    simp only [TR.sz, TR.h] at hz hj
    obtain ⟨p, h1, c, l1, f1⟩ := lower_expr_ok F t s (by omega) j' (by omega) h n ad a
    have o := at_old f1 [.lst [storeD E x]]
    have g : (lowE E ad t).length ≤ 16777215 := by rw [lowE_len]; omega
    refine .mk (a := h1.length + 1) (h' := h1 ++ [.lst [storeD E x], .lst (lowE E ad t ++ [storeD E x])]) ?_ (l1.trans (.app _ _)) (at_end1 _ _ _ _)
    simp only [storeD, ins] at o ⊢
    simp! [F_lower_assign, e, cl_Names, v, trD, alloc, c, o, at_end, g]
  | call p as ah =>
    simp only [TR.sz, TR.h, csz] at hz hj
    obtain ⟨q, h1, c, l1, f1⟩ := lower_call_ok F p as ah (storeD E x) s.1 s.2 (by omega) j' (by omega) h n a ad
    refine .mk (a := q) (h' := h1) ?_ l1 f1
    simp only [storeD, ins] at c
    simp! [F_lower_assign, e, cl_Names, v, trD, c]
theorem lower_sfl_ok {E : Ev} (F : E.fit) (k : D) (l : Int) (t : TE) (f : Nm) (u : TE) (g : t.sg ∧ u.sg) (hz : t.sz + u.sz ≤ 500000) (j : Nat) (hj : 2 * t.ht + 5 ≤ j ∧ 2 * u.ht + 5 ≤ j) (h : LH) (n : Nat) (a : NmAt h n E) (ad : Int) : RL (sfldC E ad t f u) h (callN TT.pr j 34503706087804576250091485623908 [.ref n, .int ad, .tup [k, .int l, teD t, .str f, teD u]] h) := by
  obtain ⟨k, hk'⟩ : ∃ k', j = k' + 1 := ⟨j - 1, by omega⟩
  subst hk'
  rw [callN_succ fn_lower_set_field rfl]
  obtain ⟨p, h1, c, l1, f1⟩ := lower_expr_ok F t g.1 (by omega) k (by omega) h n ad a
  have z1 : (lowE E ad t).length ≤ 500000 := by rw [lowE_len]; omega
  have o1 := at_old f1 [.lst [ins [107,105,110,100] []]]
  obtain ⟨q, h2, c2, l2, f2⟩ := lower_expr_ok F u g.2 (by omega) k (by omega) (h1 ++ [.lst [ins [107,105,110,100] []], .lst (lowE E ad t ++ [ins [107,105,110,100] []])]) n (ad + (lowE E ad t ++ [ins [107,105,110,100] []]).length) ((l1.trans (.app _ _)).nm a)
  have z2 : (lowE E (ad + (lowE E ad t ++ [ins [107,105,110,100] []]).length) u).length ≤ 500000 := by rw [lowE_len]; omega
  unfold sfldC
  generalize lowE E ad t = T at *
  have f3 := l2.get (at_end1 h1 (.lst [ins [107,105,110,100] []]) (.lst (T ++ [ins [107,105,110,100] []])) [])
  generalize lowE E (ad + ((T ++ [ins [107,105,110,100] []]).length : Int)) u = U at *
  refine .mk (a := h2.length + 2) (h' := h2 ++ [.lst (T ++ [ins [107,105,110,100] []] ++ U), .lst [ins [115,101,116,95,102,105,101,108,100] [.str f]], .lst (T ++ [ins [107,105,110,100] []] ++ U ++ [ins [115,101,116,95,102,105,101,108,100] [.str f]])]) ?_ (l1.trans ((Le.app _ _).trans (l2.trans (.app _ _)))) (at_end2 _ _ _ _ _)
  simp only [ins, List.length_append, List.length_singleton] at o1 f3 c2 ⊢
  push_cast at c2
  simp! [F_lower_set_field, c, f1, c2, alloc, at_end, at_end1, o1, f3, f2, show T.length ≤ 16777215 by omega, show T.length + 1 + U.length ≤ 16777216 by omega, show T.length + (U.length + 1) ≤ 16777215 by omega]
theorem lower_sit_ok {E : Ev} (F : E.fit) (k : D) (l : Int) (t i u : TE) (g : t.sg ∧ i.sg ∧ u.sg) (hz : t.sz + i.sz + u.sz ≤ 500000) (j : Nat) (hj : 2 * t.ht + 5 ≤ j ∧ 2 * i.ht + 5 ≤ j ∧ 2 * u.ht + 5 ≤ j) (h : LH) (n : Nat) (a : NmAt h n E) (ad : Int) : RL (sitmC E ad t i u) h (callN TT.pr j 269560203810973251953846203117 [.ref n, .int ad, .tup [k, .int l, teD t, teD i, teD u]] h) := by
  obtain ⟨k, hk'⟩ : ∃ k', j = k' + 1 := ⟨j - 1, by omega⟩
  subst hk'
  rw [callN_succ fn_lower_set_item rfl]
  obtain ⟨p, h1, c, l1, f1⟩ := lower_expr_ok F t g.1 (by omega) k (by omega) h n ad a
  have z1 : (lowE E ad t).length ≤ 500000 := by rw [lowE_len]; omega
  have o1 := at_old f1 [.lst [ins [107,105,110,100] []]]
  obtain ⟨q, h2, c2, l2, f2⟩ := lower_expr_ok F i g.2.1 (by omega) k (by omega) (h1 ++ [.lst [ins [107,105,110,100] []], .lst (lowE E ad t ++ [ins [107,105,110,100] []])]) n (ad + (lowE E ad t ++ [ins [107,105,110,100] []]).length) ((l1.trans (.app _ _)).nm a)
  have z2 : (lowE E (ad + (lowE E ad t ++ [ins [107,105,110,100] []]).length) i).length ≤ 500000 := by rw [lowE_len]; omega
  have f3 := l2.get (at_end1 h1 (.lst [ins [107,105,110,100] []]) (.lst (lowE E ad t ++ [ins [107,105,110,100] []])) [])
  have ad2 : binop .add (.ref (h1.length + 1)) (.ref q) h2 = some (.ref h2.length, h2 ++ [.lst (sitC1 E ad t i)]) := op_lst f3 f2 (by rw [lowE_len E i]; simp only [List.length_append, lowE_len, List.length_singleton]; omega)
  obtain ⟨q2, h3, c3, l3, f4⟩ := lower_expr_ok F u g.2.2 (by omega) k (by omega) (h2 ++ [.lst (sitC1 E ad t i)]) n (ad + (sitC1 E ad t i).length) ((l1.trans ((Le.app _ _).trans (l2.trans (.app _ _)))).nm a)
  have z3 : (lowE E (ad + (sitC1 E ad t i).length) u).length ≤ 500000 := by rw [lowE_len]; omega
  have z4 : (sitC1 E ad t i).length ≤ 1000001 := by unfold sitC1; simp [lowE_len] at z1 z2 ⊢; omega
  have f5 := at_end h2 (.lst (sitC1 E ad t i)) []
  have f6 := l3.get f5
  have ad3 := op_lst f6 f4 (by omega)
  unfold sitmC
  generalize sitC1 E ad t i = S at *
  generalize lowE E (ad + (S.length : Int)) u = U at *
  refine .mk (a := h3.length + 2) (h' := h3 ++ [.lst (S ++ U), .lst [ins [115,101,116,95,105,116,101,109] []], .lst (S ++ U ++ [ins [115,101,116,95,105,116,101,109] []])]) ?_ (l1.trans ((Le.app _ _).trans (l2.trans ((Le.app _ _).trans (l3.trans (.app _ _)))))) (at_end2 _ _ _ _ _)
  clear f2 f4 f6 z2
  generalize lowE E ad t = T at *
  simp only [ins, List.length_append, List.length_singleton] at o1 f3 c2 ad2 c3 ad3 f5 ⊢
  push_cast at c2
  simp! [F_lower_set_item, c, f1, c2, alloc, at_end, at_end1, o1, ad2, f5, c3, ad3, show T.length ≤ 16777215 by omega, show S.length + U.length ≤ 16777215 by omega]
theorem lower_val_ok {E : Ev} (F : E.fit) (k : Nm) (l : Int) (t : TE) (g : t.sg) (hz : t.sz ≤ 500000) (j : Nat) (hj : 2 * t.ht + 5 ≤ j) (h : LH) (n : Nat) (a : NmAt h n E) (ad : Int) : RL (lowE E ad t ++ [ins k []]) h (callN TT.pr j 128536321549880467864293 [.ref n, .int ad, .tup [.str k, .int l, teD t]] h) := by
  obtain ⟨j', hk'⟩ : ∃ k', j = k' + 1 := ⟨j - 1, by omega⟩
  subst hk'
  rw [callN_succ fn_lower_value rfl]
  obtain ⟨p, h1, c, l1, f1⟩ := lower_expr_ok F t g (by omega) j' (by omega) h n ad a
  have z1 : (lowE E ad t).length ≤ 500000 := by rw [lowE_len]; omega
  have o1 := at_old f1 [.lst [ins k []]]
  refine .mk (a := h1.length + 1) (h' := h1 ++ [.lst [ins k []], .lst (lowE E ad t ++ [ins k []])]) ?_ (l1.trans (.app _ _)) (at_end1 _ _ _ _)
  simp only [ins] at o1 ⊢
  simp! [F_lower_value, c, alloc, at_end, o1, show (lowE E ad t).length ≤ 16777215 by omega]
theorem lower_cst_ok {E : Ev} (F : E.fit) (l : Int) (p : Nm) (as : List TE) (ah : Bool) (sp : sgn p) (ss : ∀ e ∈ as, e.sg) (hz : asz as ≤ 500000) (j : Nat) (hj : 2 * htL as + 5 ≤ j) (h : LH) (n : Nat) (a : NmAt h n E) (ad : Int) : RL (callC E ad p as ah (ins [100,114,111,112] [])) h (callN TT.pr j 1185538313903294382820098431419675628369780 [.ref n, .int ad, tsD (.cal l p as ah)] h) := by
  obtain ⟨j', hk'⟩ : ∃ k', j = k' + 1 := ⟨j - 1, by omega⟩
  subst hk'
  rw [callN_succ fn_lower_call_statement rfl]
  obtain ⟨q, h1, c, l1, f1⟩ := lower_call_ok F p as ah (ins [100,114,111,112] []) sp ss hz j' (by omega) h n a ad
  refine .mk (a := q) (h' := h1) ?_ l1 f1
  simp only [ins] at c
  simp! [F_lower_call_statement, tsD, c]
theorem lower_brk_ok (l : Int) (j : Nat) (hj : 1 ≤ j) (h : LH) (n : Nat) (ad : Int) : RL [ins [98,114,101,97,107] []] h (callN TT.pr j 128536321549875134689515 [.ref n, .int ad, tsD (.brk l)] h) := by
  obtain ⟨j', hk'⟩ : ∃ k', j = k' + 1 := ⟨j - 1, by omega⟩
  subst hk'
  rw [callN_succ fn_lower_break rfl]
  exact .mk (a := h.length) (h' := h ++ [.lst [ins [98,114,101,97,107] []]]) (by simp! [F_lower_break, alloc, ins]) (.app _ _) (at_end _ _ _)
noncomputable def plainL : List (List Nat × D) := [([118,97,114], .fn 16452649158383983178445806), ([115,101,116], .fn 16452649158383983178445806), ([115,101,116,95,102,105,101,108,100], .fn 34503706087804576250091485623908), ([115,101,116,95,105,116,101,109], .fn 269560203810973251953846203117), ([99,97,108,108], .fn 1185538313903294382820098431419675628369780), ([114,101,116,117,114,110], .fn 128536321549880467864293), ([116,104,114,111,119], .fn 128536321549880467864293), ([112,114,105,110,116], .fn 128536321549880467864293), ([98,114,101,97,107], .fn 128536321549875134689515)]
noncomputable def nestedL : List (List Nat × D) := [([105,102], .fn 61290894293726438), ([119,104,105,108,101], .fn 128536321549880750929509), ([102,111,114], .fn 7845234469596936178), ([116,114,121], .fn 7845234469597165945)]
theorem kd_plain : TT.pr.kd 21635294414 = some plainL := kd_PLAIN
theorem kd_nested : TT.pr.kd 2698757087940 = some nestedL := kd_NESTED
/-- a plain statement by its rule -/
theorem plain_st {E : Ev} (j : Nat) (hj : 2 ≤ j) (h : LH) (n : Nat) (ad : Int) (k : Nm) (l : Int) (r : List D) (rl : Nat) (c : List D) (hc : c.length ≤ 1000000) (hk : plainL.lookup k = some (.fn rl)) (q : ∀ j', j = j' + 1 → RL c h (callN TT.pr j' rl [.ref n, .int ad, .tup (.str k :: .int l :: r)] h)) :
    RL (wl l c) h (callN TT.pr j 34503706087804584611499197691764 [.ref n, .int ad, .tup (.str k :: .int l :: r)] h) := by
  obtain ⟨j', hk'⟩ : ∃ k', j = k' + 1 := ⟨j - 1, by omega⟩
  subst hk'
  rw [callN_succ fn_lower_statement rfl]
  obtain ⟨p, h1, e, l1, f1⟩ := q j' rfl
  have w := with_line_ok j' (by omega) l c hc h1 p f1
  refine .mk (a := h1.length) (h' := h1 ++ [.lst (wl l c)]) ?_ (l1.trans (.app _ _)) (at_end _ _ _)
  simp! [F_lower_statement, gv_PLAIN, kd_plain, hk, e, w]
theorem nested_st {E : Ev} (j : Nat) (hj : 2 ≤ j) (h : LH) (n : Nat) (ad : Int) (k : Nm) (r : List D) (rl : Nat) (c : List D) (hk : plainL.lookup k = none) (hk2 : nestedL.lookup k = some (.fn rl)) (q : ∀ j', j = j' + 1 → RL c h (callN TT.pr j' rl [.ref n, .int ad, .tup (.str k :: r)] h)) :
    RL c h (callN TT.pr j 34503706087804584611499197691764 [.ref n, .int ad, .tup (.str k :: r)] h) := by
  obtain ⟨j', hk'⟩ : ∃ k', j = k' + 1 := ⟨j - 1, by omega⟩
  subst hk'
  rw [callN_succ fn_lower_statement rfl]
  obtain ⟨p, h1, e, l1, f1⟩ := q j' rfl
  refine .mk (a := p) (h' := h1) ?_ l1 f1
  simp! [F_lower_statement, gv_PLAIN, kd_plain, hk, gv_NESTED, kd_nested, hk2, e]
theorem at_end3 (h : LH) (o o' o'' o3 : LO) (r : LH) : (h ++ o :: o' :: o'' :: o3 :: r)[h.length + 3]? = some o3 := by
  rw [List.getElem?_append_right (by omega), show h.length + 3 - h.length = 3 by omega]; rfl
theorem at_end4 (h : LH) (o o' o'' o3 o4 : LO) (r : LH) : (h ++ o :: o' :: o'' :: o3 :: o4 :: r)[h.length + 4]? = some o4 := by
  rw [List.getElem?_append_right (by omega), show h.length + 4 - h.length = 4 by omega]; rfl
theorem at_end5 (h : LH) (o o' o'' o3 o4 o5 : LO) (r : LH) : (h ++ o :: o' :: o'' :: o3 :: o4 :: o5 :: r)[h.length + 5]? = some o5 := by
  rw [List.getElem?_append_right (by omega), show h.length + 5 - h.length = 5 by omega]; rfl
theorem at_end6 (h : LH) (o o' o'' o3 o4 o5 o6 : LO) (r : LH) : (h ++ o :: o' :: o'' :: o3 :: o4 :: o5 :: o6 :: r)[h.length + 6]? = some o6 := by
  rw [List.getElem?_append_right (by omega), show h.length + 6 - h.length = 6 by omega]; rfl
theorem at_end2' (h : LH) (o o' o'' : LO) (r : LH) : (h ++ o :: o' :: o'' :: r)[h.length + 2]? = some o'' := by
  rw [List.getElem?_append_right (by omega), show h.length + 2 - h.length = 2 by omega]; rfl
theorem Ev.counting_fit {E : Ev} (F : E.fit) {x : Nm} (sx : sgn x) (hc : E.ctr.length + 1 < 900) : (E.counting x).fit := ⟨⟨F.ok.recs, F.ok.procs, F.ok.top, F.ok.own, fun s hs => by
      rcases List.mem_append.mp hs with hs | hs
      · exact F.ok.ctr s hs
      · cases List.mem_singleton.mp hs; exact sx⟩, F.recs, F.procs, by simp [Ev.counting]; omega⟩
theorem at_new {h : LH} {E : Ev} : NmAt (h ++ [E.obj]) h.length E := at_end _ _ _
theorem if_step {E : Ev} (j : Nat) (hj : 3 ≤ j) (l ad : Int) (c : TE) (yD nD : List D) (n : Nat) (h h1 h2 h3 : LH) (p q r : Nat) (H Y N : List D) (hz : H.length + Y.length + N.length ≤ 900000)
    (c1 : callN TT.pr j 4416474379238857999729212337584110 [.ref n, .int ad, teD c] h = some (.ref p, h1)) (f1 : h1[p]? = some (.lst H)) (l1 : Le h h1)
    (c2 : callN TT.pr j 128536321549875122270699 [.ref n, .int (ad + H.length + 1), .tup yD] h1 = some (.ref q, h2)) (f2 : h2[q]? = some (.lst Y)) (l2 : Le h1 h2)
    (c3 : callN TT.pr j 128536321549875122270699 [.ref n, .int (ad + H.length + 1 + Y.length + 1), .tup nD] h2 = some (.ref r, h3)) (f3 : h3[r]? = some (.lst N)) (l3 : Le h2 h3) :
    RL (wl l (H ++ [ins [106,117,109,112,95,110,111,116] [.int (ad + H.length + 1 + Y.length + 1)]]) ++ Y ++ [.tup [.int l, ins [106,117,109,112] [.int (ad + H.length + 1 + Y.length + 1 + N.length)]]] ++ N) h
      (callN TT.pr (j + 1) 61290894293726438 [.ref n, .int ad, .tup [.str [105,102], .int l, teD c, .tup yD, .tup nD]] h) := by
  rw [callN_succ fn_lower_if rfl]
  generalize hB : ad + (H.length : Int) + 1 + Y.length + 1 = B at *
  have fH := (l2.trans l3).get f1
  have fH0 := l2.get f1
  have fY := l3.get f2
  have w := with_line_ok j (by omega) l (H ++ [ins [106,117,109,112,95,110,111,116] [.int B]]) (by simp; omega) (h3 ++ [.lst [ins [106,117,109,112,95,110,111,116] [.int B]], .lst (H ++ [ins [106,117,109,112,95,110,111,116] [.int B]])]) (h3.length + 1) (at_end1 _ _ _ _)
  generalize hW : wl l (H ++ [ins [106,117,109,112,95,110,111,116] [.int B]]) = W at w ⊢
  have lW : W.length = H.length + 1 := by rw [← hW]; simp
  refine .mk (a := h3.length + 6) (h' := h3 ++ [.lst [ins [106,117,109,112,95,110,111,116] [.int B]], .lst (H ++ [ins [106,117,109,112,95,110,111,116] [.int B]]), .lst W, .lst (W ++ Y), .lst [.tup [.int l, ins [106,117,109,112] [.int (B + N.length)]]], .lst (W ++ Y ++ [.tup [.int l, ins [106,117,109,112] [.int (B + N.length)]]]), .lst (W ++ Y ++ [.tup [.int l, ins [106,117,109,112] [.int (B + N.length)]]] ++ N)]) ?_ (l1.trans (l2.trans (l3.trans (.app _ _)))) (at_end6 _ _ _ _ _ _ _ _ _)
  simp only [ins, List.length_append, List.length_cons, List.length_nil, List.append_assoc, List.cons_append, List.nil_append, Nat.zero_add, Nat.reduceAdd] at w ⊢
  simp! [F_lower_if, c1, f1, c2, f2, fH0, hB, c3, f3, alloc, at_end, at_end1, at_end3, at_end4, at_end5, at_old fH, w, at_old fY, at_old f3, show H.length ≤ 16777215 by omega, show W.length + Y.length ≤ 16777216 by omega, show W.length + Y.length ≤ 16777215 by omega, show W.length + (Y.length + 1) + N.length ≤ 16777216 by omega]

theorem while_step {E : Ev} (j : Nat) (hj : 3 ≤ j) (l ad : Int) (c : TE) (bD : List D) (n : Nat) (h h1 h3 : LH) (p q : Nat) (H B : List D) (hz : H.length + B.length ≤ 900000) (a : NmAt h n E)
    (c1 : callN TT.pr j 4416474379238857999729212337584110 [.ref n, .int (ad + 1), teD c] h = some (.ref p, h1)) (f1 : h1[p]? = some (.lst H)) (l1 : Le h h1)
    (c2 : callN TT.pr j 128536321549875122270699 [.ref h1.length, .int (ad + 1 + H.length + 1), .tup bD] (h1 ++ [E.within.obj]) = some (.ref q, h3)) (f2 : h3[q]? = some (.lst B)) (l2 : Le (h1 ++ [E.within.obj]) h3) :
    RL (wl l ([ins [108,111,111,112] [.int (ad + 1 + H.length + 1 + B.length + 1 + 1)]] ++ H ++ [ins [106,117,109,112,95,110,111,116] [.int (ad + 1 + H.length + 1 + B.length + 1)]]) ++ B ++ wl l [ins [106,117,109,112] [.int (ad + 1)], ins [101,110,100,95,108,111,111,112] []]) h
      (callN TT.pr (j + 1) 128536321549880750929509 [.ref n, .int ad, .tup [.str [119,104,105,108,101], .int l, teD c, .tup bD]] h) := by
  rw [callN_succ fn_lower_while rfl]
  generalize hB : ad + 1 + (H.length : Int) + 1 + B.length + 1 = A at *
  have e1 := nm_get (l1.nm a)
  have wi := within_ok j (by omega) (l1.nm a)
  have fH0 := at_old f1
  have fH := l2.get (fH0 [E.within.obj])
  generalize hK : [ins [108,111,111,112] [.int (A + 1)]] ++ H ++ [ins [106,117,109,112,95,110,111,116] [.int A]] = K
  have lK : K.length = H.length + 2 := by rw [← hK]; simp
  have w := with_line_ok j (by omega) l K (by omega) (h3 ++ [.lst [ins [108,111,111,112] [.int (A + 1)]], .lst ([ins [108,111,111,112] [.int (A + 1)]] ++ H), .lst [ins [106,117,109,112,95,110,111,116] [.int A]], .lst K]) (h3.length + 3) (at_end3 _ _ _ _ _ _)
  generalize hW : wl l K = W at w ⊢
  have lW : W.length = H.length + 2 := by rw [← hW]; simp [lK]
  have w2 := with_line_ok j (by omega) l [ins [106,117,109,112] [.int (ad + 1)], ins [101,110,100,95,108,111,111,112] []] (by simp) (h3 ++ [.lst [ins [108,111,111,112] [.int (A + 1)]], .lst ([ins [108,111,111,112] [.int (A + 1)]] ++ H), .lst [ins [106,117,109,112,95,110,111,116] [.int A]], .lst K, .lst W, .lst (W ++ B), .lst [ins [106,117,109,112] [.int (ad + 1)], ins [101,110,100,95,108,111,111,112] []]]) (h3.length + 6) (at_end6 _ _ _ _ _ _ _ _ _)
  generalize hV : wl l [ins [106,117,109,112] [.int (ad + 1)], ins [101,110,100,95,108,111,111,112] []] = V at w2 ⊢
  have lV : V.length = 2 := by rw [← hV]; simp
  refine .mk (a := h3.length + 8) (h' := h3 ++ [.lst [ins [108,111,111,112] [.int (A + 1)]], .lst ([ins [108,111,111,112] [.int (A + 1)]] ++ H), .lst [ins [106,117,109,112,95,110,111,116] [.int A]], .lst K, .lst W, .lst (W ++ B), .lst [ins [106,117,109,112] [.int (ad + 1)], ins [101,110,100,95,108,111,111,112] []], .lst V, .lst (W ++ B ++ V)]) ?_ (l1.trans ((Le.app _ _).trans (l2.trans (.app _ _)))) (by rw [List.getElem?_append_right (by omega), show h3.length + 8 - h3.length = 8 by omega]; rfl)
  have k7 : ∀ (o o1 o2 o3 o4 o5 o6 o7 : LO) (r : LH), (h3 ++ o :: o1 :: o2 :: o3 :: o4 :: o5 :: o6 :: o7 :: r)[h3.length + 7]? = some o7 := fun _ _ _ _ _ _ _ _ _ => by rw [List.getElem?_append_right (by omega), show h3.length + 7 - h3.length = 7 by omega]; rfl
  simp only [ins, List.length_append, List.length_cons, List.length_nil, List.append_assoc, List.cons_append, List.nil_append, Nat.zero_add, Nat.reduceAdd] at w w2 hK ⊢
  simp! [F_lower_while, c1, f1, fH0, e1, cl_Names, wi, c2, f2, hB, alloc, at_end, at_end1, at_end2', at_end3, at_end4, at_end5, at_end6, k7, fH, at_old fH, at_old f2, hK, w, w2, show 1 + H.length ≤ 16777216 by omega, show H.length ≤ 16777214 by omega, show W.length + B.length ≤ 16777216 by omega, show W.length + B.length + V.length ≤ 16777216 by omega]
theorem try_step {E : Ev} (F : E.fit) (j : Nat) (hj : 3 ≤ j) (l ad : Int) (x : Nm) (sx : sgn x) (bD cD : List D) (n : Nat) (h h1 h3 : LH) (p q : Nat) (B C : List D) (hz : B.length + C.length ≤ 900000) (a : NmAt h n E)
    (c1 : callN TT.pr j 128536321549875122270699 [.ref n, .int (ad + 1), .tup bD] h = some (.ref p, h1)) (f1 : h1[p]? = some (.lst B)) (l1 : Le h h1)
    (c2 : callN TT.pr j 128536321549875122270699 [.ref n, .int (ad + 1 + B.length + 2 + 1), .tup cD] h1 = some (.ref q, h3)) (f2 : h3[q]? = some (.lst C)) (l2 : Le h1 h3) :
    RL ([.tup [.int l, ins [103,117,97,114,100] [.int (ad + 1 + B.length + 2)]]] ++ B ++ wl l [ins [117,110,103,117,97,114,100] [], ins [106,117,109,112] [.int (ad + 1 + B.length + 2 + 1 + C.length)], storeD E x] ++ C) h
      (callN TT.pr (j + 1) 7845234469597165945 [.ref n, .int ad, .tup [.str [116,114,121], .int l, .tup bD, .str x, .tup cD]] h) := by
  rw [callN_succ fn_lower_try rfl]
  generalize hB : ad + 1 + (B.length : Int) + 2 = A at *
  have fH := l2.get f1
  have a3 := (l1.trans l2).nm a
  have e1 := nm_get (NmAt.app a3 [.lst [.tup [.int l, ins [103,117,97,114,100] [.int A]]], .lst ([.tup [.int l, ins [103,117,97,114,100] [.int A]]] ++ B)])
  have vv := variable_ok j (by omega) F.ok sx (NmAt.app a3 [.lst [.tup [.int l, ins [103,117,97,114,100] [.int A]]], .lst ([.tup [.int l, ins [103,117,97,114,100] [.int A]]] ++ B)])
  generalize hK : [ins [117,110,103,117,97,114,100] [], ins [106,117,109,112] [.int (A + 1 + C.length)], storeD E x] = K
  have lK : K.length = 3 := by rw [← hK]; rfl
  have w := with_line_ok j (by omega) l K (by omega) (h3 ++ [.lst [.tup [.int l, ins [103,117,97,114,100] [.int A]]], .lst ([.tup [.int l, ins [103,117,97,114,100] [.int A]]] ++ B), .lst K]) (h3.length + 2) (at_end2' _ _ _ _ _)
  generalize hW : wl l K = W at w ⊢
  have lW : W.length = 3 := by rw [← hW]; simp [lK]
  refine .mk (a := h3.length + 5) (h' := h3 ++ [.lst [.tup [.int l, ins [103,117,97,114,100] [.int A]]], .lst ([.tup [.int l, ins [103,117,97,114,100] [.int A]]] ++ B), .lst K, .lst W, .lst ([.tup [.int l, ins [103,117,97,114,100] [.int A]]] ++ B ++ W), .lst ([.tup [.int l, ins [103,117,97,114,100] [.int A]]] ++ B ++ W ++ C)]) ?_ (l1.trans (l2.trans (.app _ _))) (at_end5 _ _ _ _ _ _ _ _)
  simp only [ins, storeD, List.length_append, List.length_cons, List.length_nil, List.append_assoc, List.cons_append, List.nil_append, Nat.zero_add, Nat.reduceAdd] at w hK e1 vv ⊢
  simp! [F_lower_try, c1, f1, e1, cl_Names, vv, c2, f2, hB, alloc, at_end, at_end1, at_end2', at_end3, at_end4, at_old fH, at_old f2, hK, w, show K.length ≤ 16777216 by omega, show 1 + B.length ≤ 16777216 by omega, show B.length ≤ 16777215 by omega, show B.length + 1 + W.length ≤ 16777216 by omega, show B.length + W.length ≤ 16777215 by omega, show B.length + (W.length + C.length) ≤ 16777215 by omega, show B.length + W.length + 1 + C.length ≤ 16777216 by omega, show B.length + 1 + (W.length + C.length) ≤ 16777216 by omega, show B.length + 1 + W.length + C.length ≤ 16777216 by omega, show 1 + (B.length + W.length) + C.length ≤ 16777216 by omega]

theorem for_step {E : Ev} (F : E.fit) (lc : E.ctr.length + 1 < 900) (j : Nat) (hj : 3 ≤ j) (l ad : Int) (x : Nm) (sx : sgn x) (lo hi : TE) (bD : List D) (ah : Bool) (n : Nat) (h h1 h2 h3 : LH) (p q r : Nat) (L H B : List D) (hz : L.length + H.length + B.length ≤ 900000) (a : NmAt h n E)
    (c1 : callN TT.pr j 4416474379238857999729212337584110 [.ref n, .int ad, teD lo] h = some (.ref p, h1)) (f1 : h1[p]? = some (.lst L)) (l1 : Le h h1)
    (c2 : callN TT.pr j 4416474379238857999729212337584110 [.ref n, .int (ad + L.length), teD hi] h1 = some (.ref q, h2)) (f2 : h2[q]? = some (.lst H)) (l2 : Le h1 h2)
    (S : Int) (hS : S = ad + (L ++ H).length + 1 + (if ah then 2 else 1))
    (c3 : callN TT.pr j 128536321549875122270699 [.ref (h2.length + 1), .int S, .tup bD] (h2 ++ [.lst (L ++ H), (E.counting x).obj]) = some (.ref r, h3)) (f3 : h3[r]? = some (.lst B)) (l3 : Le (h2 ++ [.lst (L ++ H), (E.counting x).obj]) h3) :
    RL (if ah then wl l (L ++ H ++ [ins [101,97,99,104] [.int (S + B.length + 1 + 2)], ins [116,101,115,116] [.int (S + B.length + 1 + 1)]]) ++ ([.tup [.int l, ins [115,112,97,119,110] [.int (S + B.length + 1)]]] ++ B ++ [.tup [.int l, ins [102,105,110,105,115,104] []]]) ++ wl l [ins [110,101,120,116] [.int (ad + (L ++ H).length + 1)], ins [101,110,100,95,108,111,111,112] []]
      else wl l (L ++ H ++ [ins [101,97,99,104] [.int (S + B.length + 2)], ins [116,101,115,116] [.int (S + B.length + 1)]]) ++ B ++ wl l [ins [110,101,120,116] [.int (ad + (L ++ H).length + 1)], ins [101,110,100,95,108,111,111,112] []]) h
      (callN TT.pr (j + 1) 7845234469596936178 [.ref n, .int ad, .tup [.str [102,111,114], .int l, .str x, teD lo, teD hi, .tup bD, .bl ah]] h) := by
  rw [callN_succ fn_lower_for rfl]
  have ad1 := op_lst (l2.get f1) f2 (by omega)
  generalize hT : L ++ H = T at *
  have lT : T.length = L.length + H.length := by rw [← hT]; simp
  have l3' : Le h2 h3 := (Le.app _ _).trans l3
  have g2 := at_end h2 (.lst T) []
  have a2 := (l1.trans l2).nm a
  have e1 := nm_get (NmAt.app a2 [.lst T])
  have co := counting_ok j (by omega) (NmAt.app a2 [.lst T]) x (by omega)
  have g3 := l3.get (at_end h2 (.lst T) [(E.counting x).obj])
  simp only [List.length_append, List.length_cons, List.length_nil, List.append_assoc, List.cons_append, List.nil_append, Nat.zero_add] at co
  generalize hTe : ad + (T.length : Int) + 1 = Te at *
  have w2' := fun (X : LH) (i : Nat) (hi : (h3 ++ X)[i]? = some (.lst [ins [110,101,120,116] [.int Te], ins [101,110,100,95,108,111,111,112] []])) => with_line_ok j (by omega) l [ins [110,101,120,116] [.int Te], ins [101,110,100,95,108,111,111,112] []] (by simp) (h3 ++ X) i hi
  generalize hV : wl l [ins [110,101,120,116] [.int Te], ins [101,110,100,95,108,111,111,112] []] = V at w2' ⊢
  have lV : V.length = 2 := by rw [← hV]; simp
  cases ah with
  | false =>
    have hQ : Te + 1 = S := hS.symm
    simp only [Bool.false_eq_true, if_false] at hS ⊢
    generalize hA : S + (B.length : Int) = A at *
    generalize hK : T ++ [ins [101,97,99,104] [.int (A + 2)], ins [116,101,115,116] [.int (A + 1)]] = K
    have lK : K.length = T.length + 2 := by rw [← hK]; simp
    have w := with_line_ok j (by omega) l K (by omega) (h3 ++ [.lst [ins [101,97,99,104] [.int (A + 2)], ins [116,101,115,116] [.int (A + 1)]], .lst K]) (h3.length + 1) (at_end1 _ _ _ _)
    generalize hW : wl l K = W at w ⊢
    have lW : W.length = K.length := by rw [← hW]; simp
    have w2 := w2' [.lst [ins [101,97,99,104] [.int (A + 2)], ins [116,101,115,116] [.int (A + 1)]], .lst K, .lst W, .lst (W ++ B), .lst [ins [110,101,120,116] [.int Te], ins [101,110,100,95,108,111,111,112] []]] (h3.length + 4) (at_end4 _ _ _ _ _ _ _)
    clear w2'
    refine .mk (a := h3.length + 6) (h' := h3 ++ [.lst [ins [101,97,99,104] [.int (A + 2)], ins [116,101,115,116] [.int (A + 1)]], .lst K, .lst W, .lst (W ++ B), .lst [ins [110,101,120,116] [.int Te], ins [101,110,100,95,108,111,111,112] []], .lst V, .lst (W ++ B ++ V)]) ?_ (l1.trans (l2.trans (l3'.trans (.app _ _)))) (at_end6 _ _ _ _ _ _ _ _ _)
    simp only [ins, List.length_append, List.length_cons, List.length_nil, List.append_assoc, List.cons_append, List.nil_append, Nat.zero_add, Nat.reduceAdd] at w w2 hK ⊢
    simp! [F_lower_for, c1, f1, c2, ad1, g2, hTe, hQ, co, e1, cl_Names, c3, f3, hA, g3, at_old g3, at_old f3, alloc, at_end, at_end1, at_end2', at_end3, at_end4, at_end5, hK, w, w2, show T.length ≤ 16777214 by omega, show W.length + B.length ≤ 16777216 by omega, show W.length + (B.length + V.length) ≤ 16777216 by omega, show W.length + B.length + V.length ≤ 16777216 by omega]
  | true =>
    have hQ : Te + 2 = S := hS.symm
    simp only [if_true] at hS ⊢
    generalize hA : S + (B.length : Int) + 1 = A at *
    have hA' : S + (B.length : Int) = A - 1 := by omega
    generalize hI : [D.tup [.int l, ins [115,112,97,119,110] [.int A]]] ++ B ++ [.tup [.int l, ins [102,105,110,105,115,104] []]] = I
    have lI : I.length = B.length + 2 := by rw [← hI]; simp
    generalize hK : T ++ [ins [101,97,99,104] [.int (A + 2)], ins [116,101,115,116] [.int (A + 1)]] = K
    have lK : K.length = T.length + 2 := by rw [← hK]; simp
    have w := with_line_ok j (by omega) l K (by omega) (h3 ++ [.lst [.tup [.int l, ins [115,112,97,119,110] [.int A]]], .lst ([.tup [.int l, ins [115,112,97,119,110] [.int A]]] ++ B), .lst [.tup [.int l, ins [102,105,110,105,115,104] []]], .lst I, .lst [ins [101,97,99,104] [.int (A + 2)], ins [116,101,115,116] [.int (A + 1)]], .lst K]) (h3.length + 5) (at_end5 _ _ _ _ _ _ _ _)
    generalize hW : wl l K = W at w ⊢
    have lW : W.length = K.length := by rw [← hW]; simp
    have k8 : ∀ (o o1 o2 o3 o4 o5 o6 o7 o8 : LO) (r : LH), (h3 ++ o :: o1 :: o2 :: o3 :: o4 :: o5 :: o6 :: o7 :: o8 :: r)[h3.length + 8]? = some o8 := fun _ _ _ _ _ _ _ _ _ _ => by rw [List.getElem?_append_right (by omega), show h3.length + 8 - h3.length = 8 by omega]; rfl
    have k7 : ∀ (o o1 o2 o3 o4 o5 o6 o7 : LO) (r : LH), (h3 ++ o :: o1 :: o2 :: o3 :: o4 :: o5 :: o6 :: o7 :: r)[h3.length + 7]? = some o7 := fun _ _ _ _ _ _ _ _ _ => by rw [List.getElem?_append_right (by omega), show h3.length + 7 - h3.length = 7 by omega]; rfl
    have k9 : ∀ (o o1 o2 o3 o4 o5 o6 o7 o8 o9 : LO) (r : LH), (h3 ++ o :: o1 :: o2 :: o3 :: o4 :: o5 :: o6 :: o7 :: o8 :: o9 :: r)[h3.length + 9]? = some o9 := fun _ _ _ _ _ _ _ _ _ _ _ => by rw [List.getElem?_append_right (by omega), show h3.length + 9 - h3.length = 9 by omega]; rfl
    have k10 : ∀ (o o1 o2 o3 o4 o5 o6 o7 o8 o9 o10 : LO) (r : LH), (h3 ++ o :: o1 :: o2 :: o3 :: o4 :: o5 :: o6 :: o7 :: o8 :: o9 :: o10 :: r)[h3.length + 10]? = some o10 := fun _ _ _ _ _ _ _ _ _ _ _ _ => by rw [List.getElem?_append_right (by omega), show h3.length + 10 - h3.length = 10 by omega]; rfl
    have w2 := w2' [.lst [.tup [.int l, ins [115,112,97,119,110] [.int A]]], .lst ([.tup [.int l, ins [115,112,97,119,110] [.int A]]] ++ B), .lst [.tup [.int l, ins [102,105,110,105,115,104] []]], .lst I, .lst [ins [101,97,99,104] [.int (A + 2)], ins [116,101,115,116] [.int (A + 1)]], .lst K, .lst W, .lst (W ++ I), .lst [ins [110,101,120,116] [.int Te], ins [101,110,100,95,108,111,111,112] []]] (h3.length + 8) (k8 _ _ _ _ _ _ _ _ _ _)
    clear w2'
    refine .mk (a := h3.length + 10) (h' := h3 ++ [.lst [.tup [.int l, ins [115,112,97,119,110] [.int A]]], .lst ([.tup [.int l, ins [115,112,97,119,110] [.int A]]] ++ B), .lst [.tup [.int l, ins [102,105,110,105,115,104] []]], .lst I, .lst [ins [101,97,99,104] [.int (A + 2)], ins [116,101,115,116] [.int (A + 1)]], .lst K, .lst W, .lst (W ++ I), .lst [ins [110,101,120,116] [.int Te], ins [101,110,100,95,108,111,111,112] []], .lst V, .lst (W ++ I ++ V)]) ?_ (l1.trans (l2.trans (l3'.trans (.app _ _)))) (k10 _ _ _ _ _ _ _ _ _ _ _ _)
    have hA2 : A - 1 + 1 = A := by omega
    simp only [ins, List.length_append, List.length_cons, List.length_nil, List.append_assoc, List.cons_append, List.nil_append, Nat.zero_add, Nat.reduceAdd] at w w2 hK hI ⊢
    simp! [F_lower_for, c1, f1, c2, ad1, g2, hTe, hQ, co, e1, cl_Names, c3, f3, hA, g3, at_old g3, at_old f3, alloc, at_end, at_end1, at_end2', at_end3, at_end4, at_end5, at_end6, k7, k8, k9, hK, hI, w, w2, show T.length ≤ 16777214 by omega, show 1 + B.length ≤ 16777216 by omega, show B.length + 1 ≤ 16777215 by omega, show B.length ≤ 16777214 by omega, show B.length ≤ 16777215 by omega, show W.length + I.length ≤ 16777216 by omega, show W.length + (I.length + V.length) ≤ 16777216 by omega, show W.length + I.length + V.length ≤ 16777216 by omega]
mutual
theorem low_stmt : ∀ (s : TS) {E : Ev} (F : E.fit) (m : Nat) (lc : E.ctr.length + m < 900) (hm : s.ht ≤ m) (g : s.sg) (hz : s.sz ≤ 400000) (j : Nat) (hj : 2 * s.ht + 8 ≤ j) (h : LH) (n : Nat) (a : NmAt h n E) (ad : Int), RL (lowS E ad s) h (callN TT.pr j 34503706087804584611499197691764 [.ref n, .int ad, tsD s] h)
  | .asg v l x r, E, F, m, lc, hm, g, hz, j, hj, h, n, a, ad => by
    simp only [TS.sz, TS.ht] at hz hj
    exact plain_st (E := E) j (by omega) h n ad (asS v) l [.str x, trD r] 16452649158383983178445806 _ (by rw [rightC_len]; omega) (by cases v <;> rfl) fun j' e => lower_assign_ok F _ l x r g.1 g.2 (by omega) j' (by omega) h n a ad
  | .sfl l t f u, E, F, m, lc, hm, g, hz, j, hj, h, n, a, ad => by
    simp only [TS.sz, TS.ht] at hz hj
    have hz2 : (sfldC E ad t f u).length ≤ 1000000 := by
      have := lowS_len (.sfl l t f u) E ad
      simp only [lowS, wl_len, TS.sz] at this
      omega
    exact plain_st (E := E) j (by omega) h n ad [115,101,116,95,102,105,101,108,100] l [teD t, .str f, teD u] 34503706087804576250091485623908 _ hz2 rfl fun j' e => lower_sfl_ok F _ l t f u ⟨g.1, g.2.2⟩ (by omega) j' (by omega) h n a ad
  | .sit l t i u, E, F, m, lc, hm, g, hz, j, hj, h, n, a, ad => by
    simp only [TS.sz, TS.ht] at hz hj
    have hz2 : (sitmC E ad t i u).length ≤ 1000000 := by
      have := lowS_len (.sit l t i u) E ad
      simp only [lowS, wl_len, TS.sz] at this
      omega
    exact plain_st (E := E) j (by omega) h n ad [115,101,116,95,105,116,101,109] l [teD t, teD i, teD u] 269560203810973251953846203117 _ hz2 rfl fun j' e => lower_sit_ok F _ l t i u g (by omega) j' (by omega) h n a ad
  | .cal l p as ah, E, F, m, lc, hm, g, hz, j, hj, h, n, a, ad => by
    simp only [TS.sz, TS.ht, csz] at hz hj
    exact plain_st (E := E) j (by omega) h n ad [99,97,108,108] l [.str p, .tup (as.map teD), .bl ah] 1185538313903294382820098431419675628369780 _ (by rw [callC_len, csz]; omega) rfl fun j' e => lower_cst_ok F l p as ah g.1 g.2 (by omega) j' (by omega) h n a ad
  | .val k l t, E, F, m, lc, hm, g, hz, j, hj, h, n, a, ad => by
    simp only [TS.sz, TS.ht] at hz hj
    exact plain_st (E := E) j (by omega) h n ad k.s l [teD t] 128536321549880467864293 _ (by simp [lowE_len]; omega) (by cases k <;> rfl) fun j' e => lower_val_ok F k.s l t g (by omega) j' (by omega) h n a ad
  | .brk l, E, F, m, lc, hm, g, hz, j, hj, h, n, a, ad => by
    exact plain_st (E := E) j (by omega) h n ad [98,114,101,97,107] l [] 128536321549875134689515 [ins [98,114,101,97,107] []] (by simp) rfl fun j' e => lower_brk_ok l j' (by omega) h n ad
  | .ite l c y u, E, F, m, lc, hm, g, hz, j, hj, h, n, a, ad => by
    simp only [TS.sz, TS.ht] at hz hj hm
    refine nested_st (E := E) j (by omega) h n ad [105,102] _ 61290894293726438 _ rfl rfl fun j' e => ?_
    subst e
    obtain ⟨k, rfl⟩ : ∃ k, j' = k + 1 := ⟨j' - 1, by omega⟩
    obtain ⟨p, h1, c1, l1, f1⟩ := lower_expr_ok F c g.1 (by omega) k (by omega) h n ad a
    obtain ⟨q, h2, c2, l2, f2⟩ := low_blk y F m lc (by omega) g.2.1 (by omega) k (by omega) h1 n (l1.nm a) (ad + (lowE E ad c).length + 1)
    obtain ⟨r, h3, c3, l3, f3⟩ := low_blk u F m lc (by omega) g.2.2 (by omega) k (by omega) h2 n ((l1.trans l2).nm a) (ad + (lowE E ad c).length + 1 + (lowB E (ad + (lowE E ad c).length + 1) [] y).length + 1)
    exact if_step (E := E) k (by omega) l ad c (tssD y) (tssD u) n h h1 h2 h3 p q r _ _ _ (by rw [lowE_len, lowB_len, lowB_len]; simp only [List.length_nil]; omega) c1 f1 l1 c2 f2 l2 c3 f3 l3
  | .whl l c b, E, F, m, lc, hm, g, hz, j, hj, h, n, a, ad => by
    simp only [TS.sz, TS.ht] at hz hj hm
    refine nested_st (E := E) j (by omega) h n ad [119,104,105,108,101] _ 128536321549880750929509 _ rfl rfl fun j' e => ?_
    subst e
    obtain ⟨k, rfl⟩ : ∃ k, j' = k + 1 := ⟨j' - 1, by omega⟩
    obtain ⟨p, h1, c1, l1, f1⟩ := lower_expr_ok F c g.1 (by omega) k (by omega) h n (ad + 1) a
    obtain ⟨q, h2, c2, l2, f2⟩ := low_blk b (Ev.within_fit F) m lc (by omega) g.2 (by omega) k (by omega) (h1 ++ [E.within.obj]) h1.length at_new (ad + 1 + (lowE E (ad + 1) c).length + 1)
    exact while_step k (by omega) l ad c (tssD b) n h h1 h2 p q _ _ (by rw [lowE_len, lowB_len]; simp only [List.length_nil]; omega) a c1 f1 l1 c2 f2 l2
  | .for_ l x lo hi b ah, E, F, m, lc, hm, g, hz, j, hj, h, n, a, ad => by
    simp only [TS.sz, TS.ht] at hz hj hm
    refine nested_st (E := E) j (by omega) h n ad [102,111,114] _ 7845234469596936178 _ rfl rfl fun j' e => ?_
    subst e
    obtain ⟨k, rfl⟩ : ∃ k, j' = k + 1 := ⟨j' - 1, by omega⟩
    obtain ⟨p, h1, c1, l1, f1⟩ := lower_expr_ok F lo g.2.1 (by omega) k (by omega) h n ad a
    obtain ⟨q, h2, c2, l2, f2⟩ := lower_expr_ok F hi g.2.2.1 (by omega) k (by omega) h1 n (ad + (lowE E ad lo).length) (l1.nm a)
    obtain ⟨r, h3, c3, l3, f3⟩ := low_blk b (Ev.counting_fit F g.1 (by omega)) (m - 1) (by simp [Ev.counting]; omega) (by omega) g.2.2.2 (by omega) k (by omega) (h2 ++ [.lst (lowE E ad lo ++ lowE E (ad + (lowE E ad lo).length) hi), (E.counting x).obj]) (h2.length + 1) (at_end1 _ _ _ _) (ad + (lowE E ad lo ++ lowE E (ad + (lowE E ad lo).length) hi).length + 1 + (if ah then 2 else 1))
    have K := for_step F (by omega) k (by omega) l ad x g.1 lo hi (tssD b) ah n h h1 h2 h3 p q r _ _ _ (by rw [lowE_len, lowE_len, lowB_len]; simp only [List.length_nil]; omega) a c1 f1 l1 c2 f2 l2 _ rfl c3 f3 l3
    cases ah <;> exact K
  | .try_ l b x c, E, F, m, lc, hm, g, hz, j, hj, h, n, a, ad => by
    simp only [TS.sz, TS.ht] at hz hj hm
    refine nested_st (E := E) j (by omega) h n ad [116,114,121] _ 7845234469597165945 _ rfl rfl fun j' e => ?_
    subst e
    obtain ⟨k, rfl⟩ : ∃ k, j' = k + 1 := ⟨j' - 1, by omega⟩
    obtain ⟨p, h1, c1, l1, f1⟩ := low_blk b F m lc (by omega) g.1 (by omega) k (by omega) h n a (ad + 1)
    obtain ⟨q, h2, c2, l2, f2⟩ := low_blk c F m lc (by omega) g.2.2 (by omega) k (by omega) h1 n (l1.nm a) (ad + 1 + (lowB E (ad + 1) [] b).length + 2 + 1)
    exact try_step F k (by omega) l ad x g.2.1 (tssD b) (tssD c) n h h1 h2 p q _ _ (by rw [lowB_len, lowB_len]; simp only [List.length_nil]; omega) a c1 f1 l1 c2 f2 l2
theorem low_blk : ∀ (r : TSs) {E : Ev} (F : E.fit) (m : Nat) (lc : E.ctr.length + m < 900) (hm : r.ht ≤ m) (g : r.sg) (hz : r.sz ≤ 400000) (j : Nat) (hj : 2 * r.ht + 9 ≤ j) (h : LH) (n : Nat) (a : NmAt h n E) (ad : Int), RL (lowB E ad [] r) h (callN TT.pr j 128536321549875122270699 [.ref n, .int ad, .tup (tssD r)] h)
  | r, E, F, m, lc, hm, g, hz, j, hj, h, n, a, ad => by
    obtain ⟨j', hk'⟩ : ∃ k', j = k' + 1 := ⟨j - 1, by omega⟩
    subst hk'
    rw [callN_succ fn_lower_block rfl]
    obtain ⟨p, h1, ⟨d, e⟩, l1, f1⟩ := low_row r F m lc hm g [] (by simpa using hz) j' (by omega) (h ++ [.lst []]) n (a.app _) ad h.length (at_end _ _ _) (tssD r) (.tup (tssD r)) none
    refine .mk (a := p) (h' := h1) ?_ ((Le.app _ _).trans l1) f1
    simp! [F_lower_block, alloc]
    rw [e]
    rfl
theorem low_row : ∀ (r : TSs) {E : Ev} (F : E.fit) (m : Nat) (lc : E.ctr.length + m < 900) (hm : r.ht ≤ m) (g : r.sg) (acc : List D) (hz : acc.length + r.sz ≤ 400000) (j : Nat) (hj : 2 * r.ht + 8 ≤ j) (h : LH) (n : Nat) (a : NmAt h n E) (ad : Int) (p : Nat) (f : h[p]? = some (.lst acc)) (all : List D) (b : D) (d : Option D),
    ∃ p' h', (∃ d', forL (tgF (.nm 4)) (bodyF TT.pr (callN TT.pr j) (.cons (.asg (.nm 3) (.bop .add (.lv 3) (.call 34503706087804584611499197691764 (.cons (.lv 0) (.cons (.bop .add (.lv 1) (.blt .len (.cons (.lv 3) .nil))) (.cons (.lv 4) .nil)))))) .nil)) none all (tssD r) [some (.ref n), some (.int ad), some b, some (.ref p), d] h = some (.nx, [some (.ref n), some (.int ad), some b, some (.ref p'), d'], h')) ∧ Le h h' ∧ h'[p']? = some (.lst (lowB E ad acc r))
  | .nil, E, F, m, lc, hm, g, acc, hz, j, hj, h, n, a, ad, p, f, all, b, d => ⟨p, h, ⟨d, by simp [tssD, forL_n]⟩, .refl _, f⟩
  | .cons s r, E, F, m, lc, hm, g, acc, hz, j, hj, h, n, a, ad, p, f, all, b, d => by
    simp only [TSs.ht, TSs.sz] at hj hm hz
    obtain ⟨q, h1, c, l1, f1⟩ := low_stmt s F m lc (by omega) g.1 (by omega) j (by omega) h n a (ad + acc.length)
    have add := op_lst (l1.get f) f1 (by rw [lowS_len]; omega)
    obtain ⟨p', h', ⟨d', e⟩, l2, f2⟩ := low_row r F m lc (by omega) g.2 (acc ++ lowS E (ad + acc.length) s) (by rw [List.length_append, lowS_len]; omega) j (by omega) (h1 ++ [.lst (acc ++ lowS E (ad + acc.length) s)]) n ((l1.trans (.app _ _)).nm a) ad h1.length (at_end _ _ _) all b (some (tsD s))
    refine ⟨p', h', ⟨d', ?_⟩, l1.trans ((Le.app _ _).trans l2), f2⟩
    rw [tssD, forL_c]
    simp! [f, c, add, e]
end
theorem lower_proc_ok {E : Ev} (F : E.fit) (ps : List Nm) (hps : ps.length ≤ 1000) (b : TSs) (m : Nat) (lc : E.ctr.length + m < 900) (hm : b.ht ≤ m) (g : b.sg) (hz : b.sz ≤ 400000) (j : Nat) (hj : 2 * b.ht + 10 ≤ j) (h : LH) (n : Nat) (a : NmAt h n E) (ad : Int) :
    RL ((List.range ps.length).map (fun (i : Nat) => .tup [.int 0, ins [115,116,111,114,101] [.tup [.str [111,119,110], .int (ps.length - 1 - i)]]]) ++ lowB E (ad + ps.length) [] b ++ [.tup [.int 0, ins [112,117,115,104] [.tup [.str [110,111,110,101]]]], .tup [.int 0, ins [114,101,116,117,114,110] []]]) h (callN TT.pr j 34503706087804367373805694056805 [.ref n, .int ad, namesD ps, .tup (tssD b)] h) := by
  obtain ⟨j', hk'⟩ : ∃ k', j = k' + 1 := ⟨j - 1, by omega⟩
  subst hk'
  rw [callN_succ fn_lower_procedure rfl]
  have lr : ps.length < 4000000 := by omega
  simp! [F_lower_procedure, alloc, namesD, lr]
  generalize hL : forL _ _ _ _ _ _ _ = L
  let R : List D := (List.range ps.length).map (fun (i : Nat) => .tup [.int 0, ins [115,116,111,114,101] [.tup [.str [111,119,110], .int (ps.length - 1 - i)]]])
  have hR : R = (List.range ps.length).map (fun (i : Nat) => .tup [.int 0, ins [115,116,111,114,101] [.tup [.str [111,119,110], .int (ps.length - 1 - i)]]]) := rfl
  have lR : R.length = ps.length := by rw [hR]; simp
  refine forL_go hL (fun i σ h' => ∃ d, σ = [some (.ref n), some (.int ad), some (.tup (ps.map D.str)), some (.tup (tssD b)), some (.ref h.length), d] ∧ h' = h ++ [.lst (R.take i)]) ⟨none, rfl, by simp⟩ ?_ ?_
  · rintro i x σ h' hx ⟨d, rfl, rfl⟩ Q hQ
    obtain ⟨rfl, hi⟩ := rng_at0 hx
    have lt : (R.take i).length < 16777216 := by simp; omega
    simp! [at_end, setLst_top, show min i R.length < 16777216 by omega]
    simp only [Option.bind_some, z_nx, z_n, z_bk, z_rt, fin_nx, fin_rt, wp_some]
    refine hQ _ _ trivial ⟨_, rfl, ?_⟩
    have : R.take (i + 1) = R.take i ++ [.tup [.int 0, ins [115,116,111,114,101] [.tup [.str [111,119,110], .int (ps.length - 1 - i)]]]] := by
      rw [List.take_add_one, hR]
      simp [hi]
    rw [this]; rfl
  · rintro σ' h' rfl ⟨d, rfl, rfl⟩
    have hi : (List.map (fun (k : Nat) => D.int (k : Int)) (List.range ps.length)).length = R.length := by simp [lR]
    rw [hi, List.take_length]
    obtain ⟨q, h1, c, l1, f1⟩ := low_blk b F m lc hm g hz j' (by omega) (h ++ [.lst R]) n (a.app _) (ad + ps.length)
    have lB : (lowB E (ad + ps.length) [] b).length = b.sz := by rw [lowB_len]; simp
    have f0 := at_end h (.lst R) []
    have f2 := l1.get f0
    have add := op_lst f2 f1 (by rw [lB, lR]; omega)
    generalize hX : R ++ lowB E (ad + ps.length) [] b = X at *
    have lX : X.length = ps.length + b.sz := by rw [← hX, List.length_append, lB, lR]
    refine .mk (a := h1.length + 2) (h' := h1 ++ [.lst X, .lst [.tup [.int 0, ins [112,117,115,104] [.tup [.str [110,111,110,101]]]], .tup [.int 0, ins [114,101,116,117,114,110] []]], .lst (X ++ [.tup [.int 0, ins [112,117,115,104] [.tup [.str [110,111,110,101]]]], .tup [.int 0, ins [114,101,116,117,114,110] []]])]) ?_ ((Le.app _ _).trans (l1.trans (.app _ _))) (by rw [← hR, ← List.append_assoc, hX]; exact at_end2' _ _ _ _ _)
    simp only [ins, lR] at f0 c add ⊢
    simp! [f0, lR, c, add, alloc, at_end, at_end1, gv_NONE, show X.length ≤ 16777214 by omega]
/-- a new list comes of it -/
noncomputable def RN (L : List D) (h : LH) (r : Option (D × LH)) : Prop := ∃ a h', r = some (.ref a, h') ∧ Le h h' ∧ h'[a]? = some (.lst L) ∧ h.length ≤ a
theorem RN.mk {L : List D} {h : LH} {r : Option (D × LH)} {a : Nat} {h' : LH} (e : r = some (.ref a, h')) (l : Le h h') (f : h'[a]? = some (.lst L)) (n : h.length ≤ a) : RN L h r := ⟨a, h', e, l, f, n⟩
theorem Le.len {h h' : LH} (l : Le h h') : h.length ≤ h'.length := by obtain ⟨x, rfl⟩ := l; simp
mutual
noncomputable def decS : TS → List Nm
  | .asg v _ x _ => if v then [x] else []
  | .ite _ _ y n => decB y ++ decB n
  | .whl _ _ b => decB b
  | .for_ _ _ _ _ b _ => decB b
  | .try_ _ b x c => decB b ++ [x] ++ decB c
  | .sfl _ _ _ _ => []
  | .sit _ _ _ _ => []
  | .cal _ _ _ _ => []
  | .val _ _ _ => []
  | .brk _ => []
noncomputable def decB : TSs → List Nm
  | .nil => []
  | .cons s r => decS s ++ decB r
end
mutual
theorem decS_len : ∀ s : TS, (decS s).length ≤ s.sz
  | .asg v _ x r => by cases v <;> cases r <;> simp [decS, TS.sz, TR.sz, csz] <;> omega
  | .ite _ c y n => by have := decB_len y; have := decB_len n; simp [decS, TS.sz]; omega
  | .whl _ _ b => by have := decB_len b; simp [decS, TS.sz]; omega
  | .for_ _ _ _ _ b _ => by have := decB_len b; simp [decS, TS.sz]; omega
  | .try_ _ b _ c => by have := decB_len b; have := decB_len c; simp [decS, TS.sz]; omega
  | .sfl _ _ _ _ => Nat.zero_le _
  | .sit _ _ _ _ => Nat.zero_le _
  | .cal _ _ _ _ => Nat.zero_le _
  | .val _ _ _ => Nat.zero_le _
  | .brk _ => Nat.zero_le _
theorem decB_len : ∀ r : TSs, (decB r).length ≤ r.sz
  | .nil => Nat.zero_le _
  | .cons s r => by have := decS_len s; have := decB_len r; simp [decB, TSs.sz]; omega
end
mutual
theorem decS_sg : ∀ s : TS, s.sg → sgs (decS s)
  | .asg v _ x r, g => by cases v <;> intro y hy <;> simp [decS] at hy; subst hy; exact g.1
  | .ite _ c y n, g => fun x hx => (List.mem_append.mp hx).elim (decB_sg y g.2.1 x) (decB_sg n g.2.2 x)
  | .whl _ _ b, g => decB_sg b g.2
  | .for_ _ _ _ _ b _, g => decB_sg b g.2.2.2
  | .try_ _ b y c, g => fun x hx => by
    simp only [decS, List.mem_append, List.mem_singleton] at hx
    rcases hx with (hx | rfl) | hx
    · exact decB_sg b g.1 x hx
    · exact g.2.1
    · exact decB_sg c g.2.2 x hx
  | .sfl _ _ _ _, _ => fun _ h => by cases h
  | .sit _ _ _ _, _ => fun _ h => by cases h
  | .cal _ _ _ _, _ => fun _ h => by cases h
  | .val _ _ _, _ => fun _ h => by cases h
  | .brk _, _ => fun _ h => by cases h
theorem decB_sg : ∀ r : TSs, r.sg → sgs (decB r)
  | .nil, _ => fun _ h => by cases h
  | .cons s r, g => fun x hx => (List.mem_append.mp hx).elim (decS_sg s g.1 x) (decB_sg r g.2 x)
end
theorem setLst_mid (h : LH) (o : LO) (x : LH) (L : List D) : setLst (h ++ o :: x) h.length L = h ++ .lst L :: x := by simp [setLst]
noncomputable def nmL (ss : List Nm) : List D := ss.map D.str
theorem nmL_app (a b : List Nm) : nmL a ++ nmL b = nmL (a ++ b) := by simp [nmL]
mutual
theorem dec_by : ∀ (s : TS) (hz : s.sz ≤ 400000) (j : Nat) (hj : s.ht + 3 ≤ j) (h : LH), RN (nmL (decS s)) h (callN TT.pr j 118997917578423032082809 [tsD s] h)
  | .asg v l x r, hz, j, hj, h => by
    obtain ⟨j', hk'⟩ : ∃ k', j = k' + 1 := ⟨j - 1, by omega⟩
    subst hk'
    rw [callN_succ fn_declared_by rfl]
    cases v with
    | true => exact .mk (a := h.length) (h' := h ++ [.lst [.str x]]) (by simp! [F_declared_by, tsD, asS, alloc]) (.app _ _) (at_end _ _ _) (Nat.le_refl _)
    | false => exact .mk (a := h.length) (h' := h ++ [.lst []]) (by simp! [F_declared_by, tsD, asS, alloc]) (.app _ _) (at_end _ _ _) (Nat.le_refl _)
  | .ite l c y n, hz, j, hj, h => by
    simp only [TS.sz, TS.ht] at hz hj
    obtain ⟨j', hk'⟩ : ∃ k', j = k' + 1 := ⟨j - 1, by omega⟩
    subst hk'
    rw [callN_succ fn_declared_by rfl]
    obtain ⟨p, h1, c1, l1, f1, n1⟩ := dec_in y (by omega) j' (by omega) h
    obtain ⟨q, h2, c2, l2, f2, n2⟩ := dec_in n (by omega) j' (by omega) h1
    have := decB_len y; have := decB_len n
    have ad := op_lst (l2.get f1) f2 (by simp [nmL]; omega)
    exact .mk (a := h2.length) (h' := h2 ++ [.lst (nmL (decB y) ++ nmL (decB n))]) (by simp! [F_declared_by, tsD, c1, c2, ad]) (l1.trans (l2.trans (.app _ _))) (by simp only [nmL_app]; exact at_end _ _ _) (l1.trans l2).len
  | .whl l c b, hz, j, hj, h => by
    simp only [TS.sz, TS.ht] at hz hj
    obtain ⟨j', hk'⟩ : ∃ k', j = k' + 1 := ⟨j - 1, by omega⟩
    subst hk'
    rw [callN_succ fn_declared_by rfl]
    obtain ⟨p, h1, c1, l1, f1, n1⟩ := dec_in b (by omega) j' (by omega) h
    exact .mk (by simp! [F_declared_by, tsD, c1]) l1 f1 n1
  | .for_ l x lo hi b ah, hz, j, hj, h => by
    simp only [TS.sz, TS.ht] at hz hj
    obtain ⟨j', hk'⟩ : ∃ k', j = k' + 1 := ⟨j - 1, by omega⟩
    subst hk'
    rw [callN_succ fn_declared_by rfl]
    obtain ⟨p, h1, c1, l1, f1, n1⟩ := dec_in b (by omega) j' (by omega) h
    exact .mk (by simp! [F_declared_by, tsD, c1]) l1 f1 n1
  | .try_ l b x c, hz, j, hj, h => by
    simp only [TS.sz, TS.ht] at hz hj
    obtain ⟨j', hk'⟩ : ∃ k', j = k' + 1 := ⟨j - 1, by omega⟩
    subst hk'
    rw [callN_succ fn_declared_by rfl]
    obtain ⟨p, h1, c1, l1, f1, n1⟩ := dec_in b (by omega) j' (by omega) h
    have lb := decB_len b; have lc := decB_len c
    have ad1 := op_lst (at_old f1 [.lst [.str x]]) (at_end h1 (.lst [.str x]) []) (by simp [nmL]; omega)
    obtain ⟨q, h2, c2, l2, f2, n2⟩ := dec_in c (by omega) j' (by omega) (h1 ++ [.lst [.str x], .lst (nmL (decB b) ++ [.str x])])
    have ad := op_lst (l2.get (at_end1 h1 (.lst [.str x]) (.lst (nmL (decB b) ++ [.str x])) [])) f2 (by simp [nmL]; omega)
    refine .mk (a := h2.length) (h' := h2 ++ [.lst (nmL (decB b) ++ [.str x] ++ nmL (decB c))]) ?_ (l1.trans ((Le.app _ _).trans (l2.trans (.app _ _)))) (by simp only [decS, nmL, List.map_append, List.map_cons, List.map_nil]; exact at_end _ _ _) (by have := l1.len; have := l2.len; simp at this; omega)
    simp only [List.length_append, List.length_cons, List.length_nil, List.append_assoc, List.cons_append, List.nil_append, Nat.zero_add] at ad1 ad ⊢
    simp! [F_declared_by, tsD, c1, alloc, ad1, c2, ad]
  | .sfl _ _ _ _, hz, j, hj, h => by
    obtain ⟨j', hk'⟩ : ∃ k', j = k' + 1 := ⟨j - 1, by omega⟩
    subst hk'
    rw [callN_succ fn_declared_by rfl]
    exact .mk (a := h.length) (h' := h ++ [.lst []]) (by simp! [F_declared_by, tsD, alloc]) (.app _ _) (at_end _ _ _) (Nat.le_refl _)
  | .sit _ _ _ _, hz, j, hj, h => by
    obtain ⟨j', hk'⟩ : ∃ k', j = k' + 1 := ⟨j - 1, by omega⟩
    subst hk'
    rw [callN_succ fn_declared_by rfl]
    exact .mk (a := h.length) (h' := h ++ [.lst []]) (by simp! [F_declared_by, tsD, alloc]) (.app _ _) (at_end _ _ _) (Nat.le_refl _)
  | .cal _ _ _ _, hz, j, hj, h => by
    obtain ⟨j', hk'⟩ : ∃ k', j = k' + 1 := ⟨j - 1, by omega⟩
    subst hk'
    rw [callN_succ fn_declared_by rfl]
    exact .mk (a := h.length) (h' := h ++ [.lst []]) (by simp! [F_declared_by, tsD, alloc]) (.app _ _) (at_end _ _ _) (Nat.le_refl _)
  | .val k _ _, hz, j, hj, h => by
    obtain ⟨j', hk'⟩ : ∃ k', j = k' + 1 := ⟨j - 1, by omega⟩
    subst hk'
    rw [callN_succ fn_declared_by rfl]
    exact .mk (a := h.length) (h' := h ++ [.lst []]) (by cases k <;> simp! [F_declared_by, tsD, Vk.s, alloc]) (.app _ _) (at_end _ _ _) (Nat.le_refl _)
  | .brk _, hz, j, hj, h => by
    obtain ⟨j', hk'⟩ : ∃ k', j = k' + 1 := ⟨j - 1, by omega⟩
    subst hk'
    rw [callN_succ fn_declared_by rfl]
    exact .mk (a := h.length) (h' := h ++ [.lst []]) (by simp! [F_declared_by, tsD, alloc]) (.app _ _) (at_end _ _ _) (Nat.le_refl _)
theorem dec_in : ∀ (r : TSs) (hz : r.sz ≤ 400000) (j : Nat) (hj : r.ht + 4 ≤ j) (h : LH), RN (nmL (decB r)) h (callN TT.pr j 118997917578423032083694 [.tup (tssD r)] h)
  | r, hz, j, hj, h => by
    obtain ⟨j', hk'⟩ : ∃ k', j = k' + 1 := ⟨j - 1, by omega⟩
    subst hk'
    rw [callN_succ fn_declared_in rfl]
    obtain ⟨x, d, e⟩ := dec_row r [] (by simpa using hz) j' (by omega) h [] (tssD r) (.tup (tssD r)) none
    refine .mk (a := h.length) (h' := h ++ .lst (nmL (decB r)) :: x) ?_ (.app _ _) (at_end _ _ _) (Nat.le_refl _)
    simp! [F_declared_in, alloc]
    simp only [nmL, List.map_nil, List.nil_append] at e
    rw [e]
    simp! [nmL]
theorem dec_row : ∀ (r : TSs) (acc : List Nm) (hz : acc.length + r.sz ≤ 400000) (j : Nat) (hj : r.ht + 3 ≤ j) (h x : LH) (all : List D) (b : D) (d : Option D),
    ∃ x' d', forL (tgF (.nm 2)) (bodyF TT.pr (callN TT.pr j) (.cons (.exp (.bm (.lv 1) .extend (.cons (.call 118997917578423032082809 (.cons (.lv 2) .nil)) .nil))) .nil)) none all (tssD r) [some b, some (.ref h.length), d] (h ++ .lst (nmL acc) :: x) = some (.nx, [some b, some (.ref h.length), d'], h ++ .lst (nmL (acc ++ decB r)) :: x')
  | .nil, acc, hz, j, hj, h, x, all, b, d => ⟨x, d, by simp [tssD, forL_n, decB]⟩
  | .cons s r, acc, hz, j, hj, h, x, all, b, d => by
    simp only [TSs.ht, TSs.sz] at hj hz
    obtain ⟨q, h1, c, ⟨z, l1⟩, f1, n1⟩ := dec_by s (by omega) j (by omega) (h ++ .lst (nmL acc) :: x)
    have l1 : h1 = h ++ .lst (nmL acc) :: (x ++ z) := by rw [l1]; simp
    subst l1
    have ls := decS_len s
    obtain ⟨x', d', e⟩ := dec_row r (acc ++ decS s) (by rw [List.length_append]; omega) j (by omega) h (x ++ z) all b (some (tsD s))
    refine ⟨x', d', ?_⟩
    rw [tssD, forL_c]
    have ne : h.length ≠ q := by simp at n1; omega
    rw [← nmL_app] at e
    simp! [at_end, c, f1, ne, setLst_mid, e, show (nmL acc).length + (nmL (decS s)).length ≤ 16777216 by simp [nmL]; omega, decB]
end
/-- each name once -/
noncomputable def addN (ss : List Nm) (x : Nm) : List Nm := if x ∈ ss then ss else ss ++ [x]
noncomputable def varsOf (b : TSs) (ps : List Nm) : List Nm := (ps ++ decB b).foldl addN []
theorem addN_len (ss : List Nm) (x : Nm) : (addN ss x).length ≤ ss.length + 1 := by unfold addN; split <;> simp
theorem foldN_len : ∀ (xs ss : List Nm), (xs.foldl addN ss).length ≤ ss.length + xs.length
  | [], ss => by simp
  | x :: xs, ss => by have := foldN_len xs (addN ss x); have := addN_len ss x; simp; omega
theorem addN_sg {ss : List Nm} {x : Nm} (a : sgs ss) (b : sgn x) : sgs (addN ss x) := by
  unfold addN
  split
  · exact a
  · intro y hy; rcases List.mem_append.mp hy with hy | hy; exact a y hy; cases List.mem_singleton.mp hy; exact b
theorem foldN_sg : ∀ (xs ss : List Nm), sgs ss → sgs xs → sgs (xs.foldl addN ss)
  | [], ss, a, _ => a
  | x :: xs, ss, a, b => foldN_sg xs (addN ss x) (addN_sg a (b x List.mem_cons_self)) fun y hy => b y (List.mem_cons_of_mem _ hy)
theorem any_mem (s : Nm) (ss : List Nm) : ((nmL ss).any fun y => pyeq y (.str s)) = decide (s ∈ ss) := by
  unfold nmL
  rw [idxL_any]
  by_cases h : s ∈ ss
  · obtain ⟨i, hi⟩ := idxL_mem h; simp [hi, h]
  · rw [idxL_none h]; simp [h]
theorem vars_ok (r : TSs) (g : r.sg) (hz : r.sz ≤ 400000) (ps : List Nm) (gp : sgs ps) (lp : ps.length ≤ 1000) (j : Nat) (hj : r.ht + 5 ≤ j) (h : LH) : ∃ x, callN TT.pr j 17947232312025836896647142 [.tup (tssD r), namesD ps] h = some (namesD (varsOf r ps), h ++ x) := by
  obtain ⟨j', hk'⟩ : ∃ k', j = k' + 1 := ⟨j - 1, by omega⟩
  subst hk'
  rw [callN_succ fn_variables_of rfl]
  have lr := decB_len r
  obtain ⟨p, h1, c1, l1, f1, n1⟩ := dec_in r hz j' (by omega) (h ++ [.lst [], .lst (nmL ps)])
  have k1 := l1.get (at_end1 h (.lst []) (.lst (nmL ps)) [])
  have ad := op_lst k1 f1 (by simp [nmL]; omega)
  obtain ⟨z, rfl⟩ := l1
  simp only [List.length_append, List.length_cons, List.length_nil, List.append_assoc, List.cons_append, List.nil_append, Nat.zero_add] at c1 ad
  have k2 : (h ++ LO.lst [] :: LO.lst (nmL ps) :: (z ++ [.lst (nmL ps ++ nmL (decB r))]))[h.length + (z.length + 1 + 1)]? = some (.lst (nmL ps ++ nmL (decB r))) := by
    have := at_end (h ++ LO.lst [] :: LO.lst (nmL ps) :: z) (.lst (nmL ps ++ nmL (decB r))) []
    simpa using this
  have sq : seqOf (namesD ps) h = some (nmL ps) := rfl
  have sq' : ∀ H, seqOf (namesD ps) H = some (nmL ps) := fun _ => rfl
  simp! [F_variables_of, alloc, sq', at_end, c1, ad, k2]
  generalize hL : forL _ _ _ _ _ _ _ = L
  have hx : nmL ps ++ nmL (decB r) = nmL (ps ++ decB r) := nmL_app _ _
  have gd : sgs (ps ++ decB r) := fun x hx => (List.mem_append.mp hx).elim (gp x) (decB_sg r g x)
  have lW : (ps ++ decB r).length ≤ 500000 := by simp; omega
  unfold varsOf
  rw [hx] at hL k2
  clear hx k1 f1 c1 ad
  generalize ps ++ decB r = W at *
  refine forL_go hL (fun i σ h' => (∃ d, σ = [some (.tup (tssD r)), some (namesD ps), some (.ref h.length), d]) ∧ h' = h ++ LO.lst (nmL ((W.take i).foldl addN [])) :: LO.lst (nmL ps) :: (z ++ [.lst (nmL W)])) ⟨⟨none, rfl⟩, by simp [nmL]⟩ ?_ ?_
  · rintro i x σ h' hx ⟨⟨d, rfl⟩, rfl⟩ Q hQ
    have hi : i < W.length := by have := (List.getElem?_eq_some_iff.mp hx).1; simpa [nmL] using this
    have hxe : x = .str W[i] := by
      unfold nmL at hx
      rw [List.getElem?_map, List.getElem?_eq_getElem hi] at hx
      exact (Option.some.inj hx).symm
    subst hxe
    have sx := gd _ (List.getElem_mem hi)
    have hs := foldN_sg (W.take i) [] (fun _ h => by cases h) (fun x hx => gd x (List.mem_of_mem_take hx))
    have tk : W.take (i + 1) = W.take i ++ [W[i]] := by rw [List.take_add_one, List.getElem?_eq_getElem hi]; rfl
    have hlen := foldN_len (W.take i) []
    have hfold : (W.take (i + 1)).foldl addN [] = addN ((W.take i).foldl addN []) W[i] := by rw [tk, List.foldl_append]; rfl
    generalize (W.take i).foldl addN [] = ss at *
    have any := any_mem W[i] ss
    have sh := shp_names hs
    have s2 := shp_str sx
    have inn : ∀ X, inop TT.pr (.str W[i]) (.ref h.length) (h ++ LO.lst (nmL ss) :: X) = some (decide (W[i] ∈ ss)) := fun X => by
      rw [in_ref, at_end]
      simp only
      rw [s2, show (nmL ss).all shp = true from sh, any]
      rfl
    have lss : ss.length < 16777216 := by simp at hlen; omega
    have st : stays (some (h.length + (z.length + 1 + 1))) (nmL W) (h ++ LO.lst (nmL (addN ss W[i])) :: LO.lst (nmL ps) :: (z ++ [.lst (nmL W)])) := by
      have := at_end (h ++ LO.lst (nmL (addN ss W[i])) :: LO.lst (nmL ps) :: z) (.lst (nmL W)) []
      simp only [List.length_append, List.length_cons, List.append_assoc, List.cons_append] at this
      simp only [stays, seqOf, this]
    generalize W[i] = y at *
    by_cases q : y ∈ ss
    · have ha : addN ss y = ss := by simp [addN, q]
      simp! [-in_ref, inn, q]
      simp only [Option.bind_some, z_nx, z_n, z_bk, z_rt, fin_nx, fin_rt, wp_some]
      exact hQ _ _ (by rw [ha] at st; exact st) ⟨⟨_, rfl⟩, by rw [hfold, ha]⟩
    · have ha : addN ss y = ss ++ [y] := by simp [addN, q]
      have hn : nmL (ss ++ [y]) = nmL ss ++ [.str y] := by simp [nmL]
      simp! [-in_ref, inn, q, at_end, setLst_mid, show (nmL ss).length < 16777216 by simp [nmL]; omega]
      simp only [Option.bind_some, z_nx, z_n, z_bk, z_rt, fin_nx, fin_rt, wp_some]
      exact hQ _ _ (by rw [ha, hn] at st; exact st) ⟨⟨_, rfl⟩, by rw [hfold, ha, hn]⟩
  · rintro σ' h' rfl ⟨⟨d, rfl⟩, rfl⟩
    have hlen : (nmL W).length = W.length := by simp [nmL]
    rw [hlen, List.take_length]
    refine ⟨LO.lst (nmL (W.foldl addN [])) :: LO.lst (nmL ps) :: (z ++ [.lst (nmL W)]), ?_⟩
    simp! [at_end]
    rfl
theorem cut_to {α : Type} (xs : List α) (i : Nat) (hi : i ≤ xs.length) : cut xs none (some (i : Int)) = xs.take i := by
  unfold cut sIx
  simp only
  rw [if_neg (by omega)]
  have : min ((i : Int)).toNat xs.length = i := by omega
  rw [this]; simp
theorem cut_to3 {α : Type} (a b c : α) (r : List α) : cut (a :: b :: c :: r) none (some 3) = [a, b, c] := by
  have := cut_to (a :: b :: c :: r) 3 (by simp)
  exact this
noncomputable def headD (p : Int × Nm × List Nm) : D := .tup [.int p.1, .str p.2.1, namesD p.2.2]
structure HdOk (hs : List (Int × Nm × List Nm)) : Prop where
  nd : (hs.map (·.2.1)).Nodup
  inn : ∀ p ∈ hs, p.2.2.Nodup ∧ sgn p.2.1 ∧ sgs p.2.2 ∧ p.2.2.length ≤ 1000
  len : hs.length ≤ 1000
theorem heads_ok (hs : List (Int × Nm × List Nm)) (O : HdOk hs) (d w : D) (g : Option Nat) (h : LH) (hw : ∀ x, walkOf d (h ++ x) = some (hs.map headD, g)) (hst : ∀ x, stays g (hs.map headD) (h ++ x)) (j : Nat) (hj : 1 ≤ j) : Nop (callN TT.pr j 117845135165783117689459 [d, w] h) h := by
  obtain ⟨j', hk'⟩ : ∃ k', j = k' + 1 := ⟨j - 1, by omega⟩
  subst hk'
  rw [callN_succ fn_check_heads rfl]
  simp! [F_check_heads, alloc, hw]
  generalize hL : forL _ _ _ _ _ _ _ = L
  refine forL_go hL (fun i σ h' => (∃ a b c e, σ = [some d, some w, some (.ref h.length), a, b, c, e]) ∧ h' = h ++ [LO.lst (nmL ((hs.take i).map (·.2.1)))]) ⟨⟨none, none, none, none, rfl⟩, by simp [nmL]⟩ ?_ ?_
  · rintro i x σ h' hx ⟨⟨a, b, c, e, rfl⟩, rfl⟩ Q hQ
    have hi : i < hs.length := by have := (List.getElem?_eq_some_iff.mp hx).1; simpa using this
    have hxe : x = headD hs[i] := by
      rw [List.getElem?_map, List.getElem?_eq_getElem hi] at hx
      exact (Option.some.inj hx).symm
    subst hxe
    obtain ⟨o1, o2, o3, o4⟩ := O.inn _ (List.getElem_mem hi)
    have tk : (hs.take (i + 1)).map (·.2.1) = (hs.take i).map (·.2.1) ++ [hs[i].2.1] := by rw [List.take_add_one, List.getElem?_eq_getElem hi, List.map_append]; rfl
    have nin : hs[i].2.1 ∉ (hs.take i).map (·.2.1) := fun hm => by
      have nd := O.nd
      have : hs.map (·.2.1) = (hs.take i).map (·.2.1) ++ (hs.drop i).map (·.2.1) := by rw [← List.map_append, List.take_append_drop]
      rw [this, List.nodup_append] at nd
      refine nd.2.2 _ hm hs[i].2.1 ?_ rfl
      rw [List.drop_eq_getElem_cons hi, List.map_cons]; exact List.mem_cons_self
    have sp : sgs ((hs.take i).map (·.2.1)) := fun s hs' => by
      obtain ⟨p, hp, rfl⟩ := List.mem_map.mp hs'
      exact (O.inn p (List.mem_of_mem_take hp)).2.1
    have lS : ((hs.take i).map (·.2.1)).length ≤ 1000 := by have := O.len; simp; omega
    generalize (hs.take i).map (·.2.1) = S at *
    have inn : ∀ X, inop TT.pr (.str hs[i].2.1) (.ref h.length) (h ++ LO.lst (nmL S) :: X) = some false := fun X => by
      rw [in_ref, at_end]
      simp only
      rw [shp_str o2, show (nmL S).all shp = true from shp_names sp, any_mem]
      simp [nin]
    have stt := hst [LO.lst (nmL (S ++ [hs[i].2.1]))]
    have hn : nmL (S ++ [hs[i].2.1]) = nmL S ++ [.str hs[i].2.1] := by simp [nmL]
    generalize hs[i] = p at *
    obtain ⟨l, nm, inner⟩ := p
    simp only at o1 o2 o3 o4 inn hn stt tk
    have li : inner.length < 4000000 := by omega
    simp! [-in_ref, headD, inn, at_end, setLst_top, show (nmL S).length < 16777216 by simp [nmL]; omega, namesD, li]
    generalize hL2 : forL _ _ _ _ _ _ _ = L2
    refine forL_go hL2 (fun k σ h' => (∃ e, σ = [some d, some w, some (.ref h.length), some (.int l), some (.str nm), some (namesD inner), e]) ∧ h' = h ++ [LO.lst (nmL S ++ [.str nm])]) ⟨⟨e, rfl⟩, rfl⟩ ?_ ?_
    · rintro k y σ h' hy ⟨⟨e, rfl⟩, rfl⟩ R hR
      obtain ⟨rfl, hk⟩ := rng_at0 hy
      have ak : atI (inner.map D.str) (k : Int) = some (.str inner[k]) := by
        rw [atI_of (by omega) (by simp; omega)]; simp [hk]
      have ck : cut (inner.map D.str) none (some (k : Int)) = nmL (inner.take k) := by rw [cut_to _ _ (by simp; omega), nmL, List.map_take]
      have nk : inner[k] ∉ inner.take k := fun hm => by
        have : inner = inner.take k ++ inner.drop k := (List.take_append_drop _ _).symm
        rw [this, List.nodup_append] at o1
        exact o1.2.2 _ hm inner[k] (by rw [List.drop_eq_getElem_cons hk]; exact List.mem_cons_self) rfl
      have ik : ∀ H, inop TT.pr (.str inner[k]) (.tup (nmL (inner.take k))) H = some false := fun H => by
        rw [in_tup, shp_str (o3 _ (List.getElem_mem hk)), show (nmL (inner.take k)).all shp = true from shp_names fun s hs => o3 s (List.mem_of_mem_take hs), any_mem]
        simp [nk]
      simp! [-in_tup, namesD, ak, ck, ik]
      simp only [Option.bind_some, z_nx, z_n, z_bk, z_rt, fin_nx, fin_rt, wp_some]
      exact hR _ _ trivial ⟨⟨_, rfl⟩, rfl⟩
    · rintro σ' h' rfl ⟨⟨e, rfl⟩, rfl⟩
      simp only [Option.bind_some, z_nx, z_n, z_bk, z_rt, fin_nx, fin_rt, wp_some]
      exact hQ _ _ (by rw [hn] at stt; exact stt) ⟨⟨_, _, _, _, rfl⟩, by rw [tk, hn]⟩
  · rintro σ' h' rfl ⟨⟨a, b, c, e, rfl⟩, rfl⟩
    exact ⟨_, rfl⟩
structure TP where
  recs : List (Int × Nm × List Nm)
  procs : List (Int × Nm × List Nm × TSs)
  blk : TSs
noncomputable def prD (p : Int × Nm × List Nm × TSs) : D := .tup [.int p.1, .str p.2.1, namesD p.2.2.1, .tup (tssD p.2.2.2)]
noncomputable def TP.d (T : TP) : D := .tup [.str [112,114,111,103,114,97,109], .tup (T.recs.map headD), .tup (T.procs.map prD), .tup (tssD T.blk)]
noncomputable def TP.env (T : TP) : Ev := ⟨T.recs.map (·.2), T.procs.map fun p => (p.2.1, p.2.2.1.length), varsOf T.blk [], none, [], false⟩
noncomputable def ownOf (p : Int × Nm × List Nm × TSs) : List Nm := varsOf p.2.2.2 p.2.2.1
noncomputable def procC (E : Ev) (ad : Int) (ps : List Nm) (b : TSs) : List D := (List.range ps.length).map (fun (i : Nat) => .tup [.int 0, ins [115,116,111,114,101] [.tup [.str [111,119,110], .int (ps.length - 1 - i)]]]) ++ lowB E (ad + ps.length) [] b ++ [.tup [.int 0, ins [112,117,115,104] [.tup [.str [110,111,110,101]]]], .tup [.int 0, ins [114,101,116,117,114,110] []]]
noncomputable def TP.main (T : TP) : List D := [.tup [.int 0, ins [101,110,116,101,114] []]] ++ lowB T.env 1 [] T.blk ++ [.tup [.int 0, ins [104,97,108,116] []]]
noncomputable def TP.step (T : TP) (acc : List D × List D) (p : Int × Nm × List Nm × TSs) : List D × List D := (acc.1 ++ procC (T.env.inside (ownOf p)) acc.1.length p.2.2.1 p.2.2.2, acc.2 ++ [.tup [.str p.2.1, namesD (ownOf p), .int acc.1.length]])
noncomputable def TP.out (T : TP) : List D × List D := T.procs.foldl T.step (T.main, [])
noncomputable def cdOf : D → D
  | .tup [_, d] => d
  | _ => .non
noncomputable def lnOf : D → D
  | .tup [d, _] => d
  | _ => .non
noncomputable def TP.obj (T : TP) : LO := .ins 355790745284845 [(209449573, .tup (T.out.1.map cdOf)), (29213045491, .tup (T.out.1.map lnOf)), (504874445615731, .tup (T.recs.map fun r => recD r.2)), (8557907253277700851, namesD T.env.top), (1041295160196917408499, .tup T.out.2)]
structure TP.good (T : TP) : Prop where
  recs : HdOk T.recs
  procs : HdOk (T.procs.map fun p => (p.1, p.2.1, p.2.2.1))
  pr : ∀ p ∈ T.procs, p.2.2.2.sg ∧ okSs (T.env.inside (ownOf p)) p.2.2.2 = true ∧ p.2.2.2.ht ≤ 30 ∧ p.2.2.2.sz ≤ 100000
  blk : T.blk.sg ∧ okSs T.env T.blk = true ∧ T.blk.ht ≤ 30 ∧ T.blk.sz ≤ 100000
  len : T.out.1.length ≤ 2000
  few : T.recs.length < 900 ∧ T.procs.length < 900
theorem TP.good.fit {T : TP} (G : T.good) : T.env.fit := by
  refine ⟨⟨fun p hp => ?_, fun p hp => ?_, ?_, fun o ho => (by cases ho), fun _ h => (by cases h)⟩, ?_, ?_, by simp [TP.env]⟩
  · obtain ⟨r, hr, rfl⟩ := List.mem_map.mp hp
    have := G.recs.inn r hr
    exact ⟨this.2.1, this.2.2.1⟩
  · obtain ⟨r, hr, rfl⟩ := List.mem_map.mp hp
    exact (G.procs.inn _ (List.mem_map.mpr ⟨r, hr, rfl⟩)).2.1
  · exact foldN_sg _ [] (fun _ h => by cases h) (by simpa using decB_sg T.blk G.blk.1)
  · have := G.few.1; simp [TP.env]; omega
  · have := G.few.2; simp [TP.env]; omega
theorem inside_fit {E : Ev} (F : E.fit) {o : List Nm} (so : sgs o) : (E.inside o).fit := ⟨⟨F.ok.recs, F.ok.procs, F.ok.top, fun o' h => (by cases h; exact so), fun _ h => (by cases h)⟩, F.recs, F.procs, by simp [Ev.inside]⟩
theorem TP.good.own_sg {T : TP} (G : T.good) {p : Int × Nm × List Nm × TSs} (hp : p ∈ T.procs) : sgs (ownOf p) := by
  refine foldN_sg _ [] (fun _ h => by cases h) fun x hx => (List.mem_append.mp hx).elim ?_ ?_
  · exact (G.procs.inn _ (List.mem_map.mpr ⟨p, hp, rfl⟩)).2.2.1 x
  · exact decB_sg _ (G.pr p hp).1 x
theorem TP.good.par {T : TP} (G : T.good) {p : Int × Nm × List Nm × TSs} (hp : p ∈ T.procs) : sgs p.2.2.1 ∧ p.2.2.1.length ≤ 1000 := by
  have := G.procs.inn _ (List.mem_map.mpr ⟨p, hp, rfl⟩)
  exact ⟨this.2.2.1, this.2.2.2⟩
theorem check_program_ok {T : TP} (G : T.good) (j : Nat) (hj : 45 ≤ j) (h : LH) (n : Nat) (a : NmAt h n T.env) : Nop (callN TT.pr j 1930774694556226235037167853 [.ref n, .tup (T.procs.map prD), .tup (tssD T.blk)] h) h := by
  obtain ⟨j', hk'⟩ : ∃ k', j = k' + 1 := ⟨j - 1, by omega⟩
  subst hk'
  rw [callN_succ fn_check_program rfl]
  simp! [F_check_program]
  generalize hL : forL _ _ _ _ _ _ _ = L
  refine forL_nop0 prD T.procs hL (fun σ => ∃ a b c d, σ = [some (.ref n), some (.tup (T.procs.map prD)), some (.tup (tssD T.blk)), a, b, c, d]) ⟨_, _, _, _, rfl⟩ ?_ ?_
  · rintro p hp σ y ⟨a1, a2, a3, a4, rfl⟩
    obtain ⟨g1, g2, g3, g4⟩ := G.pr p hp
    obtain ⟨x, v⟩ := vars_ok p.2.2.2 g1 (by omega) p.2.2.1 (G.par hp).1 (G.par hp).2 j' (by omega) (h ++ y)
    have a' := (a.app y).app x
    have i := inside_ok j' (by omega) a' (ownOf p)
    obtain ⟨z, c⟩ := check_blk p.2.2.2 (inside_fit G.fit (G.own_sg hp)) 30 (by simp [Ev.inside]) g3 g2 g1 j' (by omega) (h ++ y ++ x ++ [(T.env.inside (ownOf p)).obj]) (h ++ y ++ x).length at_new
    have e := nm_get a
    have e' := at_old e
    refine ⟨[some (.ref n), some (.tup (T.procs.map prD)), some (.tup (tssD T.blk)), some (.int p.1), some (.str p.2.1), some (namesD p.2.2.1), some (.tup (tssD p.2.2.2))], x ++ (T.env.inside (ownOf p)).obj :: z, ⟨_, _, _, _, rfl⟩, ?_⟩
    have v : callN TT.pr j' 17947232312025836896647142 [.tup (tssD p.2.2.2), namesD p.2.2.1] (h ++ y) = some (namesD (ownOf p), h ++ y ++ x) := v
    simp only [List.length_append, List.append_assoc] at i c v
    simp! [prD, e', cl_Names, v, i, c]
  · rintro σ' z ⟨a1, a2, a3, a4, rfl⟩ rfl
    obtain ⟨g1, g2, g3, g4⟩ := G.blk
    obtain ⟨y, c⟩ := check_blk T.blk G.fit 30 (by simp [TP.env]) g3 g2 g1 j' (by omega) (h ++ z) n (a.app z)
    exact ⟨z ++ y, by simp! [c]⟩
noncomputable def IsPr (x : D) : Prop := ∃ l d, x = .tup [.int l, d]
theorem wl_pr (l : Int) (c : List D) : ∀ x ∈ wl l c, IsPr x := fun x hx => by
  obtain ⟨d, _, rfl⟩ := List.mem_map.mp hx
  exact ⟨l, d, rfl⟩
theorem pr_app {a b : List D} (h1 : ∀ x ∈ a, IsPr x) (h2 : ∀ x ∈ b, IsPr x) : ∀ x ∈ a ++ b, IsPr x := fun x hx => (List.mem_append.mp hx).elim (h1 x) (h2 x)
theorem pr_one (l : Int) (d : D) : ∀ x ∈ [D.tup [.int l, d]], IsPr x := fun x hx => ⟨l, d, List.mem_singleton.mp hx⟩
mutual
theorem lowS_pr : ∀ (s : TS) (E : Ev) (a : Int), ∀ x ∈ lowS E a s, IsPr x
  | .asg _ l x r, E, a => wl_pr _ _
  | .sfl l t f u, E, a => wl_pr _ _
  | .sit l t i u, E, a => wl_pr _ _
  | .cal l p as ah, E, a => wl_pr _ _
  | .val k l t, E, a => wl_pr _ _
  | .brk l, E, a => wl_pr _ _
  | .ite l c y n, E, a => pr_app (pr_app (pr_app (wl_pr _ _) (lowB_pr y _ _ _ fun _ h => by cases h)) (pr_one _ _)) (lowB_pr n _ _ _ fun _ h => by cases h)
  | .whl l c b, E, a => pr_app (pr_app (wl_pr _ _) (lowB_pr b _ _ _ fun _ h => by cases h)) (wl_pr _ _)
  | .for_ l x lo hi b ah, E, a => by
    cases ah
    · exact pr_app (pr_app (wl_pr _ _) (lowB_pr b _ _ _ fun _ h => by cases h)) (wl_pr _ _)
    · exact pr_app (pr_app (wl_pr _ _) (pr_app (pr_app (pr_one _ _) (lowB_pr b _ _ _ fun _ h => by cases h)) (pr_one _ _))) (wl_pr _ _)
  | .try_ l b x c, E, a => pr_app (pr_app (pr_app (pr_one _ _) (lowB_pr b _ _ _ fun _ h => by cases h)) (wl_pr _ _)) (lowB_pr c _ _ _ fun _ h => by cases h)
theorem lowB_pr : ∀ (r : TSs) (E : Ev) (a : Int) (acc : List D), (∀ x ∈ acc, IsPr x) → ∀ x ∈ lowB E a acc r, IsPr x
  | .nil, E, a, acc, h => h
  | .cons s r, E, a, acc, h => lowB_pr r E a _ (pr_app h (lowS_pr s E _))
end
theorem procC_pr (E : Ev) (ad : Int) (ps : List Nm) (b : TSs) : ∀ x ∈ procC E ad ps b, IsPr x :=
  pr_app (pr_app (fun x hx => by obtain ⟨i, _, rfl⟩ := List.mem_map.mp hx; exact ⟨_, _, rfl⟩) (lowB_pr b _ _ _ fun _ h => by cases h)) fun x hx => by
    simp at hx; rcases hx with rfl | rfl <;> exact ⟨_, _, rfl⟩
theorem main_pr (T : TP) : ∀ x ∈ T.main, IsPr x := pr_app (pr_app (pr_one _ _) (lowB_pr _ _ _ _ fun _ h => by cases h)) (pr_one _ _)
theorem step_pr (T : TP) : ∀ (l : List (Int × Nm × List Nm × TSs)) (acc : List D × List D), (∀ x ∈ acc.1, IsPr x) → ∀ x ∈ (l.foldl T.step acc).1, IsPr x
  | [], acc, h => h
  | p :: l, acc, h => step_pr T l (T.step acc p) (pr_app h (procC_pr _ _ _ _))
theorem step_len (T : TP) : ∀ (l : List (Int × Nm × List Nm × TSs)) (acc : List D × List D), acc.1.length ≤ (l.foldl T.step acc).1.length
  | [], acc => Nat.le_refl _
  | p :: l, acc => Nat.le_trans (by simp [TP.step]) (step_len T l (T.step acc p))
theorem procC_len (E : Ev) (ad : Int) (ps : List Nm) (b : TSs) : (procC E ad ps b).length = ps.length + b.sz + 2 := by simp [procC, lowB_len]; omega
noncomputable def tellP (T : TP) (p : Int × Nm × List Nm × TSs) : D := .tup [.str p.2.1, .int p.2.2.1.length]
theorem comp_new (j : Nat) (hj : 1 ≤ j) (h : LH) (a b c d e : D) (m : Nat) (hm : m = h.length) : callN TT.pr j 726838724295606890549323807888004534353641360687318060281490199180639288113397923326191050713763565564044112017298140851459820464451551 [.ref m, a, b, c, d, e] (h ++ [.ins 355790745284845 []]) = some (.non, h ++ [.ins 355790745284845 [(209449573, a), (29213045491, b), (504874445615731, c), (8557907253277700851, d), (1041295160196917408499, e)]]) := by
  obtain ⟨j', hk'⟩ : ∃ k', j = k' + 1 := ⟨j - 1, by omega⟩
  subst hk'
  rw [callN_succ fn_Program___init__ rfl]
  subst hm
  have s2 : ∀ fs gs, setIns (h ++ [.ins 355790745284845 fs]) h.length 355790745284845 gs = h ++ [.ins 355790745284845 gs] := fun fs gs => by simp [setIns]
  simp! [F_Program___init__, fldOk, cl_Program, s2, putL]
theorem comp_row {T : TP} (G : T.good) (j : Nat) (hj : 80 ≤ j) (H : LH) (n : Nat) (a : NmAt H n T.env) (asg : D → Lc → Option Lc) (body : Lc → LH → Option (Fl × Lc × LH)) (all : List D) (mk : Nat → Option D → Option D → Option D → Option D → Option D → Lc)
    (turn : ∀ p ∈ T.procs, ∀ (acc : List D × List D) (x : LH) (q : Nat) a1 a2 a3 a4 a5, (H ++ LO.lst acc.2 :: x)[q]? = some (.lst acc.1) → q ≠ H.length → (T.step acc p).1.length ≤ 2000 → acc.2.length ≤ 1000 →
      ∃ x' q' b1 b2 b3 b4 b5, (H ++ LO.lst (T.step acc p).2 :: x')[q']? = some (.lst (T.step acc p).1) ∧ q' ≠ H.length ∧ (asg (prD p) (mk q a1 a2 a3 a4 a5)).bind (fun σ1 => body σ1 (H ++ LO.lst acc.2 :: x)) = some (.nx, mk q' b1 b2 b3 b4 b5, H ++ LO.lst (T.step acc p).2 :: x')) :
    ∀ (l : List (Int × Nm × List Nm × TSs)) (acc : List D × List D) (x : LH) (q : Nat) (a1 a2 a3 a4 a5 : Option D), (∀ p ∈ l, p ∈ T.procs) → (H ++ LO.lst acc.2 :: x)[q]? = some (.lst acc.1) → q ≠ H.length → (l.foldl T.step acc).1.length ≤ 2000 → acc.2.length + l.length ≤ 1000 →
      ∃ x' q' b1 b2 b3 b4 b5, (H ++ LO.lst (l.foldl T.step acc).2 :: x')[q']? = some (.lst (l.foldl T.step acc).1) ∧ q' ≠ H.length ∧ forL asg body none all (l.map prD) (mk q a1 a2 a3 a4 a5) (H ++ LO.lst acc.2 :: x) = some (.nx, mk q' b1 b2 b3 b4 b5, H ++ LO.lst (l.foldl T.step acc).2 :: x')
  | [], acc, x, q, a1, a2, a3, a4, a5, hl, f, nq, hz, hb => ⟨x, q, a1, a2, a3, a4, a5, f, nq, rfl⟩
  | p :: l, acc, x, q, a1, a2, a3, a4, a5, hl, f, nq, hz, hb => by
    obtain ⟨x1, q1, b1, b2, b3, b4, b5, f1, nq1, e1⟩ := turn p (hl p List.mem_cons_self) acc x q a1 a2 a3 a4 a5 f nq (Nat.le_trans (step_len T l _) hz) (by simp at hb; omega)
    obtain ⟨x2, q2, c1, c2, c3, c4, c5, f2, nq2, e2⟩ := comp_row G j hj H n a asg body all mk turn l (T.step acc p) x1 q1 b1 b2 b3 b4 b5 (fun p hp => hl p (List.mem_cons_of_mem _ hp)) f1 nq1 hz (by simp [TP.step] at hb ⊢; omega)
    refine ⟨x2, q2, c1, c2, c3, c4, c5, f2, nq2, ?_⟩
    obtain ⟨σ3, y1, y2⟩ := Option.bind_eq_some_iff.mp e1
    rw [List.map_cons, forL_c, y1, Option.bind_some, y2, Option.bind_some]
    exact e2
theorem comp_go {T : TP} (G : T.good) {j : Nat} (hj : 80 ≤ j) {H : LH} {n : Nat} (a : NmAt H n T.env) {asg : D → Lc → Option Lc} {body : Lc → LH → Option (Fl × Lc × LH)} {all : List D} {σ : Lc} {h : LH} {L : Option (Fl × Lc × LH)} {Z : Prop} (e : forL asg body none all (T.procs.map prD) σ h = L)
    (mk : Nat → Option D → Option D → Option D → Option D → Option D → Lc) (q : Nat) (x : LH) (a1 a2 a3 a4 a5 : Option D) (hσ : σ = mk q a1 a2 a3 a4 a5) (hh : h = H ++ LO.lst [] :: x) (f : h[q]? = some (.lst T.main)) (nq : q ≠ H.length)
    (turn : ∀ p ∈ T.procs, ∀ (acc : List D × List D) (x : LH) (q : Nat) a1 a2 a3 a4 a5, (H ++ LO.lst acc.2 :: x)[q]? = some (.lst acc.1) → q ≠ H.length → (T.step acc p).1.length ≤ 2000 → acc.2.length ≤ 1000 →
      ∃ x' q' b1 b2 b3 b4 b5, (H ++ LO.lst (T.step acc p).2 :: x')[q']? = some (.lst (T.step acc p).1) ∧ q' ≠ H.length ∧ (asg (prD p) (mk q a1 a2 a3 a4 a5)).bind (fun σ1 => body σ1 (H ++ LO.lst acc.2 :: x)) = some (.nx, mk q' b1 b2 b3 b4 b5, H ++ LO.lst (T.step acc p).2 :: x'))
    (k : ∀ x' q' b1 b2 b3 b4 b5, (H ++ LO.lst T.out.2 :: x')[q']? = some (.lst T.out.1) → L = some (.nx, mk q' b1 b2 b3 b4 b5, H ++ LO.lst T.out.2 :: x') → Z) : Z := by
  subst hσ hh
  obtain ⟨x', q', b1, b2, b3, b4, b5, f1, nq1, e1⟩ := comp_row G j hj H n a asg body all mk turn T.procs (T.main, []) x q a1 a2 a3 a4 a5 (fun p hp => hp) f nq G.len (by have := G.few.2; simp; omega)
  exact k x' q' b1 b2 b3 b4 b5 f1 (e ▸ e1)
theorem compile_ok {T : TP} (G : T.good) (j : Nat) (hj : 85 ≤ j) (h : LH) : ∃ a h', callN TT.pr j 15092516165221448322691813 [T.d] h = some (.ref a, h') ∧ Le h h' ∧ h'[a]? = some T.obj := by
  obtain ⟨j', hk'⟩ : ∃ k', j = k' + 1 := ⟨j - 1, by omega⟩
  subst hk'
  rw [callN_succ fn_compile_tree rfl]
  obtain ⟨x1, c1⟩ := heads_ok T.recs G.recs (.tup (T.recs.map headD)) (.str [114,101,99,111,114,100]) none h (fun x => rfl) (fun x => trivial) j' (by omega)
  let hs := T.procs.map fun p => (p.1, p.2.1, p.2.2.1)
  have e3 : T.procs.map (fun p => D.tup [.int p.1, .str p.2.1, namesD p.2.2.1]) = hs.map headD := by simp [hs, headD]
  obtain ⟨x2, c2⟩ := heads_ok hs G.procs (.ref (h ++ x1).length) (.str [112,114,111,99,101,100,117,114,101]) (some (h ++ x1).length) (h ++ x1 ++ [.lst (hs.map headD)]) (fun x => by rw [List.append_assoc, wk_ref, List.singleton_append, at_end]; simp [seqOf]) (fun x => by rw [List.append_assoc, List.singleton_append]; simp only [stays, seqOf, at_end]) j' (by omega)
  obtain ⟨x3, c3⟩ := vars_ok T.blk G.blk.1 (by have := G.blk.2.2.2; omega) [] (fun _ h => by cases h) (by simp) j' (by have := G.blk.2.2.1; omega) (h ++ x1 ++ [.lst (hs.map headD)] ++ x2)
  generalize hH : h ++ x1 ++ [.lst (hs.map headD)] ++ x2 ++ x3 = H3 at c3
  simp only [List.length_append, List.append_assoc, List.cons_append, List.nil_append] at c2 c3
  have c4 := names_new j' (by omega) T.env H3 _ rfl
  have c4' : callN TT.pr j' 726838724295606890549323807888004534353641360687318060281490199180639288113397923326191050713763565560762716617757096597039007643021279 [.ref H3.length, .tup (T.recs.map fun p => recD p.2), .tup (T.procs.map fun p => D.tup [.str p.2.1, .int p.2.2.1.length]), namesD (varsOf T.blk [])] (H3 ++ [.ins 21143188211 []]) = some (.non, H3 ++ [T.env.obj]) := by
    obtain ⟨k, rfl⟩ : ∃ k, j' = k + 1 := ⟨j' - 1, by omega⟩
    rw [callN_def] at c4 ⊢
    simp only [TP.env, List.map_map] at c4 ⊢
    exact c4
  obtain ⟨x5, c5⟩ := check_program_ok G j' (by omega) (H3 ++ [T.env.obj]) H3.length at_new
  have nm5 : NmAt (H3 ++ [T.env.obj] ++ x5) H3.length T.env := NmAt.app at_new _
  generalize hH5 : H3 ++ [T.env.obj] ++ x5 = H5 at *
  obtain ⟨q, H6, c6, l6, f6⟩ := low_blk T.blk G.fit 30 (by simp [TP.env]) G.blk.2.2.1 G.blk.1 (by have := G.blk.2.2.2; omega) j' (by have := G.blk.2.2.1; omega) (H5 ++ [.lst [.tup [.int 0, ins [101,110,116,101,114] []]]]) H3.length (nm5.app _) 1
  have ad6 := op_lst (l6.get (at_end H5 (.lst [.tup [.int 0, ins [101,110,116,101,114] []]]) [])) f6 (by rw [lowB_len]; have := G.blk.2.2.2; simp; omega)
  have nm6 : NmAt H6 H3.length T.env := l6.nm (nm5.app _)
  have hm : T.main = [.tup [.int 0, ins [101,110,116,101,114] []]] ++ lowB T.env 1 [] T.blk ++ [.tup [.int 0, ins [104,97,108,116] []]] := rfl
  have lm : (lowB T.env 1 [] T.blk).length ≤ 100000 := by rw [lowB_len]; simp; exact G.blk.2.2.2
  generalize hs1 : [.tup [.int 0, ins [101,110,116,101,114] []]] ++ lowB T.env 1 [] T.blk = S1 at *
  have lS1 : S1.length ≤ 100001 := by rw [← hs1]; simp; omega
  have ad7 : binop .add (.ref H6.length) (.ref (H6.length + 1)) (H6 ++ [.lst S1, .lst [.tup [.int 0, ins [104,97,108,116] []]]]) = some (.ref (H6.length + 2), H6 ++ [.lst S1, .lst [.tup [.int 0, ins [104,97,108,116] []]], .lst T.main]) := by
    have := op_lst (at_end H6 (.lst S1) [.lst [.tup [.int 0, ins [104,97,108,116] []]]]) (at_end1 H6 (.lst S1) (.lst [.tup [.int 0, ins [104,97,108,116] []]]) []) (by simp; omega)
    rw [this, hm]
    simp
  simp! [F_compile_tree, TP.d, cut_1, c1]
  have ft : ∀ {α : Type} (l : List α), List.filter (fun _ => true) l = l := fun l => by simp
  rw [lc_map prD (fun _ => true) (fun p => D.tup [.int p.1, .str p.2.1, namesD p.2.2.1]) (by simp) T.procs [] (fun p _ => by simp! [prD, wipe, tgSl, tgsSl, cut_to3]) (by have := G.few.2; unfold SZ; simp; omega)]
  rw [ft, List.nil_append, e3]
  simp! [alloc, c2]
  rw [lc_map prD (fun _ => true) (fun p => D.tup [.str p.2.1, .int p.2.2.1.length]) (by simp) T.procs [] (fun p _ => by simp! [prD, wipe, tgSl, tgsSl, namesD]) (by have := G.few.2; unfold SZ; simp; omega)]
  rw [ft, List.nil_append]
  simp! [lcbF]
  rw [lc_map headD (fun _ => true) (fun p => recD p.2) (by simp) T.recs [] (fun p _ => by simp! [headD, recD, wipe, tgSl, tgsSl, namesD]) (by have := G.few.1; unfold SZ; simp; omega)]
  rw [ft, List.nil_append]
  have c3' : callN TT.pr j' 17947232312025836896647142 [.tup (tssD T.blk), .tup []] (h ++ (x1 ++ LO.lst (hs.map headD) :: x2)) = some (namesD (varsOf T.blk []), H3) := c3
  simp only [ins] at c6 ad6 ad7 hm
  simp! [lcbF, cl_Names, c3', c4', c5, c6, alloc, ad6, ad7]
  clear c1 c2 c3 c3' c4 c4' c5 c6 ad6 ad7
  have nm7 : NmAt (H6 ++ [.lst S1, .lst [D.tup [.int 0, .tup [.str [104,97,108,116]]]], .lst T.main]) H3.length T.env := NmAt.app nm6 _
  have f7 := at_end2' H6 (.lst S1) (.lst [D.tup [.int 0, .tup [.str [104,97,108,116]]]]) (.lst T.main) []
  have n7 : H6.length + 3 = (H6 ++ [LO.lst S1, LO.lst [D.tup [.int 0, .tup [.str [104,97,108,116]]]], LO.lst T.main]).length := by simp
  have l7 : Le H6 (H6 ++ [.lst S1, .lst [D.tup [.int 0, .tup [.str [104,97,108,116]]]], .lst T.main]) := .app _ _
  have e7 : ∀ y, H6 ++ LO.lst S1 :: LO.lst [D.tup [.int 0, .tup [.str [104,97,108,116]]]] :: LO.lst T.main :: y = (H6 ++ [LO.lst S1, LO.lst [D.tup [.int 0, .tup [.str [104,97,108,116]]]], .lst T.main]) ++ y := fun y => by simp
  rw [e7, n7]
  generalize H6 ++ [LO.lst S1, LO.lst [D.tup [.int 0, .tup [.str [104,97,108,116]]]], LO.lst T.main] = H7 at *
  generalize hL : forL _ _ _ _ _ _ _ = L
  refine comp_go (j := j') G (by omega) nm7 hL (fun q a1 a2 a3 a4 a5 => [some (.tup [.str [112,114,111,103,114,97,109], .tup (T.recs.map headD), .tup (T.procs.map prD), .tup (tssD T.blk)]), some (.tup (T.recs.map headD)), some (.tup (T.procs.map prD)), some (.tup (tssD T.blk)), a1, a2, a3, a4, some (.tup (T.procs.map fun p => D.tup [.str p.2.1, .int p.2.2.1.length])), some (.tup (T.recs.map fun p => recD p.2)), some (.ref H3.length), some (.ref q), some (.ref H7.length), a5, none, none, none, none, none]) (H6.length + 2) [] none none none none none rfl rfl (at_old f7 _) (by omega) ?_ ?_
  · rintro p hp acc x q a1 a2 a3 a4 a5 f nq hz hb
    obtain ⟨g1, g2, g3, g4⟩ := G.pr p hp
    obtain ⟨y, v⟩ := vars_ok p.2.2.2 g1 (by omega) p.2.2.1 (G.par hp).1 (G.par hp).2 j' (by omega) (H7 ++ LO.lst acc.2 :: x)
    have v : callN TT.pr j' 17947232312025836896647142 [.tup (tssD p.2.2.2), namesD p.2.2.1] (H7 ++ LO.lst acc.2 :: x) = some (namesD (ownOf p), H7 ++ LO.lst acc.2 :: x ++ y) := v
    have f1 := at_old f y
    have f2 : (H7 ++ LO.lst (acc.2 ++ [.tup [.str p.2.1, namesD (ownOf p), .int acc.1.length]]) :: (x ++ y))[q]? = some (.lst acc.1) := by
      have := setLst_ne (h := H7 ++ LO.lst acc.2 :: (x ++ y)) (a := H7.length) (b := q) (xs := acc.2 ++ [.tup [.str p.2.1, namesD (ownOf p), .int acc.1.length]]) nq
      rw [setLst_mid] at this
      rw [this]
      simpa using f1
    have nm8 := NmAt.app nm7 (LO.lst (acc.2 ++ [.tup [.str p.2.1, namesD (ownOf p), .int acc.1.length]]) :: (x ++ y))
    generalize hX : H7 ++ LO.lst (acc.2 ++ [.tup [.str p.2.1, namesD (ownOf p), .int acc.1.length]]) :: (x ++ y) = X at *
    have ii := inside_ok j' (by omega) nm8 (ownOf p)
    have e8 := nm_get nm8
    obtain ⟨q2, Y, c, l2, f3⟩ := lower_proc_ok (inside_fit G.fit (G.own_sg hp)) p.2.2.1 (G.par hp).2 p.2.2.2 30 (by simp [Ev.inside]) g3 g1 (by omega) j' (by omega) (X ++ [(T.env.inside (ownOf p)).obj]) X.length at_new acc.1.length
    have f3 : Y[q2]? = some (.lst (procC (T.env.inside (ownOf p)) acc.1.length p.2.2.1 p.2.2.2)) := f3
    have f4 := l2.get (at_old f2 [(T.env.inside (ownOf p)).obj])
    have lz : acc.1.length + (procC (T.env.inside (ownOf p)) acc.1.length p.2.2.1 p.2.2.2).length ≤ 2000 := by simpa [TP.step] using hz
    have ad := op_lst f4 f3 (by omega)
    obtain ⟨z, rfl⟩ := l2
    subst hX
    refine ⟨x ++ y ++ (T.env.inside (ownOf p)).obj :: z ++ [.lst (acc.1 ++ procC (T.env.inside (ownOf p)) acc.1.length p.2.2.1 p.2.2.2)], (H7 ++ LO.lst (acc.2 ++ [.tup [.str p.2.1, namesD (ownOf p), .int acc.1.length]]) :: (x ++ y) ++ [(T.env.inside (ownOf p)).obj] ++ z).length, some (.int p.1), some (.str p.2.1), some (namesD p.2.2.1), some (.tup (tssD p.2.2.2)), some (namesD (ownOf p)), ?_, ?_, ?_⟩
    · have := at_end (H7 ++ LO.lst (acc.2 ++ [.tup [.str p.2.1, namesD (ownOf p), .int acc.1.length]]) :: (x ++ y) ++ [(T.env.inside (ownOf p)).obj] ++ z) (.lst (acc.1 ++ procC (T.env.inside (ownOf p)) acc.1.length p.2.2.1 p.2.2.2)) []
      simpa [TP.step] using this
    · simp
    · have f5 := at_old f2 [(T.env.inside (ownOf p)).obj]
      simp only [List.length_append, List.append_assoc, List.cons_append, List.nil_append, List.length_cons, List.length_nil] at v f1 f5 e8 ii c ad ⊢
      simp! [prD, v, at_end, f1, setLst_mid, e8, cl_Names, ii, f2, f5, c, ad, TP.step, show acc.2.length < 16777216 by omega]
  · rintro x' q' b1 b2 b3 b4 b5 f rfl
    have ol := G.len
    have ol2 : ¬ (2000 : Int) < T.out.1.length := by omega
    have hp : ∀ x ∈ T.out.1, IsPr x := step_pr T T.procs _ (main_pr T)
    have hst : stays (some q') T.out.1 (H7 ++ LO.lst T.out.2 :: x') := by simp only [stays, seqOf, f]
    simp! [f, gv_MOST_INSTRUCTIONS, ol2]
    rw [lcL_pure (fun _ => true) cdOf hst T.out.1 [] (fun x hx => by obtain ⟨l, d, rfl⟩ := hp x hx; simp! [wipe, tgSl, tgsSl, cdOf]) (by unfold SZ; simp; omega)]
    rw [ft, List.nil_append]
    simp! [lcbF, f]
    rw [lcL_pure (fun _ => true) lnOf hst T.out.1 [] (fun x hx => by obtain ⟨l, d, rfl⟩ := hp x hx; simp! [wipe, tgSl, tgsSl, lnOf]) (by unfold SZ; simp; omega)]
    rw [ft, List.nil_append]
    have e9 := nm_get (NmAt.app nm7 (LO.lst T.out.2 :: x'))
    have cn := comp_new j' (by omega) (H7 ++ LO.lst T.out.2 :: x') (.tup (T.out.1.map cdOf)) (.tup (T.out.1.map lnOf)) (.tup (T.recs.map fun r => recD r.2)) (namesD T.env.top) (.tup T.out.2) _ rfl
    simp only [List.length_append, List.append_assoc, List.cons_append, List.nil_append, List.length_cons] at cn
    refine ⟨H7.length + (x'.length + 1), H7 ++ LO.lst T.out.2 :: (x' ++ [T.obj]), ?_, ?_, ?_⟩
    · simp! [lcbF, e9, at_end, cl_Program, alloc, cn]
      rfl
    · have : Le H3 H5 := ⟨T.env.obj :: x5, by rw [← hH5]; simp⟩
      have h3 : Le h H3 := ⟨x1 ++ [.lst (hs.map headD)] ++ x2 ++ x3, by rw [← hH]; simp⟩
      exact h3.trans (this.trans ((Le.app _ _).trans (l6.trans (l7.trans (.app _ _)))))
    · have := at_end (H7 ++ LO.lst T.out.2 :: x') T.obj []
      simpa using this
theorem cell_ok (k : Nat) (s : Nat) (ns : List Int) (j : Nat) (h : LH) (hs : h[s]? = some (.scr ns)) : ∃ i, callN TT.pr (k+1) 6906700753603753580 [.ref s, .int j] h = some (.int i, h) := by
  rw [callN_succ fn__law_cell rfl]
  simp! [F__law_cell, hs]
  by_cases q : j < ns.length
  · simp! [q, atI, ixN]
  · simp! [q]
theorem digit_in (v : Int) : 0 ≤ v.fmod 1000 ∧ v.fmod 1000 < 1000 := ⟨Int.fmod_nonneg_of_pos v (by decide), Int.fmod_lt_of_pos v (by decide)⟩
theorem rng_at2 {lo n i : Nat} {x : D} (h : ((List.range n).map fun (k : Nat) => D.int ((lo : Int) + k))[i]? = some x) : x = .int ((lo + i : Nat) : Int) ∧ i < n := by
  obtain ⟨e, l⟩ := rng_at h
  exact ⟨by rw [e]; simp, l⟩
theorem digits_ok (k : Nat) (s : Nat) (ns : List Int) (h : LH) (hs : h[s]? = some (.scr ns)) (lo hi : Nat) (ll : lo ≤ hi) (lh : hi ≤ 1000) : WP (fun r => r.1 = .ref h.length ∧ ∃ ds : List Int, r.2 = h ++ [.lst (ds.map D.int)] ∧ ∀ x ∈ ds, 0 ≤ x ∧ x < 1000) (callN TT.pr (k+2) 113159385147079321614963 [.ref s, .int lo, .int hi] h) := by
  refine WP.mk fun R hR => ?_
  rw [callN_succ fn__law_digits rfl]
  have r2 : rngOf [.int lo, .int hi] = some ((List.range (hi - lo)).map fun (k : Nat) => D.int ((lo : Int) + k)) := by
    rw [rngOf_2 _ _ (by omega) (by omega), show ((hi : Int) - lo).toNat = hi - lo from by omega]
  simp! [-rngOf_2, -rngOf_1, F__law_digits, alloc, r2]
  generalize hL : forL _ _ _ _ _ _ _ = L
  refine forL_go hL (fun i σ h' => ∃ (ds : List Int) (a4 a5 a6 a7 : Option D), σ = [some (.ref s), some (.int lo), some (.int hi), some (.ref h.length), a4, a5, a6, a7] ∧ h' = h ++ [.lst (ds.map D.int)] ∧ ds.length ≤ 60 * i ∧ ∀ x ∈ ds, 0 ≤ x ∧ x < 1000) ⟨[], _, _, _, _, rfl, rfl, by simp, by simp⟩ ?_ ?_
  · rintro i x σ h' hx ⟨ds, a4, a5, a6, a7, rfl, rfl, hl, hd⟩ Q hQ
    obtain ⟨rfl, hii⟩ := rng_at2 hx
    clear hx hL r2
    obtain ⟨c, hc⟩ := cell_ok k s ns (lo + i) (h ++ [.lst (ds.map D.int)]) (by rw [List.getElem?_append_left (lt_of_get hs), hs])
    generalize ((lo + i : Nat) : Int) = kk at *
    simp! [hc]
    by_cases q : c < 0 <;> simp! [q]
    case' pos => generalize 1 - 2 * c = c
    all_goals
      clear hc
      by_cases q2 : 1000000000000000000 ≤ c <;> simp! [q2]
      · generalize hL : forL _ _ _ _ _ _ _ = L
        refine forL_go hL (fun j σ h' => ∃ (ds : List Int) (c : Int) (a6 a7 : Option D), σ = [some (.ref s), some (.int lo), some (.int hi), some (.ref h.length), some (.int kk), some (.int c), a6, a7] ∧ h' = h ++ [.lst (ds.map D.int)] ∧ ds.length ≤ 60 * i + j ∧ ∀ x ∈ ds, 0 ≤ x ∧ x < 1000) ⟨ds, c, _, _, rfl, rfl, by omega, hd⟩ ?_ ?_
        · rintro j x σ h' hx ⟨ds, c, a6, a7, rfl, rfl, hl, hd⟩ Q hQ
          obtain ⟨rfl, hj⟩ := rng_at0 hx
          have hl2 : ds.length < 16777216 := by omega
          clear hx hL q2
          by_cases q3 : 0 < c <;> simp! [q3, hl2, setLst_top]
          · simp only [Option.bind_some, z_nx, z_n, z_bk, z_rt, fin_nx, fin_rt, wp_some]; exact (hQ _ _ trivial ⟨ds ++ [c.fmod 1000], _, _, _, rfl, by simp, by simp; omega, by intro x hx; simp at hx; rcases hx with hx | rfl; exact hd x hx; exact digit_in c⟩)
          · simp only [Option.bind_some, z_nx, z_n, z_bk, z_rt, fin_nx, fin_rt, wp_some]; exact (hQ _ _ trivial ⟨ds, _, _, _, rfl, rfl, by omega, hd⟩)
        · rintro σ' h' rfl ⟨ds, c, a6, a7, rfl, rfl, hl, hd⟩
          simp at hl
          simp only [Option.bind_some, z_nx, z_n, z_bk, z_rt, fin_nx, fin_rt, wp_some]; exact (hQ _ _ trivial ⟨ds, _, _, _, _, rfl, rfl, by omega, hd⟩)
      · generalize hL : forL _ _ _ _ _ _ _ = L
        refine forL_go hL (fun j σ h' => ∃ (ds : List Int) (c d : Int) (a6 : Option D), σ = [some (.ref s), some (.int lo), some (.int hi), some (.ref h.length), some (.int kk), some (.int c), a6, some (.int d)] ∧ h' = h ++ [.lst (ds.map D.int)] ∧ ds.length ≤ 60 * i + j ∧ ∀ x ∈ ds, 0 ≤ x ∧ x < 1000) ⟨ds, c, _, _, rfl, rfl, by omega, hd⟩ ?_ ?_
        · rintro j x σ h' hx ⟨ds, c, d, a6, rfl, rfl, hl, hd⟩ Q hQ
          obtain ⟨rfl, hj⟩ := rng_at0 hx
          have hl2 : ds.length < 16777216 := by omega
          clear hx hL q2
          simp! [hl2, setLst_top]
          generalize Int.fdiv _ _ = v
          simp only [Option.bind_some, z_nx, z_n, z_bk, z_rt, fin_nx, fin_rt, wp_some]; exact (hQ _ _ trivial ⟨ds ++ [v.fmod 1000], _, _, _, rfl, by simp, by simp; omega, by intro x hx; simp at hx; rcases hx with hx | rfl; exact hd x hx; exact digit_in v⟩)
        · rintro σ' h' rfl ⟨ds, c, d, a6, rfl, rfl, hl, hd⟩
          simp at hl
          simp only [Option.bind_some, z_nx, z_n, z_bk, z_rt, fin_nx, fin_rt, wp_some]; exact (hQ _ _ trivial ⟨ds, _, _, _, _, rfl, rfl, by omega, hd⟩)
  · rintro σ' h' rfl ⟨ds, a4, a5, a6, a7, rfl, rfl, hl, hd⟩
    simp! []
    simp only [Option.bind_some, z_nx, z_n, z_bk, z_rt, fin_nx, fin_rt, wp_some]; exact (hR _ ⟨rfl, ds, rfl, hd⟩)
/-- the box with what may be spent -/
noncomputable def B3 (h : LH) (b d : Nat) (m : Int) : Prop := ∃ (ds : List Int) (t : Nat), h[b]? = some (.lst [.ref d, .int t, .int m]) ∧ h[d]? = some (.lst (ds.map D.int)) ∧ b ≠ d ∧ ∀ x ∈ ds, 0 ≤ x ∧ x < 1000
theorem B3.app {h : LH} {b d : Nat} {m : Int} (B : B3 h b d m) (x : LH) : B3 (h ++ x) b d m := by
  obtain ⟨ds, t, e1, e2, n, r⟩ := B
  exact ⟨ds, t, at_old e1 x, at_old e2 x, n, r⟩
theorem draw_ok (j : Nat) (hj : 1 ≤ j) {h : LH} {b d : Nat} {m : Int} (B : B3 h b d m) (n : Int) (hn : 0 < n) : ∃ v h', callN TT.pr j 6906700753606062327 [.ref b, .int n] h = some (.int v, h') ∧ 0 ≤ v ∧ v < n ∧ B3 h' b d m ∧ Ext b h h' := by
  suffices H : WP (fun r => ∃ v, r.1 = .int v ∧ 0 ≤ v ∧ v < n ∧ B3 r.2 b d m ∧ Ext b h r.2) (callN TT.pr j 6906700753606062327 [.ref b, .int n] h) by
    obtain ⟨⟨_, h'⟩, e, v, rfl, p⟩ := H
    exact ⟨v, h', e, p⟩
  refine WP.mk fun R hR => ?_
  obtain ⟨ds, t, e1, e2, nb, r⟩ := B
  have lb := lt_of_get e1
  have ld := lt_of_get e2
  have hm0 : n ≠ 0 := by omega
  have ex : Ext b h (setLst h b [.ref d, .int (t + 1), .int m]) := ⟨by simp, fun a _ n => setLst_ne n⟩
  have bx : B3 (setLst h b [.ref d, .int (t + 1), .int m]) b d m := ⟨ds, t + 1, by rw [setLst_same lb]; rfl, by rw [setLst_ne (Ne.symm nb), e2], nb, r⟩
  obtain ⟨j', hk'⟩ : ∃ k', j = k' + 1 := ⟨j - 1, by omega⟩
  subst hk'
  rw [callN_succ fn__law_draw rfl]
  simp! [F__law_draw, e1, atI, ixN, setLst_ne (Ne.symm nb), setLst_same lb, e2]
  by_cases q : t < ds.length
  · simp! [q, hm0]
    simp only [Option.bind_some, z_nx, z_n, z_bk, z_rt, fin_nx, fin_rt, wp_some]; exact (hR _ ⟨_, rfl, Int.fmod_nonneg_of_pos _ hn, Int.fmod_lt_of_pos _ hn, bx, ex⟩)
  · simp! [q]
    simp only [Option.bind_some, z_nx, z_n, z_bk, z_rt, fin_nx, fin_rt, wp_some]; exact (hR _ ⟨_, rfl, by omega, hn, bx, ex⟩)
theorem pay_ok (j : Nat) (hj : 1 ≤ j) {h : LH} {b d : Nat} {m : Int} (B : B3 h b d m) (c : Int) : ∃ h', callN TT.pr j 53958599637741817 [.ref b, .int c] h = some (.bl (decide (0 < m - c)), h') ∧ B3 h' b d (m - c) ∧ Ext b h h' := by
  obtain ⟨ds, t, e1, e2, nb, r⟩ := B
  have lb := lt_of_get e1
  have ld := lt_of_get e2
  refine ⟨setLst h b [.ref d, .int t, .int (m - c)], ?_, ⟨ds, t, setLst_same lb, by rw [setLst_ne (Ne.symm nb), e2], nb, r⟩, ⟨by simp, fun a _ n => setLst_ne n⟩⟩
  obtain ⟨j', hk'⟩ : ∃ k', j = k' + 1 := ⟨j - 1, by omega⟩
  subst hk'
  rw [callN_succ fn__law_pay rfl]
  simp! [F__law_pay, e1, atI, ixN, setLst_same lb]
theorem ext_get {b : Nat} {h h' : LH} (x : Ext b h h') {a : Nat} {o : LO} (e : h[a]? = some o) (n : a ≠ b) : h'[a]? = some o := by rw [x.2 a (lt_of_get e) n, e]
theorem B3.lt {h : LH} {b d : Nat} {m : Int} (B : B3 h b d m) : b < h.length := by obtain ⟨_, _, e, _⟩ := B; exact lt_of_get e
inductive Cv : D → Prop where
  | int (n : Int) (h : n.natAbs < 10 ^ 60) : Cv (.tup [.str [105,110,116], .int n])
  | bool (b : Bool) : Cv (.tup [.str [98,111,111,108], .bl b])
  | text (s : Nm) (l : s.length ≤ 200) (g : sgn s) : Cv (.tup [.str [116,101,120,116], .str s])
  | none : Cv (.tup [.str [110,111,110,101]])
noncomputable def OPS : List Nm := [[43], [45], [42], [47], [109,111,100], [38], [60], [60,61], [61,61], [62], [62,61], [33,61]]
noncomputable def TE.wf : TE → Prop
  | .cst v => Cv v
  | .nam _ => True
  | .both op a b => op ∈ OPS ∧ a.wf ∧ b.wf
  | .lg _ a b => a.wf ∧ b.wf
  | .un _ a => a.wf
  | .new _ => True
  | .fld a _ => a.wf
  | .itm a b => a.wf ∧ b.wf
noncomputable def known (E : Ev) (x : Nm) : Prop := ((E.counter x).isSome || (E.variable x).isSome) = true
structure Sc where
  N : List Nm
  F : List Nm
  R : Nm
  I : List Nm
noncomputable def Sc.d (S : Sc) : D := .tup [namesD S.N, namesD S.F, .str S.R, namesD S.I]
theorem sd_0 (S : Sc) (h : LH) : getix TT.pr S.d (.int 0) h = some (namesD S.N) := rfl
theorem sd_1 (S : Sc) (h : LH) : getix TT.pr S.d (.int 1) h = some (namesD S.F) := rfl
theorem sd_2 (S : Sc) (h : LH) : getix TT.pr S.d (.int 2) h = some (.str S.R) := rfl
theorem sd_3 (S : Sc) (h : LH) : getix TT.pr S.d (.int 3) h = some (namesD S.I) := rfl
structure ScK (E : Ev) (S : Sc) : Prop where
  N : ∀ x ∈ S.N, known E x
  I : ∀ x ∈ S.I, known E x
  F : ∀ x ∈ S.F, E.hasFld x = true
  R : E.hasRec S.R = true
structure ScW (S : Sc) : Prop where
  N : sgs S.N
  I : sgs S.I
  F : sgs S.F
  R : sgn S.R
  n : 0 < S.N.length ∧ S.N.length ≤ 1000
  i : 0 < S.I.length ∧ S.I.length ≤ 1000
  f : S.F.length = 2
noncomputable def Bd (A m m' : Int) : Prop := (m ≤ 0 → m' = m - 4) ∧ (0 < m → -A ≤ m')
structure EOk (S : Sc) (t : TE) (dp : Nat) (A m m' : Int) : Prop where
  ok : ∀ E, ScK E S → okE E t = true
  sg : t.sg
  wf : t.wf
  ht : t.ht ≤ dp
  sz : (t.sz : Int) ≤ m - m'
  bd : Bd A m m'
theorem pick_lst (j : Nat) (hj : 1 ≤ j) {h : LH} {b d : Nat} {m : Int} (B : B3 h b d m) (L : List D) (n : Int) (hn : n = L.length) (h0 : 0 < L.length) : ∃ v h' x, callN TT.pr j 6906700753606062327 [.ref b, .int n] (h ++ [.lst L]) = some (.int v, h') ∧ h'[h.length]? = some (.lst L) ∧ atI L v = some x ∧ x ∈ L ∧ B3 h' b d m ∧ Ext b h h' := by
  obtain ⟨v, h', e, v0, v1, B', X⟩ := draw_ok j hj (B.app [.lst L]) n (by omega)
  obtain ⟨x, ax, mx⟩ := atI_in (xs := L) v0 (by omega)
  exact ⟨v, h', x, e, ext_get X (at_end h _ []) (by have := B.lt; omega), ax, mx, B', (Ext.app b h _).trans X⟩
theorem pick_nm (j : Nat) (hj : 1 ≤ j) {h : LH} {b d : Nat} {m : Int} (B : B3 h b d m) (ss : List Nm) (h0 : 0 < ss.length) : ∃ v h' x, callN TT.pr j 6906700753606062327 [.ref b, .int ss.length] h = some (.int v, h') ∧ atI (ss.map D.str) v = some (.str x) ∧ x ∈ ss ∧ B3 h' b d m ∧ Ext b h h' := by
  obtain ⟨v, h', e, v0, v1, B', X⟩ := draw_ok j hj B ss.length (by omega)
  obtain ⟨x, ax, mx⟩ := atI_in (xs := ss.map D.str) v0 (by simpa using v1)
  obtain ⟨y, hy, rfl⟩ := List.mem_map.mp mx
  exact ⟨v, h', y, e, ax, hy, B', X⟩
theorem const_ok (j : Nat) (hj : 2 ≤ j) {h : LH} {b d : Nat} {m : Int} (B : B3 h b d m) : ∃ v h', callN TT.pr j 1854003366249211286867441524 [.ref b] h = some (teD (.cst v), h') ∧ Cv v ∧ B3 h' b d m ∧ Ext b h h' := by
  obtain ⟨j', hk'⟩ : ∃ k', j = k' + 1 := ⟨j - 1, by omega⟩
  subst hk'
  rw [callN_succ fn__law_constant rfl]
  obtain ⟨k, h1, c, k0, k1, B1, X1⟩ := draw_ok j' (by omega) B 9 (by omega)
  by_cases q : k < 4
  · obtain ⟨v, h2, c2, v0, v1, B2, X2⟩ := draw_ok j' (by omega) B1 4 (by omega)
    exact ⟨.tup [.str [105,110,116], .int v], h2, by simp! [F__law_constant, c, q, c2, teD], .int v (Nat.lt_of_lt_of_le (show v.natAbs < 4 by omega) (by decide)), B2, X1.trans X2⟩
  · by_cases q4 : k = 4
    · obtain ⟨v, h2, c2, v0, v1, B2, X2⟩ := draw_ok j' (by omega) B1 1000 (by omega)
      obtain ⟨w, h3, c3, w0, w1, B3, X3⟩ := draw_ok j' (by omega) B2 1000 (by omega)
      subst q4
      refine ⟨.tup [.str [105,110,116], .int (v * 10 ^ 57 + w)], h3, ?_, .int _ (by omega), B3, X1.trans (X2.trans X3)⟩
      have mo : v.natAbs < 18446744073709551616 := by omega
      simp! [F__law_constant, c, c2, c3, teD, mo]
    · by_cases q5 : k = 5
      · obtain ⟨v, h2, c2, v0, v1, B2, X2⟩ := draw_ok j' (by omega) B1 2 (by omega)
        subst q5
        exact ⟨.tup [.str [98,111,111,108], .bl (v == 1)], h2, by simp! [F__law_constant, c, c2, teD], .bool _, B2, X1.trans X2⟩
      · by_cases q6 : k = 6
        · obtain ⟨v, h2, c2, v0, v1, B2, X2⟩ := draw_ok j' (by omega) B1 6 (by omega)
          subst q6
          have ct : cut [97,98,35,126,10] none (some v) = ([97,98,35,126,10]).take v.toNat := by
            have := cut_to [97,98,35,126,10] v.toNat (by simp; omega)
            rw [← this]; congr 2; omega
          refine ⟨.tup [.str [116,101,120,116], .str (([97,98,35,126,10]).take v.toNat)], h2, by simp! [F__law_constant, c, c2, teD, ct], .text _ (by simp; omega) ?_, B2, X1.trans X2⟩
          unfold sgn
          rw [List.all_eq_true]
          intro x hx
          have := List.mem_of_mem_take hx
          simp at this
          rcases this with rfl | rfl | rfl | rfl | rfl <;> rfl
        · by_cases q7 : k = 7
          · subst q7
            exact ⟨.tup [.str [110,111,110,101]], h1, by simp! [F__law_constant, c, teD], .none, B1, X1⟩
          · obtain ⟨v, h2, c2, v0, v1, B2, X2⟩ := draw_ok j' (by omega) B1 1000 (by omega)
            exact ⟨.tup [.str [105,110,116], .int v], h2, by simp! [F__law_constant, c, q, q4, q5, q6, q7, c2, teD], .int v (Nat.lt_of_lt_of_le (show v.natAbs < 1000 by omega) (by decide)), B2, X1.trans X2⟩
theorem integer_ok {S : Sc} (K : ScW S) : ∀ (n : Nat) (j : Nat) (hj : n + 2 ≤ j) {h : LH} {b d : Nat} {m : Int} (B : B3 h b d m), ∃ t h' m', callN TT.pr j 14484401298848318679020274 [.ref b, S.d, .int n] h = some (teD t, h') ∧ EOk S t n (4 * n + 4) m m' ∧ B3 h' b d m' ∧ Ext b h h'
  | n, j, hj, h, b, d, m, B => by
    obtain ⟨j', hk'⟩ : ∃ k', j = k' + 1 := ⟨j - 1, by omega⟩
    subst hk'
    rw [callN_succ fn__law_integer rfl]
    obtain ⟨k, h1, c, k0, k1, B1, X1⟩ := draw_ok j' (by omega) B 8 (by omega)
    obtain ⟨h2, c2, B2, X2⟩ := pay_ok j' (by omega) B1 4
    have leaf : (¬ 0 < m - 4 ∨ n = 0 ∨ k < 2) → ∃ t h' m', fin (evSs TT.pr (callN TT.pr j') F__law_integer.body (start F__law_integer [.ref b, S.d, .int n]) h) = some (teD t, h') ∧ EOk S t n (4 * n + 4) m m' ∧ B3 h' b d m' ∧ Ext b h h' := by
      intro hq
      obtain ⟨v, h3, c3, v0, v1, B3, X3⟩ := draw_ok j' (by omega) B2 4 (by omega)
      refine ⟨.cst (.tup [.str [105,110,116], .int v]), h3, m - 4, ?_, ⟨fun _ _ => rfl, trivial, .int v (Nat.lt_of_lt_of_le (show v.natAbs < 4 by omega) (by decide)), Nat.zero_le _, by simp [TE.sz]; omega, ⟨fun _ => rfl, fun _ => by omega⟩⟩, B3, X1.trans (X2.trans X3)⟩
      by_cases p : 0 < m - 4
      · rw [decide_eq_true p] at c2
        by_cases p2 : n = 0
        · subst p2
          simp! [F__law_integer, c, c2, c3, teD]
        · have p3 : k < 2 := by omega
          have p4 : ¬ (n : Int) ≤ 0 := by omega
          have p5 : ¬ n ≤ 0 := by omega
          simp! [F__law_integer, c, c2, c3, teD, p2, p3, p4, p5]
      · rw [decide_eq_false p] at c2
        simp! [F__law_integer, c, c2, c3, teD]
    by_cases p : 0 < m - 4
    · have c2' := c2
      rw [decide_eq_true p] at c2'
      by_cases p2 : n = 0
      · exact leaf (.inr (.inl p2))
      · by_cases p3 : k < 2
        · exact leaf (.inr (.inr p3))
        · clear leaf
          have p4 : ¬ (n : Int) ≤ 0 := by omega
          by_cases p5 : k < 5
          · obtain ⟨v, h3, x, c3, ax, mx, B3, X3⟩ := pick_nm j' (by omega) B2 S.I K.i.1
            exact ⟨.nam x, h3, m - 4, by simp! [F__law_integer, c, c2', c3, teD, p2, p3, p4, p5, sd_0, sd_3, namesD, ax], ⟨fun E Q => Q.I x mx, K.I x mx, trivial, Nat.zero_le _, by simp [TE.sz]; omega, ⟨fun _ => rfl, fun _ => by omega⟩⟩, B3, X1.trans (X2.trans X3)⟩
          · obtain ⟨i, rfl⟩ : ∃ i, n = i + 1 := ⟨n - 1, by omega⟩
            obtain ⟨v, h3, x, c3, f3, ax, mx, B3, X3⟩ := pick_lst j' (by omega) B2 [.str [43], .str [45], .str [42], .str [43], .str [109,111,100]] 5 rfl (by simp)
            obtain ⟨op, rfl, ho, so⟩ : ∃ op, x = .str op ∧ op ∈ OPS ∧ sgn op := by
              simp at mx
              rcases mx with rfl | rfl | rfl | rfl | rfl <;> exact ⟨_, rfl, by decide, rfl⟩
            obtain ⟨t, h4, m4, c4, O4, B4, X4⟩ := integer_ok K i j' (by omega) B3
            obtain ⟨u, h5, m5, c5, O5, B5, X5⟩ := integer_ok K i j' (by omega) B4
            have ie : ((i + 1 : Nat) : Int) - 1 = i := by omega
            have hb := O4.bd
            have hb5 := O5.bd
            have sz4 := O4.sz
            have sz5 := O5.sz
            have o2 := opC_len op
            unfold Bd at hb hb5
            refine ⟨.both op t u, h5, m5, ?_, ⟨fun E Q => by simp [okE, O4.ok E Q, O5.ok E Q], ⟨so, O4.sg, O5.sg⟩, ⟨ho, O4.wf, O5.wf⟩, by have := O4.ht; have := O5.ht; simp [TE.ht]; omega, by simp only [TE.sz]; push_cast; omega, ⟨fun _ => by omega, fun _ => by push_cast at *; by_cases z : 0 < m4 <;> omega⟩⟩, B5, X1.trans (X2.trans (X3.trans (X4.trans X5)))⟩
            push_cast at ie p4
            have ie' : (i : Int) + 1 - 1 = i := by omega
            simp! [F__law_integer, c, c2', c3, alloc, f3, ax, c4, c5, teD, p3, p4, p5, ie']
    · exact leaf (.inl p)
noncomputable def ExprOk (S : Sc) (n : Nat) : Prop := ∀ (j : Nat) (hj : 2 * n + 4 ≤ j) {h : LH} {b d : Nat} {m : Int} (B : B3 h b d m), ∃ t h' m', callN TT.pr j 30375991152646174107447519246318 [.ref b, S.d, .int n] h = some (teD t, h') ∧ EOk S t (n + 1) (4 * n + 8) m m' ∧ B3 h' b d m' ∧ Ext b h h'
noncomputable def TestOk (S : Sc) (n : Nat) : Prop := ∀ (j : Nat) (hj : 2 * n + 5 ≤ j) {h : LH} {b d : Nat} {m : Int} (B : B3 h b d m), ∃ t h' m', callN TT.pr j 6906700753639406068 [.ref b, S.d, .int n] h = some (teD t, h') ∧ EOk S t (n + 1) (4 * n + 8) m m' ∧ B3 h' b d m' ∧ Ext b h h'
theorem expr_step {S : Sc} (K : ScW S) (n : Nat) (ih : ∀ i, n = i + 1 → ExprOk S i ∧ TestOk S i) : ExprOk S n := by
  intro j hj h b d m B
  obtain ⟨j', hk'⟩ : ∃ k', j = k' + 1 := ⟨j - 1, by omega⟩
  subst hk'
  rw [callN_succ fn__law_expression rfl]
  obtain ⟨k, h1, c, k0, k1, B1, X1⟩ := draw_ok j' (by omega) B 20 (by omega)
  obtain ⟨h2, c2, B2, X2⟩ := pay_ok j' (by omega) B1 4
  have X12 := X1.trans X2
  have leaf : (¬ 0 < m - 4 ∨ n = 0 ∨ k < 2) → ∃ t h' m', fin (evSs TT.pr (callN TT.pr j') F__law_expression.body (start F__law_expression [.ref b, S.d, .int n]) h) = some (teD t, h') ∧ EOk S t (n + 1) (4 * n + 8) m m' ∧ B3 h' b d m' ∧ Ext b h h' := by
    intro hq
    obtain ⟨v, h3, c3, cv, C3, X3⟩ := const_ok j' (by omega) B2
    refine ⟨.cst v, h3, m - 4, ?_, ⟨fun _ _ => rfl, trivial, cv, Nat.zero_le _, by simp [TE.sz]; omega, ⟨fun _ => rfl, fun _ => by omega⟩⟩, C3, X12.trans X3⟩
    by_cases p : 0 < m - 4
    · rw [decide_eq_true p] at c2
      by_cases p2 : n = 0
      · subst p2
        simp! [F__law_expression, c, c2, c3]
      · have p3 : k < 2 := by omega
        have p4 : ¬ (n : Int) ≤ 0 := by omega
        have p5 : ¬ n ≤ 0 := by omega
        simp! [F__law_expression, c, c2, c3, p2, p3, p4, p5]
    · rw [decide_eq_false p] at c2
      simp! [F__law_expression, c, c2, c3]
  by_cases p : 0 < m - 4
  · by_cases p2 : n = 0
    · exact leaf (.inr (.inl p2))
    · by_cases p3 : k < 2
      · exact leaf (.inr (.inr p3))
      · clear leaf
        rw [decide_eq_true p] at c2
        obtain ⟨i, rfl⟩ : ∃ i, n = i + 1 := ⟨n - 1, by omega⟩
        obtain ⟨ihe, iht⟩ := ih i rfl
        have p4 : ¬ (i : Int) + 1 ≤ 0 := by omega
        have ie' : (i : Int) + 1 - 1 = i := by omega
        by_cases q6 : k < 6
        · obtain ⟨v, h3, x, c3, ax, mx, C3, X3⟩ := pick_nm j' (by omega) B2 S.N K.n.1
          exact ⟨.nam x, h3, m - 4, by simp! [F__law_expression, c, c2, c3, teD, p3, p4, q6, sd_0, sd_3, namesD, ax], ⟨fun E Q => Q.N x mx, K.N x mx, trivial, Nat.zero_le _, by simp [TE.sz]; omega, ⟨fun _ => rfl, fun _ => by omega⟩⟩, C3, X12.trans X3⟩
        by_cases q10 : k < 10
        · obtain ⟨t, h3, m3, c3, O, C3, X3⟩ := integer_ok K (i + 1) j' (by omega) B2
          have hb := O.bd
          have hz := O.sz
          unfold Bd at hb
          push_cast at c3 hb
          exact ⟨t, h3, m3, by simp! [F__law_expression, c, c2, c3, p3, p4, q6, q10], ⟨O.ok, O.sg, O.wf, by have := O.ht; omega, by omega, ⟨fun _ => by omega, fun _ => by push_cast; omega⟩⟩, C3, X12.trans X3⟩
        by_cases q14 : k < 14
        · obtain ⟨v, h3, x, c3, f3, ax, mx, C3, X3⟩ := pick_lst j' (by omega) B2 [.str [43], .str [47], .str [109,111,100], .str [38], .str [60], .str [60,61], .str [61,61], .str [62], .str [62,61], .str [33,61]] 10 rfl (by simp)
          obtain ⟨op, rfl, ho, so⟩ : ∃ op, x = .str op ∧ op ∈ OPS ∧ sgn op := by
            simp only [List.mem_cons, List.not_mem_nil, or_false] at mx
            rcases mx with rfl | rfl | rfl | rfl | rfl | rfl | rfl | rfl | rfl | rfl <;> exact ⟨_, rfl, by decide, rfl⟩
          obtain ⟨t, h4, m4, c4, O4, C4, X4⟩ := ihe j' (by omega) C3
          obtain ⟨u, h5, m5, c5, O5, C5, X5⟩ := ihe j' (by omega) C4
          have hb := O4.bd
          have hb5 := O5.bd
          have sz4 := O4.sz
          have sz5 := O5.sz
          have o2 := opC_len op
          unfold Bd at hb hb5
          refine ⟨.both op t u, h5, m5, ?_, ⟨fun E Q => by simp [okE, O4.ok E Q, O5.ok E Q], ⟨so, O4.sg, O5.sg⟩, ⟨ho, O4.wf, O5.wf⟩, by have := O4.ht; have := O5.ht; simp [TE.ht]; omega, by simp only [TE.sz]; push_cast; omega, ⟨fun _ => by omega, fun _ => by push_cast at *; by_cases z : 0 < m4 <;> omega⟩⟩, C5, X12.trans (X3.trans (X4.trans X5))⟩
          simp! [F__law_expression, c, c2, c3, alloc, f3, ax, c4, c5, teD, p3, p4, q6, q10, q14, ie']
        by_cases q15 : k = 14
        · subst q15
          obtain ⟨t, h4, m4, c4, O4, C4, X4⟩ := iht j' (by omega) B2
          obtain ⟨v, h3, x, c3, f3, ax, mx, C3, X3⟩ := pick_lst j' (by omega) C4 [.str [97,110,100], .str [111,114]] 2 rfl (by simp)
          obtain ⟨o, rfl⟩ : ∃ o, x = .str (lgS o) := by
            simp only [List.mem_cons, List.not_mem_nil, or_false] at mx
            rcases mx with rfl | rfl
            · exact ⟨false, rfl⟩
            · exact ⟨true, rfl⟩
          obtain ⟨u, h5, m5, c5, O5, C5, X5⟩ := ihe j' (by omega) C3
          have hb := O4.bd
          have hb5 := O5.bd
          have sz4 := O4.sz
          have sz5 := O5.sz
          unfold Bd at hb hb5
          refine ⟨.lg o t u, h5, m5, ?_, ⟨fun E Q => by simp [okE, O4.ok E Q, O5.ok E Q], ⟨O4.sg, O5.sg⟩, ⟨O4.wf, O5.wf⟩, by have := O4.ht; have := O5.ht; simp [TE.ht]; omega, by simp only [TE.sz]; push_cast; omega, ⟨fun _ => by omega, fun _ => by push_cast at *; by_cases z : 0 < m4 <;> omega⟩⟩, C5, X12.trans (X4.trans (X3.trans X5))⟩
          simp! [F__law_expression, c, c2, c3, alloc, f3, ax, c4, c5, teD, p4, ie']
        by_cases q16 : k = 15
        · subst q16
          obtain ⟨v, h3, x, c3, f3, ax, mx, C3, X3⟩ := pick_lst j' (by omega) B2 [.str [110,111,116], .str [109,105,110,117,115], .str [115,105,122,101], .str [97,114,114,97,121]] 4 rfl (by simp)
          obtain ⟨o, rfl⟩ : ∃ o : Un, x = .str o.s := by
            simp only [List.mem_cons, List.not_mem_nil, or_false] at mx
            rcases mx with rfl | rfl | rfl | rfl
            · exact ⟨.not, rfl⟩
            · exact ⟨.minus, rfl⟩
            · exact ⟨.size, rfl⟩
            · exact ⟨.array, rfl⟩
          obtain ⟨u, h5, m5, c5, O5, C5, X5⟩ := ihe j' (by omega) C3
          have hb5 := O5.bd
          have sz5 := O5.sz
          unfold Bd at hb5
          have oc : o.code.length ≤ 3 := by cases o <;> simp [Un.code]
          refine ⟨.un o u, h5, m5, ?_, ⟨O5.ok, O5.sg, O5.wf, by have := O5.ht; simp [TE.ht]; omega, by simp only [TE.sz]; push_cast; omega, ⟨fun _ => by omega, fun _ => by push_cast at *; omega⟩⟩, C5, X12.trans (X3.trans X5)⟩
          simp! [F__law_expression, c, c2, c3, alloc, f3, ax, c5, teD, p4, ie']
        by_cases q17 : k = 16
        · subst q17
          exact ⟨.new S.R, h2, m - 4, by simp! [F__law_expression, c, c2, teD, p4, sd_2], ⟨fun E Q => Q.R, K.R, trivial, Nat.zero_le _, by simp [TE.sz]; omega, ⟨fun _ => rfl, fun _ => by omega⟩⟩, B2, X12⟩
        by_cases q18 : k = 17
        · subst q18
          obtain ⟨v, h3, c3, v0, v1, C3, X3⟩ := draw_ok j' (by omega) B2 4 (by omega)
          exact ⟨.un .array (.cst (.tup [.str [105,110,116], .int v])), h3, m - 4, by simp! [F__law_expression, c, c2, c3, teD, Un.s, p4], ⟨fun _ _ => rfl, trivial, .int v (Nat.lt_of_lt_of_le (show v.natAbs < 4 by omega) (by decide)), by simp [TE.ht], by simp [TE.sz, Un.code]; omega, ⟨fun _ => rfl, fun _ => by omega⟩⟩, C3, X12.trans X3⟩
        by_cases q19 : k = 18
        · subst q19
          obtain ⟨u, h5, m5, c5, O5, C5, X5⟩ := ihe j' (by omega) B2
          obtain ⟨v, h3, x, c3, ax, mx, C3, X3⟩ := pick_nm j' (by omega) C5 S.F (by rw [K.f]; decide)
          rw [K.f] at c3
          have hb5 := O5.bd
          have sz5 := O5.sz
          unfold Bd at hb5
          refine ⟨.fld u x, h3, m5, ?_, ⟨fun E Q => by simp [okE, O5.ok E Q, Q.F x mx], ⟨O5.sg, K.F x mx⟩, O5.wf, by have := O5.ht; simp [TE.ht]; omega, by simp only [TE.sz]; push_cast; omega, ⟨fun _ => by omega, fun _ => by push_cast at *; omega⟩⟩, C3, X12.trans (X5.trans X3)⟩
          push_cast at c3
          simp! [F__law_expression, c, c2, c3, ax, c5, teD, p4, ie', sd_1, namesD]
        · obtain ⟨t, h4, m4, c4, O4, C4, X4⟩ := ihe j' (by omega) B2
          obtain ⟨u, h5, m5, c5, O5, C5, X5⟩ := integer_ok K i j' (by omega) C4
          have hb := O4.bd
          have hb5 := O5.bd
          have sz4 := O4.sz
          have sz5 := O5.sz
          unfold Bd at hb hb5
          refine ⟨.itm t u, h5, m5, ?_, ⟨fun E Q => by simp [okE, O4.ok E Q, O5.ok E Q], ⟨O4.sg, O5.sg⟩, ⟨O4.wf, O5.wf⟩, by have := O4.ht; have := O5.ht; simp [TE.ht]; omega, by simp only [TE.sz]; push_cast; omega, ⟨fun _ => by omega, fun _ => by push_cast at *; by_cases z : 0 < m4 <;> omega⟩⟩, C5, X12.trans (X4.trans X5)⟩
          simp! [F__law_expression, c, c2, c4, c5, teD, p3, p4, q6, q10, q14, q15, q16, q17, q18, q19, ie']
  · exact leaf (.inl p)
theorem test_step {S : Sc} (K : ScW S) (n : Nat) (ie : ExprOk S n) : TestOk S n := by
  intro j hj h b d m B
  obtain ⟨j', hk'⟩ : ∃ k', j = k' + 1 := ⟨j - 1, by omega⟩
  subst hk'
  rw [callN_succ fn__law_test rfl]
  obtain ⟨k, h1, c, k0, k1, B1, X1⟩ := draw_ok j' (by omega) B 6 (by omega)
  obtain ⟨h2, c2, B2, X2⟩ := pay_ok j' (by omega) B1 4
  have X12 := X1.trans X2
  by_cases p : 0 < m - 4
  · rw [decide_eq_true p] at c2
    by_cases q0 : k = 0
    · subst q0
      obtain ⟨v, h3, c3, v0, v1, C3, X3⟩ := draw_ok j' (by omega) B2 2 (by omega)
      exact ⟨.cst (.tup [.str [98,111,111,108], .bl (v == 1)]), h3, m - 4, by simp! [F__law_test, c, c2, c3, teD], ⟨fun _ _ => rfl, trivial, .bool _, Nat.zero_le _, by simp [TE.sz]; omega, ⟨fun _ => rfl, fun _ => by omega⟩⟩, C3, X12.trans X3⟩
    · by_cases q1 : k = 1 ∧ 0 < n
      · obtain ⟨q1, q2⟩ := q1
        subst q1
        obtain ⟨t, h3, m3, c3, O, C3, X3⟩ := ie j' (by omega) B2
        have hb := O.bd
        have hz := O.sz
        unfold Bd at hb
        exact ⟨t, h3, m3, by simp! [F__law_test, c, c2, c3, q2], ⟨O.ok, O.sg, O.wf, O.ht, by omega, ⟨fun _ => by omega, fun _ => by push_cast; omega⟩⟩, C3, X12.trans X3⟩
      · obtain ⟨v, h3, x, c3, f3, ax, mx, C3, X3⟩ := pick_lst j' (by omega) B2 [.str [60], .str [60,61], .str [61,61], .str [62], .str [62,61], .str [33,61]] 6 rfl (by simp)
        obtain ⟨op, rfl, ho, so⟩ : ∃ op, x = .str op ∧ op ∈ OPS ∧ sgn op := by
          simp only [List.mem_cons, List.not_mem_nil, or_false] at mx
          rcases mx with rfl | rfl | rfl | rfl | rfl | rfl <;> exact ⟨_, rfl, by decide, rfl⟩
        obtain ⟨t, h4, m4, c4, O4, C4, X4⟩ := integer_ok K n j' (by omega) C3
        obtain ⟨u, h5, m5, c5, O5, C5, X5⟩ := integer_ok K n j' (by omega) C4
        have hb := O4.bd
        have hb5 := O5.bd
        have sz4 := O4.sz
        have sz5 := O5.sz
        have o2 := opC_len op
        unfold Bd at hb hb5
        refine ⟨.both op t u, h5, m5, ?_, ⟨fun E Q => by simp [okE, O4.ok E Q, O5.ok E Q], ⟨so, O4.sg, O5.sg⟩, ⟨ho, O4.wf, O5.wf⟩, by have := O4.ht; have := O5.ht; simp [TE.ht]; omega, by simp only [TE.sz]; push_cast; omega, ⟨fun _ => by omega, fun _ => by push_cast at *; by_cases z : 0 < m4 <;> omega⟩⟩, C5, X12.trans (X3.trans (X4.trans X5))⟩
        by_cases q2 : k = 1
        · subst q2
          have q3 : n = 0 := by omega
          subst q3
          change callN TT.pr j' _ [_, _, .int 0] _ = _ at c4 c5
          simp! [F__law_test, c, c2, c3, alloc, f3, ax, c4, c5, teD]
        · simp! [F__law_test, c, c2, c3, alloc, f3, ax, c4, c5, teD, q0, q2]
  · rw [decide_eq_false p] at c2
    obtain ⟨v, h3, c3, v0, v1, C3, X3⟩ := draw_ok j' (by omega) B2 2 (by omega)
    exact ⟨.cst (.tup [.str [98,111,111,108], .bl (v == 1)]), h3, m - 4, by simp! [F__law_test, c, c2, c3, teD], ⟨fun _ _ => rfl, trivial, .bool _, Nat.zero_le _, by simp [TE.sz]; omega, ⟨fun _ => rfl, fun _ => by omega⟩⟩, C3, X12.trans X3⟩
theorem et_ok {S : Sc} (K : ScW S) : ∀ n, ExprOk S n ∧ TestOk S n
  | 0 => by
    have e := expr_step K 0 (fun i h => by cases h)
    exact ⟨e, test_step K 0 e⟩
  | n + 1 => by
    have e := expr_step K (n + 1) (fun i h => by cases h; exact et_ok K n)
    exact ⟨e, test_step K (n + 1) e⟩
noncomputable def nmK (c k : Int) : Nm := [113, 97 + ((c + 5 * k) % 26).toNat, 117]
theorem nmK_sg (c k : Int) : sgn (nmK c k) := by
  have : ((c + 5 * k) % 26).toNat < 26 := by omega
  unfold sgn nmK
  simp
  omega
theorem nmK_inj {c k k' : Int} (h : nmK c k = nmK c k') (h0 : 0 ≤ k) (h1 : k < 26) (h2 : 0 ≤ k') (h3 : k' < 26) : k = k' := by
  unfold nmK at h
  simp at h
  omega
theorem name_ok (j : Nat) (hj : 1 ≤ j) (c k : Int) (h : LH) : callN TT.pr j 6906700753626756837 [.int c, .int k] h = some (.str (nmK c k), h) := by
  obtain ⟨j', hk'⟩ : ∃ k', j = k' + 1 := ⟨j - 1, by omega⟩
  subst hk'
  rw [callN_succ fn__law_name rfl]
  have e : (c + 5 * k).fmod 26 = (c + 5 * k) % 26 := Int.fmod_eq_emod_of_nonneg _ (by decide)
  have l : ∀ i < 26, ([97,98,99,100,101,102,103,104,105,106,107,108,109,110,111,112,113,114,115,116,117,118,119,120,121,122])[i]? = some (97 + i) := by decide
  have a : atI [97,98,99,100,101,102,103,104,105,106,107,108,109,110,111,112,113,114,115,116,117,118,119,120,121,122] ((c + 5 * k) % 26) = some (97 + ((c + 5 * k) % 26).toNat) := by
    rw [atI_of (by omega) (by simp; omega)]
    exact l _ (by omega)
  simp! [F__law_name, e, a, chr1, nmK]
structure Pl where
  c : Int
  S : Sc
  T : List Nm
  H : List (Nm × Nat)
  pr : Bool
  lp : Bool
noncomputable def Pl.d (P : Pl) : D := .tup [.int P.c, P.S.d, namesD P.T, .tup (P.H.map procD), .bl P.pr, .bl P.lp]
theorem pd_0 (P : Pl) (h : LH) : getix TT.pr P.d (.int 0) h = some (.int P.c) := rfl
theorem pd_1 (P : Pl) (h : LH) : getix TT.pr P.d (.int 1) h = some P.S.d := rfl
theorem pd_2 (P : Pl) (h : LH) : getix TT.pr P.d (.int 2) h = some (namesD P.T) := rfl
theorem pd_3 (P : Pl) (h : LH) : getix TT.pr P.d (.int 3) h = some (.tup (P.H.map procD)) := rfl
theorem pd_4 (P : Pl) (h : LH) : getix TT.pr P.d (.int 4) h = some (.bl P.pr) := rfl
theorem pd_5 (P : Pl) (h : LH) : getix TT.pr P.d (.int 5) h = some (.bl P.lp) := rfl
noncomputable def ckN (d : Nat) : Int := if d = 2 then 7 else if d = 3 then 8 else 18
structure PlK (E : Ev) (P : Pl) (dp : Nat) : Prop where
  S : ScK E P.S
  T : ∀ x ∈ P.T, known E x ∧ E.counter x = none
  H : ∀ p ∈ P.H, ∃ i q, E.procedure p.1 = some i ∧ E.procs[i]? = some q ∧ q.2 = p.2
  pr : P.pr = true → E.own.isSome = true
  lp : P.lp = true → E.loops = true
  free : ∀ k, k = 9 ∨ k = 15 ∨ k = 16 ∨ k = 17 → E.counter (nmK P.c k) = none
  ck : ∀ d, 1 ≤ d → d ≤ dp → E.counter (nmK P.c (ckN d)) = none
structure PlW (P : Pl) : Prop where
  S : ScW P.S
  T : sgs P.T
  t : 4 ≤ P.T.length ∧ P.T.length ≤ 1000
  H : ∀ p ∈ P.H, sgn p.1 ∧ p.2 ≤ 2
  h : P.H.length ≤ 100
noncomputable def TR.wf : TR → Prop
  | .read => True
  | .expr e => e.wf
  | .call _ as _ => ∀ e ∈ as, e.wf
mutual
noncomputable def TS.wf : TS → Prop
  | .asg _ _ _ r => r.wf
  | .sfl _ a _ b => a.wf ∧ b.wf
  | .sit _ a i b => a.wf ∧ i.wf ∧ b.wf
  | .cal _ _ as _ => ∀ e ∈ as, e.wf
  | .val _ _ a => a.wf
  | .brk _ => True
  | .ite _ c y n => c.wf ∧ y.wf ∧ n.wf
  | .whl _ c b => c.wf ∧ b.wf
  | .for_ _ _ lo hi b _ => lo.wf ∧ hi.wf ∧ b.wf
  | .try_ _ b _ c => b.wf ∧ c.wf
noncomputable def TSs.wf : TSs → Prop
  | .nil => True
  | .cons s r => s.wf ∧ r.wf
end
/-- what is spent: A at most beyond the end, C at most behind the end -/
noncomputable def Bg (A C m m' : Int) : Prop := m' ≤ m ∧ (m ≤ 0 → m - C ≤ m') ∧ (0 < m → -A ≤ m')
theorem Bd.bg {A m m' : Int} (h : Bd A m m') (z : m' ≤ m) : Bg A 4 m m' := ⟨z, fun q => by have := h.1 q; omega, h.2⟩
theorem Bg.seq {A C A' C' m m' m'' : Int} (a : Bg A C m m') (b : Bg A' C' m' m'') (hc : 0 ≤ C') (hA : 0 ≤ A) : Bg (if A' ≤ A + C' then A + C' else A') (C + C') m m'' := by
  obtain ⟨a1, a2, a3⟩ := a
  obtain ⟨b1, b2, b3⟩ := b
  refine ⟨by omega, fun q => ?_, fun q => ?_⟩
  · have := a2 q; have := b2 (by omega); omega
  · have := a3 q
    by_cases z : 0 < m'
    · have := b3 z; split <;> omega
    · have := b2 (by omega); split <;> omega
structure AOk (P : Pl) (as : List TE) (n : Nat) (A C m m' : Int) : Prop where
  ln : as.length = n
  ok : ∀ E, ScK E P.S → as.all (okE E) = true
  sg : ∀ e ∈ as, e.sg
  wf : ∀ e ∈ as, e.wf
  ht : ∀ e ∈ as, e.ht ≤ 1
  sz : (asz as : Int) ≤ m - m'
  bd : Bg A C m m'
theorem rng_0 : rngOf [.int 0] = some [] := by rw [rngOf_1 _ (by decide)]; rfl
theorem rng_1 : rngOf [.int 1] = some [.int 0] := by rw [rngOf_1 _ (by decide)]; rfl
theorem rng_2 : rngOf [.int 2] = some [.int 0, .int 1] := by rw [rngOf_1 _ (by decide)]; rfl
theorem rng_4 : rngOf [.int 4] = some [.int 0, .int 1, .int 2, .int 3] := by rw [rngOf_1 _ (by decide)]; rfl
theorem rng_5 : rngOf [.int 5] = some [.int 0, .int 1, .int 2, .int 3, .int 4] := by rw [rngOf_1 _ (by decide)]; rfl
theorem EOk.le {S : Sc} {t : TE} {dp : Nat} {A m m' : Int} (O : EOk S t dp A m m') : m' ≤ m := by have := O.sz; omega
theorem args_ok {P : Pl} (K : PlW P) (n : Nat) (hn : n ≤ 2) (j : Nat) (hj : 4 ≤ j) {h : LH} {b d : Nat} {m : Int} (B : B3 h b d m) : ∃ as h' m', callN TT.pr j 237312430879756587661340162675 [.ref b, P.d, .int n] h = some (.tup (as.map teD), h') ∧ AOk P as n 12 8 m m' ∧ B3 h' b d m' ∧ Ext b h h' := by
  obtain ⟨j', hk'⟩ : ∃ k', j = k' + 1 := ⟨j - 1, by omega⟩
  subst hk'
  rw [callN_succ fn__law_arguments rfl]
  have cs : n = 0 ∨ n = 1 ∨ n = 2 := by omega
  rcases cs with rfl | rfl | rfl
  · exact ⟨[], h, m, by change fin (evSs TT.pr (callN TT.pr j') F__law_arguments.body (start F__law_arguments [.ref b, P.d, .int 0]) h) = _; simp! [-rngOf_1, -rngOf_2, F__law_arguments, rng_0, forL_n], ⟨rfl, fun _ _ => rfl, by simp, by simp, by simp, by simp [asz], ⟨by omega, fun _ => by omega, fun _ => by omega⟩⟩, B, .refl _ _⟩
  · obtain ⟨t, h1, m1, c1, O1, B1, X1⟩ := integer_ok K.S 1 j' (by omega) B
    change callN TT.pr j' _ [_, _, .int 1] _ = _ at c1
    refine ⟨[t], h1, m1, by change fin (evSs TT.pr (callN TT.pr j') F__law_arguments.body (start F__law_arguments [.ref b, P.d, .int 1]) h) = _; simp! [-rngOf_1, -rngOf_2, F__law_arguments, rng_1, forL_n, forL_c, pd_1, c1], ⟨rfl, fun E Q => by simp [O1.ok E Q], by simpa using O1.sg, by simpa using O1.wf, by simpa using O1.ht, by simpa [asz] using O1.sz, ?_⟩, B1, X1⟩
    have := O1.bd.bg O1.le
    unfold Bg at this ⊢
    push_cast at this
    exact ⟨by omega, fun q => by have := this.2.1 q; omega, fun q => by have := this.2.2 q; omega⟩
  · obtain ⟨t, h1, m1, c1, O1, B1, X1⟩ := integer_ok K.S 1 j' (by omega) B
    obtain ⟨u, h2, m2, c2, O2, B2, X2⟩ := integer_ok K.S 1 j' (by omega) B1
    change callN TT.pr j' _ [_, _, .int 1] _ = _ at c1 c2
    refine ⟨[t, u], h2, m2, by change fin (evSs TT.pr (callN TT.pr j') F__law_arguments.body (start F__law_arguments [.ref b, P.d, .int 2]) h) = _; simp! [-rngOf_1, -rngOf_2, F__law_arguments, rng_2, forL_n, forL_c, pd_1, c1, c2], ⟨rfl, fun E Q => by simp [O1.ok E Q, O2.ok E Q], by simp [O1.sg, O2.sg], by simp [O1.wf, O2.wf], by simpa using ⟨O1.ht, O2.ht⟩, by have := O1.sz; have := O2.sz; simp [asz]; omega, ?_⟩, B2, X1.trans X2⟩
    have := (O1.bd.bg O1.le).seq (O2.bd.bg O2.le) (by omega) (by omega)
    unfold Bg at this ⊢
    push_cast at this
    exact ⟨by omega, fun q => by have := this.2.1 q; omega, fun q => by have := this.2.2 q; omega⟩
structure ROk (P : Pl) (r : TR) (m m' : Int) : Prop where
  ok : ∀ E dp, PlK E P dp → okR E r = true
  sg : r.sg
  wf : r.wf
  ht : r.h ≤ 3
  sz : (r.sz : Int) ≤ m - m' + 4
  bd : Bg 16 8 m m'
theorem okC_of {E : Ev} {P : Pl} {dp : Nat} (Q : PlK E P dp) {p : Nm × Nat} (hp : p ∈ P.H) {as : List TE} {A C m m' : Int} (O : AOk P as p.2 A C m m') : okC E p.1 as = true := by
  obtain ⟨i, q, e1, e2, e3⟩ := Q.H p hp
  simp [okC, e1, e2, e3, O.ln, O.ok E Q.S]
theorem htL_le {as : List TE} {k : Nat} (h : ∀ e ∈ as, e.ht ≤ k) : htL as ≤ k := by
  unfold htL
  suffices ∀ (l : List Nat) (a : Nat), a ≤ k → (∀ x ∈ l, x ≤ k) → l.foldl max a ≤ k from this _ 0 (Nat.zero_le _) (fun x hx => by obtain ⟨e, he, rfl⟩ := List.mem_map.mp hx; exact h e he)
  intro l
  induction l with
  | nil => intro a ha _; exact ha
  | cons x l ih => intro a ha hl; exact ih (max a x) (by have := hl x List.mem_cons_self; omega) fun y hy => hl y (List.mem_cons_of_mem _ hy)
theorem pick_pr (j : Nat) (hj : 1 ≤ j) {h : LH} {b d : Nat} {m : Int} (B : B3 h b d m) (H : List (Nm × Nat)) (h0 : 0 < H.length) : ∃ v h' p, callN TT.pr j 6906700753606062327 [.ref b, .int H.length] h = some (.int v, h') ∧ atI (H.map procD) v = some (procD p) ∧ p ∈ H ∧ B3 h' b d m ∧ Ext b h h' := by
  obtain ⟨v, h', e, v0, v1, B', X⟩ := draw_ok j hj B H.length (by omega)
  obtain ⟨x, ax, mx⟩ := atI_in (xs := H.map procD) v0 (by simpa using v1)
  obtain ⟨y, hy, rfl⟩ := List.mem_map.mp mx
  exact ⟨v, h', y, e, ax, hy, B', X⟩
theorem right_ok {P : Pl} (K : PlW P) (j : Nat) (hj : 9 ≤ j) {h : LH} {b d : Nat} {m : Int} (B : B3 h b d m) : ∃ r h' m', callN TT.pr j 884057696465315296372 [.ref b, P.d] h = some (trD r, h') ∧ ROk P r m m' ∧ B3 h' b d m' ∧ Ext b h h' := by
  obtain ⟨j', hk'⟩ : ∃ k', j = k' + 1 := ⟨j - 1, by omega⟩
  subst hk'
  rw [callN_succ fn__law_right rfl]
  obtain ⟨k, h1, c, k0, k1, B1, X1⟩ := draw_ok j' (by omega) B 10 (by omega)
  by_cases q9 : k = 9
  · subst q9
    exact ⟨.read, h1, m, by simp! [F__law_right, c, trD], ⟨fun _ _ _ => rfl, trivial, trivial, Nat.zero_le _, by simp [TR.sz], ⟨by omega, fun _ => by omega, fun _ => by omega⟩⟩, B1, X1⟩
  by_cases q6 : 6 < k ∧ 0 < P.H.length
  · obtain ⟨q6, q7⟩ := q6
    obtain ⟨v, h2, p, c2, ax, hp, B2, X2⟩ := pick_pr j' (by omega) B1 P.H q7
    obtain ⟨as, h3, m3, c3, O3, C3, X3⟩ := args_ok K p.2 (K.H p hp).2 j' (by omega) B2
    obtain ⟨w, h4, c4, w0, w1, C4, X4⟩ := draw_ok j' (by omega) C3 2 (by omega)
    refine ⟨.call p.1 as (w == 1), h4, m3, ?_, ⟨fun E dp Q => okC_of Q hp O3, ⟨(K.H p hp).1, O3.sg⟩, O3.wf, by have := htL_le O3.ht; simp [TR.h]; omega, by have := O3.sz; simp [TR.sz, csz]; split <;> omega, ?_⟩, C4, X1.trans (X2.trans (X3.trans X4))⟩
    · have : P.H ≠ [] := by intro z; rw [z] at q7; simp at q7
      simp! [F__law_right, c, q9, q6, q7, pd_3, c2, ax, procD, c3, c4, trD]
    · have := O3.bd
      unfold Bg at this ⊢
      exact ⟨by omega, fun q => by have := this.2.1 q; omega, fun q => by have := this.2.2 q; omega⟩
  · by_cases q4 : 4 < k
    · obtain ⟨t, h2, m2, c2, O2, B2, X2⟩ := (et_ok K.S 2).1 j' (by omega) B1
      change callN TT.pr j' _ [_, _, .int 2] _ = _ at c2
      refine ⟨.expr t, h2, m2, ?_, ⟨fun E dp Q => O2.ok E Q.S, O2.sg, O2.wf, by have := O2.ht; simp [TR.h]; omega, by have := O2.sz; simp [TR.sz]; omega, ?_⟩, B2, X1.trans X2⟩
      · by_cases q5 : 6 < k
        · have z : ¬ 0 < P.H.length := fun z => q6 ⟨q5, z⟩
          have z2 : P.H = [] := List.length_eq_zero_iff.mp (by omega)
          simp! [F__law_right, c, q9, q5, z, z2, pd_3, q4, pd_1, c2, trD]
        · simp! [F__law_right, c, q9, q5, q4, pd_1, c2, trD]
      · have := O2.bd.bg O2.le
        unfold Bg at this ⊢
        push_cast at this
        exact ⟨by omega, fun q => by have := this.2.1 q; omega, fun q => by have := this.2.2 q; omega⟩
    · obtain ⟨t, h2, m2, c2, O2, B2, X2⟩ := integer_ok K.S 2 j' (by omega) B1
      change callN TT.pr j' _ [_, _, .int 2] _ = _ at c2
      refine ⟨.expr t, h2, m2, ?_, ⟨fun E dp Q => O2.ok E Q.S, O2.sg, O2.wf, by have := O2.ht; simp [TR.h]; omega, by have := O2.sz; simp [TR.sz]; omega, ?_⟩, B2, X1.trans X2⟩
      · simp! [F__law_right, c, q9, show ¬ 6 < k by omega, q4, pd_1, c2, trD]
      · have := O2.bd.bg O2.le
        unfold Bg at this ⊢
        push_cast at this
        exact ⟨by omega, fun q => by have := this.2.1 q; omega, fun q => by have := this.2.2 q; omega⟩
structure StOk (P : Pl) (s : TS) (m m' : Int) : Prop where
  ok : ∀ E dp, PlK E P dp → okS E s = true
  sg : s.sg
  wf : s.wf
  ht : s.ht ≤ 3
  sz : (s.sz : Int) ≤ m - m'
  bd : (m ≤ 10 → m' = m - 10) ∧ (10 < m → -16 ≤ m')
theorem simple_ok {P : Pl} (K : PlW P) (l : Int) (j : Nat) (hj : 10 ≤ j) {h : LH} {b d : Nat} {m : Int} (B : B3 h b d m) : ∃ s h' m', callN TT.pr j 113159385147594730387045 [.ref b, P.d, .int l] h = some (tsD s, h') ∧ StOk P s m m' ∧ B3 h' b d m' ∧ Ext b h h' := by
  obtain ⟨j', hk'⟩ : ∃ k', j = k' + 1 := ⟨j - 1, by omega⟩
  subst hk'
  rw [callN_succ fn__law_simple rfl]
  obtain ⟨k, h1, c, k0, k1, B1, X1⟩ := draw_ok j' (by omega) B 18 (by omega)
  obtain ⟨h2, c2, B2, X2⟩ := pay_ok j' (by omega) B1 10
  have X12 := X1.trans X2
  by_cases p : 0 < m - 10
  · rw [decide_eq_true p] at c2
    obtain ⟨v, h3, x, c3, ax, mx, B3, X3⟩ := pick_nm j' (by omega) B2 P.T (by have := K.t.1; omega)
    have X13 := X12.trans X3
    have e1 := (et_ok K.S 1).1
    have t2 : ∃ y ∈ P.T, atI (P.T.map D.str) 2 = some (.str y) := by
      have := K.t.1
      refine ⟨P.T[2], List.getElem_mem _, ?_⟩
      rw [atI_of (by decide) (by simp; omega), List.getElem?_map, show (2 : Int).toNat = 2 from rfl, List.getElem?_eq_getElem (by omega)]; rfl
    have t3 : ∃ y ∈ P.T, atI (P.T.map D.str) 3 = some (.str y) := by
      have := K.t.1
      refine ⟨P.T[3], List.getElem_mem _, ?_⟩
      rw [atI_of (by decide) (by simp; omega), List.getElem?_map, show (3 : Int).toNat = 3 from rfl, List.getElem?_eq_getElem (by omega)]; rfl
    have kT : ∀ y ∈ P.T, ∀ E dp, PlK E P dp → (E.counter y).isNone = true ∧ ((E.counter y).isSome || (E.variable y).isSome) = true := fun y hy E dp Q => ⟨by rw [(Q.T y hy).2]; rfl, (Q.T y hy).1⟩
    by_cases q3 : k < 3
    · obtain ⟨t, h4, m4, c4, O4, C4, X4⟩ := e1 j' (by omega) B3
      change callN TT.pr j' _ [_, _, .int 1] _ = _ at c4
      have bd := O4.bd
      unfold Bd at bd
      push_cast at bd
      exact ⟨.val .prn l t, h4, m4, by simp! [F__law_simple, c, c2, c3, ax, pd_2, pd_1, namesD, q3, c4, tsD, Vk.s], ⟨fun E dp Q => by simp [okS, O4.ok E Q.S], O4.sg, O4.wf, by have := O4.ht; simp [TS.ht]; omega, by have := O4.sz; simp [TS.sz]; omega, ⟨fun _ => by omega, fun _ => by omega⟩⟩, C4, X13.trans X4⟩
    by_cases q8 : k < 8
    · obtain ⟨w, h4, c4, w0, w1, C4, X4⟩ := draw_ok j' (by omega) B3 2 (by omega)
      obtain ⟨y, ay, my⟩ : ∃ y, atI (P.T.map D.str) w = some (.str y) ∧ y ∈ P.T := by
        obtain ⟨x, ax, mx⟩ := atI_in (xs := P.T.map D.str) w0 (by have := K.t.1; simp; omega)
        obtain ⟨y, hy, rfl⟩ := List.mem_map.mp mx
        exact ⟨y, ax, hy⟩
      obtain ⟨r, h5, m5, c5, O5, C5, X5⟩ := right_ok K j' (by omega) C4
      have bd := O5.bd
      unfold Bg at bd
      exact ⟨.asg false l y r, h5, m5, by simp! [F__law_simple, c, c2, c3, ax, pd_2, pd_1, namesD, q3, q8, c4, ay, c5, tsD, asS], ⟨fun E dp Q => by have := kT y my E dp Q; simp only [okS, O5.ok E dp Q, this.1, Bool.true_and, Bool.false_or, this.2], ⟨K.T y my, O5.sg⟩, O5.wf, by have := O5.ht; simp [TS.ht]; omega, by have := O5.sz; simp only [TS.sz]; omega, ⟨fun _ => by omega, fun _ => by omega⟩⟩, C5, X13.trans (X4.trans X5)⟩
    by_cases q9 : k = 8
    · subst q9
      obtain ⟨r, h5, m5, c5, O5, C5, X5⟩ := right_ok K j' (by omega) B3
      have bd := O5.bd
      unfold Bg at bd
      exact ⟨.asg false l x r, h5, m5, by simp! [F__law_simple, c, c2, c3, ax, pd_2, pd_1, namesD, c5, tsD, asS], ⟨fun E dp Q => by have := kT x mx E dp Q; simp only [okS, O5.ok E dp Q, this.1, Bool.true_and, Bool.false_or, this.2], ⟨K.T x mx, O5.sg⟩, O5.wf, by have := O5.ht; simp [TS.ht]; omega, by have := O5.sz; simp only [TS.sz]; omega, ⟨fun _ => by omega, fun _ => by omega⟩⟩, C5, X13.trans X5⟩
    by_cases q11 : k < 11
    · obtain ⟨y, my, ay⟩ := t2
      obtain ⟨t, h4, m4, c4, O4, C4, X4⟩ := integer_ok K.S 1 j' (by omega) B3
      obtain ⟨u, h5, m5, c5, O5, C5, X5⟩ := integer_ok K.S 1 j' (by omega) C4
      change callN TT.pr j' _ [_, _, .int 1] _ = _ at c4 c5
      have bd := (O4.bd.bg O4.le).seq (O5.bd.bg O5.le) (by omega) (by omega)
      unfold Bg at bd
      push_cast at bd
      refine ⟨.sit l (.nam y) t u, h5, m5, by simp! [F__law_simple, c, c2, c3, ax, pd_2, pd_1, namesD, q3, q8, q9, q11, ay, c4, c5, tsD, teD], ⟨fun E dp Q => by have := kT y my E dp Q; simp only [okS, okE, O4.ok E Q.S, O5.ok E Q.S, this.2, Bool.true_and], ⟨K.T y my, O4.sg, O5.sg⟩, ⟨trivial, O4.wf, O5.wf⟩, by have := O4.ht; have := O5.ht; simp [TS.ht, TE.ht]; omega, by have := O4.sz; have := O5.sz; simp [TS.sz, TE.sz]; omega, ⟨fun _ => by omega, fun _ => by have := bd.2.2 p; omega⟩⟩, C5, X13.trans (X4.trans X5)⟩
    by_cases q12 : k = 11
    · subst q12
      obtain ⟨y, my, ay⟩ := t3
      obtain ⟨w, h4, f, c4, af, mf, C4, X4⟩ := pick_nm j' (by omega) B3 P.S.F (by rw [K.S.f]; decide)
      rw [K.S.f] at c4
      change callN TT.pr j' _ [_, .int 2] _ = _ at c4
      obtain ⟨t, h5, m5, c5, O5, C5, X5⟩ := e1 j' (by omega) C4
      change callN TT.pr j' _ [_, _, .int 1] _ = _ at c5
      have bd := O5.bd
      unfold Bd at bd
      push_cast at bd
      exact ⟨.sfl l (.nam y) f t, h5, m5, by simp! [F__law_simple, c, c2, c3, ax, pd_2, pd_1, sd_1, namesD, ay, c4, af, c5, tsD, teD], ⟨fun E dp Q => by have := kT y my E dp Q; simp only [okS, okE, O5.ok E Q.S, this.2, Q.S.F f mf, Bool.true_and], ⟨K.T y my, K.S.F f mf, O5.sg⟩, ⟨trivial, O5.wf⟩, by have := O5.ht; simp [TS.ht, TE.ht]; omega, by have := O5.sz; simp [TS.sz, TE.sz]; omega, ⟨fun _ => by omega, fun _ => by omega⟩⟩, C5, X13.trans (X4.trans X5)⟩
    have var : ∀ hX, FK.K13.B3 hX b d (m - 10) → Ext b h hX → (∀ t h4, callN TT.pr j' 14484401298848318679020274 [.ref b, P.S.d, .int 1] hX = some (teD t, h4) → fin (evSs TT.pr (callN TT.pr j') F__law_simple.body (start F__law_simple [.ref b, P.d, .int l]) h) = some (tsD (.asg true l x (.expr t)), h4)) →
        ∃ s h' m', fin (evSs TT.pr (callN TT.pr j') F__law_simple.body (start F__law_simple [.ref b, P.d, .int l]) h) = some (tsD s, h') ∧ StOk P s m m' ∧ FK.K13.B3 h' b d m' ∧ Ext b h h' := by
      intro hX CX XX ev
      obtain ⟨t, h4, m4, c4, O4, C4, X4⟩ := integer_ok K.S 1 j' (by omega) CX
      change callN TT.pr j' _ [_, _, .int 1] _ = _ at c4
      have bd := O4.bd
      unfold Bd at bd
      push_cast at bd
      exact ⟨_, h4, m4, ev t h4 c4, ⟨fun E dp Q => by have := kT x mx E dp Q; simp only [okS, okR, O4.ok E Q.S, this.1, Bool.true_and, Bool.true_or], ⟨K.T x mx, O4.sg⟩, O4.wf, by have := O4.ht; simp [TS.ht, TR.h]; omega, by have := O4.sz; simp [TS.sz, TR.sz]; omega, ⟨fun _ => by omega, fun _ => by omega⟩⟩, C4, XX.trans X4⟩
    by_cases q13 : k = 12
    · subst q13
      cases qp : P.pr with
      | true =>
        obtain ⟨t, h4, m4, c4, O4, C4, X4⟩ := e1 j' (by omega) B3
        change callN TT.pr j' _ [_, _, .int 1] _ = _ at c4
        have bd := O4.bd
        unfold Bd at bd
        push_cast at bd
        exact ⟨.val .ret l t, h4, m4, by simp! [F__law_simple, c, c2, c3, ax, pd_2, pd_1, pd_4, namesD, qp, c4, tsD, Vk.s], ⟨fun E dp Q => by simp [okS, O4.ok E Q.S, Q.pr qp], O4.sg, O4.wf, by have := O4.ht; simp [TS.ht]; omega, by have := O4.sz; simp [TS.sz]; omega, ⟨fun _ => by omega, fun _ => by omega⟩⟩, C4, X13.trans X4⟩
      | false => exact var h3 B3 X13 fun t h4 e => by simp! [F__law_simple, c, c2, c3, ax, pd_2, pd_1, pd_4, namesD, qp, e, tsD, asS, trD]
    by_cases q14 : k = 13
    · subst q14
      cases qp : P.lp with
      | true => exact ⟨.brk l, h3, m - 10, by simp! [F__law_simple, c, c2, c3, ax, pd_2, pd_1, pd_5, namesD, qp, tsD], ⟨fun E dp Q => Q.lp qp, trivial, trivial, Nat.zero_le _, by simp [TS.sz]; omega, ⟨fun _ => rfl, fun _ => by omega⟩⟩, B3, X13⟩
      | false => exact var h3 B3 X13 fun t h4 e => by simp! [F__law_simple, c, c2, c3, ax, pd_2, pd_1, pd_5, namesD, qp, e, tsD, asS, trD]
    by_cases q15 : k = 14
    · subst q15
      obtain ⟨w, h4, c4, w0, w1, C4, X4⟩ := draw_ok j' (by omega) B3 3 (by omega)
      by_cases qw : w = 0
      · subst qw
        obtain ⟨t, h5, m5, c5, O5, C5, X5⟩ := e1 j' (by omega) C4
        change callN TT.pr j' _ [_, _, .int 1] _ = _ at c5
        have bd := O5.bd
        unfold Bd at bd
        push_cast at bd
        exact ⟨.val .thr l t, h5, m5, by simp! [F__law_simple, c, c2, c3, ax, pd_2, pd_1, namesD, c4, c5, tsD, Vk.s], ⟨fun E dp Q => by simp [okS, O5.ok E Q.S], O5.sg, O5.wf, by have := O5.ht; simp [TS.ht]; omega, by have := O5.sz; simp [TS.sz]; omega, ⟨fun _ => by omega, fun _ => by omega⟩⟩, C5, X13.trans (X4.trans X5)⟩
      · exact var h4 C4 (X13.trans X4) fun t h5 e => by simp! [F__law_simple, c, c2, c3, ax, pd_2, pd_1, namesD, c4, qw, e, tsD, asS, trD]
    have q16 : 14 < k := by omega
    by_cases qh : 0 < P.H.length
    · obtain ⟨w, h4, pr, c4, apr, mpr, C4, X4⟩ := pick_pr j' (by omega) B3 P.H qh
      obtain ⟨as, h5, m5, c5, O5, C5, X5⟩ := args_ok K pr.2 (K.H pr mpr).2 j' (by omega) C4
      obtain ⟨z, h6, c6, z0, z1, C6, X6⟩ := draw_ok j' (by omega) C5 3 (by omega)
      have bd := O5.bd
      unfold Bg at bd
      have hne : P.H ≠ [] := by intro z; rw [z] at qh; simp at qh
      exact ⟨.cal l pr.1 as (decide (0 < z)), h6, m5, by simp! [F__law_simple, c, c2, c3, ax, pd_2, pd_1, pd_3, namesD, q3, q8, q9, q11, q12, q13, q14, q15, q16, qh, hne, c4, apr, procD, c5, c6, tsD], ⟨fun E dp Q => okC_of Q mpr O5, ⟨(K.H pr mpr).1, O5.sg⟩, O5.wf, by have := htL_le O5.ht; simp [TS.ht]; omega, by have := O5.sz; simp [TS.sz, csz]; split <;> omega, ⟨fun _ => by omega, fun _ => by omega⟩⟩, C6, X13.trans (X4.trans (X5.trans X6))⟩
    · have z2 : P.H = [] := List.length_eq_zero_iff.mp (by omega)
      exact var h3 B3 X13 fun t h4 e => by simp! [F__law_simple, c, c2, c3, ax, pd_2, pd_1, pd_3, namesD, q3, q8, q9, q11, q12, q13, q14, q15, q16, z2, e, tsD, asS, trD]
  · rw [decide_eq_false p] at c2
    exact ⟨.val .prn l (.cst (.tup [.str [105,110,116], .int 0])), h2, m - 10, by simp! [F__law_simple, c, c2, tsD, Vk.s, teD], ⟨fun E dp Q => rfl, trivial, .int 0 (by decide), Nat.zero_le _, by simp [TS.sz, TE.sz]; omega, ⟨fun _ => rfl, fun _ => by omega⟩⟩, B2, X12⟩
structure TsOk (P : Pl) (rows : TSs) (dp n : Nat) (A C m m' : Int) : Prop where
  ln : (tssD rows).length ≤ n
  ok : ∀ E, PlK E P dp → (∀ x ∈ decB rows, (E.variable x).isSome = true) → okSs E rows = true
  sg : rows.sg
  wf : rows.wf
  ht : rows.ht ≤ 3 + 2 * dp
  sz : (rows.sz : Int) ≤ m - m'
  bd : Bg A C m m'
noncomputable def AD (dp : Nat) : Int := 63 + 30 * dp
/-- the place's names -/
structure PlN (P : Pl) : Prop where
  W : PlW P
  T : ∀ y ∈ P.T, ∃ k, 0 ≤ k ∧ k ≤ 6 ∧ y = nmK P.c k
  big : P.S.N.length ≤ 900 ∧ P.S.I.length ≤ 900
noncomputable def StmtOk (P : Pl) (dp : Nat) : Prop := ∀ (l : Int) (j : Nat) (hj : 3 * dp + 11 ≤ j) {h : LH} {b d : Nat} {m : Int} (B : B3 h b d m), ∃ r h' m', callN TT.pr j 237312430881054723829160048500 [.ref b, P.d, .int dp, .int l] h = some (.tup (tssD r), h') ∧ TsOk P r dp 2 (AD dp) 10 m m' ∧ B3 h' b d m' ∧ Ext b h h'
noncomputable def BlkOk (P : Pl) (dp : Nat) : Prop := ∀ (l : Int) (j : Nat) (hj : 3 * dp + 12 ≤ j) {h : LH} {b d : Nat} {m : Int} (B : B3 h b d m), ∃ r h' m', callN TT.pr j 884057696461026750955 [.ref b, P.d, .int dp, .int l] h = some (.tup (tssD r), h') ∧ TsOk P r dp 4 (AD dp + 10) 20 m m' ∧ B3 h' b d m' ∧ Ext b h h'
theorem decB_app : ∀ a b : TSs, decB (a.app b) = decB a ++ decB b
  | .nil, b => rfl
  | .cons s r, b => by simp [TSs.app, decB, decB_app r b]
theorem okSs_app (E : Ev) : ∀ a b : TSs, okSs E (a.app b) = (okSs E a && okSs E b)
  | .nil, b => by simp [TSs.app, okSs]
  | .cons s r, b => by simp [TSs.app, okSs, okSs_app E r b, Bool.and_assoc]
theorem sg_app : ∀ a b : TSs, a.sg → b.sg → (a.app b).sg
  | .nil, b, _, h => h
  | .cons s r, b, g, h => ⟨g.1, sg_app r b g.2 h⟩
theorem wf_app : ∀ a b : TSs, a.wf → b.wf → (a.app b).wf
  | .nil, b, _, h => h
  | .cons s r, b, g, h => ⟨g.1, wf_app r b g.2 h⟩
theorem ht_app : ∀ a b : TSs, (a.app b).ht = max a.ht b.ht
  | .nil, b => by simp [TSs.app, TSs.ht]
  | .cons s r, b => by simp [TSs.app, TSs.ht, ht_app r b, Nat.max_assoc]
theorem sz_app : ∀ a b : TSs, (a.app b).sz = a.sz + b.sz
  | .nil, b => by simp [TSs.app, TSs.sz]
  | .cons s r, b => by simp [TSs.app, TSs.sz, sz_app r b, Nat.add_assoc]
theorem TsOk.le {P : Pl} {r : TSs} {dp n : Nat} {A C m m' : Int} (O : TsOk P r dp n A C m m') : m' ≤ m := O.bd.1
theorem TsOk.app {P : Pl} {r s : TSs} {dp n n' : Nat} {A C A' C' m m' m'' : Int} (a : TsOk P r dp n A C m m') (b : TsOk P s dp n' A' C' m' m'') (hc : 0 ≤ C') (hA : 0 ≤ A) : TsOk P (r.app s) dp (n + n') (if A' ≤ A + C' then A + C' else A') (C + C') m m'' := by
  refine ⟨by rw [tssD_app, List.length_append]; have := a.ln; have := b.ln; omega, fun E Q hd => ?_, sg_app _ _ a.sg b.sg, wf_app _ _ a.wf b.wf, ?_, ?_, a.bd.seq b.bd hc hA⟩
  · rw [decB_app] at hd
    rw [okSs_app, a.ok E Q fun x hx => hd x (List.mem_append_left _ hx), b.ok E Q fun x hx => hd x (List.mem_append_right _ hx)]; rfl
  · rw [ht_app]; have := a.ht; have := b.ht; omega
  · rw [sz_app]; have := a.sz; have := b.sz; push_cast; omega
theorem TsOk.wk {P : Pl} {r : TSs} {dp n n' : Nat} {A C A' C' m m' : Int} (a : TsOk P r dp n A C m m') (h0 : n ≤ n') (h1 : A ≤ A') (h2 : C ≤ C') : TsOk P r dp n' A' C' m m' := ⟨by have := a.ln; omega, a.ok, a.sg, a.wf, a.ht, a.sz, ⟨a.bd.1, fun q => by have := a.bd.2.1 q; omega, fun q => by have := a.bd.2.2 q; omega⟩⟩
theorem blk_step {P : Pl} {dp : Nat} (S : StmtOk P dp) (hd : dp ≤ 3) : BlkOk P dp := by
  intro l j hj h b d m B
  obtain ⟨j', hk'⟩ : ∃ k', j = k' + 1 := ⟨j - 1, by omega⟩
  subst hk'
  rw [callN_succ fn__law_block rfl]
  obtain ⟨k, h1, c, k0, k1, B1, X1⟩ := draw_ok j' (by omega) B 2 (by omega)
  obtain ⟨r, h2, m2, c2, O2, B2, X2⟩ := S (l + 0) j' (by omega) B1
  by_cases q : k = 0
  · subst q
    refine ⟨r, h2, m2, ?_, O2.wk (by omega) (by omega) (by omega), B2, X1.trans X2⟩
    simp only [Int.add_zero] at c2
    have := O2.ln
    simp! [-rngOf_1, -rngOf_2, F__law_block, c, rng_1, forL_c, forL_n, c2, show (tssD r).length ≤ 16777216 by omega]
  · have q : k = 1 := by omega
    subst q
    obtain ⟨s, h3, m3, c3, O3, B3, X3⟩ := S (l + 1) j' (by omega) B2
    refine ⟨r.app s, h3, m3, ?_, (O2.app O3 (by omega) (by unfold AD; omega)).wk (by omega) (by unfold AD; split <;> omega) (by omega), B3, X1.trans (X2.trans X3)⟩
    simp only [Int.add_zero] at c2
    have := O2.ln
    have := O3.ln
    simp! [-rngOf_1, -rngOf_2, F__law_block, c, rng_2, forL_c, forL_n, c2, c3, tssD_app, show (tssD r).length ≤ 16777216 by omega, show (tssD r).length + (tssD s).length ≤ 16777216 by omega]
theorem idxL_cons_ne {x y : Nm} {l : List Nm} (h : x ≠ y) : idxL y (x :: l) = (idxL y l).map (· + 1) := by simp [idxL, h]
theorem counter_counting (E : Ev) (x y : Nm) : (E.counting x).counter y = if x = y then some 0 else (E.counter y).map (· + 1) := by
  unfold Ev.counter Ev.counting
  simp only [List.reverse_append, List.reverse_cons, List.reverse_nil, List.nil_append, List.singleton_append]
  by_cases h : x = y
  · simp [idxL, h]
  · rw [idxL_cons_ne h]; simp [h]
theorem known_counting {E : Ev} {x y : Nm} (h : known E y) : known (E.counting x) y := by
  unfold known at *
  rw [counter_counting]
  by_cases q : x = y
  · simp [q]
  · simp only [q, if_false]
    cases z : E.counter y with
    | some i => rfl
    | none => rw [z] at h; exact h
theorem known_new {E : Ev} {x : Nm} : known (E.counting x) x := by unfold known; rw [counter_counting]; simp
theorem ckN_in {d : Nat} (h0 : 1 ≤ d) (h1 : d ≤ 3) : 7 ≤ ckN d ∧ ckN d ≤ 18 ∧ (ckN d = 7 ∨ ckN d = 8 ∨ ckN d = 18) := by
  have : d = 1 ∨ d = 2 ∨ d = 3 := by omega
  rcases this with rfl | rfl | rfl <;> decide
theorem ckN_inj {d e : Nat} (h0 : 1 ≤ d) (h1 : d < e) (h2 : e ≤ 3) : ckN d ≠ ckN e := by
  have : (d = 1 ∧ e = 2) ∨ (d = 1 ∧ e = 3) ∨ (d = 2 ∧ e = 3) := by omega
  rcases this with ⟨rfl, rfl⟩ | ⟨rfl, rfl⟩ | ⟨rfl, rfl⟩ <;> decide
noncomputable def Pl.loop (P : Pl) : Pl := { P with lp := true }
noncomputable def Pl.cnt (P : Pl) (x : Nm) : Pl := { P with S := ⟨P.S.N ++ [x], P.S.F, P.S.R, P.S.I ++ [x]⟩, lp := true }
theorem PlK.dn {E : Ev} {P : Pl} {dp : Nat} (Q : PlK E P (dp + 1)) : PlK E P dp := ⟨Q.S, Q.T, Q.H, Q.pr, Q.lp, Q.free, fun d a b => Q.ck d a (by omega)⟩
theorem PlK.loop {E : Ev} {P : Pl} {dp : Nat} (Q : PlK E P dp) : PlK E.within P.loop dp := ⟨⟨Q.S.N, Q.S.I, Q.S.F, Q.S.R⟩, Q.T, Q.H, Q.pr, fun _ => rfl, Q.free, Q.ck⟩
theorem PlK.cnt {E : Ev} {P : Pl} {dp : Nat} (N : PlN P) (hd : dp + 1 ≤ 3) (Q : PlK E P (dp + 1)) : PlK (E.counting (nmK P.c (ckN (dp + 1)))) (P.cnt (nmK P.c (ckN (dp + 1)))) dp := by
  obtain ⟨i1, i2, i3⟩ := ckN_in (d := dp + 1) (by omega) hd
  have ne : ∀ k, 0 ≤ k → k < 26 → k ≠ ckN (dp + 1) → ∀ z, E.counter (nmK P.c k) = z → z = none → (E.counting (nmK P.c (ckN (dp + 1)))).counter (nmK P.c k) = none := by
    intro k a b c z e1 e2
    rw [counter_counting, if_neg fun e => c (nmK_inj e (by omega) (by omega) a b).symm, e1, e2]; rfl
  refine ⟨⟨?_, ?_, Q.S.F, Q.S.R⟩, ?_, Q.H, Q.pr, fun _ => rfl, fun k hk => ?_, fun d a b => ?_⟩
  · intro x hx
    rcases List.mem_append.mp hx with hx | hx
    · exact known_counting (Q.S.N x hx)
    · cases List.mem_singleton.mp hx; exact known_new
  · intro x hx
    rcases List.mem_append.mp hx with hx | hx
    · exact known_counting (Q.S.I x hx)
    · cases List.mem_singleton.mp hx; exact known_new
  · intro y hy
    obtain ⟨k, k0, k1, rfl⟩ := N.T y hy
    exact ⟨known_counting (Q.T _ hy).1, ne k k0 (by omega) (by omega) _ (Q.T _ hy).2 rfl⟩
  · exact ne k (by omega) (by omega) (by omega) _ (Q.free k hk) rfl
  · obtain ⟨j1, j2, j3⟩ := ckN_in (d := d) a (by omega)
    exact ne (ckN d) (by omega) (by omega) (ckN_inj a (by omega) hd) _ (Q.ck d a (by omega)) rfl
theorem PlN.loop {P : Pl} (N : PlN P) : PlN P.loop := ⟨⟨N.W.S, N.W.T, N.W.t, N.W.H, N.W.h⟩, N.T, N.big⟩
structure PlF (P : Pl) (dp : Nat) : Prop where
  N : PlN P
  roomN : P.S.N.length + dp ≤ 100
  roomI : P.S.I.length + dp ≤ 100
theorem PlF.dn {P : Pl} {dp : Nat} (F : PlF P (dp + 1)) : PlF P dp := ⟨F.N, by have := F.roomN; omega, by have := F.roomI; omega⟩
theorem PlF.loop {P : Pl} {dp : Nat} (F : PlF P dp) : PlF P.loop dp := ⟨F.N.loop, F.roomN, F.roomI⟩
theorem PlF.cnt {P : Pl} {dp : Nat} (F : PlF P (dp + 1)) (k : Int) : PlF (P.cnt (nmK P.c k)) dp := by
  have r1 := F.roomN
  have r2 := F.roomI
  have ap : ∀ l : List Nm, sgs l → sgs (l ++ [nmK P.c k]) := fun l hl s hs => by
    rcases List.mem_append.mp hs with hs | hs
    · exact hl s hs
    · cases List.mem_singleton.mp hs; exact nmK_sg _ _
  exact ⟨⟨⟨⟨ap _ F.N.W.S.N, ap _ F.N.W.S.I, F.N.W.S.F, F.N.W.S.R, by simp [Pl.cnt]; omega, by simp [Pl.cnt]; omega, F.N.W.S.f⟩, F.N.W.T, F.N.W.t, F.N.W.H, F.N.W.h⟩, F.N.T, by simp [Pl.cnt]; omega⟩, by simp [Pl.cnt]; omega, by simp [Pl.cnt]; omega⟩
theorem tst1 {P : Pl} (K : PlN P) (j : Nat) (hj : 7 ≤ j) {h : LH} {b d : Nat} {m : Int} (B : B3 h b d m) : ∃ t h' m', callN TT.pr j 6906700753639406068 [.ref b, P.S.d, .int 1] h = some (teD t, h') ∧ EOk P.S t 2 12 m m' ∧ B3 h' b d m' ∧ Ext b h h' := by
  obtain ⟨t, h', m', e, O, B', X⟩ := (et_ok K.W.S 1).2 j (by omega) B
  exact ⟨t, h', m', e, O, B', X⟩
theorem for_gen {P : Pl} {dp : Nat} (F : PlF P (dp + 1)) (hd : dp + 1 ≤ 3) (ih : BlkOk (P.cnt (nmK P.c (ckN (dp + 1)))) dp) (l : Int) (j : Nat) (hj : 3 * dp + 13 ≤ j) {h : LH} {b d : Nat} {m : Int} (B : B3 h b d m) :
    ∃ x lo hi r ah h' m', callN TT.pr j 53958599637579762 [.ref b, P.d, .int (dp + 1), .int l] h = some (tsD (.for_ l x (.cst (.tup [.str [105,110,116], .int lo])) (.cst (.tup [.str [105,110,116], .int hi])) r ah), h') ∧ x = nmK P.c (ckN (dp + 1)) ∧ 0 ≤ lo ∧ lo ≤ 2 ∧ -1 ≤ hi ∧ hi ≤ 4 ∧ TsOk (P.cnt x) r dp 4 (AD dp + 10) 20 m m' ∧ B3 h' b d m' ∧ Ext b h h' := by
  obtain ⟨j', hk'⟩ : ∃ k', j = k' + 1 := ⟨j - 1, by omega⟩
  subst hk'
  rw [callN_succ fn__law_for rfl]
  have nm := name_ok j' (by omega) P.c (ckN (dp + 1)) (h ++ [.lst [.int 18, .int 18, .int 7, .int 8]])
  have ck : atI [D.int 18, .int 18, .int 7, .int 8] ((dp : Int) + 1) = some (.int (ckN (dp + 1))) := by
    have : dp = 0 ∨ dp = 1 ∨ dp = 2 := by omega
    rcases this with rfl | rfl | rfl <;> rfl
  obtain ⟨v, h1, c1, v0, v1, B1, X1⟩ := draw_ok j' (by omega) (B.app [.lst [.int 18, .int 18, .int 7, .int 8]]) 3 (by omega)
  obtain ⟨w, h2, c2, w0, w1, B2, X2⟩ := draw_ok j' (by omega) B1 4 (by omega)
  obtain ⟨r, h3, m3, c3, O3, B3, X3⟩ := ih (l + 1) j' (by omega) B2
  obtain ⟨z, h4, c4, z0, z1, B4, X4⟩ := draw_ok j' (by omega) B3 4 (by omega)
  refine ⟨_, v, v + w - 1, r, decide (0 < z), h4, m3, ?_, rfl, v0, by omega, by omega, by omega, O3, B4, (Ext.app b h _).trans (X1.trans (X2.trans (X3.trans X4)))⟩
  have e3 : (dp : Int) + 1 - 1 = dp := by omega
  have lN := F.N.big.1
  have lI := F.N.big.2
  have c3' : callN TT.pr j' 884057696461026750955 [.ref b, .tup [.int P.c, .tup [.tup (P.S.N.map D.str ++ [.str (nmK P.c (ckN (dp + 1)))]), namesD P.S.F, .str P.S.R, .tup (P.S.I.map D.str ++ [.str (nmK P.c (ckN (dp + 1)))])], namesD P.T, .tup (P.H.map procD), .bl P.pr, .bl true], .int dp, .int (l + 1)] h2 = some (.tup (tssD r), h3) := by
    have := c3
    simp only [Pl.d, Sc.d, Pl.cnt, namesD, List.map_append, List.map_cons, List.map_nil] at this ⊢
    exact this
  have nd : ∀ ss : List Nm, namesD ss = .tup (ss.map D.str) := fun _ => rfl
  have pd2 : ∀ H, getix TT.pr P.d (.int 2) H = some (namesD P.T) := pd_2 P
  generalize hTn : namesD P.T = Tn at *
  generalize hFn : namesD P.S.F = Fn at *
  have sd1 : ∀ H, getix TT.pr P.S.d (.int 1) H = some Fn := fun H => by rw [sd_1, hFn]
  have sd0 : ∀ H, getix TT.pr P.S.d (.int 0) H = some (.tup (P.S.N.map D.str)) := fun H => rfl
  have sd3 : ∀ H, getix TT.pr P.S.d (.int 3) H = some (.tup (P.S.I.map D.str)) := fun H => rfl
  simp! [F__law_for, alloc, at_end, ck, pd_0, nm, c1, c2, pd_1, sd0, sd1, sd_2, sd3, pd2, pd_3, pd_4, e3, c3', c4, tsD, teD, show P.S.N.length ≤ 16777215 by omega, show P.S.I.length ≤ 16777215 by omega]
noncomputable def whR (x : Nm) (l n : Int) (r : TSs) : TSs := .cons (.asg true l x (.expr (.cst (.tup [.str [105,110,116], .int 0])))) (.cons (.whl l (.both [60] (.nam x) (.cst (.tup [.str [105,110,116], .int n]))) (.cons (.asg false l x (.expr (.both [43] (.nam x) (.cst (.tup [.str [105,110,116], .int 1]))))) r)) .nil)
theorem whl_gen {P : Pl} {dp : Nat} (ih : BlkOk P.loop dp) (l : Int) (j : Nat) (hj : 3 * dp + 13 ≤ j) {h : LH} {b d : Nat} {m : Int} (B : B3 h b d m) :
    ∃ r n h' m', callN TT.pr j 884057696466655409765 [.ref b, P.d, .int (dp + 1), .int l] h = some (.tup (tssD (whR (nmK P.c (14 + (dp + 1))) l n r)), h') ∧ 0 ≤ n ∧ n < 4 ∧ TsOk P.loop r dp 4 (AD dp + 10) 20 m m' ∧ B3 h' b d m' ∧ Ext b h h' := by
  obtain ⟨j', hk'⟩ : ∃ k', j = k' + 1 := ⟨j - 1, by omega⟩
  subst hk'
  rw [callN_succ fn__law_while rfl]
  have nm := name_ok j' (by omega) P.c (14 + (dp + 1)) h
  obtain ⟨r, h3, m3, c3, O3, B3, X3⟩ := ih (l + 1) j' (by omega) B
  obtain ⟨z, h4, c4, z0, z1, B4, X4⟩ := draw_ok j' (by omega) B3 4 (by omega)
  refine ⟨r, z, h4, m3, ?_, z0, z1, O3, B4, X3.trans X4⟩
  have e3 : (dp : Int) + 1 - 1 = dp := by omega
  have lr := O3.ln
  have c3' : callN TT.pr j' 884057696461026750955 [.ref b, .tup [.int P.c, P.S.d, namesD P.T, .tup (P.H.map procD), .bl P.pr, .bl true], .int dp, .int (l + 1)] h = some (.tup (tssD r), h3) := c3
  have pd2 : ∀ H, getix TT.pr P.d (.int 2) H = some (namesD P.T) := pd_2 P
  generalize hTn : namesD P.T = Tn at *
  simp! [F__law_while, pd_0, nm, pd_1, pd2, pd_3, pd_4, e3, c3', c4, tsD, teD, tssD, asS, trD, whR, show (tssD r).length ≤ 16777215 by omega, show 1 + (tssD r).length ≤ 16777216 by omega]
theorem stmt_step {P : Pl} (dp : Nat) (hd : dp ≤ 3) (F : PlF P dp) (ih : ∀ i, dp = i + 1 → ∀ Q : Pl, PlF Q i → BlkOk Q i) : StmtOk P dp := by
  intro l j hj h b d m B
  obtain ⟨j', hk'⟩ : ∃ k', j = k' + 1 := ⟨j - 1, by omega⟩
  subst hk'
  rw [callN_succ fn__law_statement rfl]
  obtain ⟨k, h1, c, k0, k1, B1, X1⟩ := draw_ok j' (by omega) B 12 (by omega)
  obtain ⟨ds, t0, eb, _⟩ := id B1
  have simp_ : (dp = 0 ∨ k < 5 ∨ m ≤ 0) → ∃ r h' m', fin (evSs TT.pr (callN TT.pr j') F__law_statement.body (start F__law_statement [.ref b, P.d, .int dp, .int l]) h) = some (.tup (tssD r), h') ∧ TsOk P r dp 2 (AD dp) 10 m m' ∧ B3 h' b d m' ∧ Ext b h h' := by
    intro hq
    obtain ⟨s, h2, m2, c2, O2, B2, X2⟩ := simple_ok F.N.W l j' (by omega) B1
    refine ⟨.cons s .nil, h2, m2, ?_, ⟨by simp [tssD], fun E Q _ => by simp [okSs, O2.ok E dp Q], ⟨O2.sg, trivial⟩, ⟨O2.wf, trivial⟩, by have := O2.ht; simp [TSs.ht]; omega, by have := O2.sz; simpa [TSs.sz] using this, ?_⟩, B2, X1.trans X2⟩
    · by_cases q1 : dp = 0
      · subst q1
        simp! [F__law_statement, c, c2, tssD]
      · have q2 : ¬ (dp : Int) ≤ 0 := by omega
        by_cases q3 : k < 5
        · simp! [F__law_statement, c, c2, q2, q3, tssD, q1]
        · have q4 : m ≤ 0 := by omega
          simp! [F__law_statement, c, c2, q2, q3, q4, eb, tssD, q1]
    · have := O2.bd
      have sz := O2.sz
      unfold AD
      exact ⟨by omega, fun q => by omega, fun q => by by_cases z : m ≤ 10 <;> omega⟩
  by_cases q1 : dp = 0
  · exact simp_ (.inl q1)
  by_cases q2 : k < 5
  · exact simp_ (.inr (.inl q2))
  by_cases q3 : m ≤ 0
  · exact simp_ (.inr (.inr q3))
  clear simp_
  obtain ⟨i, rfl⟩ : ∃ i, dp = i + 1 := ⟨dp - 1, by omega⟩
  have F' := F.dn
  have ib := ih i rfl P F'
  have q4 : ¬ (i : Int) + 1 ≤ 0 := by omega
  have ie : (i : Int) + 1 - 1 = i := by omega
  obtain ⟨h2, c2, B2, X2⟩ := pay_ok j' (by omega) B1 20
  have X12 := X1.trans X2
  by_cases k5 : k = 5
  · subst k5
    obtain ⟨t, h3, m3, c3, O3, B3, X3⟩ := tst1 F.N j' (by omega) B2
    obtain ⟨y, h4, m4, c4, O4, B4, X4⟩ := ib (l + 1) j' (by omega) B3
    obtain ⟨v, h5, c5, v0, v1, B5, X5⟩ := draw_ok j' (by omega) B4 2 (by omega)
    have l4 := O4.ln
    have b3 := O3.bd.bg O3.le
    have s3 := O3.sz
    have s4 := O4.sz
    by_cases v1' : v = 1
    · subst v1'
      obtain ⟨n, h6, m6, c6, O6, B6, X6⟩ := ib (l + 2) j' (by omega) B5
      have bb := (b3.seq O4.bd (by omega) (by omega)).seq O6.bd (by omega) (by unfold AD; split <;> omega)
      have s6 := O6.sz
      refine ⟨.cons (.ite l t y n) .nil, h6, m6, ?_, ⟨by simp [tssD], fun E Q hv => ?_, ⟨⟨O3.sg, O4.sg, O6.sg⟩, trivial⟩, ⟨⟨O3.wf, O4.wf, O6.wf⟩, trivial⟩, by have := O3.ht; have := O4.ht; have := O6.ht; simp [TSs.ht, TS.ht]; omega, by simp only [TSs.sz, TS.sz]; push_cast; omega, ?_⟩, B6, X12.trans (X3.trans (X4.trans (X5.trans X6)))⟩
      · simp! [F__law_statement, c, q4, q2, q3, eb, c2, pd_1, c3, ie, c4, c5, c6, tssD, tsD]
      · have hy := O4.ok E Q.dn fun x hx => hv x (by simp [decB, decS, hx])
        have hn := O6.ok E Q.dn fun x hx => hv x (by simp [decB, decS, hx])
        simp [okSs, okS, O3.ok E Q.S, hy, hn]
      · unfold Bg AD at *
        push_cast at *
        refine ⟨by omega, fun q => by omega, fun q => ?_⟩
        by_cases z : 0 < m - 20
        · have := bb.2.2 z; split at this <;> (try split at this) <;> omega
        · have := bb.2.1 (by omega); omega
    · have v0' : v = 0 := by omega
      subst v0'
      have bb := b3.seq O4.bd (by omega) (by omega)
      refine ⟨.cons (.ite l t y .nil) .nil, h5, m4, ?_, ⟨by simp [tssD], fun E Q hv => ?_, ⟨⟨O3.sg, O4.sg, trivial⟩, trivial⟩, ⟨⟨O3.wf, O4.wf, trivial⟩, trivial⟩, by have := O3.ht; have := O4.ht; simp [TSs.ht, TS.ht]; omega, by simp only [TSs.sz, TS.sz]; push_cast; omega, ?_⟩, B5, X12.trans (X3.trans (X4.trans X5))⟩
      · simp! [F__law_statement, c, q4, q2, q3, eb, c2, pd_1, c3, ie, c4, c5, tssD, tsD]
      · have hy := O4.ok E Q.dn fun x hx => hv x (by simp [decB, decS, hx])
        simp [okSs, okS, O3.ok E Q.S, hy]
      · unfold Bg AD at *
        push_cast at *
        refine ⟨by omega, fun q => by omega, fun q => ?_⟩
        by_cases z : 0 < m - 20
        · have := bb.2.2 z; split at this <;> omega
        · have := bb.2.1 (by omega); omega
  by_cases k6 : k = 6
  · subst k6
    obtain ⟨r, n, h3, m3, c3, n0, n1, O3, B3, X3⟩ := whl_gen (ih i rfl P.loop F'.loop) l j' (by omega) B2
    have l3 := O3.ln
    have s3 := O3.sz
    have bb := O3.bd
    refine ⟨whR (nmK P.c (14 + ((i : Int) + 1))) l n r, h3, m3, by simp! [F__law_statement, c, q4, q2, q3, eb, c2, c3], ⟨by simp [whR, tssD], fun E Q hv => ?_, ⟨⟨nmK_sg _ _, trivial⟩, ⟨⟨rfl, nmK_sg _ _, trivial⟩, ⟨nmK_sg _ _, ⟨rfl, nmK_sg _ _, trivial⟩⟩, O3.sg⟩, trivial⟩, ⟨.int 0 (by decide), ⟨⟨by decide, trivial, .int n (Nat.lt_of_lt_of_le (show n.natAbs < 4 by omega) (by decide))⟩, ⟨by decide, trivial, .int 1 (by decide)⟩, O3.wf⟩, trivial⟩, ?_, ?_, ?_⟩, B3, X12.trans X3⟩
    · have hx : (E.variable (nmK P.c (14 + ((i : Int) + 1)))).isSome = true := hv _ (by simp [whR, decB, decS])
      have hc : E.counter (nmK P.c (14 + ((i : Int) + 1))) = none := Q.free _ (by omega)
      have hr := O3.ok E.within Q.dn.loop fun x hx' => hv x (by simp [whR, decB, decS, hx'])
      have hx2 : (E.within.variable (nmK P.c (14 + ((i : Int) + 1)))).isSome = true := hx
      have hc2 : E.within.counter (nmK P.c (14 + ((i : Int) + 1))) = none := hc
      simp [whR, okSs, okS, okR, okE, hx, hc, hx2, hc2, hr]
    · have := O3.ht
      simp [whR, TSs.ht, TS.ht, TR.h, TE.ht]; omega
    · simp [whR, TSs.sz, TS.sz, TR.sz, TE.sz, opC]; omega
    · unfold Bg AD at *
      push_cast at *
      refine ⟨by omega, fun q => by omega, fun q => ?_⟩
      by_cases z : 0 < m - 20
      · have := bb.2.2 z; omega
      · have := bb.2.1 (by omega); omega
  by_cases k7 : k = 7
  · subst k7
    obtain ⟨y, h3, m3, c3, O3, B3, X3⟩ := ib (l + 1) j' (by omega) B2
    obtain ⟨n, h4, m4, c4, O4, B4, X4⟩ := ib (l + 2) j' (by omega) B3
    have nm := name_ok j' (by omega) P.c 9 h4
    have nm3 := name_ok j' (by omega) P.c 9 h3
    have l3 := O3.ln
    have l4 := O4.ln
    have s3 := O3.sz
    have s4 := O4.sz
    have bb := O3.bd.seq O4.bd (by omega) (by unfold AD; omega)
    refine ⟨.cons (.try_ l y (nmK P.c 9) n) .nil, h4, m4, by simp! [F__law_statement, c, q4, q2, q3, eb, c2, ie, c3, c4, pd_0, nm, tssD, tsD], ⟨by simp [tssD], fun E Q hv => ?_, ⟨⟨O3.sg, nmK_sg _ _, O4.sg⟩, trivial⟩, ⟨⟨O3.wf, O4.wf⟩, trivial⟩, by have := O3.ht; have := O4.ht; simp [TSs.ht, TS.ht]; omega, by simp only [TSs.sz, TS.sz]; push_cast; omega, ?_⟩, B4, X12.trans (X3.trans X4)⟩
    · have hy := O3.ok E Q.dn fun x hx => hv x (by simp [decB, decS, hx])
      have hn := O4.ok E Q.dn fun x hx => hv x (by simp [decB, decS, hx])
      have hc : E.counter (nmK P.c 9) = none := Q.free 9 (by omega)
      simp [okSs, okS, hy, hn, hc]
    · unfold Bg AD at *
      push_cast at *
      refine ⟨by omega, fun q => by omega, fun q => ?_⟩
      by_cases z : 0 < m - 20
      · have := bb.2.2 z; split at this <;> omega
      · have := bb.2.1 (by omega); omega
  · obtain ⟨x, lo, hi, r, ah, h3, m3, c3, hx, lo0, lo1, hi0, hi1, O3, B3, X3⟩ := for_gen F hd (ih i rfl _ (F.cnt _)) l j' (by omega) B2
    have l3 := O3.ln
    have s3 := O3.sz
    have bb := O3.bd
    refine ⟨.cons (.for_ l x (.cst (.tup [.str [105,110,116], .int lo])) (.cst (.tup [.str [105,110,116], .int hi])) r ah) .nil, h3, m3, by simp! [F__law_statement, c, q4, q2, q3, eb, c2, k5, k6, k7, c3, tssD], ⟨by simp [tssD], fun E Q hv => ?_, ⟨⟨by rw [hx]; exact nmK_sg _ _, trivial, trivial, O3.sg⟩, trivial⟩, ⟨⟨.int lo (Nat.lt_of_lt_of_le (show lo.natAbs < 4 by omega) (by decide)), .int hi (Nat.lt_of_lt_of_le (show hi.natAbs < 5 by omega) (by decide)), O3.wf⟩, trivial⟩, by have := O3.ht; simp [TSs.ht, TS.ht, TE.ht]; omega, by simp [TSs.sz, TS.sz, TE.sz]; split <;> omega, ?_⟩, B3, X12.trans X3⟩
    · subst hx
      have hr := O3.ok _ (Q.cnt F.N hd) fun x hx' => hv x (by simp [decB, decS, hx'])
      have hc := Q.ck (i + 1) (by omega) (Nat.le_refl _)
      simp [okSs, okS, okE, hr, hc]
    · unfold Bg AD at *
      push_cast at *
      refine ⟨by omega, fun q => by omega, fun q => ?_⟩
      by_cases z : 0 < m - 20
      · have := bb.2.2 z; omega
      · have := bb.2.1 (by omega); omega
theorem gen_ok : ∀ (dp : Nat), dp ≤ 3 → ∀ P : Pl, PlF P dp → StmtOk P dp ∧ BlkOk P dp
  | 0, hd, P, F => by
    have s := stmt_step 0 hd F (fun i h => by cases h)
    exact ⟨s, blk_step s hd⟩
  | dp + 1, hd, P, F => by
    have s := stmt_step (dp + 1) hd F (fun i h Q G => by cases h; exact (gen_ok dp (by omega) Q G).2)
    exact ⟨s, blk_step s hd⟩
theorem le_of {h h' : LH} (l : h.length ≤ h'.length) (e : ∀ a, a < h.length → h'[a]? = h[a]?) : Le h h' := by
  refine ⟨h'.drop h.length, ?_⟩
  apply List.ext_getElem?
  intro i
  by_cases q : i < h.length
  · rw [List.getElem?_append_left q, e i q]
  · rw [List.getElem?_append_right (by omega), List.getElem?_drop]
    congr 1; omega
theorem foldN_mem : ∀ (xs ss : List Nm) (x : Nm), x ∈ ss ∨ x ∈ xs → x ∈ xs.foldl addN ss
  | [], ss, x, h => by simpa using h
  | y :: xs, ss, x, h => by
    refine foldN_mem xs (addN ss y) x ?_
    unfold addN
    rcases h with h | h
    · left; split
      · exact h
      · exact List.mem_append_left _ h
    · rcases List.mem_cons.mp h with rfl | h
      · left; split
        · assumption
        · simp
      · exact .inr h
theorem varsOf_mem {b : TSs} {ps : List Nm} {x : Nm} (h : x ∈ ps ∨ x ∈ decB b) : x ∈ varsOf b ps := foldN_mem _ _ _ (.inr (List.mem_append.mpr h))
theorem var_top {E : Ev} {x : Nm} (h : x ∈ E.top) : (E.variable x).isSome = true := by
  unfold Ev.variable
  obtain ⟨i, e⟩ := idxL_mem h
  split
  · rfl
  · rw [e]; rfl
theorem var_own {E : Ev} {x : Nm} {o : List Nm} (ho : E.own = some o) (h : x ∈ o) : (E.variable x).isSome = true := by
  unfold Ev.variable
  obtain ⟨i, e⟩ := idxL_mem h
  rw [ho, Option.bind_some, e]; rfl
noncomputable def intE (n : Int) : TE := .cst (.tup [.str [105,110,116], .int n])
noncomputable def initR (c : Int) : TSs := .cons (.asg true 1 (nmK c 0) (.expr (intE 1))) (.cons (.asg true 2 (nmK c 1) (.expr (intE 0))) (.cons (.asg true 3 (nmK c 2) (.expr (.un .array (intE 3)))) (.cons (.asg true 4 (nmK c 3) (.expr (.new (nmK c 12)))) (.cons (.asg true 5 (nmK c 4) (.expr (.cst (.tup [.str [116,101,120,116], .str [116]])))) .nil))))
noncomputable def mkT (c : Int) (r0 r1 rows : TSs) : TP := ⟨[(89, nmK c 12, [nmK c 13, nmK c 14])], [(90, nmK c 10, [nmK c 5], r0), (91, nmK c 11, [nmK c 5, nmK c 6], r1)], (initR c).app rows⟩
noncomputable def topN (c : Int) : List Nm := [nmK c 0, nmK c 1, nmK c 2, nmK c 3, nmK c 4]
noncomputable def plP (c : Int) (own : List Nm) (H : List (Nm × Nat)) : Pl := ⟨c, ⟨topN c ++ own, [nmK c 13, nmK c 14], nmK c 12, [nmK c 0, nmK c 1] ++ own⟩, topN c ++ own, H, true, false⟩
noncomputable def plM (c : Int) : Pl := ⟨c, ⟨topN c, [nmK c 13, nmK c 14], nmK c 12, [nmK c 0, nmK c 1]⟩, topN c, [(nmK c 10, 1), (nmK c 11, 2)], false, false⟩
theorem sgs_nm (c : Int) (ks : List Int) : sgs (ks.map (nmK c)) := fun s hs => by obtain ⟨k, _, rfl⟩ := List.mem_map.mp hs; exact nmK_sg _ _
theorem topN_eq (c : Int) : topN c = [0, 1, 2, 3, 4].map (nmK c) := rfl
theorem plP_F (c : Int) (n : Nat) (hn : n ≤ 2) (H : List (Nm × Nat)) (hH : H = [] ∨ H = [(nmK c 10, 1)]) : PlF (plP c (([5, 6].take n).map (nmK c)) H) 3 := by
  have hs : sgs (([5, 6].take n).map (nmK c)) := sgs_nm c _
  have ht : sgs (topN c) := by rw [topN_eq]; exact sgs_nm c _
  have ap : ∀ a b : List Nm, sgs a → sgs b → sgs (a ++ b) := fun a b ha hb s hs => (List.mem_append.mp hs).elim (ha s) (hb s)
  have ll : (([5, 6].take n).map (nmK c)).length ≤ 2 := by simp; omega
  have lt : (topN c).length = 5 := rfl
  refine ⟨⟨⟨⟨ap _ _ ht hs, ap _ _ (sgs_nm c [0, 1]) hs, sgs_nm c [13, 14], nmK_sg _ _, ?_, ?_, rfl⟩, ap _ _ ht hs, ?_, ?_, ?_⟩, ?_, ?_⟩, ?_, ?_⟩
  · simp only [plP, List.length_append, lt]; omega
  · simp only [plP, List.length_append, List.length_cons, List.length_nil]; omega
  · simp only [plP, List.length_append, lt]; omega
  · rcases hH with rfl | rfl
    · intro p hp; cases hp
    · intro p hp; cases List.mem_singleton.mp hp; exact ⟨nmK_sg _ _, by simp⟩
  · rcases hH with rfl | rfl <;> simp [plP]
  · intro y hy
    rcases List.mem_append.mp hy with hy | hy
    · rw [topN_eq] at hy
      obtain ⟨k, hk, rfl⟩ := List.mem_map.mp hy
      refine ⟨k, ?_, ?_, rfl⟩ <;> (simp at hk; omega)
    · obtain ⟨k, hk, rfl⟩ := List.mem_map.mp hy
      have hk := List.mem_of_mem_take hk
      refine ⟨k, ?_, ?_, rfl⟩ <;> (simp at hk; omega)
  · simp only [plP, List.length_append, lt, List.length_cons, List.length_nil]; omega
  · simp only [plP, List.length_append, lt]; omega
  · simp only [plP, List.length_append, List.length_cons, List.length_nil]; omega
theorem plM_F (c : Int) : PlF (plM c) 3 := by
  have ht : sgs (topN c) := by rw [topN_eq]; exact sgs_nm c _
  refine ⟨⟨⟨⟨ht, sgs_nm c [0, 1], sgs_nm c [13, 14], nmK_sg _ _, by simp [plM, topN], by simp [plM], rfl⟩, ht, by simp [plM, topN], ?_, by simp [plM]⟩, ?_, by simp [plM, topN]⟩, by simp [plM, topN], by simp [plM]⟩
  · intro p hp
    simp [plM] at hp
    rcases hp with rfl | rfl <;> exact ⟨nmK_sg _ _, by simp⟩
  · intro y hy
    have hy : y ∈ topN c := hy
    rw [topN_eq] at hy
    obtain ⟨k, hk, rfl⟩ := List.mem_map.mp hy
    refine ⟨k, ?_, ?_, rfl⟩ <;> (simp at hk; omega)
/-- the environment of the program -/
theorem env_top (c : Int) (r0 r1 rows : TSs) {x : Nm} (h : x ∈ topN c ∨ x ∈ decB rows) : x ∈ (mkT c r0 r1 rows).env.top := by
  refine varsOf_mem (.inr ?_)
  show x ∈ decB ((initR c).app rows)
  rw [decB_app]
  rcases h with h | h
  · exact List.mem_append_left _ h
  · exact List.mem_append_right _ h
theorem env_rec (c : Int) (r0 r1 rows : TSs) : (mkT c r0 r1 rows).env.hasRec (nmK c 12) = true := by simp [Ev.hasRec, mkT, TP.env]
theorem env_fld (c : Int) (r0 r1 rows : TSs) : ∀ x ∈ [nmK c 13, nmK c 14], (mkT c r0 r1 rows).env.hasFld x = true := by
  intro x hx
  simp [Ev.hasFld, mkT, TP.env]
  simpa using hx
theorem ne_nm {c : Int} {k k' : Int} (h : k ≠ k') (h0 : 0 ≤ k) (h1 : k < 26) (h2 : 0 ≤ k') (h3 : k' < 26) : nmK c k ≠ nmK c k' := fun e => h (nmK_inj e h0 h1 h2 h3)
theorem env_pr (c : Int) (r0 r1 rows : TSs) : (mkT c r0 r1 rows).env.procedure (nmK c 10) = some 0 ∧ (mkT c r0 r1 rows).env.procedure (nmK c 11) = some 1 ∧ (mkT c r0 r1 rows).env.procs = [(nmK c 10, 1), (nmK c 11, 2)] := by
  have : nmK c 10 ≠ nmK c 11 := ne_nm (by decide) (by decide) (by decide) (by decide) (by decide)
  refine ⟨?_, ?_, rfl⟩
  · simp [Ev.procedure, mkT, TP.env, idxL]
  · simp [Ev.procedure, mkT, TP.env, idxL, this]
theorem plM_K (c : Int) (r0 r1 rows : TSs) : PlK (mkT c r0 r1 rows).env (plM c) 3 := by
  obtain ⟨p0, p1, p2⟩ := env_pr c r0 r1 rows
  have hf := env_fld c r0 r1 rows
  have hr := env_rec c r0 r1 rows
  have hc : ∀ x, (mkT c r0 r1 rows).env.counter x = none := fun _ => rfl
  have ht : ∀ x ∈ topN c, x ∈ (mkT c r0 r1 rows).env.top := fun x hx => env_top c r0 r1 rows (.inl hx)
  generalize (mkT c r0 r1 rows).env = E at *
  have kn : ∀ x ∈ topN c, known E x := fun x hx => by unfold known; rw [var_top (ht x hx)]; simp
  refine ⟨⟨kn, fun x hx => kn x ?_, hf, hr⟩, fun x hx => ⟨kn x hx, hc x⟩, fun p hp => ?_, fun h => (by cases h), fun h => (by cases h), fun _ _ => hc _, fun _ _ _ => hc _⟩
  · have hx : x ∈ [nmK c 0, nmK c 1] := hx
    simp [topN] at hx ⊢
    rcases hx with rfl | rfl <;> simp
  · have hp : p ∈ [(nmK c 10, 1), (nmK c 11, 2)] := hp
    simp at hp
    rcases hp with rfl | rfl
    · exact ⟨0, (nmK c 10, 1), p0, by rw [p2]; rfl, rfl⟩
    · exact ⟨1, (nmK c 11, 2), p1, by rw [p2]; rfl, rfl⟩
theorem ins_fld (E : Ev) (o : List Nm) (x : Nm) : (E.inside o).hasFld x = E.hasFld x := rfl
theorem ins_rec (E : Ev) (o : List Nm) (x : Nm) : (E.inside o).hasRec x = E.hasRec x := rfl
theorem ins_pr (E : Ev) (o : List Nm) (x : Nm) : (E.inside o).procedure x = E.procedure x := rfl
theorem ins_prs (E : Ev) (o : List Nm) : (E.inside o).procs = E.procs := rfl
theorem ins_ctr (E : Ev) (o : List Nm) (x : Nm) : (E.inside o).counter x = none := rfl
theorem ins_own (E : Ev) (o : List Nm) : (E.inside o).own = some o := rfl
theorem plP_K (c : Int) (r0 r1 rows : TSs) (ps o : List Nm) (ho : ∀ x ∈ ps, x ∈ o) (H : List (Nm × Nat)) (hH : H = [] ∨ H = [(nmK c 10, 1)]) : PlK ((mkT c r0 r1 rows).env.inside o) (plP c ps H) 3 := by
  obtain ⟨p0, p1, p2⟩ := env_pr c r0 r1 rows
  have hf := env_fld c r0 r1 rows
  have hr := env_rec c r0 r1 rows
  have ht : ∀ x ∈ topN c, x ∈ (mkT c r0 r1 rows).env.top := fun x hx => env_top c r0 r1 rows (.inl hx)
  generalize (mkT c r0 r1 rows).env = E at *
  have kt : ∀ x ∈ topN c, known (E.inside o) x := fun x hx => by unfold known; rw [var_top (E := E.inside o) (ht x hx)]; simp
  have ko : ∀ x ∈ ps, known (E.inside o) x := fun x hx => by unfold known; rw [var_own (E := E.inside o) (ins_own E o) (ho x hx)]; simp
  have kn : ∀ x ∈ topN c ++ ps, known (E.inside o) x := fun x hx => (List.mem_append.mp hx).elim (kt x) (ko x)
  refine ⟨⟨kn, fun x hx => ?_, fun x hx => by rw [ins_fld]; exact hf x hx, by rw [ins_rec]; exact hr⟩, fun x hx => ⟨kn x hx, ins_ctr E o x⟩, fun p hp => ?_, fun _ => by rw [ins_own]; rfl, fun h => (by cases h), fun _ _ => ins_ctr E o _, fun _ _ _ => ins_ctr E o _⟩
  · rcases List.mem_append.mp hx with hx | hx
    · refine kt x ?_
      simp [topN] at hx ⊢
      rcases hx with rfl | rfl <;> simp
    · exact ko x hx
  · have hp : p ∈ H := hp
    rcases hH with rfl | rfl
    · cases hp
    · cases List.mem_singleton.mp hp
      exact ⟨0, (nmK c 10, 1), by rw [ins_pr]; exact p0, by rw [ins_prs, p2]; rfl, rfl⟩
theorem mkT_good (c : Int) (r0 r1 rows : TSs) {m0 m1 m2 : Int} {A0 C0 A1 C1 : Int} {n0 n1 : Nat} (hA : 0 ≤ A0 ∧ A0 ≤ 200 ∧ 0 ≤ A1 ∧ A1 ≤ 200 ∧ 0 ≤ C1 ∧ C1 ≤ 200) (hm2 : -200 ≤ m2 ∨ m2 = m1)
    (O0 : TsOk (plP c [nmK c 5] []) r0 2 n0 A0 C0 700 m0) (O1 : TsOk (plP c [nmK c 5, nmK c 6] [(nmK c 10, 1)]) r1 2 n1 A1 C1 m0 m1) (Ok : ∀ E, PlK E (plM c) 3 → (∀ x ∈ decB rows, (E.variable x).isSome = true) → okSs E rows = true) (Og : rows.sg) (Oh : rows.ht ≤ 9) (Oz : (rows.sz : Int) ≤ m1 - m2) : (mkT c r0 r1 rows).good := by
  have b0 := O0.bd
  have b1 := O1.bd
  unfold Bg at b0 b1
  have z0 := O0.sz
  have z1 := O1.sz
  have q0 : -200 ≤ m0 := by have := b0.2.2 (by decide); omega
  have q1 : -400 ≤ m1 := by
    by_cases z : 0 < m0
    · have := b1.2.2 z; omega
    · have := b1.2.1 (by omega); omega
  have own0 : ∀ x, x ∈ [nmK c 5] ∨ x ∈ decB r0 → x ∈ ownOf (90, nmK c 10, [nmK c 5], r0) := fun x h => varsOf_mem h
  have own1 : ∀ x, x ∈ [nmK c 5, nmK c 6] ∨ x ∈ decB r1 → x ∈ ownOf (91, nmK c 11, [nmK c 5, nmK c 6], r1) := fun x h => varsOf_mem h
  have iz : (initR c).sz = 14 := rfl
  have bz : ((initR c).app rows).sz = 14 + rows.sz := by rw [sz_app, iz]
  refine ⟨⟨by simp [mkT], ?_, by simp [mkT]⟩, ⟨?_, ?_, by simp [mkT]⟩, ?_, ⟨?_, ?_, ?_, ?_⟩, ?_, by simp [mkT]⟩
  · intro p hp
    cases List.mem_singleton.mp hp
    exact ⟨by simp [ne_nm (c := c) (k := 13) (k' := 14) (by decide) (by decide) (by decide) (by decide) (by decide)], nmK_sg _ _, sgs_nm c [13, 14], by simp⟩
  · simp [mkT, ne_nm (c := c) (k := 10) (k' := 11) (by decide) (by decide) (by decide) (by decide) (by decide)]
  · intro p hp
    simp [mkT] at hp
    rcases hp with rfl | rfl
    · exact ⟨by simp, nmK_sg _ _, sgs_nm c [5], by simp⟩
    · exact ⟨by simp [ne_nm (c := c) (k := 5) (k' := 6) (by decide) (by decide) (by decide) (by decide) (by decide)], nmK_sg _ _, sgs_nm c [5, 6], by simp⟩
  · intro p hp
    simp [mkT] at hp
    rcases hp with rfl | rfl
    · refine ⟨O0.sg, ?_, by have := O0.ht; simp only; omega, by simp only; omega⟩
      have Q := (plP_K c r0 r1 rows [nmK c 5] _ (fun x h => own0 x (.inl h)) [] (.inl rfl)).dn
      exact O0.ok _ Q fun x hx => var_own rfl (own0 x (.inr hx))
    · refine ⟨O1.sg, ?_, by have := O1.ht; simp only; omega, by simp only; omega⟩
      have Q := (plP_K c r0 r1 rows [nmK c 5, nmK c 6] _ (fun x h => own1 x (.inl h)) [(nmK c 10, 1)] (.inr rfl)).dn
      exact O1.ok _ Q fun x hx => var_own rfl (own1 x (.inr hx))
  · refine sg_app _ _ ?_ Og
    exact ⟨⟨nmK_sg _ _, trivial⟩, ⟨nmK_sg _ _, trivial⟩, ⟨nmK_sg _ _, trivial⟩, ⟨nmK_sg _ _, nmK_sg _ _⟩, ⟨nmK_sg _ _, trivial⟩, trivial⟩
  · show okSs _ ((initR c).app rows) = true
    rw [okSs_app, Ok _ (plM_K c r0 r1 rows) fun x hx => var_top (env_top c r0 r1 rows (.inr hx)), Bool.and_true]
    have cn : ∀ x, (mkT c r0 r1 rows).env.counter x = none := fun _ => rfl
    simp [initR, okSs, okS, okR, okE, intE, cn, env_rec]
  · show ((initR c).app rows).ht ≤ 30
    rw [ht_app]
    have : (initR c).ht = 1 := rfl
    omega
  · show ((initR c).app rows).sz ≤ 100000
    rw [bz]; omega
  · have lm : ((mkT c r0 r1 rows).main).length = 16 + rows.sz := by
      unfold TP.main
      rw [List.length_append, List.length_append, lowB_len]
      show 1 + (0 + ((initR c).app rows).sz) + 1 = _
      rw [bz]; omega
    show (List.foldl (mkT c r0 r1 rows).step ((mkT c r0 r1 rows).main, []) [(90, nmK c 10, [nmK c 5], r0), (91, nmK c 11, [nmK c 5, nmK c 6], r1)]).1.length ≤ 2000
    simp only [List.foldl_cons, List.foldl_nil, TP.step, List.length_append, procC_len, lm, List.length_cons, List.length_nil]
    omega
theorem procs_ok (c : Int) (j : Nat) (hj : 22 ≤ j) {h : LH} {b d : Nat} (B : B3 h b d 700) : ∃ r0 r1 h' m0 m1, callN TT.pr j 30375991152747198225364020933363 [.ref b, .int c, namesD (topN c), namesD [nmK c 13, nmK c 14], .str (nmK c 12)] h = some (.tup ((mkT c r0 r1 .nil).procs.map prD), h') ∧
    TsOk (plP c [nmK c 5] []) r0 2 4 133 20 700 m0 ∧ TsOk (plP c [nmK c 5, nmK c 6] [(nmK c 10, 1)]) r1 2 4 133 20 m0 m1 ∧ B3 h' b d m1 ∧ Ext b h h' := by
  obtain ⟨j', hk'⟩ : ∃ k', j = k' + 1 := ⟨j - 1, by omega⟩
  subst hk'
  rw [callN_succ fn__law_procedures rfl]
  have nm := fun c k h => name_ok j' (by omega) c k h
  obtain ⟨r0, h1, m0, c0, O0, B0, X0⟩ := (gen_ok 2 (by decide) _ ⟨(plP_F c 1 (by decide) [] (.inl rfl)).N, by have := (plP_F c 1 (by decide) [] (.inl rfl)).roomN; omega, by have := (plP_F c 1 (by decide) [] (.inl rfl)).roomI; omega⟩).2 91 j' (by omega) B
  obtain ⟨r1, h2, m1, c1, O1, B1, X1⟩ := (gen_ok 2 (by decide) _ ⟨(plP_F c 2 (by decide) [(nmK c 10, 1)] (.inr rfl)).N, by have := (plP_F c 2 (by decide) [(nmK c 10, 1)] (.inr rfl)).roomN; omega, by have := (plP_F c 2 (by decide) [(nmK c 10, 1)] (.inr rfl)).roomI; omega⟩).2 92 j' (by omega) B0
  refine ⟨r0, r1, h2, m0, m1, ?_, O0, O1, B1, X0.trans X1⟩
  have c0' : callN TT.pr j' 884057696461026750955 [.ref b, .tup [.int c, .tup [.tup [.str (nmK c 0), .str (nmK c 1), .str (nmK c 2), .str (nmK c 3), .str (nmK c 4), .str (nmK c 5)], .tup [.str (nmK c 13), .str (nmK c 14)], .str (nmK c 12), .tup [.str (nmK c 0), .str (nmK c 1), .str (nmK c 5)]], .tup [.str (nmK c 0), .str (nmK c 1), .str (nmK c 2), .str (nmK c 3), .str (nmK c 4), .str (nmK c 5)], .tup [], .bl true, .bl false], .int 2, .int 91] h = some (.tup (tssD r0), h1) := c0
  have c1' : callN TT.pr j' 884057696461026750955 [.ref b, .tup [.int c, .tup [.tup [.str (nmK c 0), .str (nmK c 1), .str (nmK c 2), .str (nmK c 3), .str (nmK c 4), .str (nmK c 5), .str (nmK c 6)], .tup [.str (nmK c 13), .str (nmK c 14)], .str (nmK c 12), .tup [.str (nmK c 0), .str (nmK c 1), .str (nmK c 5), .str (nmK c 6)]], .tup [.str (nmK c 0), .str (nmK c 1), .str (nmK c 2), .str (nmK c 3), .str (nmK c 4), .str (nmK c 5), .str (nmK c 6)], .tup [.tup [.str (nmK c 10), .int 1]], .bl true, .bl false], .int 2, .int 92] h1 = some (.tup (tssD r1), h2) := c1
  clear c0 c1
  simp! [-rngOf_1, -rngOf_2, F__law_procedures, rng_2, rng_1, rng_0, forL_c, forL_n, nm, namesD, topN, c0', c1', mkT, prD]
theorem tree_ok (j : Nat) (hj : 26 ≤ j) (s : Nat) (ns : List Int) (h : LH) (hs : h[s]? = some (.scr ns)) : ∃ c r0 r1 rows h', callN TT.pr j 6906700753639617253 [.ref s] h = some ((mkT c r0 r1 rows).d, h') ∧ Le h h' ∧ (mkT c r0 r1 rows).good ∧ r0.wf ∧ r1.wf ∧ rows.wf := by
  obtain ⟨j', hk'⟩ : ∃ k', j = k' + 1 := ⟨j - 1, by omega⟩
  subst hk'
  rw [callN_succ fn__law_tree rfl]
  suffices H : WP (fun r => ∃ c r0 r1 rows, r.1 = (mkT c r0 r1 rows).d ∧ Le h r.2 ∧ (mkT c r0 r1 rows).good ∧ r0.wf ∧ r1.wf ∧ rows.wf) (fin (evSs TT.pr (callN TT.pr j') F__law_tree.body (start F__law_tree [.ref s]) h)) by
    obtain ⟨⟨_, h'⟩, e, c, r0, r1, rows, rfl, p⟩ := H
    exact ⟨c, r0, r1, rows, h', e, p⟩
  refine WP.mk fun R hR => ?_
  obtain ⟨k1, rfl⟩ : ∃ k, j' = k + 2 := ⟨j' - 2, by omega⟩
  obtain ⟨c0, hc⟩ := cell_ok (k1 + 1) s ns 0 h hs
  have hc : callN TT.pr (k1 + 1 + 1) 6906700753603753580 [.ref s, .int 0] h = some (.int c0, h) := hc
  obtain ⟨⟨dd, h1⟩, e1, e2, ds, e3, hd⟩ := digits_ok k1 s ns h hs 1 26 (by decide) (by decide)
  simp only at e2 e3
  subst e2 e3
  have e1 : callN TT.pr (k1 + 2) 113159385147079321614963 [.ref s, .int 1, .int 26] h = some (.ref h.length, h ++ [.lst (ds.map D.int)]) := e1
  have hc : callN TT.pr (k1 + 2) 6906700753603753580 [.ref s, .int 0] h = some (.int c0, h) := hc
  obtain ⟨c, hcc⟩ : ∃ c : Int, (if c0 < 0 then 1 - 2 * c0 else c0) = c := ⟨_, rfl⟩
  have B : B3 (h ++ [.lst (ds.map D.int), .lst [.ref h.length, .int 0, .int 700]]) (h.length + 1) h.length 700 := ⟨ds, 0, at_end1 _ _ _ _, at_end _ _ _, by omega, hd⟩
  have nm := fun c k h => name_ok (k1 + 2) (by omega) c k h
  obtain ⟨r0, r1, h2, m0, m1, c2, O0, O1, B2, X2⟩ := procs_ok c (k1 + 2) (by omega) B
  have c2' : callN TT.pr (k1 + 2) 30375991152747198225364020933363 [.ref (h.length + 1), .int c, .tup [.str (nmK c 0), .str (nmK c 1), .str (nmK c 2), .str (nmK c 3), .str (nmK c 4)], .tup [.str (nmK c 13), .str (nmK c 14)], .str (nmK c 12)] (h ++ [.lst (ds.map D.int), .lst [.ref h.length, .int 0, .int 700]]) = some (.tup ((mkT c r0 r1 .nil).procs.map prD), h2) := c2
  generalize hps : D.tup ((mkT c r0 r1 .nil).procs.map prD) = PS at c2'
  clear c2
  have ini : (if c0 < 0 then some (Fl.nx, [some (D.ref s), some (.int (1 - 2 * c0)), none, none, none, none, none, none, none, none, none, none], h) else some (Fl.nx, [some (.ref s), some (.int c0), none, none, none, none, none, none, none, none, none, none], h)) = some (Fl.nx, [some (.ref s), some (.int c), none, none, none, none, none, none, none, none, none, none], h) := by
    rw [← hcc]; split <;> rfl
  obtain ⟨L26, r26, h26⟩ : ∃ L, rngOf [.int 26] = some L ∧ L = (List.range 26).map fun (k : Nat) => D.int k := ⟨_, rngOf_1 26 (by decide), rfl⟩
  simp! [-rngOf_1, -rngOf_2, F__law_tree, hc, ini, e1, alloc, nm, rng_5, rng_4, r26, forL_c, forL_n, c2']
  generalize hL : forL _ _ _ _ _ _ _ = L
  subst h26
  let mkS : Option D → TSs → Lc := fun d6 rows => [some (.ref s), some (.int c), some (.ref (h.length + 1)), some (.str (nmK c 12)), some (.tup [.str (nmK c 13), .str (nmK c 14)]), some (.tup [.str (nmK c 0), .str (nmK c 1), .str (nmK c 2), .str (nmK c 3), .str (nmK c 4)]), d6,
    some (.tup [.tup [.str [99,111,110,115,116], .tup [.str [105,110,116], .int 1]], .tup [.str [99,111,110,115,116], .tup [.str [105,110,116], .int 0]], .tup [.str [97,114,114,97,121], .tup [.str [99,111,110,115,116], .tup [.str [105,110,116], .int 3]]], .tup [.str [110,101,119], .str (nmK c 12)]]),
    some (.tup (tssD ((initR c).app rows))), some PS, some (.tup [.tup [.str (nmK c 10), .int 1], .tup [.str (nmK c 11), .int 2]]), some (plM c).d]
  refine forL_go hL (fun i σ h' => ∃ rows m2 d6, σ = mkS d6 rows ∧ B3 h' (h.length + 1) h.length m2 ∧ Ext (h.length + 1) h2 h' ∧ (∀ E, PlK E (plM c) 3 → (∀ x ∈ decB rows, (E.variable x).isSome = true) → okSs E rows = true) ∧ rows.sg ∧ rows.wf ∧ rows.ht ≤ 9 ∧ (rows.sz : Int) ≤ m1 - m2 ∧ (-200 ≤ m2 ∨ m2 = m1) ∧ (tssD rows).length ≤ 2 * i)
    ⟨.nil, m1, _, rfl, B2, .refl _ _, fun _ _ _ => rfl, trivial, trivial, Nat.zero_le _, by simp [TSs.sz], .inr rfl, by simp [tssD]⟩ ?_ ?_
  · rintro i x σ h' hx ⟨rows, m2, d6, rfl, C, X, o1, o2, o3, o4, o5, o6, o7⟩ Q hQ
    obtain ⟨rfl, hi⟩ := rng_at0 hx
    clear hL hx hR ini e1 hc
    obtain ⟨ds', t0, eb, ed, nb, hds⟩ := id C
    have lr : (tssD ((initR c).app rows)).length ≤ 60 := by rw [tssD_app, List.length_append]; have : (tssD (initR c)).length = 5 := rfl; omega
    by_cases q : (t0 : Int) < ds'.length ∧ 0 < m2
    · obtain ⟨r, h3, m3, c3, O3, B3, X3⟩ := (gen_ok 3 (by decide) (plM c) (plM_F c)).1 (6 + (i : Int).fmod 9) (k1 + 2) (by omega) C
      have c3 : callN TT.pr (k1 + 2) 237312430881054723829160048500 [.ref (h.length + 1), (plM c).d, .int 3, .int (6 + (i : Int).fmod 9)] h' = some (.tup (tssD r), h3) := c3
      have l3 := O3.ln
      have s3 := O3.sz
      have b3 := O3.bd
      unfold Bg AD at b3
      have ap : tssD ((initR c).app rows) ++ tssD r = tssD ((initR c).app (rows.app r)) := by rw [tssD_app, tssD_app, tssD_app, List.append_assoc]
      simp only [mkS]
      simp! [-rngOf_1, -rngOf_2, eb, ed, q.1, q.2, c3, show t0 < ds'.length by omega, show (tssD ((initR c).app rows)).length + (tssD r).length ≤ 16777216 by omega, ap]
      simp only [Option.bind_some, z_nx, z_n, z_bk, z_rt, fin_nx, fin_rt, wp_some]
      refine hQ _ _ trivial ⟨rows.app r, m3, _, rfl, B3, X.trans X3, fun E Q hv => ?_, sg_app _ _ o2 O3.sg, wf_app _ _ o3 O3.wf, by rw [ht_app]; have := O3.ht; omega, by rw [sz_app]; push_cast; omega, .inl (by have := b3.2.2 q.2; push_cast at this; omega), by rw [tssD_app, List.length_append]; omega⟩
      rw [decB_app] at hv
      rw [okSs_app, o1 E Q fun x hx => hv x (List.mem_append_left _ hx), O3.ok E Q fun x hx => hv x (List.mem_append_right _ hx)]; rfl
    · simp only [mkS]
      by_cases q1 : t0 < ds'.length
      · have q2 : ¬ 0 < m2 := fun z => q ⟨by omega, z⟩
        simp! [-rngOf_1, -rngOf_2, eb, ed, q1, q2]
        simp only [Option.bind_some, z_nx, z_n, z_bk, z_rt, fin_nx, fin_rt, wp_some]
        exact hQ _ _ trivial ⟨rows, m2, _, rfl, C, X, o1, o2, o3, o4, o5, o6, by omega⟩
      · simp! [-rngOf_1, -rngOf_2, eb, ed, q1]
        simp only [Option.bind_some, z_nx, z_n, z_bk, z_rt, fin_nx, fin_rt, wp_some]
        exact hQ _ _ trivial ⟨rows, m2, _, rfl, C, X, o1, o2, o3, o4, o5, o6, by omega⟩
  · rintro σ' h' rfl ⟨rows, m2, d6, rfl, C, X, o1, o2, o3, o4, o5, o6, o7⟩
    have G := mkT_good c r0 r1 rows (by decide) o6 O0 O1 o1 o2 o4 o5
    simp only [mkS]
    clear hL ini e1 hc c2'
    subst hps
    refine ⟨((mkT c r0 r1 rows).d, h'), ?_, hR _ ⟨c, r0, r1, rows, rfl, ?_, G, O0.wf, O1.wf, o3⟩⟩
    · simp! [-rngOf_1, -rngOf_2, TP.d, mkT, headD, prD, namesD]
    · refine le_of (by have := X2.1; have := X.1; simp at *; omega) fun a ha => ?_
      rw [X.2 a (by have := X2.1; simp at this; omega) (by omega), X2.2 a (by simp; omega) (by omega), List.getElem?_append_left ha]
noncomputable def knD (E : Ev) : D := .tup [ownD E.own, namesD E.top, namesD E.ctr.reverse, namesD (E.procs.map (·.1))]
theorem kn_0 (E : Ev) (h : LH) : getix TT.pr (knD E) (.int 0) h = some (ownD E.own) := rfl
theorem kn_1 (E : Ev) (h : LH) : getix TT.pr (knD E) (.int 1) h = some (namesD E.top) := rfl
theorem kn_3 (E : Ev) (h : LH) : getix TT.pr (knD E) (.int 3) h = some (namesD (E.procs.map (·.1))) := rfl
noncomputable def fndI (o : Option Nat) : Int := match o with
  | some i => i
  | none => -1
theorem found_ok (j : Nat) (hj : 1 ≤ j) (ss : List Nm) (gs : sgs ss) (hl : ss.length ≤ 1000000) (x : Nm) (gx : sgn x) (h : LH) : callN TT.pr j 884057696462106883940 [namesD ss, .str x] h = some (.int (fndI (idxL x ss)), h) := by
  obtain ⟨j', hk'⟩ : ∃ k', j = k' + 1 := ⟨j - 1, by omega⟩
  subst hk'
  rw [callN_succ fn__law_found rfl]
  have lr : ss.length < 4000000 := by omega
  simp! [F__law_found, namesD, lr]
  generalize hL : forL _ _ _ _ _ _ _ = L
  refine find_go hL (fun i => ss[i]? == some x) (fun i => .int i) (fun σ h' => (∃ d, σ = [some (.tup (ss.map D.str)), some (.str x), d]) ∧ h' = h) ⟨⟨_, rfl⟩, rfl⟩ ?_ ?_
  · rintro i y σ h' hy ⟨⟨d, rfl⟩, rfl⟩
    obtain ⟨rfl, hi⟩ := rng_at0 hy
    have hat : atI (ss.map D.str) (i : Int) = some (.str ss[i]) := by
      rw [atI_of (by omega) (by simp; omega)]; simp [hi]
    have s1 := sg_all (gs _ (List.getElem_mem hi))
    have s2 := sg_all gx
    refine ⟨[some (.tup (ss.map D.str)), some (.str x), some (.int i)], h', ⟨⟨_, rfl⟩, rfl⟩, ?_⟩
    rw [List.getElem?_eq_getElem hi]
    by_cases q : ss[i] = x
    · simp! [hat, s1, s2, q]
    · simp! [hat, s1, s2, q]
  · rintro σ' h' ⟨⟨d, rfl⟩, rfl⟩ rfl
    have fi := find_idxL x ss (fun i => ss[i]? == some x) (fun i _ => rfl)
    simp only [List.length_map, List.length_range, fi]
    cases idxL x ss
    · simp! [fndI]
    · simp! [fndI]
structure Ev.fit2 (E : Ev) : Prop where
  F : E.fit
  top : E.top.length ≤ 1000000
  own : ∀ o, E.own = some o → o.length ≤ 1000000
theorem lvar_ok (j : Nat) (hj : 2 ≤ j) {E : Ev} (F : E.fit2) {x : Nm} (sx : sgn x) (hv : (E.variable x).isSome = true) (h : LH) : callN TT.pr j 1854003366259845898046060133 [knD E, .str x] h = some (varD (E.variable x), h) := by
  obtain ⟨j', hk'⟩ : ∃ k', j = k' + 1 := ⟨j - 1, by omega⟩
  subst hk'
  rw [callN_succ fn__law_variable rfl]
  have t := fun h => found_ok j' (by omega) E.top F.F.ok.top F.top x sx h
  unfold Ev.variable at hv ⊢
  cases q : E.own with
  | none =>
    rw [q] at hv
    cases q1 : idxL x E.top with
    | none => rw [q1] at hv; cases hv
    | some i =>
      rw [q1] at t
      simp! [F__law_variable, kn_0, kn_1, q, ownD, t, fndI, q1, varD]
  | some o =>
    have t2 := fun h => found_ok j' (by omega) o (F.F.ok.own o q) (F.own o q) x sx h
    have n2 : isNon (namesD o) = false := rfl
    rw [q] at hv
    cases q0 : idxL x o with
    | none =>
      simp only [Option.bind_some, q0] at hv
      rw [q0] at t2
      cases q1 : idxL x E.top with
      | none => rw [q1] at hv; cases hv
      | some i =>
        rw [q1] at t
        simp! [F__law_variable, kn_0, kn_1, q, ownD, n2, t, t2, fndI, q0, q1, varD]
    | some i =>
      rw [q0] at t2
      have p : (0 : Int) ≤ i := by omega
      simp! [F__law_variable, kn_0, kn_1, q, ownD, n2, t, t2, fndI, q0, varD, p]
theorem lread_ok (j : Nat) (hj : 3 ≤ j) {E : Ev} (F : E.fit2) {x : Nm} (sx : sgn x) (hv : known E x) (h : LH) : callN TT.pr j 237312430880974221434456405733 [knD E, .str x] h = some ((match E.counter x with | some d => ins [99,111,117,110,116,101,114] [.int d] | none => ins [108,111,97,100] [varD (E.variable x)]), h) := by
  obtain ⟨j', hk'⟩ : ∃ k', j = k' + 1 := ⟨j - 1, by omega⟩
  subst hk'
  rw [callN_succ fn__law_read_name rfl]
  have lc := F.F.ctr
  have lr : E.ctr.length < 4000000 := by omega
  have n2 : namesD E.ctr.reverse = .tup (E.ctr.reverse.map D.str) := rfl
  have k2 : ∀ h, getix TT.pr (knD E) (.int 2) h = some (.tup (E.ctr.reverse.map D.str)) := fun h => rfl
  have k2 : ∀ h, getix TT.pr (knD E) (.int 2) h = some (.tup (E.ctr.map D.str).reverse) := fun h => by rw [k2, List.map_reverse]
  simp! [F__law_read_name, k2, lr]
  generalize hL : forL _ _ _ _ _ _ _ = L
  refine find_go hL (fun i => E.ctr.reverse[i]? == some x) (fun i => ins [99,111,117,110,116,101,114] [.int i]) (fun σ h' => (∃ d, σ = [some (knD E), some (.str x), d]) ∧ h' = h) ⟨⟨_, rfl⟩, rfl⟩ ?_ ?_
  · rintro i y σ h' hy ⟨⟨d, rfl⟩, rfl⟩
    obtain ⟨rfl, hi⟩ := rng_at0 hy
    have hi' : i < E.ctr.reverse.length := by simpa using hi
    have hat : atI ((E.ctr.map D.str).reverse) (i : Int) = some (.str E.ctr.reverse[i]) := by
      rw [← List.map_reverse, atI_of (by omega) (by simp; omega), List.getElem?_map, show ((i : Int)).toNat = i by omega, List.getElem?_eq_getElem hi']; rfl
    have s1 := sg_all (F.F.ok.ctr _ (List.mem_reverse.mp (List.getElem_mem hi')))
    have s2 := sg_all sx
    refine ⟨[some (knD E), some (.str x), some (.int i)], h', ⟨⟨_, rfl⟩, rfl⟩, ?_⟩
    rw [List.getElem?_eq_getElem hi']
    generalize E.ctr.reverse[i] = z at *
    by_cases q : z = x
    · simp! [k2, hat, s1, s2, q, ins]
    · simp! [k2, hat, s1, s2, q]
  · rintro σ' h' ⟨⟨d, rfl⟩, rfl⟩ rfl
    have fi := find_idxL x E.ctr.reverse (fun i => E.ctr.reverse[i]? == some x) (fun i _ => rfl)
    rw [List.length_reverse] at fi
    simp only [List.length_map, List.length_range, fi]
    unfold known at hv
    have e : idxL x E.ctr.reverse = E.counter x := rfl
    rw [e]
    cases q : E.counter x with
    | some i => simp! []
    | none =>
      rw [q] at hv
      have v := lvar_ok j' (by omega) F sx (by simpa using hv) h'
      simp! [v, ins]
theorem lval_ok {E : Ev} (F : E.fit2) : ∀ (t : TE), okE E t = true → t.sg → t.sz ≤ 1000000 → ∀ (j : Nat), t.ht + 4 ≤ j → ∀ (h : LH) (l : Int), RL (lowE E l t) h (callN TT.pr j 30375991152801311868800101773925 [knD E, .int l, teD t] h)
  | .cst v, o, s, z, j, hj, h, l => by
    obtain ⟨j', hk'⟩ : ∃ k', j = k' + 1 := ⟨j - 1, by omega⟩
    subst hk'
    rw [callN_succ fn__law_value_code rfl]
    exact ⟨h.length, h ++ [.lst [ins [112,117,115,104] [v]]], by simp! [F__law_value_code, teD, alloc, ins], .app _ _, at_end _ _ _⟩
  | .nam x, o, s, z, j, hj, h, l => by
    obtain ⟨j', hk'⟩ : ∃ k', j = k' + 1 := ⟨j - 1, by omega⟩
    subst hk'
    rw [callN_succ fn__law_value_code rfl]
    have r := lread_ok j' (by omega) F s o h
    have e : lowE E l (.nam x) = [match E.counter x with | some d => ins [99,111,117,110,116,101,114] [.int d] | none => ins [108,111,97,100] [varD (E.variable x)]] := by unfold lowE; cases E.counter x <;> rfl
    rw [e]
    generalize (match E.counter x with | some d => ins [99,111,117,110,116,101,114] [.int d] | none => ins [108,111,97,100] [varD (E.variable x)]) = I at *
    exact ⟨h.length, h ++ [.lst [I]], by simp! [F__law_value_code, teD, alloc, r], .app _ _, at_end _ _ _⟩
  | .new x, o, s, z, j, hj, h, l => by
    obtain ⟨j', hk'⟩ : ∃ k', j = k' + 1 := ⟨j - 1, by omega⟩
    subst hk'
    rw [callN_succ fn__law_value_code rfl]
    exact ⟨h.length, h ++ [.lst [ins [109,97,107,101] [], ins [116,97,103] [.str x]]], by simp! [F__law_value_code, teD, alloc, ins], .app _ _, at_end _ _ _⟩
  | .both op t u, o, s, z, j, hj, h, l => by
    have o : okE E t = true ∧ okE E u = true := by simpa [okE] using o
    simp only [TE.sz] at z
    obtain ⟨k, hk'⟩ : ∃ k', j = k' + 1 := ⟨j - 1, by omega⟩
    subst hk'
    rw [callN_succ fn__law_value_code rfl]
    obtain ⟨p, h1, c, l1, f1⟩ := lval_ok F t o.1 s.2.1 (by omega) k (by simp [TE.ht] at hj; omega) h l
    obtain ⟨q, h2, c2, l2, f2⟩ := lval_ok F u o.2 s.2.2 (by omega) k (by simp [TE.ht] at hj; omega) h1 (l + (lowE E l t).length)
    have ll : (lowE E l t).length + (lowE E (l + (lowE E l t).length) u).length ≤ 1000000 := by rw [lowE_len, lowE_len]; omega
    have ad := op_lst (l2.get f1) f2 (by omega)
    simp only [lowE]
    generalize hT : lowE E l t ++ lowE E (l + (lowE E l t).length) u = TU at ad ⊢
    have lt : TU.length ≤ 1000000 := by rw [← hT, List.length_append]; exact ll
    have so := sg_all s.1
    refine .mk (a := h2.length + 2) (h' := h2 ++ [.lst TU, .lst (opC op), .lst (TU ++ opC op)]) ?_ (l1.trans (l2.trans (.app _ _))) (at_end2' _ _ _ _ _)
    unfold opC
    by_cases q1 : op = [62]
    · subst q1; simp! [F__law_value_code, teD, c, f1, c2, ad, alloc, at_end, at_end1, show TU.length ≤ 16777214 by omega, show TU.length ≤ 16777215 by omega, ins]
    · by_cases q2 : op = [62,61]
      · subst q2; simp! [F__law_value_code, teD, c, f1, c2, ad, alloc, at_end, at_end1, show TU.length ≤ 16777214 by omega, show TU.length ≤ 16777215 by omega, ins]
      · by_cases q3 : op = [33,61]
        · subst q3; simp! [F__law_value_code, teD, c, f1, c2, ad, alloc, at_end, at_end1, show TU.length ≤ 16777214 by omega, show TU.length ≤ 16777215 by omega, ins]
        · simp! [F__law_value_code, teD, c, f1, c2, ad, alloc, at_end, at_end1, show TU.length ≤ 16777214 by omega, show TU.length ≤ 16777215 by omega, ins, q1, q2, q3, so]
  | .fld t x, o, s, z, j, hj, h, l => by
    have o : okE E t = true ∧ E.hasFld x = true := by simpa [okE] using o
    simp only [TE.sz] at z
    obtain ⟨k, hk'⟩ : ∃ k', j = k' + 1 := ⟨j - 1, by omega⟩
    subst hk'
    rw [callN_succ fn__law_value_code rfl]
    obtain ⟨p, h1, c, l1, f1⟩ := lval_ok F t o.1 s.1 (by omega) k (by simp [TE.ht] at hj; omega) h l
    have ll : (lowE E l t).length ≤ 16777214 := by rw [lowE_len]; omega
    exact .mk (a := h1.length + 1) (h' := h1 ++ [.lst [ins [107,105,110,100] [], ins [102,105,101,108,100] [.str x]], .lst (lowE E l t ++ [ins [107,105,110,100] [], ins [102,105,101,108,100] [.str x]])]) (by simp! [F__law_value_code, teD, c, alloc, ins, at_old f1, at_end, ll]) (l1.trans (.app _ _)) (at_end1 _ _ _ _)
  | .un u t, o, s, z, j, hj, h, l => by
    simp only [TE.sz] at z
    obtain ⟨k, hk'⟩ : ∃ k', j = k' + 1 := ⟨j - 1, by omega⟩
    subst hk'
    rw [callN_succ fn__law_value_code rfl]
    obtain ⟨p, h1, c, l1, f1⟩ := lval_ok F t o s (by omega) k (by simp [TE.ht] at hj; omega) h l
    have ll : (lowE E l t).length ≤ 16777213 := by rw [lowE_len]; omega
    refine .mk (a := h1.length + 1) (h' := h1 ++ [.lst u.code, .lst (lowE E l t ++ u.code)]) ?_ (l1.trans (.app _ _)) (at_end1 _ _ _ _)
    cases u <;> simp! [F__law_value_code, teD, Un.s, Un.code, ins, c, alloc, at_old f1, at_end, show (lowE E l t).length ≤ 16777214 by omega, show (lowE E l t).length ≤ 16777215 by omega, ll]
  | .lg g t u, o, s, z, j, hj, h, l => by
    have o : okE E t = true ∧ okE E u = true := by simpa [okE] using o
    simp only [TE.sz] at z
    obtain ⟨k, hk'⟩ : ∃ k', j = k' + 1 := ⟨j - 1, by omega⟩
    subst hk'
    rw [callN_succ fn__law_value_code rfl]
    obtain ⟨p, h1, c, l1, f1⟩ := lval_ok F t o.1 s.1 (by omega) k (by simp [TE.ht] at hj; omega) h l
    obtain ⟨q, h2, c2, l2, f2⟩ := lval_ok F u o.2 s.2 (by omega) k (by simp [TE.ht] at hj; omega) h1 (l + (lowE E l t).length + 1)
    have f1' := l2.get f1
    have z1 : (lowE E l t).length ≤ 1000000 := by rw [lowE_len]; omega
    have z2 : (lowE E (l + (lowE E l t).length + 1) u).length ≤ 1000000 := by rw [lowE_len]; omega
    simp only [lowE]
    generalize lowE E l t = T at *
    generalize lowE E (l + (T.length : Int) + 1) u = U at *
    refine .mk (a := h2.length + 2) (h' := h2 ++ [.lst [ins (lgS g ++ [95,106,117,109,112]) [.int (l + T.length + 1 + U.length)]], .lst (T ++ [ins (lgS g ++ [95,106,117,109,112]) [.int (l + T.length + 1 + U.length)]]), .lst (T ++ [ins (lgS g ++ [95,106,117,109,112]) [.int (l + T.length + 1 + U.length)]] ++ U)]) ?_ (l1.trans (l2.trans (.app _ _))) (at_end2' _ _ _ _ _)
    cases g <;> simp only [lgS, ins, if_true, if_false, Bool.false_eq_true, List.cons_append, List.nil_append] <;> simp! [F__law_value_code, teD, lgS, c, f1, c2, f1', f2, alloc, at_end, at_end1, at_old f1', at_old f2, show T.length ≤ 16777215 by omega, show T.length + 1 + U.length ≤ 16777216 by omega]
  | .itm t u, o, s, z, j, hj, h, l => by
    have o : okE E t = true ∧ okE E u = true := by simpa [okE] using o
    simp only [TE.sz] at z
    obtain ⟨k, hk'⟩ : ∃ k', j = k' + 1 := ⟨j - 1, by omega⟩
    subst hk'
    rw [callN_succ fn__law_value_code rfl]
    obtain ⟨p, h1, c, l1, f1⟩ := lval_ok F t o.1 s.1 (by omega) k (by simp [TE.ht] at hj; omega) h l
    obtain ⟨q, h2, c2, l2, f2⟩ := lval_ok F u o.2 s.2 (by omega) k (by simp [TE.ht] at hj; omega) h1 (l + (lowE E l t).length + 1)
    have f1' := l2.get f1
    have z1 : (lowE E l t).length ≤ 1000000 := by rw [lowE_len]; omega
    have z2 : (lowE E (l + (lowE E l t).length + 1) u).length ≤ 1000000 := by rw [lowE_len]; omega
    have ea : l + ((lowE E l t ++ [ins [107,105,110,100] []]).length : Int) = l + (lowE E l t).length + 1 := by simp; omega
    simp only [lowE, ea]
    generalize lowE E l t = T at *
    generalize lowE E (l + (T.length : Int) + 1) u = U at *
    refine .mk (a := h2.length + 4) (h' := h2 ++ [.lst [ins [107,105,110,100] []], .lst (T ++ [ins [107,105,110,100] []]), .lst (T ++ [ins [107,105,110,100] []] ++ U), .lst [ins [105,116,101,109] []], .lst (T ++ [ins [107,105,110,100] []] ++ U ++ [ins [105,116,101,109] []])]) ?_ (l1.trans (l2.trans (.app _ _))) (at_end4 _ _ _ _ _ _ _)
    simp! [F__law_value_code, teD, c, f1, c2, f1', f2, alloc, at_end, at_end1, at_end2', at_end3, at_old f1', at_old f2, ins, show T.length ≤ 16777215 by omega, show T.length + 1 + U.length ≤ 16777216 by omega, show T.length + (U.length + 1) ≤ 16777215 by omega]
theorem argsF_pre (E : Ev) : ∀ (as : List TE) (a : Int) (p acc : List D), argsF E a (p ++ acc) as = p ++ argsF E (a + p.length) acc as
  | [], a, p, acc => rfl
  | e :: es, a, p, acc => by
    simp only [argsF]
    rw [List.append_assoc, argsF_pre E es a p]
    congr 4
    simp; omega
theorem set_head (x y : D) (r : List D) : (x :: r).set 0 y = y :: r := rfl
theorem lcall_ok {E : Ev} (F : E.fit2) (p : Nm) (as : List TE) (ah : Bool) (last : D) (o : okC E p as = true) (sp : sgn p) (ss : ∀ e ∈ as, e.sg) (hz : asz as ≤ 500000) (j : Nat) (hj : htL as + 5 ≤ j) (h : LH) (l : Int) : RL (callC E l p as ah last) h (callN TT.pr j 237312430879891154377440490085 [knD E, .int l, .tup [.str p, .tup (as.map teD)], .bl ah, last] h) := by
  obtain ⟨j', hk'⟩ : ∃ k', j = k' + 1 := ⟨j - 1, by omega⟩
  subst hk'
  rw [callN_succ fn__law_call_code rfl]
  unfold okC at o
  simp only [Bool.and_eq_true, List.all_eq_true] at o
  obtain ⟨o1, o2⟩ := o
  obtain ⟨i, hi⟩ : ∃ i, E.procedure p = some i := by
    cases q : E.procedure p with
    | none => rw [q] at o1; cases o1
    | some i => exact ⟨i, rfl⟩
  have fd := fun h => found_ok j' (by omega) (E.procs.map (·.1)) (fun s hs => by obtain ⟨q, hq, rfl⟩ := List.mem_map.mp hs; exact F.F.ok.procs q hq) (by have := F.F.procs; simp; omega) p sp h
  have hi' : idxL p (E.procs.map (·.1)) = some i := hi
  rw [hi'] at fd
  cases ah with
  | false =>
    simp! [F__law_call_code, alloc]
    generalize hL : forL _ _ _ _ _ _ _ = L
    refine args_go (E := E) (b := l) hL (fun p' σ => ∃ d, σ = [some (knD E), some (.int l), some (.tup [.str p, .tup (as.map teD)]), some (.bl false), some last, some (.ref p'), d]) h [] h.length ⟨none, rfl⟩ (.app _ _) (at_end _ _ _) (by simp; omega) ?_ ?_
    · rintro t ht acc σ h1 p1 ⟨d, rfl⟩ l1 f1 hz1
      obtain ⟨p2, h2, c2, l2, f2⟩ := lval_ok F t (o2 t ht) (ss t ht) (by omega) j' (by have := htL_mem ht; omega) h1 (l + acc.length)
      have ad := op_lst (l2.get f1) f2 (by rw [lowE_len]; omega)
      exact ⟨[some (knD E), some (.int l), some (.tup [.str p, .tup (as.map teD)]), some (.bl false), some last, some (.ref h2.length), some (teD t)], h2 ++ [.lst (acc ++ lowE E (l + acc.length) t)], h2.length, ⟨_, rfl⟩, l2.trans (.app _ _), at_end _ _ _, by simp! [f1, c2, ad]⟩
    rintro σ' h' q ⟨d, rfl⟩ l1 f1 rfl
    clear hL
    rw [callC, hi]
    generalize hT : argsF E l [] as = T at *
    have lT : T.length ≤ 500000 := by rw [← hT, argsF_len]; simp; omega
    refine .mk (a := h'.length + 1) (h' := h' ++ [.lst [ins [99,97,108,108] [.int i, .int as.length], last], .lst (T ++ [ins [99,97,108,108] [.int i, .int as.length], last])]) ?_ ((Le.app _ _).trans (l1.trans (.app _ _))) (by simp only [Bool.false_eq_true, if_false, optI, hT]; exact at_end1 _ _ _ _)
    simp! [kn_3, fd, fndI, alloc, at_old f1, at_end, ins, show T.length ≤ 16777214 by omega]
  | true =>
    simp! [F__law_call_code, alloc]
    generalize hL : forL _ _ _ _ _ _ _ = L
    refine args_go (E := E) (b := l) hL (fun p' σ => ∃ d, σ = [some (knD E), some (.int l), some (.tup [.str p, .tup (as.map teD)]), some (.bl true), some last, some (.ref p'), d]) h [.tup [.str [115,112,97,119,110], .int 0]] (h.length + 1) ⟨none, rfl⟩ (.app _ _) (at_end1 _ _ _ _) (by simp; omega) ?_ ?_
    · rintro t ht acc σ h1 p1 ⟨d, rfl⟩ l1 f1 hz1
      obtain ⟨p2, h2, c2, l2, f2⟩ := lval_ok F t (o2 t ht) (ss t ht) (by omega) j' (by have := htL_mem ht; omega) h1 (l + acc.length)
      have ad := op_lst (l2.get f1) f2 (by rw [lowE_len]; omega)
      exact ⟨[some (knD E), some (.int l), some (.tup [.str p, .tup (as.map teD)]), some (.bl true), some last, some (.ref h2.length), some (teD t)], h2 ++ [.lst (acc ++ lowE E (l + acc.length) t)], h2.length, ⟨_, rfl⟩, l2.trans (.app _ _), at_end _ _ _, by simp! [f1, c2, ad]⟩
    rintro σ' h' q ⟨d, rfl⟩ l1 f1 rfl
    clear hL
    have pre := argsF_pre E as l [.tup [.str [115,112,97,119,110], .int 0]] []
    rw [List.append_nil] at pre
    rw [pre] at f1
    rw [callC, hi]
    simp only [List.length_singleton, Int.natCast_one] at f1
    have e1 : l + (1 : Int) = l + ((1 : Nat) : Int) := rfl
    generalize hT : argsF E (l + 1) [] as = T at *
    have lT : T.length ≤ 500000 := by rw [← hT, argsF_len]; simp; omega
    have ea : l + ((T ++ [ins [99,97,108,108] [.int i, .int as.length], last]).length : Int) + 2 = l + ((T.length + 4 : Nat) : Int) := by simp; omega
    simp only [if_true, optI]
    rw [ea]
    generalize hS : D.tup [.str [115,112,97,119,110], .int (l + ((T.length + 4 : Nat) : Int))] = SP
    refine .mk (a := h'.length + 3) (h' := h' ++ [.lst [ins [99,97,108,108] [.int i, .int as.length], last], .lst (.tup [.str [115,112,97,119,110], .int 0] :: (T ++ [ins [99,97,108,108] [.int i, .int as.length], last])), .lst [ins [102,105,110,105,115,104] []], .lst (SP :: (T ++ [ins [99,97,108,108] [.int i, .int as.length], last, ins [102,105,110,105,115,104] []]))]) ?_ ((Le.app _ _).trans (l1.trans (.app _ _))) ?_
    · have sl : ∀ L M : List D, setLst (h' ++ [.lst [ins [99,97,108,108] [.int i, .int as.length], last], .lst (.tup [.str [115,112,97,119,110], .int 0] :: (T ++ [ins [99,97,108,108] [.int i, .int as.length], last])), .lst [ins [102,105,110,105,115,104] []], .lst L]) (h'.length + 3) M = h' ++ [.lst [ins [99,97,108,108] [.int i, .int as.length], last], .lst (.tup [.str [115,112,97,119,110], .int 0] :: (T ++ [ins [99,97,108,108] [.int i, .int as.length], last])), .lst [ins [102,105,110,105,115,104] []], .lst M] := fun L M => by simp [setLst]
      simp only [ins] at sl ⊢
      have ix : ixN (T.length + 1 + 1 + 1 + 1) 0 = some 0 := ixN_of (by omega) (by omega)
      have e5 : l + ((T.length : Int) + 1 + 1 + 1 + 1) = l + ((T.length + 4 : Nat) : Int) := by omega
      have e6 : l + (1 + ((T.length : Int) + 1 + 1) + 1) = l + ((T.length + 4 : Nat) : Int) := by omega
      have e7 : l + ((T.length : Int) + 4) = l + ((T.length + 4 : Nat) : Int) := by omega
      simp! [kn_3, fd, fndI, alloc, at_old f1, at_end, at_end1, at_end2', at_end3, sl, ix, hS, set_head, show T.length ≤ 16777214 by omega, show T.length ≤ 16777213 by omega, show T.length ≤ 16777212 by omega, show 1 + T.length ≤ 16777214 by omega, show T.length + 1 ≤ 16777214 by omega]
      rw [← hS, show l + ((T.length : Int) + 3 + 1) = l + ((T.length + 4 : Nat) : Int) by omega]
    · simp only [List.cons_append, List.nil_append, List.append_assoc, ins, hS]
      exact at_end3 _ _ _ _ _ _
theorem lpairs_ok (j : Nat) (hj : 1 ≤ j) (l : Int) (c : List D) (hc : c.length ≤ 1000000) (h : LH) (p : Nat) (f : h[p]? = some (.lst c)) : callN TT.pr j 884057696464761682291 [.int l, .ref p] h = some (.ref h.length, h ++ [.lst (wl l c)]) := by
  obtain ⟨j', hk'⟩ : ∃ k', j = k' + 1 := ⟨j - 1, by omega⟩
  subst hk'
  rw [callN_succ fn__law_pairs rfl]
  simp! [F__law_pairs, f]
  rw [lcL_pure (fun _ => true) (fun d => .tup [.int l, d]) (by simp [stays, seqOf, f]) c [] (fun x _ => by simp! [wipe, tgSl, tgsSl]) (by unfold SZ; simp; omega)]
  simp only [Option.bind_some, List.nil_append, alloc, Function.comp_apply, Option.map_some, fin_rt]
  have fe : List.filter (fun _ => true) c = c := by simp
  rw [fe]
  rfl
theorem cut_13 (a b c : D) (r : List D) : cut (a :: b :: c :: r) (some 1) (some 3) = [b, c] := by simp [cut, sIx]
theorem cut_24 (a b c d : D) (r : List D) : cut (a :: b :: c :: d :: r) (some 2) (some 4) = [c, d] := by simp [cut, sIx]
/-- the variable that is written -/
noncomputable def vr (E : Ev) (x : Nm) : Prop := (E.variable x).isSome = true
theorem pl_asg {E : Ev} (F : E.fit2) (v : Bool) (l : Int) (x : Nm) (r : TR) (sx : sgn x) (s : r.sg) (o : okR E r = true) (hv : vr E x) (hz : r.sz ≤ 500000) (j : Nat) (hj : 2 * r.h + 7 ≤ j) (h : LH) (ad : Int) : RL (rightC E ad (storeD E x) r) h (callN TT.pr j 30375991152746758025196582204005 [knD E, .int ad, tsD (.asg v l x r)] h) := by
  obtain ⟨j', hk'⟩ : ∃ k', j = k' + 1 := ⟨j - 1, by omega⟩
  subst hk'
  rw [callN_succ fn__law_plain_code rfl]
  have w := fun h => lvar_ok j' (by omega) F sx hv h
  cases r with
  | read => exact .mk (a := h.length) (h' := h ++ [.lst (rightC E ad (storeD E x) .read)]) (by cases v <;> simp! [F__law_plain_code, tsD, asS, trD, w, alloc, rightC, storeD, ins]) (.app _ _) (at_end _ _ _)
  | expr t =>
    simp only [TR.sz, TR.h] at hz hj
    obtain ⟨p, h1, c, l1, f1⟩ := lval_ok F t o s (by omega) j' (by omega) h ad
    have ob := at_old f1 [.lst [storeD E x]]
    have g : (lowE E ad t).length ≤ 16777215 := by rw [lowE_len]; omega
    refine .mk (a := h1.length + 1) (h' := h1 ++ [.lst [storeD E x], .lst (lowE E ad t ++ [storeD E x])]) ?_ (l1.trans (.app _ _)) (at_end1 _ _ _ _)
    simp only [storeD, ins] at ob ⊢
    cases v <;> simp! [F__law_plain_code, tsD, asS, trD, w, alloc, c, ob, at_end, g]
  | call p as ah =>
    simp only [TR.sz, TR.h, csz] at hz hj
    obtain ⟨q, h1, c, l1, f1⟩ := lcall_ok F p as ah (storeD E x) o s.1 s.2 (by omega) j' (by omega) h ad
    refine .mk (a := q) (h' := h1) ?_ l1 f1
    simp only [storeD, ins] at c
    cases v <;> simp! [F__law_plain_code, tsD, asS, trD, w, cut_13, c]
theorem pl_cal {E : Ev} (F : E.fit2) (l : Int) (p : Nm) (as : List TE) (ah : Bool) (o : okC E p as = true) (sp : sgn p) (ss : ∀ e ∈ as, e.sg) (hz : asz as ≤ 500000) (j : Nat) (hj : htL as + 6 ≤ j) (h : LH) (ad : Int) : RL (callC E ad p as ah (ins [100,114,111,112] [])) h (callN TT.pr j 30375991152746758025196582204005 [knD E, .int ad, tsD (.cal l p as ah)] h) := by
  obtain ⟨j', hk'⟩ : ∃ k', j = k' + 1 := ⟨j - 1, by omega⟩
  subst hk'
  rw [callN_succ fn__law_plain_code rfl]
  obtain ⟨q, h1, c, l1, f1⟩ := lcall_ok F p as ah (ins [100,114,111,112] []) o sp ss hz j' (by omega) h ad
  refine .mk (a := q) (h' := h1) ?_ l1 f1
  simp only [ins] at c
  simp! [F__law_plain_code, tsD, cut_24, c]
theorem pl_brk {E : Ev} (l : Int) (j : Nat) (hj : 1 ≤ j) (h : LH) (ad : Int) : RL [ins [98,114,101,97,107] []] h (callN TT.pr j 30375991152746758025196582204005 [knD E, .int ad, tsD (.brk l)] h) := by
  obtain ⟨j', hk'⟩ : ∃ k', j = k' + 1 := ⟨j - 1, by omega⟩
  subst hk'
  rw [callN_succ fn__law_plain_code rfl]
  exact .mk (a := h.length) (h' := h ++ [.lst [ins [98,114,101,97,107] []]]) (by simp! [F__law_plain_code, tsD, alloc, ins]) (.app _ _) (at_end _ _ _)
theorem pl_val {E : Ev} (F : E.fit2) (k : Vk) (l : Int) (t : TE) (o : okE E t = true) (g : t.sg) (hz : t.sz ≤ 500000) (j : Nat) (hj : t.ht + 5 ≤ j) (h : LH) (ad : Int) : RL (lowE E ad t ++ [ins k.s []]) h (callN TT.pr j 30375991152746758025196582204005 [knD E, .int ad, tsD (.val k l t)] h) := by
  obtain ⟨j', hk'⟩ : ∃ k', j = k' + 1 := ⟨j - 1, by omega⟩
  subst hk'
  rw [callN_succ fn__law_plain_code rfl]
  obtain ⟨p, h1, c, l1, f1⟩ := lval_ok F t o g (by omega) j' (by omega) h ad
  have z1 : (lowE E ad t).length ≤ 500000 := by rw [lowE_len]; omega
  have o1 := at_old f1 [.lst [ins k.s []]]
  refine .mk (a := h1.length + 1) (h' := h1 ++ [.lst [ins k.s []], .lst (lowE E ad t ++ [ins k.s []])]) ?_ (l1.trans (.app _ _)) (at_end1 _ _ _ _)
  cases k <;> simp only [ins, Vk.s] at o1 ⊢ <;> simp! [F__law_plain_code, tsD, Vk.s, c, alloc, at_end, o1, show (lowE E ad t).length ≤ 16777215 by omega]
theorem pl_sfl {E : Ev} (F : E.fit2) (l : Int) (t : TE) (f : Nm) (u : TE) (o : okE E t = true ∧ okE E u = true) (g : t.sg ∧ u.sg) (hz : t.sz + u.sz ≤ 500000) (j : Nat) (hj : t.ht + 5 ≤ j ∧ u.ht + 5 ≤ j) (h : LH) (ad : Int) : RL (sfldC E ad t f u) h (callN TT.pr j 30375991152746758025196582204005 [knD E, .int ad, tsD (.sfl l t f u)] h) := by
  obtain ⟨k, hk'⟩ : ∃ k', j = k' + 1 := ⟨j - 1, by omega⟩
  subst hk'
  rw [callN_succ fn__law_plain_code rfl]
  obtain ⟨p, h1, c, l1, f1⟩ := lval_ok F t o.1 g.1 (by omega) k (by omega) h ad
  have z1 : (lowE E ad t).length ≤ 500000 := by rw [lowE_len]; omega
  have o1 := at_old f1 [.lst [ins [107,105,110,100] []]]
  obtain ⟨q, h2, c2, l2, f2⟩ := lval_ok F u o.2 g.2 (by omega) k (by omega) (h1 ++ [.lst [ins [107,105,110,100] []], .lst (lowE E ad t ++ [ins [107,105,110,100] []])]) (ad + (lowE E ad t ++ [ins [107,105,110,100] []]).length)
  have z2 : (lowE E (ad + (lowE E ad t ++ [ins [107,105,110,100] []]).length) u).length ≤ 500000 := by rw [lowE_len]; omega
  unfold sfldC
  generalize lowE E ad t = T at *
  have f3 := l2.get (at_end1 h1 (.lst [ins [107,105,110,100] []]) (.lst (T ++ [ins [107,105,110,100] []])) [])
  generalize lowE E (ad + ((T ++ [ins [107,105,110,100] []]).length : Int)) u = U at *
  refine .mk (a := h2.length + 2) (h' := h2 ++ [.lst (T ++ [ins [107,105,110,100] []] ++ U), .lst [ins [115,101,116,95,102,105,101,108,100] [.str f]], .lst (T ++ [ins [107,105,110,100] []] ++ U ++ [ins [115,101,116,95,102,105,101,108,100] [.str f]])]) ?_ (l1.trans ((Le.app _ _).trans (l2.trans (.app _ _)))) (at_end2' _ _ _ _ _)
  simp only [ins, List.length_append, List.length_singleton] at o1 f3 c2 ⊢
  push_cast at c2
  simp! [F__law_plain_code, tsD, c, f1, c2, alloc, at_end, at_end1, o1, f3, f2, show T.length ≤ 16777215 by omega, show T.length + 1 + U.length ≤ 16777216 by omega, show T.length + (U.length + 1) ≤ 16777215 by omega]
theorem pl_sit {E : Ev} (F : E.fit2) (l : Int) (t i u : TE) (o : okE E t = true ∧ okE E i = true ∧ okE E u = true) (g : t.sg ∧ i.sg ∧ u.sg) (hz : t.sz + i.sz + u.sz ≤ 500000) (j : Nat) (hj : t.ht + 5 ≤ j ∧ i.ht + 5 ≤ j ∧ u.ht + 5 ≤ j) (h : LH) (ad : Int) : RL (sitmC E ad t i u) h (callN TT.pr j 30375991152746758025196582204005 [knD E, .int ad, tsD (.sit l t i u)] h) := by
  obtain ⟨k, hk'⟩ : ∃ k', j = k' + 1 := ⟨j - 1, by omega⟩
  subst hk'
  rw [callN_succ fn__law_plain_code rfl]
  obtain ⟨p, h1, c, l1, f1⟩ := lval_ok F t o.1 g.1 (by omega) k (by omega) h ad
  have z1 : (lowE E ad t).length ≤ 500000 := by rw [lowE_len]; omega
  have o1 := at_old f1 [.lst [ins [107,105,110,100] []]]
  obtain ⟨q, h2, c2, l2, f2⟩ := lval_ok F i o.2.1 g.2.1 (by omega) k (by omega) (h1 ++ [.lst [ins [107,105,110,100] []], .lst (lowE E ad t ++ [ins [107,105,110,100] []])]) (ad + (lowE E ad t ++ [ins [107,105,110,100] []]).length)
  have z2 : (lowE E (ad + (lowE E ad t ++ [ins [107,105,110,100] []]).length) i).length ≤ 500000 := by rw [lowE_len]; omega
  have f3 := l2.get (at_end1 h1 (.lst [ins [107,105,110,100] []]) (.lst (lowE E ad t ++ [ins [107,105,110,100] []])) [])
  have ad2 : binop .add (.ref (h1.length + 1)) (.ref q) h2 = some (.ref h2.length, h2 ++ [.lst (sitC1 E ad t i)]) := op_lst f3 f2 (by rw [lowE_len E i]; simp only [List.length_append, lowE_len, List.length_singleton]; omega)
  obtain ⟨q2, h3, c3, l3, f4⟩ := lval_ok F u o.2.2 g.2.2 (by omega) k (by omega) (h2 ++ [.lst (sitC1 E ad t i)]) (ad + (sitC1 E ad t i).length)
  have z3 : (lowE E (ad + (sitC1 E ad t i).length) u).length ≤ 500000 := by rw [lowE_len]; omega
  have z4 : (sitC1 E ad t i).length ≤ 1000001 := by unfold sitC1; simp [lowE_len] at z1 z2 ⊢; omega
  have f5 := at_end h2 (.lst (sitC1 E ad t i)) []
  have f6 := l3.get f5
  have ad3 := op_lst f6 f4 (by omega)
  unfold sitmC
  generalize sitC1 E ad t i = S at *
  generalize lowE E (ad + (S.length : Int)) u = U at *
  refine .mk (a := h3.length + 2) (h' := h3 ++ [.lst (S ++ U), .lst [ins [115,101,116,95,105,116,101,109] []], .lst (S ++ U ++ [ins [115,101,116,95,105,116,101,109] []])]) ?_ (l1.trans ((Le.app _ _).trans (l2.trans ((Le.app _ _).trans (l3.trans (.app _ _)))))) (at_end2' _ _ _ _ _)
  clear f2 f4 f6 z2
  generalize lowE E ad t = T at *
  simp only [ins, List.length_append, List.length_singleton] at o1 f3 c2 ad2 c3 ad3 f5 ⊢
  push_cast at c2
  simp! [F__law_plain_code, tsD, c, f1, c2, alloc, at_end, at_end1, o1, ad2, f5, c3, ad3, show T.length ≤ 16777215 by omega, show S.length + U.length ≤ 16777215 by omega]
theorem nest_if {E : Ev} (j : Nat) (hj : 3 ≤ j) (l ad : Int) (c : TE) (yD nD : List D) (h h1 h2 h3 : LH) (p q r : Nat) (H Y N : List D) (hz : H.length + Y.length + N.length ≤ 900000)
    (c1 : callN TT.pr j 30375991152801311868800101773925 [knD E, .int ad, teD c] h = some (.ref p, h1)) (f1 : h1[p]? = some (.lst H)) (l1 : Le h h1)
    (c2 : callN TT.pr j 30375991152617638671488604959333 [knD E, .int (ad + H.length + 1), .tup yD] h1 = some (.ref q, h2)) (f2 : h2[q]? = some (.lst Y)) (l2 : Le h1 h2)
    (c3 : callN TT.pr j 30375991152617638671488604959333 [knD E, .int (ad + H.length + 1 + Y.length + 1), .tup nD] h2 = some (.ref r, h3)) (f3 : h3[r]? = some (.lst N)) (l3 : Le h2 h3) :
    RL (wl l (H ++ [ins [106,117,109,112,95,110,111,116] [.int (ad + H.length + 1 + Y.length + 1)]]) ++ Y ++ [.tup [.int l, ins [106,117,109,112] [.int (ad + H.length + 1 + Y.length + 1 + N.length)]]] ++ N) h
      (callN TT.pr (j + 1) 3888126867549160583569200167776869 [knD E, .int ad, .tup [.str [105,102], .int l, teD c, .tup yD, .tup nD]] h) := by
  rw [callN_succ fn__law_nested_code rfl]
  generalize hB : ad + (H.length : Int) + 1 + Y.length + 1 = B at *
  have fH := (l2.trans l3).get f1
  have fH0 := l2.get f1
  have fY := l3.get f2
  have w := lpairs_ok j (by omega) l (H ++ [ins [106,117,109,112,95,110,111,116] [.int B]]) (by simp; omega) (h3 ++ [.lst [ins [106,117,109,112,95,110,111,116] [.int B]], .lst (H ++ [ins [106,117,109,112,95,110,111,116] [.int B]])]) (h3.length + 1) (at_end1 _ _ _ _)
  generalize hW : wl l (H ++ [ins [106,117,109,112,95,110,111,116] [.int B]]) = W at w ⊢
  have lW : W.length = H.length + 1 := by rw [← hW]; simp
  refine .mk (a := h3.length + 6) (h' := h3 ++ [.lst [ins [106,117,109,112,95,110,111,116] [.int B]], .lst (H ++ [ins [106,117,109,112,95,110,111,116] [.int B]]), .lst W, .lst (W ++ Y), .lst [.tup [.int l, ins [106,117,109,112] [.int (B + N.length)]]], .lst (W ++ Y ++ [.tup [.int l, ins [106,117,109,112] [.int (B + N.length)]]]), .lst (W ++ Y ++ [.tup [.int l, ins [106,117,109,112] [.int (B + N.length)]]] ++ N)]) ?_ (l1.trans (l2.trans (l3.trans (.app _ _)))) (at_end6 _ _ _ _ _ _ _ _ _)
  simp only [ins, List.length_append, List.length_cons, List.length_nil, List.append_assoc, List.cons_append, List.nil_append, Nat.zero_add, Nat.reduceAdd] at w ⊢
  simp! [F__law_nested_code, c1, f1, c2, f2, fH0, hB, c3, f3, alloc, at_end, at_end1, at_end3, at_end4, at_end5, at_old fH, w, at_old fY, at_old f3, show H.length ≤ 16777215 by omega, show W.length + Y.length ≤ 16777216 by omega, show W.length + Y.length ≤ 16777215 by omega, show W.length + (Y.length + 1) + N.length ≤ 16777216 by omega]
theorem nest_while {E : Ev} (j : Nat) (hj : 3 ≤ j) (l ad : Int) (c : TE) (bD : List D) (h h1 h3 : LH) (p q : Nat) (H B : List D) (hz : H.length + B.length ≤ 900000)
    (c1 : callN TT.pr j 30375991152801311868800101773925 [knD E, .int (ad + 1), teD c] h = some (.ref p, h1)) (f1 : h1[p]? = some (.lst H)) (l1 : Le h h1)
    (c2 : callN TT.pr j 30375991152617638671488604959333 [knD E, .int (ad + 1 + H.length + 1), .tup bD] h1 = some (.ref q, h3)) (f2 : h3[q]? = some (.lst B)) (l2 : Le h1 h3) :
    RL (wl l ([ins [108,111,111,112] [.int (ad + 1 + H.length + 1 + B.length + 1 + 1)]] ++ H ++ [ins [106,117,109,112,95,110,111,116] [.int (ad + 1 + H.length + 1 + B.length + 1)]]) ++ B ++ wl l [ins [106,117,109,112] [.int (ad + 1)], ins [101,110,100,95,108,111,111,112] []]) h
      (callN TT.pr (j + 1) 3888126867549160583569200167776869 [knD E, .int ad, .tup [.str [119,104,105,108,101], .int l, teD c, .tup bD]] h) := by
  rw [callN_succ fn__law_nested_code rfl]
  have e0 : ad + 1 + (H.length : Int) + 1 = ad + H.length + 2 := by omega
  rw [e0] at c2 ⊢
  generalize hB : ad + (H.length : Int) + 2 + B.length = A at *
  have e1 : A + 1 + 1 = A + 2 := by omega
  rw [e1]
  have fH := l2.get f1
  generalize hK : [ins [108,111,111,112] [.int (A + 2)]] ++ H ++ [ins [106,117,109,112,95,110,111,116] [.int (A + 1)]] = K
  have lK : K.length = H.length + 2 := by rw [← hK]; simp
  have w := lpairs_ok j (by omega) l K (by omega) (h3 ++ [.lst [ins [108,111,111,112] [.int (A + 2)]], .lst ([ins [108,111,111,112] [.int (A + 2)]] ++ H), .lst [ins [106,117,109,112,95,110,111,116] [.int (A + 1)]], .lst K]) (h3.length + 3) (at_end3 _ _ _ _ _ _)
  generalize hW : wl l K = W at w ⊢
  have lW : W.length = H.length + 2 := by rw [← hW]; simp [lK]
  have w2 := lpairs_ok j (by omega) l [ins [106,117,109,112] [.int (ad + 1)], ins [101,110,100,95,108,111,111,112] []] (by simp) (h3 ++ [.lst [ins [108,111,111,112] [.int (A + 2)]], .lst ([ins [108,111,111,112] [.int (A + 2)]] ++ H), .lst [ins [106,117,109,112,95,110,111,116] [.int (A + 1)]], .lst K, .lst W, .lst (W ++ B), .lst [ins [106,117,109,112] [.int (ad + 1)], ins [101,110,100,95,108,111,111,112] []]]) (h3.length + 6) (at_end6 _ _ _ _ _ _ _ _ _)
  generalize hV : wl l [ins [106,117,109,112] [.int (ad + 1)], ins [101,110,100,95,108,111,111,112] []] = V at w2 ⊢
  have lV : V.length = 2 := by rw [← hV]; simp
  refine .mk (a := h3.length + 8) (h' := h3 ++ [.lst [ins [108,111,111,112] [.int (A + 2)]], .lst ([ins [108,111,111,112] [.int (A + 2)]] ++ H), .lst [ins [106,117,109,112,95,110,111,116] [.int (A + 1)]], .lst K, .lst W, .lst (W ++ B), .lst [ins [106,117,109,112] [.int (ad + 1)], ins [101,110,100,95,108,111,111,112] []], .lst V, .lst (W ++ B ++ V)]) ?_ (l1.trans (l2.trans (.app _ _))) (by rw [List.getElem?_append_right (by omega), show h3.length + 8 - h3.length = 8 by omega]; rfl)
  have k7 : ∀ (o o1 o2 o3 o4 o5 o6 o7 : LO) (r : LH), (h3 ++ o :: o1 :: o2 :: o3 :: o4 :: o5 :: o6 :: o7 :: r)[h3.length + 7]? = some o7 := fun _ _ _ _ _ _ _ _ _ => by rw [List.getElem?_append_right (by omega), show h3.length + 7 - h3.length = 7 by omega]; rfl
  simp only [ins, List.length_append, List.length_cons, List.length_nil, List.append_assoc, List.cons_append, List.nil_append, Nat.zero_add, Nat.reduceAdd] at w w2 hK ⊢
  simp! [F__law_nested_code, c1, f1, c2, f2, hB, alloc, at_end, at_end1, at_end2', at_end3, at_end4, at_end5, at_end6, k7, fH, at_old fH, at_old f2, hK, w, w2, show 1 + H.length ≤ 16777216 by omega, show H.length ≤ 16777214 by omega, show W.length + B.length ≤ 16777216 by omega, show W.length + B.length + V.length ≤ 16777216 by omega]
theorem nest_try {E : Ev} (F : E.fit2) (j : Nat) (hj : 3 ≤ j) (l ad : Int) (x : Nm) (sx : sgn x) (hv : vr E x) (bD cD : List D) (h h1 h3 : LH) (p q : Nat) (B C : List D) (hz : B.length + C.length ≤ 900000)
    (c1 : callN TT.pr j 30375991152617638671488604959333 [knD E, .int (ad + 1), .tup bD] h = some (.ref p, h1)) (f1 : h1[p]? = some (.lst B)) (l1 : Le h h1)
    (c2 : callN TT.pr j 30375991152617638671488604959333 [knD E, .int (ad + 1 + B.length + 2 + 1), .tup cD] h1 = some (.ref q, h3)) (f2 : h3[q]? = some (.lst C)) (l2 : Le h1 h3) :
    RL ([.tup [.int l, ins [103,117,97,114,100] [.int (ad + 1 + B.length + 2)]]] ++ B ++ wl l [ins [117,110,103,117,97,114,100] [], ins [106,117,109,112] [.int (ad + 1 + B.length + 2 + 1 + C.length)], storeD E x] ++ C) h
      (callN TT.pr (j + 1) 3888126867549160583569200167776869 [knD E, .int ad, .tup [.str [116,114,121], .int l, .tup bD, .str x, .tup cD]] h) := by
  rw [callN_succ fn__law_nested_code rfl]
  have e0 : ad + 1 + (B.length : Int) + 2 + 1 = ad + 1 + B.length + 3 := by omega
  rw [e0] at c2 ⊢
  generalize hB : ad + 1 + (B.length : Int) = A at *
  have fH := l2.get f1
  have vv := fun h => lvar_ok j (by omega) F sx hv h
  generalize hK : [ins [117,110,103,117,97,114,100] [], ins [106,117,109,112] [.int (A + 3 + C.length)], storeD E x] = K
  have lK : K.length = 3 := by rw [← hK]; rfl
  have w := lpairs_ok j (by omega) l K (by omega) (h3 ++ [.lst K]) h3.length (at_end _ _ _)
  generalize hW : wl l K = W at w ⊢
  have lW : W.length = 3 := by rw [← hW]; simp [lK]
  refine .mk (a := h3.length + 5) (h' := h3 ++ [.lst K, .lst W, .lst [.tup [.int l, ins [103,117,97,114,100] [.int (A + 2)]]], .lst ([.tup [.int l, ins [103,117,97,114,100] [.int (A + 2)]]] ++ B), .lst ([.tup [.int l, ins [103,117,97,114,100] [.int (A + 2)]]] ++ B ++ W), .lst ([.tup [.int l, ins [103,117,97,114,100] [.int (A + 2)]]] ++ B ++ W ++ C)]) ?_ (l1.trans (l2.trans (.app _ _))) (at_end5 _ _ _ _ _ _ _ _)
  simp only [ins, storeD, List.length_append, List.length_cons, List.length_nil, List.append_assoc, List.cons_append, List.nil_append, Nat.zero_add, Nat.reduceAdd] at w hK ⊢
  simp! [F__law_nested_code, c1, f1, c2, f2, hB, vv, alloc, at_end, at_end1, at_end2', at_end3, at_end4, at_end5, fH, at_old fH, at_old f2, hK, w, show K.length ≤ 16777216 by omega, show 1 + B.length ≤ 16777216 by omega, show B.length + W.length + 1 + C.length ≤ 16777216 by omega, show B.length + 1 + W.length ≤ 16777216 by omega]
theorem knD_ctr (E : Ev) (x : Nm) : knD (E.counting x) = .tup [ownD E.own, namesD E.top, .tup (.str x :: E.ctr.reverse.map D.str), namesD (E.procs.map (·.1))] := by
  simp [knD, Ev.counting, namesD]
theorem nest_for {E : Ev} (F : E.fit2) (j : Nat) (hj : 3 ≤ j) (l ad : Int) (x : Nm) (lo hi : TE) (bD : List D) (ah : Bool) (h h1 h2 h3 : LH) (p q r : Nat) (L H B : List D) (hz : L.length + H.length + B.length ≤ 900000)
    (c1 : callN TT.pr j 30375991152801311868800101773925 [knD E, .int ad, teD lo] h = some (.ref p, h1)) (f1 : h1[p]? = some (.lst L)) (l1 : Le h h1)
    (c2 : callN TT.pr j 30375991152801311868800101773925 [knD E, .int (ad + L.length), teD hi] h1 = some (.ref q, h2)) (f2 : h2[q]? = some (.lst H)) (l2 : Le h1 h2)
    (S : Int) (hS : S = ad + (L ++ H).length + 1 + (if ah then 2 else 1))
    (c3 : callN TT.pr j 30375991152617638671488604959333 [knD (E.counting x), .int S, .tup bD] (h2 ++ [.lst (L ++ H)]) = some (.ref r, h3)) (f3 : h3[r]? = some (.lst B)) (l3 : Le (h2 ++ [.lst (L ++ H)]) h3) :
    RL (if ah then wl l (L ++ H ++ [ins [101,97,99,104] [.int (S + B.length + 1 + 2)], ins [116,101,115,116] [.int (S + B.length + 1 + 1)]]) ++ ([.tup [.int l, ins [115,112,97,119,110] [.int (S + B.length + 1)]]] ++ B ++ [.tup [.int l, ins [102,105,110,105,115,104] []]]) ++ wl l [ins [110,101,120,116] [.int (ad + (L ++ H).length + 1)], ins [101,110,100,95,108,111,111,112] []]
      else wl l (L ++ H ++ [ins [101,97,99,104] [.int (S + B.length + 2)], ins [116,101,115,116] [.int (S + B.length + 1)]]) ++ B ++ wl l [ins [110,101,120,116] [.int (ad + (L ++ H).length + 1)], ins [101,110,100,95,108,111,111,112] []]) h
      (callN TT.pr (j + 1) 3888126867549160583569200167776869 [knD E, .int ad, .tup [.str [102,111,114], .int l, .str x, teD lo, teD hi, .tup bD, .bl ah]] h) := by
  rw [callN_succ fn__law_nested_code rfl]
  have ad1 := op_lst (l2.get f1) f2 (by omega)
  generalize hT : L ++ H = T at *
  have lT : T.length = L.length + H.length := by rw [← hT]; simp
  have l3' : Le h2 h3 := (Le.app _ _).trans l3
  have g2 := at_end h2 (.lst T) []
  have g3 := l3.get g2
  rw [knD_ctr] at c3
  have k0 := kn_0 E
  have k1 := kn_1 E
  have k2 : ∀ h, getix TT.pr (knD E) (.int 2) h = some (.tup (E.ctr.reverse.map D.str)) := fun h => rfl
  have k3 := kn_3 E
  have lR : (E.ctr.reverse.map D.str).length ≤ 900 := by have := F.F.ctr; simp; omega
  generalize E.ctr.reverse.map D.str = R at *
  generalize knD E = K0 at *
  generalize ownD E.own = O at *
  generalize namesD E.top = TP at *
  generalize namesD (E.procs.map (·.1)) = PR at *
  generalize hTe : ad + (T.length : Int) + 1 = Te at *
  have w2' := fun (X : LH) (i : Nat) (hi : (h3 ++ X)[i]? = some (.lst [ins [110,101,120,116] [.int Te], ins [101,110,100,95,108,111,111,112] []])) => lpairs_ok j (by omega) l [ins [110,101,120,116] [.int Te], ins [101,110,100,95,108,111,111,112] []] (by simp) (h3 ++ X) i hi
  generalize hV : wl l [ins [110,101,120,116] [.int Te], ins [101,110,100,95,108,111,111,112] []] = V at w2' ⊢
  have lV : V.length = 2 := by rw [← hV]; simp
  cases ah with
  | false =>
    have hS1 : S = ad + T.length + 2 := by rw [hS, ← hTe]; simp; omega
    rw [hS1] at c3
    generalize hA : ad + (T.length : Int) + 2 + B.length = A at *
    have a1 : S + B.length + 1 = A + 1 := by rw [hS1, hA]
    have a2 : S + B.length + 2 = A + 2 := by rw [hS1, hA]
    simp only [Bool.false_eq_true, if_false, a1, a2]
    generalize hK : T ++ [ins [101,97,99,104] [.int (A + 2)], ins [116,101,115,116] [.int (A + 1)]] = K
    have lK : K.length = T.length + 2 := by rw [← hK]; simp
    have w := lpairs_ok j (by omega) l K (by omega) (h3 ++ [.lst [ins [101,97,99,104] [.int (A + 2)], ins [116,101,115,116] [.int (A + 1)]], .lst K]) (h3.length + 1) (at_end1 _ _ _ _)
    generalize hW : wl l K = W at w ⊢
    have lW : W.length = K.length := by rw [← hW]; simp
    have w2 := w2' [.lst [ins [101,97,99,104] [.int (A + 2)], ins [116,101,115,116] [.int (A + 1)]], .lst K, .lst W, .lst (W ++ B), .lst [ins [110,101,120,116] [.int Te], ins [101,110,100,95,108,111,111,112] []]] (h3.length + 4) (at_end4 _ _ _ _ _ _ _)
    clear w2'
    refine .mk (a := h3.length + 6) (h' := h3 ++ [.lst [ins [101,97,99,104] [.int (A + 2)], ins [116,101,115,116] [.int (A + 1)]], .lst K, .lst W, .lst (W ++ B), .lst [ins [110,101,120,116] [.int Te], ins [101,110,100,95,108,111,111,112] []], .lst V, .lst (W ++ B ++ V)]) ?_ (l1.trans (l2.trans (l3'.trans (.app _ _)))) (at_end6 _ _ _ _ _ _ _ _ _)
    simp only [ins, List.length_append, List.length_cons, List.length_nil, List.append_assoc, List.cons_append, List.nil_append, Nat.zero_add, Nat.reduceAdd] at w w2 hK ⊢
    simp! [F__law_nested_code, c1, f1, c2, ad1, g2, k0, k1, k2, k3, hTe, c3, f3, hA, g3, at_old g3, at_old f3, alloc, at_end, at_end1, at_end2', at_end3, at_end4, at_end5, hK, w, w2, show 1 + R.length ≤ 16777216 by omega, show T.length ≤ 16777214 by omega, show W.length + B.length ≤ 16777216 by omega, show W.length + B.length + V.length ≤ 16777216 by omega]
  | true =>
    have hS1 : S = ad + T.length + 2 + 1 := by rw [hS, ← hTe]; simp; omega
    rw [hS1] at c3
    generalize hA : ad + (T.length : Int) + 2 + 2 + B.length = A at *
    have a1 : S + B.length + 1 + 1 = A + 1 := by omega
    have a2 : S + B.length + 1 + 2 = A + 2 := by omega
    have a3 : S + B.length + 1 = A := by omega
    simp only [if_true, a1, a2, a3]
    generalize hI : [D.tup [.int l, ins [115,112,97,119,110] [.int A]]] ++ B ++ [.tup [.int l, ins [102,105,110,105,115,104] []]] = I
    have lI : I.length = B.length + 2 := by rw [← hI]; simp
    generalize hK : T ++ [ins [101,97,99,104] [.int (A + 2)], ins [116,101,115,116] [.int (A + 1)]] = K
    have lK : K.length = T.length + 2 := by rw [← hK]; simp
    have w := lpairs_ok j (by omega) l K (by omega) (h3 ++ [.lst [.tup [.int l, ins [115,112,97,119,110] [.int A]]], .lst ([.tup [.int l, ins [115,112,97,119,110] [.int A]]] ++ B), .lst [.tup [.int l, ins [102,105,110,105,115,104] []]], .lst I, .lst [ins [101,97,99,104] [.int (A + 2)], ins [116,101,115,116] [.int (A + 1)]], .lst K]) (h3.length + 5) (at_end5 _ _ _ _ _ _ _ _)
    generalize hW : wl l K = W at w ⊢
    have lW : W.length = K.length := by rw [← hW]; simp
    have k8 : ∀ (o o1 o2 o3 o4 o5 o6 o7 o8 : LO) (r : LH), (h3 ++ o :: o1 :: o2 :: o3 :: o4 :: o5 :: o6 :: o7 :: o8 :: r)[h3.length + 8]? = some o8 := fun _ _ _ _ _ _ _ _ _ _ => by rw [List.getElem?_append_right (by omega), show h3.length + 8 - h3.length = 8 by omega]; rfl
    have k7 : ∀ (o o1 o2 o3 o4 o5 o6 o7 : LO) (r : LH), (h3 ++ o :: o1 :: o2 :: o3 :: o4 :: o5 :: o6 :: o7 :: r)[h3.length + 7]? = some o7 := fun _ _ _ _ _ _ _ _ _ => by rw [List.getElem?_append_right (by omega), show h3.length + 7 - h3.length = 7 by omega]; rfl
    have k9 : ∀ (o o1 o2 o3 o4 o5 o6 o7 o8 o9 : LO) (r : LH), (h3 ++ o :: o1 :: o2 :: o3 :: o4 :: o5 :: o6 :: o7 :: o8 :: o9 :: r)[h3.length + 9]? = some o9 := fun _ _ _ _ _ _ _ _ _ _ _ => by rw [List.getElem?_append_right (by omega), show h3.length + 9 - h3.length = 9 by omega]; rfl
    have k10 : ∀ (o o1 o2 o3 o4 o5 o6 o7 o8 o9 o10 : LO) (r : LH), (h3 ++ o :: o1 :: o2 :: o3 :: o4 :: o5 :: o6 :: o7 :: o8 :: o9 :: o10 :: r)[h3.length + 10]? = some o10 := fun _ _ _ _ _ _ _ _ _ _ _ _ => by rw [List.getElem?_append_right (by omega), show h3.length + 10 - h3.length = 10 by omega]; rfl
    have w2 := w2' [.lst [.tup [.int l, ins [115,112,97,119,110] [.int A]]], .lst ([.tup [.int l, ins [115,112,97,119,110] [.int A]]] ++ B), .lst [.tup [.int l, ins [102,105,110,105,115,104] []]], .lst I, .lst [ins [101,97,99,104] [.int (A + 2)], ins [116,101,115,116] [.int (A + 1)]], .lst K, .lst W, .lst (W ++ I), .lst [ins [110,101,120,116] [.int Te], ins [101,110,100,95,108,111,111,112] []]] (h3.length + 8) (k8 _ _ _ _ _ _ _ _ _ _)
    clear w2'
    refine .mk (a := h3.length + 10) (h' := h3 ++ [.lst [.tup [.int l, ins [115,112,97,119,110] [.int A]]], .lst ([.tup [.int l, ins [115,112,97,119,110] [.int A]]] ++ B), .lst [.tup [.int l, ins [102,105,110,105,115,104] []]], .lst I, .lst [ins [101,97,99,104] [.int (A + 2)], ins [116,101,115,116] [.int (A + 1)]], .lst K, .lst W, .lst (W ++ I), .lst [ins [110,101,120,116] [.int Te], ins [101,110,100,95,108,111,111,112] []], .lst V, .lst (W ++ I ++ V)]) ?_ (l1.trans (l2.trans (l3'.trans (.app _ _)))) (k10 _ _ _ _ _ _ _ _ _ _ _ _)
    simp only [ins, List.length_append, List.length_cons, List.length_nil, List.append_assoc, List.cons_append, List.nil_append, Nat.zero_add, Nat.reduceAdd] at w w2 hK hI ⊢
    simp! [F__law_nested_code, c1, f1, c2, ad1, g2, k0, k1, k2, k3, hTe, c3, f3, hA, g3, at_old g3, at_old f3, alloc, at_end, at_end1, at_end2', at_end3, at_end4, at_end5, at_end6, k7, k8, k9, hK, hI, w, w2, show 1 + R.length ≤ 16777216 by omega, show T.length ≤ 16777214 by omega, show 1 + B.length ≤ 16777216 by omega, show B.length ≤ 16777214 by omega, show W.length + I.length ≤ 16777216 by omega, show W.length + I.length + V.length ≤ 16777216 by omega]
theorem Ev.within_fit2 {E : Ev} (F : E.fit2) : E.within.fit2 := ⟨Ev.within_fit F.F, F.top, F.own⟩
theorem Ev.counting_fit2 {E : Ev} (F : E.fit2) {x : Nm} (sx : sgn x) (hc : E.ctr.length + 1 < 900) : (E.counting x).fit2 := ⟨Ev.counting_fit F.F sx hc, F.top, F.own⟩
theorem vr_win {E : Ev} {y : Nm} (h : vr E y) : vr E.within y := h
noncomputable def frB4 : Sms → Sms
  | .cons _ (.cons (.fr _ _ b) _) => b
  | _ => .nil
noncomputable def bkF (j : Nat) : Lc → LH → Option (Fl × Lc × LH) := bodyF TT.pr (callN TT.pr j) (frB4 F__law_block_code.body)
theorem bkF_ap (j : Nat) (σ : Lc) (h : LH) : bkF j σ h = evSs TT.pr (callN TT.pr j) (frB4 F__law_block_code.body) σ h := rfl
noncomputable def nestL : LO := .lst [.str [105,102], .str [119,104,105,108,101], .str [102,111,114], .str [116,114,121]]
/-- one turn of the walk over a block -/
noncomputable def Turn (E : Ev) (j : Nat) (ad : Int) (acc : List D) (s : TS) : Prop := ∀ (h : LH) (p : Nat) (f : h[p]? = some (.lst acc)) (b : D) (d : Option D),
  ∃ p' h' d', ((tgF (.nm 4) (tsD s) [some (knD E), some (.int ad), some b, some (.ref p), d]).bind fun σ1 => bkF j σ1 h) = some (.nx, [some (knD E), some (.int ad), some b, some (.ref p'), d'], h') ∧ Le h h' ∧ h'[p']? = some (.lst (acc ++ lowS E (ad + acc.length) s))
theorem turn_plain {E : Ev} (j : Nat) (hj : 2 ≤ j) (ad : Int) (acc : List D) (s : TS) (k : Nm) (l : Int) (r : List D) (e : tsD s = .tup (.str k :: .int l :: r)) (nk : k = [118,97,114] ∨ k = [115,101,116] ∨ k = [115,101,116,95,102,105,101,108,100] ∨ k = [115,101,116,95,105,116,101,109] ∨ k = [99,97,108,108] ∨ k = [98,114,101,97,107] ∨ k = [114,101,116,117,114,110] ∨ k = [116,104,114,111,119] ∨ k = [112,114,105,110,116]) (C : List D) (hC : lowS E (ad + acc.length) s = wl l C) (hz : acc.length + C.length ≤ 1000000)
    (w : ∀ h, RL C h (callN TT.pr j 30375991152746758025196582204005 [knD E, .int (ad + acc.length), tsD s] h)) : Turn E j ad acc s := by
  intro h p f b d
  obtain ⟨q, h1, c, l1, f1⟩ := w (h ++ [nestL])
  rw [hC]
  have pp := lpairs_ok j (by omega) l C (by omega) h1 q f1
  have f2 := l1.get (at_old f [nestL])
  have ad1 := op_lst (at_old f2 [.lst (wl l C)]) (at_end h1 (.lst (wl l C)) []) (by simp; omega)
  refine ⟨h1.length + 1, h1 ++ [.lst (wl l C), .lst (acc ++ wl l C)], some (tsD s), ?_, (Le.app _ _).trans (l1.trans (.app _ _)), at_end1 _ _ _ _⟩
  rw [e] at c ⊢
  simp only [List.length_append, List.length_cons, List.length_nil, List.append_assoc, List.cons_append, List.nil_append, Nat.zero_add, nestL] at c ad1
  rcases nk with rfl | rfl | rfl | rfl | rfl | rfl | rfl | rfl | rfl <;> simp! [bkF_ap, frB4, F__law_block_code, alloc, at_end, at_old f, f, c, pp, ad1]
theorem turn_nest {E : Ev} (j : Nat) (hj : 2 ≤ j) (ad : Int) (acc : List D) (s : TS) (k : Nm) (r : List D) (e : tsD s = .tup (.str k :: r)) (nk : k = [105,102] ∨ k = [119,104,105,108,101] ∨ k = [102,111,114] ∨ k = [116,114,121]) (hz : acc.length + (lowS E (ad + acc.length) s).length ≤ 1000000)
    (w : ∀ h, RL (lowS E (ad + acc.length) s) h (callN TT.pr j 3888126867549160583569200167776869 [knD E, .int (ad + acc.length), tsD s] h)) : Turn E j ad acc s := by
  intro h p f b d
  obtain ⟨q, h1, c, l1, f1⟩ := w (h ++ [nestL])
  have f2 := l1.get (at_old f [nestL])
  generalize lowS E (ad + acc.length) s = C at *
  have ad1 := op_lst f2 f1 (by omega)
  refine ⟨h1.length, h1 ++ [.lst (acc ++ C)], some (tsD s), ?_, (Le.app _ _).trans (l1.trans (.app _ _)), at_end _ _ _⟩
  rw [e] at c ⊢
  simp only [nestL] at c
  rcases nk with rfl | rfl | rfl | rfl <;> simp! [bkF_ap, frB4, F__law_block_code, alloc, at_end, at_old f, f, c, ad1]
mutual
theorem lstm : ∀ (s : TS) {E : Ev} (F : E.fit2) (m : Nat) (lc : E.ctr.length + m < 900) (hm : s.ht ≤ m) (g : s.sg) (o : okS E s = true) (hd : ∀ x ∈ decS s, vr E x) (acc : List D) (hz : acc.length + s.sz ≤ 400000) (j : Nat) (hj : 2 * s.ht + 8 ≤ j) (ad : Int), Turn E j ad acc s
  | .asg v l x r, E, F, m, lc, hm, g, o, hd, acc, hz, j, hj, ad => by
    simp only [TS.sz, TS.ht] at hz hj
    simp only [okS, Bool.and_eq_true] at o
    have hv : vr E x := by
      cases v with
      | true => exact hd x (by simp [decS])
      | false =>
        have o2 := o.2
        have o3 := o.1.2
        unfold vr
        cases q : E.counter x with
        | none => rw [q] at o2; simpa using o2
        | some i => rw [q] at o3; cases o3
    exact turn_plain j (by omega) ad acc _ (asS v) l [.str x, trD r] rfl (by cases v <;> simp [asS]) (rightC E (ad + acc.length) (storeD E x) r) rfl (by rw [rightC_len]; omega) fun h => pl_asg F v l x r g.1 g.2 o.1.1 hv (by omega) j (by omega) h _
  | .sfl l t f u, E, F, m, lc, hm, g, o, hd, acc, hz, j, hj, ad => by
    simp only [TS.sz, TS.ht] at hz hj
    simp only [okS, Bool.and_eq_true] at o
    exact turn_plain j (by omega) ad acc _ [115,101,116,95,102,105,101,108,100] l [teD t, .str f, teD u] rfl (by simp) (sfldC E (ad + acc.length) t f u) rfl (by simp [sfldC, lowE_len]; omega) fun h => pl_sfl F l t f u ⟨o.1.1, o.2⟩ ⟨g.1, g.2.2⟩ (by omega) j (by omega) h _
  | .sit l t i u, E, F, m, lc, hm, g, o, hd, acc, hz, j, hj, ad => by
    simp only [TS.sz, TS.ht] at hz hj
    simp only [okS, Bool.and_eq_true] at o
    exact turn_plain j (by omega) ad acc _ [115,101,116,95,105,116,101,109] l [teD t, teD i, teD u] rfl (by simp) (sitmC E (ad + acc.length) t i u) rfl (by simp [sitmC, sitC1, lowE_len]; omega) fun h => pl_sit F l t i u ⟨o.1.1, o.1.2, o.2⟩ g (by omega) j (by omega) h _
  | .cal l p as ah, E, F, m, lc, hm, g, o, hd, acc, hz, j, hj, ad => by
    simp only [TS.sz, TS.ht, csz] at hz hj
    simp only [okS] at o
    exact turn_plain j (by omega) ad acc _ [99,97,108,108] l [.str p, .tup (as.map teD), .bl ah] rfl (by simp) (callC E (ad + acc.length) p as ah (ins [100,114,111,112] [])) rfl (by rw [callC_len, csz]; omega) fun h => pl_cal F l p as ah o g.1 g.2 (by omega) j (by omega) h _
  | .val k l t, E, F, m, lc, hm, g, o, hd, acc, hz, j, hj, ad => by
    simp only [TS.sz, TS.ht] at hz hj
    simp only [okS, Bool.and_eq_true] at o
    exact turn_plain j (by omega) ad acc _ k.s l [teD t] rfl (by cases k <;> simp [Vk.s]) (lowE E (ad + acc.length) t ++ [ins k.s []]) rfl (by simp [lowE_len]; omega) fun h => pl_val F k l t o.2 g (by omega) j (by omega) h _
  | .brk l, E, F, m, lc, hm, g, o, hd, acc, hz, j, hj, ad => by
    simp only [TS.sz] at hz
    exact turn_plain j (by omega) ad acc _ [98,114,101,97,107] l [] rfl (by simp) [ins [98,114,101,97,107] []] rfl (by simp; omega) fun h => pl_brk l j (by omega) h _
  | .ite l c y u, E, F, m, lc, hm, g, o, hd, acc, hz, j, hj, ad => by
    simp only [TS.sz, TS.ht] at hz hj hm
    simp only [okS, Bool.and_eq_true] at o
    refine turn_nest j (by omega) ad acc _ [105,102] [.int l, teD c, .tup (tssD y), .tup (tssD u)] rfl (by simp) (by rw [lowS_len, TS.sz]; omega) fun h => ?_
    generalize ad + (acc.length : Int) = ad
    obtain ⟨k, rfl⟩ : ∃ k, j = k + 1 := ⟨j - 1, by omega⟩
    obtain ⟨p, h1, c1, l1, f1⟩ := lval_ok F c o.1.1 g.1 (by omega) k (by omega) h ad
    obtain ⟨q, h2, c2, l2, f2⟩ := lblk y F m lc (by omega) g.2.1 o.1.2 (fun x hx => hd x (by simp [decS, hx])) (by omega) k (by omega) h1 (ad + (lowE E ad c).length + 1)
    obtain ⟨r, h3, c3, l3, f3⟩ := lblk u F m lc (by omega) g.2.2 o.2 (fun x hx => hd x (by simp [decS, hx])) (by omega) k (by omega) h2 (ad + (lowE E ad c).length + 1 + (lowB E (ad + (lowE E ad c).length + 1) [] y).length + 1)
    exact nest_if (E := E) k (by omega) l ad c (tssD y) (tssD u) h h1 h2 h3 p q r _ _ _ (by rw [lowE_len, lowB_len, lowB_len]; simp only [List.length_nil]; omega) c1 f1 l1 c2 f2 l2 c3 f3 l3
  | .whl l c b, E, F, m, lc, hm, g, o, hd, acc, hz, j, hj, ad => by
    simp only [TS.sz, TS.ht] at hz hj hm
    simp only [okS, Bool.and_eq_true] at o
    refine turn_nest j (by omega) ad acc _ [119,104,105,108,101] [.int l, teD c, .tup (tssD b)] rfl (by simp) (by rw [lowS_len, TS.sz]; omega) fun h => ?_
    generalize ad + (acc.length : Int) = ad
    obtain ⟨k, rfl⟩ : ∃ k, j = k + 1 := ⟨j - 1, by omega⟩
    obtain ⟨p, h1, c1, l1, f1⟩ := lval_ok F c o.1 g.1 (by omega) k (by omega) h (ad + 1)
    obtain ⟨q, h2, c2, l2, f2⟩ := lblk b (Ev.within_fit2 F) m lc (by omega) g.2 o.2 (fun x hx => hd x hx) (by omega) k (by omega) h1 (ad + 1 + (lowE E (ad + 1) c).length + 1)
    exact nest_while (E := E) k (by omega) l ad c (tssD b) h h1 h2 p q _ _ (by rw [lowE_len, lowB_len]; simp only [List.length_nil]; omega) c1 f1 l1 c2 f2 l2
  | .for_ l x lo hi b ah, E, F, m, lc, hm, g, o, hd, acc, hz, j, hj, ad => by
    simp only [TS.sz, TS.ht] at hz hj hm
    simp only [okS, Bool.and_eq_true] at o
    refine turn_nest j (by omega) ad acc _ [102,111,114] [.int l, .str x, teD lo, teD hi, .tup (tssD b), .bl ah] rfl (by simp) (by rw [lowS_len, TS.sz]; omega) fun h => ?_
    generalize ad + (acc.length : Int) = ad
    obtain ⟨k, rfl⟩ : ∃ k, j = k + 1 := ⟨j - 1, by omega⟩
    obtain ⟨p, h1, c1, l1, f1⟩ := lval_ok F lo o.1.1.1 g.2.1 (by omega) k (by omega) h ad
    obtain ⟨q, h2, c2, l2, f2⟩ := lval_ok F hi o.1.1.2 g.2.2.1 (by omega) k (by omega) h1 (ad + (lowE E ad lo).length)
    obtain ⟨r, h3, c3, l3, f3⟩ := lblk b (Ev.counting_fit2 F g.1 (by omega)) (m - 1) (by simp [Ev.counting]; omega) (by omega) g.2.2.2 o.2 (fun x hx => hd x hx) (by omega) k (by omega) (h2 ++ [.lst (lowE E ad lo ++ lowE E (ad + (lowE E ad lo).length) hi)]) (ad + (lowE E ad lo ++ lowE E (ad + (lowE E ad lo).length) hi).length + 1 + (if ah then 2 else 1))
    have K := nest_for F k (by omega) l ad x lo hi (tssD b) ah h h1 h2 h3 p q r _ _ _ (by rw [lowE_len, lowE_len, lowB_len]; simp only [List.length_nil]; omega) c1 f1 l1 c2 f2 l2 _ rfl c3 f3 l3
    cases ah <;> exact K
  | .try_ l b x c, E, F, m, lc, hm, g, o, hd, acc, hz, j, hj, ad => by
    simp only [TS.sz, TS.ht] at hz hj hm
    simp only [okS, Bool.and_eq_true] at o
    refine turn_nest j (by omega) ad acc _ [116,114,121] [.int l, .tup (tssD b), .str x, .tup (tssD c)] rfl (by simp) (by rw [lowS_len, TS.sz]; omega) fun h => ?_
    generalize ad + (acc.length : Int) = ad
    obtain ⟨k, rfl⟩ : ∃ k, j = k + 1 := ⟨j - 1, by omega⟩
    obtain ⟨p, h1, c1, l1, f1⟩ := lblk b F m lc (by omega) g.1 o.1.1 (fun x hx => hd x (by simp [decS, hx])) (by omega) k (by omega) h (ad + 1)
    obtain ⟨q, h2, c2, l2, f2⟩ := lblk c F m lc (by omega) g.2.2 o.2 (fun x hx => hd x (by simp [decS, hx])) (by omega) k (by omega) h1 (ad + 1 + (lowB E (ad + 1) [] b).length + 2 + 1)
    exact nest_try F k (by omega) l ad x g.2.1 (hd x (by simp [decS])) (tssD b) (tssD c) h h1 h2 p q _ _ (by rw [lowB_len, lowB_len]; simp only [List.length_nil]; omega) c1 f1 l1 c2 f2 l2
theorem lblk : ∀ (r : TSs) {E : Ev} (F : E.fit2) (m : Nat) (lc : E.ctr.length + m < 900) (hm : r.ht ≤ m) (g : r.sg) (o : okSs E r = true) (hd : ∀ x ∈ decB r, vr E x) (hz : r.sz ≤ 400000) (j : Nat) (hj : 2 * r.ht + 9 ≤ j) (h : LH) (ad : Int), RL (lowB E ad [] r) h (callN TT.pr j 30375991152617638671488604959333 [knD E, .int ad, .tup (tssD r)] h)
  | r, E, F, m, lc, hm, g, o, hd, hz, j, hj, h, ad => by
    obtain ⟨j', hk'⟩ : ∃ k', j = k' + 1 := ⟨j - 1, by omega⟩
    subst hk'
    rw [callN_succ fn__law_block_code rfl]
    obtain ⟨p, h1, ⟨d, e⟩, l1, f1⟩ := lrow r F m lc hm g o hd [] (by simpa using hz) j' (by omega) (h ++ [.lst []]) ad h.length (at_end _ _ _) (tssD r) (.tup (tssD r)) none
    refine .mk (a := p) (h' := h1) ?_ ((Le.app _ _).trans l1) f1
    simp only [bkF, frB4, F__law_block_code] at e
    simp! [F__law_block_code, alloc]
    rw [e]
    rfl
theorem lrow : ∀ (r : TSs) {E : Ev} (F : E.fit2) (m : Nat) (lc : E.ctr.length + m < 900) (hm : r.ht ≤ m) (g : r.sg) (o : okSs E r = true) (hd : ∀ x ∈ decB r, vr E x) (acc : List D) (hz : acc.length + r.sz ≤ 400000) (j : Nat) (hj : 2 * r.ht + 8 ≤ j) (h : LH) (ad : Int) (p : Nat) (f : h[p]? = some (.lst acc)) (all : List D) (b : D) (d : Option D),
    ∃ p' h', (∃ d', forL (tgF (.nm 4)) (bkF j) none all (tssD r) [some (knD E), some (.int ad), some b, some (.ref p), d] h = some (.nx, [some (knD E), some (.int ad), some b, some (.ref p'), d'], h')) ∧ Le h h' ∧ h'[p']? = some (.lst (lowB E ad acc r))
  | .nil, E, F, m, lc, hm, g, o, hd, acc, hz, j, hj, h, ad, p, f, all, b, d => ⟨p, h, ⟨d, by simp [tssD, forL_n]⟩, .refl _, f⟩
  | .cons s r, E, F, m, lc, hm, g, o, hd, acc, hz, j, hj, h, ad, p, f, all, b, d => by
    simp only [TSs.ht, TSs.sz] at hj hm hz
    simp only [okSs, Bool.and_eq_true] at o
    obtain ⟨q, h1, d1, e1, l1, f1⟩ := lstm s F m lc (by omega) g.1 o.1 (fun x hx => hd x (by simp [decB, hx])) acc (by omega) j (by omega) ad h p f b d
    obtain ⟨p', h', ⟨d', e⟩, l2, f2⟩ := lrow r F m lc (by omega) g.2 o.2 (fun x hx => hd x (by simp [decB, hx])) (acc ++ lowS E (ad + acc.length) s) (by rw [List.length_append, lowS_len]; omega) j (by omega) h1 ad q f1 all b d1
    refine ⟨p', h', ⟨d', ?_⟩, l1.trans l2, f2⟩
    obtain ⟨σ1, x1, x2⟩ := Option.bind_eq_some_iff.mp e1
    rw [tssD, forL_c, x1, Option.bind_some, x2, Option.bind_some]
    simp only [e]
end
/-! what the code is made of -/
noncomputable def ok3 (L : List D) : Prop := ∀ x ∈ L, okd 3 x = true
theorem ok3_app {A B : List D} (a : ok3 A) (b : ok3 B) : ok3 (A ++ B) := fun x hx => (List.mem_append.mp hx).elim (a x) (b x)
theorem ok3_nil : ok3 [] := fun _ h => by cases h
theorem ok3_cons {x : D} {A : List D} (a : okd 3 x = true) (b : ok3 A) : ok3 (x :: A) := fun y hy => by
  rcases List.mem_cons.mp hy with rfl | hy
  · exact a
  · exact b y hy
theorem ok_ins0 {op : Nm} (g : sgn op) : okd 3 (ins op []) = true := by
  unfold sgn at g
  simp [ins, okd]
  simpa using g
theorem ok_ins1 {op : Nm} {a : D} (g : sgn op) (ha : okd 2 a = true) : okd 3 (ins op [a]) = true := by
  unfold sgn at g
  rw [ins, okd]
  simp only [List.length_cons, List.length_nil, List.all_cons, List.all_nil, ha, okd_str, g]
  rfl
theorem ok_ins2 {op : Nm} {a b : D} (g : sgn op) (ha : okd 2 a = true) (hb : okd 2 b = true) : okd 3 (ins op [a, b]) = true := by
  unfold sgn at g
  rw [ins, okd]
  simp only [List.length_cons, List.length_nil, List.all_cons, List.all_nil, ha, hb, okd_str, g]
  rfl
theorem ok_st {s : Nm} (g : sgn s) : okd 2 (.str s) = true := by rw [okd_str]; exact g
theorem Cv.ok2 {v : D} (V : Cv v) : okd 2 v = true := by
  cases V with
  | text s l g =>
    unfold sgn at g
    simp [okd]
    simpa using g
  | _ => rfl
theorem varD_ok (o : Option (Bool × Nat)) : okd 2 (varD o) = true := by
  rcases o with _ | ⟨b, i⟩
  · rfl
  · cases b <;> rfl
theorem opC_ok {op : Nm} (g : sgn op) : ok3 (opC op) := by
  unfold opC
  split <;> first | exact ok3_cons (ok_ins0 g) ok3_nil | (exact ok3_cons (ok_ins0 rfl) (ok3_cons (ok_ins0 rfl) ok3_nil))| skip
  split <;> first | exact ok3_cons (ok_ins0 g) ok3_nil | (exact ok3_cons (ok_ins0 rfl) (ok3_cons (ok_ins0 rfl) ok3_nil))| skip
  split <;> first | exact ok3_cons (ok_ins0 g) ok3_nil | (exact ok3_cons (ok_ins0 rfl) (ok3_cons (ok_ins0 rfl) ok3_nil))
theorem un_ok (u : Un) : ok3 u.code := by
  cases u
  · exact ok3_cons (ok_ins0 rfl) ok3_nil
  · exact ok3_cons (ok_ins0 rfl) ok3_nil
  · exact ok3_cons (ok_ins0 rfl) (ok3_cons (ok_ins0 rfl) ok3_nil)
  · exact ok3_cons (ok_ins0 rfl) (ok3_cons (ok_ins0 rfl) (ok3_cons (ok_ins0 rfl) ok3_nil))
theorem lowE_ok (E : Ev) : ∀ (t : TE) (a : Int), t.sg → t.wf → ok3 (lowE E a t)
  | .cst v, a, g, w => ok3_cons (ok_ins1 rfl w.ok2) ok3_nil
  | .nam x, a, g, w => by
    unfold lowE
    cases E.counter x with
    | some d => exact ok3_cons (ok_ins1 rfl rfl) ok3_nil
    | none => exact ok3_cons (ok_ins1 rfl (varD_ok _)) ok3_nil
  | .both op t u, a, g, w => ok3_app (ok3_app (lowE_ok E t _ g.2.1 w.2.1) (lowE_ok E u _ g.2.2 w.2.2)) (opC_ok g.1)
  | .lg o t u, a, g, w => ok3_app (ok3_app (lowE_ok E t _ g.1 w.1) (ok3_cons (ok_ins1 (by cases o <;> rfl) rfl) ok3_nil)) (lowE_ok E u _ g.2 w.2)
  | .un k t, a, g, w => ok3_app (lowE_ok E t _ g w) (un_ok k)
  | .new r, a, g, w => ok3_cons (ok_ins0 rfl) (ok3_cons (ok_ins1 rfl (ok_st g)) ok3_nil)
  | .fld t f, a, g, w => ok3_app (lowE_ok E t _ g.1 w) (ok3_cons (ok_ins0 rfl) (ok3_cons (ok_ins1 rfl (ok_st g.2)) ok3_nil))
  | .itm t u, a, g, w => ok3_app (ok3_app (ok3_app (lowE_ok E t _ g.1 w.1) (ok3_cons (ok_ins0 rfl) ok3_nil)) (lowE_ok E u _ g.2 w.2)) (ok3_cons (ok_ins0 rfl) ok3_nil)
theorem argsF_ok (E : Ev) (b : Int) : ∀ (as : List TE) (acc : List D), (∀ e ∈ as, e.sg) → (∀ e ∈ as, e.wf) → ok3 acc → ok3 (argsF E b acc as)
  | [], acc, g, w, h => h
  | e :: es, acc, g, w, h => argsF_ok E b es _ (fun x hx => g x (List.mem_cons_of_mem _ hx)) (fun x hx => w x (List.mem_cons_of_mem _ hx)) (ok3_app h (lowE_ok E e _ (g e List.mem_cons_self) (w e List.mem_cons_self)))
theorem optI_ok (o : Option Nat) : okd 2 (optI o) = true := by cases o <;> rfl
theorem callC_ok {E : Ev} {a : Int} {p : Nm} {as : List TE} {ah : Bool} {last : D} (g : ∀ e ∈ as, e.sg) (w : ∀ e ∈ as, e.wf) (hl : okd 3 last = true) : ok3 (callC E a p as ah last) := by
  have c1 : okd 3 (ins [99,97,108,108] [optI (E.procedure p), .int as.length]) = true := ok_ins2 rfl (optI_ok _) rfl
  unfold callC
  cases ah
  · exact ok3_app (argsF_ok E _ as [] g w ok3_nil) (ok3_cons c1 (ok3_cons hl ok3_nil))
  · exact ok3_app (ok3_app (ok3_cons (ok_ins1 rfl rfl) ok3_nil) (ok3_app (argsF_ok E _ as [] g w ok3_nil) (ok3_cons c1 (ok3_cons hl ok3_nil)))) (ok3_cons (ok_ins0 rfl) ok3_nil)
theorem storeD_ok (E : Ev) (x : Nm) : okd 3 (storeD E x) = true := ok_ins1 rfl (varD_ok _)
theorem rightC_ok {E : Ev} {a : Int} {last : D} (hl : okd 3 last = true) : ∀ r : TR, r.sg → r.wf → ok3 (rightC E a last r)
  | .read, g, w => ok3_cons (ok_ins0 rfl) (ok3_cons hl ok3_nil)
  | .expr e, g, w => ok3_app (lowE_ok E e _ g w) (ok3_cons hl ok3_nil)
  | .call p as ah, g, w => callC_ok g.2 w hl
/-- a line and an instruction -/
noncomputable def GD (L : List D) : Prop := ∀ x ∈ L, ∃ (l : Int) (d : D), x = .tup [.int l, d] ∧ okd 3 d = true
theorem GD_app {A B : List D} (a : GD A) (b : GD B) : GD (A ++ B) := fun x hx => (List.mem_append.mp hx).elim (a x) (b x)
theorem GD_nil : GD [] := fun _ h => by cases h
theorem GD_one {l : Int} {d : D} (h : okd 3 d = true) : GD [.tup [.int l, d]] := fun x hx => by
  cases List.mem_singleton.mp hx; exact ⟨l, d, rfl, h⟩
theorem GD_wl {l : Int} {C : List D} (h : ok3 C) : GD (wl l C) := fun x hx => by
  obtain ⟨d, hd, rfl⟩ := List.mem_map.mp hx
  exact ⟨l, d, rfl, h d hd⟩
mutual
theorem lowS_gd : ∀ (s : TS) (E : Ev) (a : Int), s.sg → s.wf → GD (lowS E a s)
  | .asg v l x r, E, a, g, w => GD_wl (rightC_ok (storeD_ok E x) r g.2 w)
  | .sfl l t f u, E, a, g, w => GD_wl (ok3_app (ok3_app (ok3_app (lowE_ok E t _ g.1 w.1) (ok3_cons (ok_ins0 rfl) ok3_nil)) (lowE_ok E u _ g.2.2 w.2)) (ok3_cons (ok_ins1 rfl (ok_st g.2.1)) ok3_nil))
  | .sit l t i u, E, a, g, w => GD_wl (ok3_app (ok3_app (ok3_app (ok3_app (lowE_ok E t _ g.1 w.1) (ok3_cons (ok_ins0 rfl) ok3_nil)) (lowE_ok E i _ g.2.1 w.2.1)) (lowE_ok E u _ g.2.2 w.2.2)) (ok3_cons (ok_ins0 rfl) ok3_nil))
  | .cal l p as ah, E, a, g, w => GD_wl (callC_ok g.2 w (ok_ins0 rfl))
  | .val k l t, E, a, g, w => GD_wl (ok3_app (lowE_ok E t _ g w) (ok3_cons (ok_ins0 (by cases k <;> rfl)) ok3_nil))
  | .brk l, E, a, g, w => GD_wl (ok3_cons (ok_ins0 rfl) ok3_nil)
  | .ite l c y n, E, a, g, w => GD_app (GD_app (GD_app (GD_wl (ok3_app (lowE_ok E c _ g.1 w.1) (ok3_cons (ok_ins1 rfl rfl) ok3_nil))) (lowB_gd y _ _ _ g.2.1 w.2.1 GD_nil)) (GD_one (ok_ins1 rfl rfl))) (lowB_gd n _ _ _ g.2.2 w.2.2 GD_nil)
  | .whl l c b, E, a, g, w => GD_app (GD_app (GD_wl (ok3_app (ok3_app (ok3_cons (ok_ins1 rfl rfl) ok3_nil) (lowE_ok E c _ g.1 w.1)) (ok3_cons (ok_ins1 rfl rfl) ok3_nil))) (lowB_gd b _ _ _ g.2 w.2 GD_nil)) (GD_wl (ok3_cons (ok_ins1 rfl rfl) (ok3_cons (ok_ins0 rfl) ok3_nil)))
  | .for_ l x lo hi b ah, E, a, g, w => by
    have hd : ∀ a b p q, ok3 (lowE E a lo ++ lowE E b hi ++ [ins [101,97,99,104] [.int p], ins [116,101,115,116] [.int q]]) := fun a b p q => ok3_app (ok3_app (lowE_ok E lo _ g.2.1 w.1) (lowE_ok E hi _ g.2.2.1 w.2.1)) (ok3_cons (ok_ins1 rfl rfl) (ok3_cons (ok_ins1 rfl rfl) ok3_nil))
    have nx : ∀ p, GD (wl l [ins [110,101,120,116] [.int p], ins [101,110,100,95,108,111,111,112] []]) := fun p => GD_wl (ok3_cons (ok_ins1 rfl rfl) (ok3_cons (ok_ins0 rfl) ok3_nil))
    have bd : ∀ p, GD (lowB (E.counting x) p [] b) := fun p => lowB_gd b _ _ _ g.2.2.2 w.2.2 GD_nil
    cases ah
    · exact GD_app (GD_app (GD_wl (hd _ _ _ _)) (bd _)) (nx _)
    · exact GD_app (GD_app (GD_wl (hd _ _ _ _)) (GD_app (GD_app (GD_one (ok_ins1 rfl rfl)) (bd _)) (GD_one (ok_ins0 rfl)))) (nx _)
  | .try_ l b x c, E, a, g, w => GD_app (GD_app (GD_app (GD_one (ok_ins1 rfl rfl)) (lowB_gd b _ _ _ g.1 w.1 GD_nil)) (GD_wl (ok3_cons (ok_ins0 rfl) (ok3_cons (ok_ins1 rfl rfl) (ok3_cons (storeD_ok E x) ok3_nil))))) (lowB_gd c _ _ _ g.2.2 w.2 GD_nil)
theorem lowB_gd : ∀ (r : TSs) (E : Ev) (a : Int) (acc : List D), r.sg → r.wf → GD acc → GD (lowB E a acc r)
  | .nil, E, a, acc, g, w, h => h
  | .cons s r, E, a, acc, g, w, h => lowB_gd r E a _ g.2 w.2 (GD_app h (lowS_gd s E _ g.1 w.1))
end
theorem procC_gd (E : Ev) (ad : Int) (ps : List Nm) (b : TSs) (g : b.sg) (w : b.wf) : GD (procC E ad ps b) :=
  GD_app (GD_app (fun x hx => by obtain ⟨i, _, rfl⟩ := List.mem_map.mp hx; exact ⟨_, _, rfl, rfl⟩) (lowB_gd b _ _ _ g w GD_nil)) (GD_app (GD_one (d := ins [112,117,115,104] [.tup [.str [110,111,110,101]]]) rfl) (GD_one (ok_ins0 rfl)))
theorem main_gd (T : TP) (g : T.blk.sg) (w : T.blk.wf) : GD T.main := GD_app (GD_app (GD_one (ok_ins0 rfl)) (lowB_gd _ _ _ _ g w GD_nil)) (GD_one (ok_ins0 rfl))
theorem step_gd (T : TP) : ∀ (l : List (Int × Nm × List Nm × TSs)) (acc : List D × List D), (∀ p ∈ l, p.2.2.2.sg ∧ p.2.2.2.wf) → GD acc.1 → GD (l.foldl T.step acc).1
  | [], acc, hl, h => h
  | p :: l, acc, hl, h => step_gd T l (T.step acc p) (fun q hq => hl q (List.mem_cons_of_mem _ hq)) (GD_app h (procC_gd _ _ _ _ (hl p List.mem_cons_self).1 (hl p List.mem_cons_self).2))
theorem nm_add (a b : List Nm) (hl : a.length + b.length ≤ 4000000) (h : LH) : binop .add (namesD a) (namesD b) h = some (namesD (a ++ b), h) := by
  simp only [namesD, List.map_append]
  simp! [show a.length + b.length ≤ 16777216 by omega]
theorem nm_add1 (a : List Nm) (x : Nm) (hl : a.length + 1 ≤ 4000000) (h : LH) : binop .add (namesD a) (.tup [.str x]) h = some (namesD (a ++ [x]), h) := nm_add a [x] (by simpa using hl) h
noncomputable def dlF (j : Nat) : Lc → LH → Option (Fl × Lc × LH) := bodyF TT.pr (callN TT.pr j) (frB4 F__law_declared.body)
theorem dlF_ap (j : Nat) (σ : Lc) (h : LH) : dlF j σ h = evSs TT.pr (callN TT.pr j) (frB4 F__law_declared.body) σ h := rfl
mutual
theorem ldec_st : ∀ (s : TS) (acc : List Nm) (hz : acc.length + s.sz ≤ 400000) (j : Nat) (hj : s.ht + 2 ≤ j) (h : LH) (b : D) (d : Option D), ∃ d', ((tgF (.nm 2) (tsD s) [some b, some (namesD acc), d]).bind fun σ1 => dlF j σ1 h) = some (.nx, [some b, some (namesD (acc ++ decS s)), d'], h)
  | .asg v l x r, acc, hz, j, hj, h, b, d => by
    have lr : 1 ≤ r.sz := by cases r <;> simp [TR.sz, csz]; omega
    simp only [TS.sz] at hz
    refine ⟨some (tsD (.asg v l x r)), ?_⟩
    have a := nm_add1 acc x (by omega) h
    cases v
    · simp! [dlF_ap, frB4, F__law_declared, tsD, asS, decS]
    · simp! [dlF_ap, frB4, F__law_declared, tsD, asS, decS, a]
  | .ite l c y n, acc, hz, j, hj, h, b, d => by
    simp only [TS.sz, TS.ht] at hz hj
    have ly := decB_len y
    have ln := decB_len n
    have a := ldec_ok y (by omega) j (by omega) h
    have a2 := ldec_ok n (by omega) j (by omega) h
    have p := nm_add acc (decB y) (by omega) h
    have p2 := nm_add (acc ++ decB y) (decB n) (by simp; omega) h
    refine ⟨some (tsD (.ite l c y n)), ?_⟩
    simp only [List.append_assoc] at p2
    simp! [dlF_ap, frB4, F__law_declared, tsD, decS, a, a2, p, p2]
  | .whl l c y, acc, hz, j, hj, h, b, d => by
    simp only [TS.sz, TS.ht] at hz hj
    have ly := decB_len y
    have a := ldec_ok y (by omega) j (by omega) h
    have p := nm_add acc (decB y) (by omega) h
    refine ⟨some (tsD (.whl l c y)), ?_⟩
    simp! [dlF_ap, frB4, F__law_declared, tsD, decS, a, p]
  | .for_ l x lo hi y ah, acc, hz, j, hj, h, b, d => by
    simp only [TS.sz, TS.ht] at hz hj
    have ly := decB_len y
    have a := ldec_ok y (by omega) j (by omega) h
    have p := nm_add acc (decB y) (by omega) h
    refine ⟨some (tsD (.for_ l x lo hi y ah)), ?_⟩
    simp! [dlF_ap, frB4, F__law_declared, tsD, decS, a, p]
  | .try_ l y x n, acc, hz, j, hj, h, b, d => by
    simp only [TS.sz, TS.ht] at hz hj
    have ly := decB_len y
    have ln := decB_len n
    have a := ldec_ok y (by omega) j (by omega) h
    have a2 := ldec_ok n (by omega) j (by omega) h
    have p := nm_add acc (decB y) (by omega) h
    have p1 := nm_add1 (acc ++ decB y) x (by simp; omega) h
    have p2 := nm_add (acc ++ decB y ++ [x]) (decB n) (by simp; omega) h
    refine ⟨some (tsD (.try_ l y x n)), ?_⟩
    simp only [List.append_assoc, List.cons_append, List.nil_append] at p1 p2
    simp! [dlF_ap, frB4, F__law_declared, tsD, decS, a, a2, p, p1, p2]
  | .sfl l t f u, acc, hz, j, hj, h, b, d => ⟨some (tsD (.sfl l t f u)), by simp! [dlF_ap, frB4, F__law_declared, tsD, decS]⟩
  | .sit l t f u, acc, hz, j, hj, h, b, d => ⟨some (tsD (.sit l t f u)), by simp! [dlF_ap, frB4, F__law_declared, tsD, decS]⟩
  | .cal l p as ah, acc, hz, j, hj, h, b, d => ⟨some (tsD (.cal l p as ah)), by simp! [dlF_ap, frB4, F__law_declared, tsD, decS]⟩
  | .val k l t, acc, hz, j, hj, h, b, d => ⟨some (tsD (.val k l t)), by cases k <;> simp! [dlF_ap, frB4, F__law_declared, tsD, Vk.s, decS]⟩
  | .brk l, acc, hz, j, hj, h, b, d => ⟨some (tsD (.brk l)), by simp! [dlF_ap, frB4, F__law_declared, tsD, decS]⟩
theorem ldec_ok : ∀ (r : TSs) (hz : r.sz ≤ 400000) (j : Nat) (hj : r.ht + 3 ≤ j) (h : LH), callN TT.pr j 1854003366249729876480013028 [.tup (tssD r)] h = some (namesD (decB r), h)
  | r, hz, j, hj, h => by
    obtain ⟨j', hk'⟩ : ∃ k', j = k' + 1 := ⟨j - 1, by omega⟩
    subst hk'
    rw [callN_succ fn__law_declared rfl]
    obtain ⟨d', e⟩ := ldec_row r [] (by simpa using hz) j' (by omega) h (tssD r) (.tup (tssD r)) none
    simp only [dlF, frB4, F__law_declared] at e
    have e : _ = _ := e
    simp! [F__law_declared]
    rw [show (D.tup []) = namesD [] from rfl, e]
    rfl
theorem ldec_row : ∀ (r : TSs) (acc : List Nm) (hz : acc.length + r.sz ≤ 400000) (j : Nat) (hj : r.ht + 2 ≤ j) (h : LH) (all : List D) (b : D) (d : Option D), ∃ d', forL (tgF (.nm 2)) (dlF j) none all (tssD r) [some b, some (namesD acc), d] h = some (.nx, [some b, some (namesD (acc ++ decB r)), d'], h)
  | .nil, acc, hz, j, hj, h, all, b, d => ⟨d, by simp [tssD, forL_n, decB]⟩
  | .cons s r, acc, hz, j, hj, h, all, b, d => by
    simp only [TSs.ht, TSs.sz] at hj hz
    have ls := decS_len s
    obtain ⟨d1, e1⟩ := ldec_st s acc (by omega) j (by omega) h b d
    obtain ⟨d2, e2⟩ := ldec_row r (acc ++ decS s) (by simp; omega) j (by omega) h all b d1
    refine ⟨d2, ?_⟩
    obtain ⟨σ1, x1, x2⟩ := Option.bind_eq_some_iff.mp e1
    rw [tssD, forL_c, x1, Option.bind_some, x2, Option.bind_some]
    simp only [e2, decB, List.append_assoc]
end
theorem addN_take (ss : List Nm) (i : Nat) (hi : i < ss.length) : (ss.take (i + 1)).foldl addN [] = addN ((ss.take i).foldl addN []) ss[i] := by
  rw [List.take_add_one, List.getElem?_eq_getElem hi, List.foldl_append]; rfl
theorem lonce_ok (j : Nat) (hj : 1 ≤ j) (ss : List Nm) (g : sgs ss) (hl : ss.length ≤ 1000000) (h : LH) : callN TT.pr j 6906700753629065701 [namesD ss] h = some (namesD (ss.foldl addN []), h) := by
  obtain ⟨j', hk'⟩ : ∃ k', j = k' + 1 := ⟨j - 1, by omega⟩
  subst hk'
  rw [callN_succ fn__law_once rfl]
  have wk : walkOf (namesD ss) h = some (ss.map D.str, none) := rfl
  simp! [F__law_once, wk]
  generalize hL : forL _ _ _ _ _ _ _ = L
  refine forL_go hL (fun i σ h' => (∃ d, σ = [some (namesD ss), some (namesD ((ss.take i).foldl addN [])), d]) ∧ h' = h) ⟨⟨none, rfl⟩, rfl⟩ ?_ ?_
  · rintro i x σ h' hx ⟨⟨d, rfl⟩, rfl⟩ Q hQ
    have hi : i < ss.length := by have := (List.getElem?_eq_some_iff.mp hx).1; simpa using this
    have hxe : x = .str ss[i] := by
      rw [List.getElem?_map, List.getElem?_eq_getElem hi] at hx
      exact (Option.some.inj hx).symm
    subst hxe
    have at1 := addN_take ss i hi
    have gk := foldN_sg (ss.take i) [] (fun _ h => by cases h) (fun s hs => g s (List.mem_of_mem_take hs))
    have lk := foldN_len (ss.take i) []
    have lk2 : (ss.take i).length ≤ 1000000 := by simp; omega
    simp only [List.length_nil] at lk
    have gx := g _ (List.getElem_mem hi)
    clear hx hL
    generalize ss[i] = y at *
    generalize (ss.take i).foldl addN [] = S at *
    have ii := in_names S gk gx h'
    have p := nm_add1 S y (by omega) h'
    by_cases q : y ∈ S
    · obtain ⟨k, hk⟩ := idxL_mem q
      have ha : addN S y = S := by simp [addN, q]
      rw [ha] at at1
      simp! [-in_tup, ii, hk]
      simp only [Option.bind_some, z_nx, z_n, z_bk, z_rt, fin_nx, fin_rt, wp_some]
      exact hQ _ _ trivial ⟨⟨_, by rw [at1]⟩, rfl⟩
    · have hk := idxL_none q
      have ha : addN S y = S ++ [y] := by simp [addN, q]
      rw [ha] at at1
      simp! [-in_tup, ii, hk, p]
      simp only [Option.bind_some, z_nx, z_n, z_bk, z_rt, fin_nx, fin_rt, wp_some]
      exact hQ _ _ trivial ⟨⟨_, by rw [at1]⟩, rfl⟩
  · rintro σ' h' rfl ⟨⟨d, rfl⟩, rfl⟩
    simp! []
theorem TP.good.fit2 {T : TP} (G : T.good) : T.env.fit2 := ⟨G.fit, by
  show (varsOf T.blk []).length ≤ 1000000
  unfold varsOf
  have := foldN_len ([] ++ decB T.blk) []
  have := decB_len T.blk
  have := G.blk.2.2.2
  simp at *; omega, fun o h => (by cases h)⟩
theorem own_len {T : TP} (G : T.good) {p : Int × Nm × List Nm × TSs} (hp : p ∈ T.procs) : (ownOf p).length ≤ 200000 := by
  unfold ownOf varsOf
  have := foldN_len (p.2.2.1 ++ decB p.2.2.2) []
  have := decB_len p.2.2.2
  have := (G.pr p hp).2.2.2
  have := (G.par hp).2
  simp at *; omega
theorem TP.good.in_fit2 {T : TP} (G : T.good) {p : Int × Nm × List Nm × TSs} (hp : p ∈ T.procs) : (T.env.inside (ownOf p)).fit2 := ⟨inside_fit G.fit (G.own_sg hp), G.fit2.top, fun o h => (by cases h; have := own_len G hp; omega)⟩
theorem vr_blk (T : TP) : ∀ x ∈ decB T.blk, vr T.env x := fun x hx => var_top (E := T.env) (varsOf_mem (.inr hx))
theorem vr_in (T : TP) (p : Int × Nm × List Nm × TSs) : ∀ x ∈ decB p.2.2.2, vr (T.env.inside (ownOf p)) x := fun x hx => var_own (ins_own T.env (ownOf p)) (varsOf_mem (.inr hx))
theorem kn_env (T : TP) : knD T.env = .tup [.non, namesD (varsOf T.blk []), .tup [], namesD (T.procs.map (·.2.1))] := by simp [knD, TP.env, ownD, namesD]
theorem kn_in (T : TP) (o : List Nm) : knD (T.env.inside o) = .tup [namesD o, namesD (varsOf T.blk []), .tup [], namesD (T.procs.map (·.2.1))] := by simp [knD, TP.env, Ev.inside, ownD, namesD]
noncomputable def TP.upto (T : TP) (i : Nat) : List D × List D := (T.procs.take i).foldl T.step (T.main, [])
theorem upto_succ (T : TP) (i : Nat) (hi : i < T.procs.length) : T.upto (i + 1) = T.step (T.upto i) T.procs[i] := by
  unfold TP.upto
  rw [List.take_add_one, List.getElem?_eq_getElem hi, List.foldl_append]; rfl
theorem upto_all (T : TP) : T.upto T.procs.length = T.out := by unfold TP.upto TP.out; rw [List.take_length]
theorem upto_le (T : TP) (i : Nat) : (T.upto i).1.length ≤ T.out.1.length := by
  have : T.out = (T.procs.drop i).foldl T.step (T.upto i) := by
    unfold TP.upto TP.out
    rw [← List.foldl_append, List.take_append_drop]
  rw [this]
  exact step_len T _ _
theorem told_len (T : TP) : ∀ (l : List (Int × Nm × List Nm × TSs)) (acc : List D × List D), (l.foldl T.step acc).2.length = acc.2.length + l.length
  | [], acc => rfl
  | p :: l, acc => by rw [List.foldl_cons, told_len T l]; simp [TP.step]; omega
theorem nm_take (T : TP) (i : Nat) (hi : i < T.procs.length) : (T.procs.take (i + 1)).map (·.2.1) = (T.procs.take i).map (·.2.1) ++ [T.procs[i].2.1] := by
  rw [List.take_add_one, List.getElem?_eq_getElem hi, List.map_append]; rfl
theorem lwhole_ok {T : TP} (G : T.good) (j : Nat) (hj : 80 ≤ j) (h : LH) : ∃ a p h', callN TT.pr j 30375991152811041293262663709285 [T.d] h = some (.ref a, h') ∧ Le h h' ∧ h'[a]? = some (.lst [.ref p, namesD (varsOf T.blk []), .tup T.out.2]) ∧ h'[p]? = some (.lst T.out.1) := by
  obtain ⟨j', hk'⟩ : ∃ k', j = k' + 1 := ⟨j - 1, by omega⟩
  subst hk'
  rw [callN_succ fn__law_whole_code rfl]
  obtain ⟨b1, b2, b3, b4⟩ := G.blk
  have few := G.few.2
  have dec := ldec_ok T.blk (by omega) j' (by omega) h
  have onc := lonce_ok j' (by omega) (decB T.blk) (decB_sg T.blk b1) (by have := decB_len T.blk; omega) h
  have onc : callN TT.pr j' 6906700753629065701 [namesD (decB T.blk)] h = some (namesD (varsOf T.blk []), h) := onc
  simp! [F__law_whole_code, TP.d, dec, onc]
  generalize hD : D.tup [.str [112,114,111,103,114,97,109], .tup (T.recs.map headD), .tup (T.procs.map prD), .tup (tssD T.blk)] = TD
  have td2 : ∀ h, getix TT.pr TD (.int 2) h = some (.tup (T.procs.map prD)) := fun h => by subst hD; rfl
  have td3 : ∀ h, getix TT.pr TD (.int 3) h = some (.tup (tssD T.blk)) := fun h => by subst hD; rfl
  generalize hL : forL _ _ _ _ _ _ _ = L
  refine forL_go hL (fun i σ h' => (∃ d, σ = [some TD, some (namesD (varsOf T.blk [])), some (namesD ((T.procs.take i).map (·.2.1))), d, none, none, none, none]) ∧ h' = h) ⟨⟨none, rfl⟩, rfl⟩ ?_ ?_
  · rintro i x σ h' hx ⟨⟨d, rfl⟩, rfl⟩ Q hQ
    have hi : i < T.procs.length := by have := (List.getElem?_eq_some_iff.mp hx).1; simpa using this
    have hxe : x = prD T.procs[i] := by
      rw [List.getElem?_map, List.getElem?_eq_getElem hi] at hx
      exact (Option.some.inj hx).symm
    subst hxe
    rw [nm_take T i hi] at hQ
    have ad := nm_add1 ((T.procs.take i).map (·.2.1)) T.procs[i].2.1 (by simp; omega) h'
    generalize (T.procs.take i).map (·.2.1) = S at *
    generalize T.procs[i] = p at *
    clear hx hL
    simp! [prD, ad]
    simp only [Option.bind_some, z_nx, z_n, z_bk, z_rt, fin_nx, fin_rt, wp_some]
    exact hQ _ _ trivial ⟨⟨_, rfl⟩, rfl⟩
  rintro σ' h' rfl ⟨⟨d, rfl⟩, rfl⟩
  clear hL
  rw [List.length_map, List.take_length]
  obtain ⟨q, H6, c6, l6, f6⟩ := lblk T.blk G.fit2 30 (by simp [TP.env]) b3 b1 b2 (vr_blk T) (by omega) j' (by omega) (h' ++ [.lst [.tup [.int 0, ins [101,110,116,101,114] []]]]) 1
  rw [kn_env] at c6
  have ad6 := op_lst (l6.get (at_end h' (.lst [.tup [.int 0, ins [101,110,116,101,114] []]]) [])) f6 (by rw [lowB_len]; simp; omega)
  have hm : T.main = [.tup [.int 0, ins [101,110,116,101,114] []]] ++ lowB T.env 1 [] T.blk ++ [.tup [.int 0, ins [104,97,108,116] []]] := rfl
  have lm : (lowB T.env 1 [] T.blk).length ≤ 100000 := by rw [lowB_len]; simp; omega
  generalize hs1 : [.tup [.int 0, ins [101,110,116,101,114] []]] ++ lowB T.env 1 [] T.blk = S1 at *
  have lS1 : S1.length ≤ 100001 := by rw [← hs1]; simp; omega
  have ad7 : binop .add (.ref H6.length) (.ref (H6.length + 1)) (H6 ++ [.lst S1, .lst [.tup [.int 0, ins [104,97,108,116] []]]]) = some (.ref (H6.length + 2), H6 ++ [.lst S1, .lst [.tup [.int 0, ins [104,97,108,116] []]], .lst T.main]) := by
    have := op_lst (at_end H6 (.lst S1) [.lst [.tup [.int 0, ins [104,97,108,116] []]]]) (at_end1 H6 (.lst S1) (.lst [.tup [.int 0, ins [104,97,108,116] []]]) []) (by simp; omega)
    rw [this, hm]
    simp
  simp only [ins] at c6 ad6 ad7 hm
  generalize hPN : namesD (T.procs.map (·.2.1)) = PN at *
  generalize hTop : namesD (varsOf T.blk []) = TOP at *
  simp! [td3, td2, c6, alloc, ad6, ad7]
  have l7 : Le h' (H6 ++ [.lst S1, .lst [.tup [.int 0, .tup [.str [104,97,108,116]]]]]) := (Le.app _ _).trans (l6.trans (.app _ _))
  have e7 : H6 ++ [LO.lst S1, LO.lst [.tup [.int 0, .tup [.str [104,97,108,116]]]], .lst T.main] = (H6 ++ [.lst S1, .lst [.tup [.int 0, .tup [.str [104,97,108,116]]]]]) ++ [.lst T.main] := by simp
  have n7 : H6.length + 2 = (H6 ++ [LO.lst S1, LO.lst [.tup [.int 0, .tup [.str [104,97,108,116]]]]]).length := by simp
  rw [e7, n7]
  generalize (H6 ++ [LO.lst S1, LO.lst [.tup [.int 0, .tup [.str [104,97,108,116]]]]]) = H7 at *
  clear c6 ad6 ad7 f6 l6 e7 n7
  generalize hL : forL _ _ _ _ _ _ _ = L
  refine forL_go hL (fun i σ h' => ∃ H d3 d6 d7, σ = [some TD, some TOP, some PN, d3, some (.ref H.length), some (.tup (T.upto i).2), d6, d7] ∧ h' = H ++ [.lst (T.upto i).1] ∧ Le H7 H) ⟨H7, _, _, _, rfl, rfl, .refl _⟩ ?_ ?_
  · rintro i x σ h2 hx ⟨H, d3, d6, d7, rfl, rfl, lH⟩ Q hQ
    have hi : i < T.procs.length := by have := (List.getElem?_eq_some_iff.mp hx).1; simpa using this
    have hxe : x = prD T.procs[i] := by
      rw [List.getElem?_map, List.getElem?_eq_getElem hi] at hx
      exact (Option.some.inj hx).symm
    subst hxe
    have us := upto_succ T i hi
    have ul := upto_le T (i + 1)
    have hp : T.procs[i] ∈ T.procs := List.getElem_mem hi
    have tl : (T.upto i).2.length ≤ 1000 := by unfold TP.upto; rw [told_len]; simp; omega
    have gl := G.len
    generalize T.procs[i] = p at *
    clear hx hL
    obtain ⟨p1, p2, p3, p4⟩ := G.pr p hp
    obtain ⟨q1, q2⟩ := G.par hp
    have ol := own_len G hp
    rw [us] at ul
    generalize T.upto i = F at *
    obtain ⟨L1, L2⟩ := F
    have dc := ldec_ok p.2.2.2 (by omega) j' (by omega) (H ++ [.lst L1])
    have lb := decB_len p.2.2.2
    have na := nm_add p.2.2.1 (decB p.2.2.2) (by omega) (H ++ [.lst L1])
    have on := lonce_ok j' (by omega) (p.2.2.1 ++ decB p.2.2.2) (fun s hs => (List.mem_append.mp hs).elim (q1 s) (decB_sg _ p1 s)) (by simp; omega) (H ++ [.lst L1])
    have on : callN TT.pr j' 6906700753629065701 [namesD (p.2.2.1 ++ decB p.2.2.2)] (H ++ [.lst L1]) = some (namesD (ownOf p), H ++ [.lst L1]) := on
    have pd1 : ∀ h, getix TT.pr (prD p) (.int 1) h = some (.str p.2.1) := fun h => rfl
    have pd2 : ∀ h, getix TT.pr (prD p) (.int 2) h = some (namesD p.2.2.1) := fun h => rfl
    have pd3 : ∀ h, getix TT.pr (prD p) (.int 3) h = some (.tup (tssD p.2.2.2)) := fun h => rfl
    have lr : p.2.2.1.length < 4000000 := by omega
    have nd : namesD p.2.2.1 = .tup (p.2.2.1.map D.str) := rfl
    have ll : L1.length ≤ 2000 := by simp [TP.step] at ul; omega
    rw [nd] at na pd2
    have tl : L2.length ≤ 1000 := tl
    simp! [pd1, pd2, pd3, dc, na, on, at_end, lr, show L2.length ≤ 16777215 by omega]
    generalize hL : forL _ _ _ _ _ _ _ = L
    obtain ⟨R, hR⟩ : ∃ R : List D, R = (List.range p.2.2.1.length).map (fun (i : Nat) => .tup [.int 0, ins [115,116,111,114,101] [.tup [.str [111,119,110], .int (p.2.2.1.length - 1 - i)]]]) := ⟨_, rfl⟩
    have lR : R.length = p.2.2.1.length := by rw [hR]; simp
    refine forL_go hL (fun k σ h2 => ∃ d, σ = [some TD, some TOP, some PN, some (prD p), some (.ref H.length), some (.tup (L2 ++ [.tup [.str p.2.1, namesD (ownOf p), .int L1.length]])), some (namesD (ownOf p)), d] ∧ h2 = H ++ [.lst (L1 ++ R.take k)]) ⟨_, rfl, by simp⟩ ?_ ?_
    · rintro k x σ h2 hx ⟨d, rfl, rfl⟩ Z hZ
      obtain ⟨rfl, hk⟩ := rng_at0 hx
      clear hx hL
      have ak : R.take (k + 1) = R.take k ++ [.tup [.int 0, ins [115,116,111,114,101] [.tup [.str [111,119,110], .int (p.2.2.1.length - 1 - k)]]]] := by
        rw [List.take_add_one, hR, List.getElem?_map, List.getElem?_range (by simpa using hk)]
        simp
      rw [ak] at hZ
      have lt : (R.take k).length ≤ 1000 := by simp; omega
      generalize R.take k = Rk at *
      simp only [ins] at hZ
      simp! [pd2, at_end, setLst_top, show L1.length + Rk.length < 16777216 by omega]
      simp only [Option.bind_some, z_nx, z_n, z_bk, z_rt, fin_nx, fin_rt, wp_some]
      exact hZ _ _ trivial ⟨_, rfl, by simp⟩
    rintro σ' h2 rfl ⟨d, rfl, rfl⟩
    clear hL
    rw [show R.take _ = R from List.take_of_length_le (by simp; omega)]
    obtain ⟨q, Y, c6, l6, f6⟩ := lblk p.2.2.2 (G.in_fit2 hp) 30 (by simp [Ev.inside]) p3 p1 p2 (vr_in T p) (by omega) j' (by omega) (H ++ [.lst (L1 ++ R)]) (L1.length + p.2.2.1.length)
    rw [kn_in, hTop, hPN] at c6
    have st : T.step (L1, L2) p = (L1 ++ R ++ lowB (T.env.inside (ownOf p)) (L1.length + p.2.2.1.length) [] p.2.2.2 ++ [.tup [.int 0, ins [112,117,115,104] [.tup [.str [110,111,110,101]]]], .tup [.int 0, ins [114,101,116,117,114,110] []]], L2 ++ [.tup [.str p.2.1, namesD (ownOf p), .int L1.length]]) := by
      simp only [TP.step, procC, ← hR, List.append_assoc]
    have lB : (lowB (T.env.inside (ownOf p)) (L1.length + p.2.2.1.length) [] p.2.2.2).length ≤ 100000 := by rw [lowB_len]; simp; omega
    generalize lowB (T.env.inside (ownOf p)) (L1.length + p.2.2.1.length) [] p.2.2.2 = B at *
    have f7 := l6.get (at_end H (.lst (L1 ++ R)) [])
    have ad6 := op_lst f7 f6 (by simp; omega)
    rw [us, st] at hQ
    generalize hM : L1 ++ R ++ B = M at *
    have lM : M.length ≤ 110000 := by rw [← hM]; simp; omega
    have ad7 : binop .add (.ref Y.length) (.ref (Y.length + 1)) (Y ++ [.lst M, .lst [.tup [.int 0, .tup [.str [112,117,115,104], .tup [.str [110,111,110,101]]]], .tup [.int 0, .tup [.str [114,101,116,117,114,110]]]]]) = some (.ref (Y.length + 2), Y ++ [.lst M, .lst [.tup [.int 0, .tup [.str [112,117,115,104], .tup [.str [110,111,110,101]]]], .tup [.int 0, .tup [.str [114,101,116,117,114,110]]]], .lst (M ++ [.tup [.int 0, .tup [.str [112,117,115,104], .tup [.str [110,111,110,101]]]], .tup [.int 0, .tup [.str [114,101,116,117,114,110]]]])]) := by
      have := op_lst (at_end Y (.lst M) [.lst [.tup [.int 0, .tup [.str [112,117,115,104], .tup [.str [110,111,110,101]]]], .tup [.int 0, .tup [.str [114,101,116,117,114,110]]]]]) (at_end1 Y (.lst M) (.lst [.tup [.int 0, .tup [.str [112,117,115,104], .tup [.str [110,111,110,101]]]], .tup [.int 0, .tup [.str [114,101,116,117,114,110]]]]) []) (by simp; omega)
      rw [this]
      simp
    simp only [ins] at hQ
    simp! [pd3, at_end, lR, c6, ad6, alloc, ad7]
    simp only [Option.bind_some, z_nx, z_n, z_bk, z_rt, fin_nx, fin_rt, wp_some]
    exact hQ _ _ trivial ⟨Y ++ [.lst M, .lst [.tup [.int 0, .tup [.str [112,117,115,104], .tup [.str [110,111,110,101]]]], .tup [.int 0, .tup [.str [114,101,116,117,114,110]]]]], some (prD p), some (namesD (ownOf p)), d, by simp, by simp, lH.trans ((Le.app _ _).trans (l6.trans (.app _ _)))⟩
  rintro σ' h2 rfl ⟨H, d3, d6, d7, rfl, rfl, lH⟩
  rw [List.length_map, upto_all]
  clear hL
  refine ⟨H.length + 1, H.length, H ++ [.lst T.out.1, .lst [.ref H.length, TOP, .tup T.out.2]], ?_, l7.trans (lH.trans (.app _ _)), at_end1 _ _ _ _, at_end _ _ _⟩
  simp! [alloc]
theorem same0_ok (k : Nat) (d : D) (h : LH) (o : okd 0 d = true) : callN TT.pr (k+1) 6906700753637242597 [d, d] h = some (.bl true, h) := by
  rw [callN_succ fn__law_same rfl]
  cases d with
  | non => simp! [F__law_same]
  | bl b => simp! [F__law_same, shp, pur, dep, pyeq]
  | int i => simp! [F__law_same, shp, pur, dep, pyeq]
  | str s =>
    rw [okd_str] at o
    simp! [F__law_same, shp, pur, dep, pyeq, o]
  | _ => cases o
theorem same_ok (k : Nat) : ∀ (n : Nat) (d : D) (h : LH), okd n d = true → callN TT.pr (k+n+1) 6906700753637242597 [d, d] h = some (.bl true, h) := by
  intro n
  induction n with
  | zero => exact fun d h o => same0_ok k d h o
  | succ n ih =>
    intro d h o
    cases d with
    | tup xs =>
      rw [callN_succ fn__law_same rfl]
      have hl := okd_len o
      refine (WP.mk (Q := fun r => r = (.bl true, h)) (E := fin _) fun R hR => ?_).elim fun r e => e.1.trans (congrArg some e.2)
      simp! [F__law_same, hl]
      generalize hL : forL _ _ _ _ _ _ _ = L
      refine forL_go hL (fun i σ h' => ∃ a2, σ = [some (.tup xs), some (.tup xs), a2] ∧ h' = h) ⟨_, rfl, rfl⟩ ?_ ?_
      · rintro i x σ h' hx ⟨a2, rfl, rfl⟩ Q hQ
        obtain ⟨rfl, hi⟩ := rng_at0 hx
        clear hx hL
        have e := List.getElem?_eq_getElem hi
        have ih' := ih _ h' (okd_get o e)
        rw [Nat.add_assoc] at ih'
        simp! [atI, ixN, hi, ih']
        simp only [Option.bind_some, z_nx, z_n, z_bk, z_rt, fin_nx, fin_rt, wp_some]; exact (hQ _ _ trivial ⟨_, rfl, rfl⟩)
      · rintro σ' h' rfl ⟨a2, rfl, rfl⟩
        simp! []
        simp only [Option.bind_some, z_nx, z_n, z_bk, z_rt, fin_nx, fin_rt, wp_some]; exact (hR _ rfl)
    | _ => exact same0_ok (k+n+1) _ h (by simpa [okd] using o)
theorem same (k n : Nat) (hk : n < k) (d : D) (h : LH) (o : okd n d = true) : callN TT.pr k 6906700753637242597 [d, d] h = some (.bl true, h) := by
  obtain ⟨j, rfl⟩ : ∃ j, k = j + n + 1 := ⟨k - n - 1, by omega⟩
  exact same_ok j n d h o
theorem initR_wf (c : Int) : (initR c).wf := by
  simp only [initR, TSs.wf, TS.wf, TR.wf, TE.wf, intE]
  repeat' apply And.intro
  all_goals first | trivial | (refine Cv.int _ ?_; decide) | exact Cv.text _ (by decide) rfl
theorem app_wf : ∀ a b : TSs, a.wf → b.wf → (a.app b).wf
  | .nil, b, x, y => y
  | .cons s r, b, x, y => ⟨x.1, app_wf r b x.2 y⟩
theorem out_gd {c : Int} {r0 r1 rows : TSs} (G : (mkT c r0 r1 rows).good) (w0 : r0.wf) (w1 : r1.wf) (w : rows.wf) : GD (mkT c r0 r1 rows).out.1 := by
  refine step_gd _ _ _ (fun p hp => ⟨(G.pr p hp).1, ?_⟩) (main_gd _ G.blk.1 (app_wf _ _ (initR_wf c) w))
  have hp : p ∈ [((90 : Int), nmK c 10, [nmK c 5], r0), (91, nmK c 11, [nmK c 5, nmK c 6], r1)] := hp
  simp only [List.mem_cons, List.not_mem_nil, or_false] at hp
  rcases hp with rfl | rfl
  · exact w0
  · exact w1
theorem okd_cd {L : List D} (g : GD L) (hl : L.length ≤ 2000) : okd 4 (.tup (L.map cdOf)) = true := by
  rw [okd]
  simp only [List.length_map, Bool.and_eq_true, decide_eq_true_eq, List.all_eq_true, List.mem_map]
  refine ⟨by omega, ?_⟩
  rintro _ ⟨x, hx, rfl⟩
  obtain ⟨l, d, rfl, h⟩ := g x hx
  exact h
theorem okd_ln {L : List D} (g : GD L) (hl : L.length ≤ 2000) : okd 1 (.tup (L.map lnOf)) = true := by
  rw [okd]
  simp only [List.length_map, Bool.and_eq_true, decide_eq_true_eq, List.all_eq_true, List.mem_map]
  refine ⟨by omega, ?_⟩
  rintro _ ⟨x, hx, rfl⟩
  obtain ⟨l, d, rfl, h⟩ := g x hx
  rfl
theorem okd_names {ss : List Nm} (g : sgs ss) (l : ss.length < 4000000) : okd 1 (namesD ss) = true := by
  simp [okd, namesD, l]
  intro s hs
  have := g s hs
  unfold sgn at this
  simpa using this
theorem okd_rec {r : Nm × List Nm} (g : sgn r.1) (g2 : sgs r.2) (l : r.2.length < 4000000) : okd 3 (.tup [recD r]) = true := by
  have a1 := okd_names g2 l
  unfold sgn at g
  rw [okd]
  simp only [List.length_cons, List.length_nil, List.all_cons, List.all_nil, recD, okd, a1, g, Bool.and_true]
  rfl
theorem told_gd (T : TP) (G : T.good) : ∀ (l : List (Int × Nm × List Nm × TSs)) (acc : List D × List D), (∀ p ∈ l, p ∈ T.procs) → (∀ x ∈ acc.2, okd 2 x = true) → ∀ x ∈ (l.foldl T.step acc).2, okd 2 x = true
  | [], acc, hl, h => h
  | p :: l, acc, hl, h => told_gd T G l (T.step acc p) (fun q hq => hl q (List.mem_cons_of_mem _ hq)) fun x hx => by
    rcases List.mem_append.mp hx with hx | hx
    · exact h x hx
    · cases List.mem_singleton.mp hx
      have hp := hl p List.mem_cons_self
      have a := okd_names (G.own_sg hp) (by have := own_len G hp; omega)
      have b := (G.procs.inn _ (List.mem_map.mpr ⟨p, hp, rfl⟩)).2.1
      unfold sgn at b
      simp only at b
      rw [okd]
      simp only [List.length_cons, List.length_nil, List.all_cons, List.all_nil, a, b, Bool.and_true, okd]
      rfl
theorem okd_told {T : TP} (G : T.good) : okd 3 (.tup T.out.2) = true := by
  have a := told_gd T G T.procs (T.main, []) (fun _ h => h) (fun _ h => by cases h)
  have b := told_len T T.procs (T.main, [])
  have : T.out.2.length ≤ 1000 := by unfold TP.out; rw [b]; have := G.few.2; simp; omega
  rw [okd]
  simp only [Bool.and_eq_true, decide_eq_true_eq, List.all_eq_true]
  exact ⟨by omega, a⟩
theorem law_true : ∀ ns : List Int, ns.length ≤ 63 → ∃ h', callN TT.pr 100 1782007 [.ref 0] [.scr ns] = some (.bl true, h') := by
  intro ns hl
  rw [callN_succ fn_law rfl]
  obtain ⟨c, r0, r1, rows, h1, e1, le1, G, w0, w1, w2⟩ := tree_ok 99 (by decide) 0 ns [.scr ns] rfl
  obtain ⟨a, h3, ct, l3, f3⟩ := compile_ok G 99 (by decide) h1
  obtain ⟨b, p, h4, cw, l4, f4, f5⟩ := lwhole_ok G 99 (by decide) h3
  have f6 := l4.get f3
  have gd := out_gd G w0 w1 w2
  have gl := G.len
  have sc := fun h => same 99 4 (by decide) _ h (okd_cd gd gl)
  have sl := fun h => same 99 1 (by decide) _ h (okd_ln gd gl)
  have st := fun h => same 99 3 (by decide) _ h (okd_told G)
  have gt : sgs (varsOf (mkT c r0 r1 rows).blk []) := G.fit.ok.top
  have tl : (varsOf (mkT c r0 r1 rows).blk []).length < 4000000 := by have : (varsOf (mkT c r0 r1 rows).blk []).length ≤ 1000000 := G.fit2.top; omega
  have sv := fun h => same 99 1 (by decide) _ h (okd_names gt tl)
  have rr := G.recs.inn (89, nmK c 12, [nmK c 13, nmK c 14]) (by simp [mkT])
  have sr := fun h => same 99 3 (by decide) _ h (okd_rec (r := (nmK c 12, [nmK c 13, nmK c 14])) rr.2.1 rr.2.2.1 (by simp))
  have ru : (mkT c r0 r1 rows).recs.map (fun r => recD r.2) = [recD (nmK c 12, [nmK c 13, nmK c 14])] := rfl
  have d1 : ∀ h, getix TT.pr (mkT c r0 r1 rows).d (.int 1) h = some (.tup [headD (89, nmK c 12, [nmK c 13, nmK c 14])]) := fun h => rfl
  have obj : (mkT c r0 r1 rows).obj = .ins 355790745284845 [(209449573, .tup ((mkT c r0 r1 rows).out.1.map cdOf)), (29213045491, .tup ((mkT c r0 r1 rows).out.1.map lnOf)), (504874445615731, .tup [recD (nmK c 12, [nmK c 13, nmK c 14])]), (8557907253277700851, namesD (varsOf (mkT c r0 r1 rows).blk [])), (1041295160196917408499, .tup (mkT c r0 r1 rows).out.2)] := rfl
  rw [obj] at f3 f6
  clear G w0 w1 w2 ru obj rr gt tl
  generalize namesD (varsOf (mkT c r0 r1 rows).blk []) = TOP at *
  generalize (mkT c r0 r1 rows).d = TD at *
  generalize (mkT c r0 r1 rows).out.2 = TO at *
  generalize (mkT c r0 r1 rows).out.1 = O at *
  have hr : ∀ h, getix TT.pr (headD (89, nmK c 12, [nmK c 13, nmK c 14])) (.int 1) h = some (.str (nmK c 12)) := fun _ => rfl
  have hr2 : ∀ h, getix TT.pr (headD (89, nmK c 12, [nmK c 13, nmK c 14])) (.int 2) h = some (namesD [nmK c 13, nmK c 14]) := fun _ => rfl
  have rd : recD (nmK c 12, [nmK c 13, nmK c 14]) = .tup [.str (nmK c 12), namesD [nmK c 13, nmK c 14]] := rfl
  rw [rd] at sr f3 f6
  generalize headD (89, nmK c 12, [nmK c 13, nmK c 14]) = hd0 at *
  generalize namesD [nmK c 13, nmK c 14] = fl0 at *
  generalize nmK c 12 = rn0 at *
  clear rd
  simp! [F_law, e1, ct, cw, f4, f5]
  generalize hL : forL _ _ _ _ _ _ _ = L
  refine forL_go hL (fun i σ h' => (∃ d, σ = [some (.ref 0), some TD, some (.ref a), some (.ref b), some (.tup ((O.take i).map cdOf)), some (.tup ((O.take i).map lnOf)), d, none]) ∧ h' = h4) ⟨⟨none, rfl⟩, rfl⟩ ?_ ?_
  · rintro i x σ h' hx ⟨⟨d, rfl⟩, rfl⟩ Q hQ
    have hi : i < O.length := (List.getElem?_eq_some_iff.mp hx).1
    obtain ⟨l, y, rfl, hy⟩ := gd x (List.mem_of_getElem? hx)
    have tk : O.take (i + 1) = O.take i ++ [.tup [.int l, y]] := by rw [List.take_add_one, hx]; rfl
    rw [tk, List.map_append, List.map_append] at hQ
    have l1 : ((O.take i).map cdOf).length ≤ 2000 := by simp; omega
    have l2 : ((O.take i).map lnOf).length ≤ 2000 := by simp; omega
    generalize (O.take i).map cdOf = A at *
    generalize (O.take i).map lnOf = B at *
    clear hL hx tk
    simp! [show A.length ≤ 16777215 by omega, show B.length ≤ 16777215 by omega]
    simp only [Option.bind_some, z_nx, z_n, z_bk, z_rt, fin_nx, fin_rt, wp_some]
    exact hQ _ _ (by simp only [stays, seqOf, f5]) ⟨⟨_, rfl⟩, rfl⟩
  rintro σ' h' rfl ⟨⟨d, rfl⟩, rfl⟩
  clear hL
  rw [List.take_length]
  generalize O.map cdOf = CD at *
  generalize O.map lnOf = LN at *
  simp! [f6, sc, sl, d1, hr, hr2, sr, f4, sv, st]

end K13
end FK
end

namespace FK.K13
open PySem PySem.W
def nthS : List Stmt → Nat → Stmt
  | [], _ => .Pass ⟨0, 0, 0, 0⟩
  | s :: _, 0 => s
  | _ :: r, n + 1 => nthS r n
def st0 : Stmt := nthS PySem.Challenge.pw_foretask_k13_code_of_programs.main.body 0
def st1 : Stmt := nthS PySem.Challenge.pw_foretask_k13_code_of_programs.main.body 1
def st2 : Stmt := nthS PySem.Challenge.pw_foretask_k13_code_of_programs.main.body 2
def st3 : Stmt := nthS PySem.Challenge.pw_foretask_k13_code_of_programs.main.body 3
def st4 : Stmt := nthS PySem.Challenge.pw_foretask_k13_code_of_programs.main.body 4
def st5 : Stmt := nthS PySem.Challenge.pw_foretask_k13_code_of_programs.main.body 5
def st6 : Stmt := nthS PySem.Challenge.pw_foretask_k13_code_of_programs.main.body 6
def st7 : Stmt := nthS PySem.Challenge.pw_foretask_k13_code_of_programs.main.body 7
def st8 : Stmt := nthS PySem.Challenge.pw_foretask_k13_code_of_programs.main.body 8
def st9 : Stmt := nthS PySem.Challenge.pw_foretask_k13_code_of_programs.main.body 9
def st10 : Stmt := nthS PySem.Challenge.pw_foretask_k13_code_of_programs.main.body 10
def st11 : Stmt := nthS PySem.Challenge.pw_foretask_k13_code_of_programs.main.body 11
def st12 : Stmt := nthS PySem.Challenge.pw_foretask_k13_code_of_programs.main.body 12
def st13 : Stmt := nthS PySem.Challenge.pw_foretask_k13_code_of_programs.main.body 13
def st14 : Stmt := nthS PySem.Challenge.pw_foretask_k13_code_of_programs.main.body 14
def st15 : Stmt := nthS PySem.Challenge.pw_foretask_k13_code_of_programs.main.body 15
def st16 : Stmt := nthS PySem.Challenge.pw_foretask_k13_code_of_programs.main.body 16
def st17 : Stmt := nthS PySem.Challenge.pw_foretask_k13_code_of_programs.main.body 17
def st18 : Stmt := nthS PySem.Challenge.pw_foretask_k13_code_of_programs.main.body 18
def st19 : Stmt := nthS PySem.Challenge.pw_foretask_k13_code_of_programs.main.body 19
def st20 : Stmt := nthS PySem.Challenge.pw_foretask_k13_code_of_programs.main.body 20
def st21 : Stmt := nthS PySem.Challenge.pw_foretask_k13_code_of_programs.main.body 21
def st22 : Stmt := nthS PySem.Challenge.pw_foretask_k13_code_of_programs.main.body 22
def st23 : Stmt := nthS PySem.Challenge.pw_foretask_k13_code_of_programs.main.body 23
def st24 : Stmt := nthS PySem.Challenge.pw_foretask_k13_code_of_programs.main.body 24
def st25 : Stmt := nthS PySem.Challenge.pw_foretask_k13_code_of_programs.main.body 25
def st26 : Stmt := nthS PySem.Challenge.pw_foretask_k13_code_of_programs.main.body 26
def st27 : Stmt := nthS PySem.Challenge.pw_foretask_k13_code_of_programs.main.body 27
def st28 : Stmt := nthS PySem.Challenge.pw_foretask_k13_code_of_programs.main.body 28
def st29 : Stmt := nthS PySem.Challenge.pw_foretask_k13_code_of_programs.main.body 29
def st30 : Stmt := nthS PySem.Challenge.pw_foretask_k13_code_of_programs.main.body 30
def st31 : Stmt := nthS PySem.Challenge.pw_foretask_k13_code_of_programs.main.body 31
def st32 : Stmt := nthS PySem.Challenge.pw_foretask_k13_code_of_programs.main.body 32
def st33 : Stmt := nthS PySem.Challenge.pw_foretask_k13_code_of_programs.main.body 33
def st34 : Stmt := nthS PySem.Challenge.pw_foretask_k13_code_of_programs.main.body 34
def st35 : Stmt := nthS PySem.Challenge.pw_foretask_k13_code_of_programs.main.body 35
def st36 : Stmt := nthS PySem.Challenge.pw_foretask_k13_code_of_programs.main.body 36
def st37 : Stmt := nthS PySem.Challenge.pw_foretask_k13_code_of_programs.main.body 37
def st38 : Stmt := nthS PySem.Challenge.pw_foretask_k13_code_of_programs.main.body 38
def st39 : Stmt := nthS PySem.Challenge.pw_foretask_k13_code_of_programs.main.body 39
def st40 : Stmt := nthS PySem.Challenge.pw_foretask_k13_code_of_programs.main.body 40
def st41 : Stmt := nthS PySem.Challenge.pw_foretask_k13_code_of_programs.main.body 41
def st42 : Stmt := nthS PySem.Challenge.pw_foretask_k13_code_of_programs.main.body 42
def st43 : Stmt := nthS PySem.Challenge.pw_foretask_k13_code_of_programs.main.body 43
def st44 : Stmt := nthS PySem.Challenge.pw_foretask_k13_code_of_programs.main.body 44
def st45 : Stmt := nthS PySem.Challenge.pw_foretask_k13_code_of_programs.main.body 45
def st46 : Stmt := nthS PySem.Challenge.pw_foretask_k13_code_of_programs.main.body 46
def st47 : Stmt := nthS PySem.Challenge.pw_foretask_k13_code_of_programs.main.body 47
def st48 : Stmt := nthS PySem.Challenge.pw_foretask_k13_code_of_programs.main.body 48
def st49 : Stmt := nthS PySem.Challenge.pw_foretask_k13_code_of_programs.main.body 49
def st50 : Stmt := nthS PySem.Challenge.pw_foretask_k13_code_of_programs.main.body 50
def st51 : Stmt := nthS PySem.Challenge.pw_foretask_k13_code_of_programs.main.body 51
def st52 : Stmt := nthS PySem.Challenge.pw_foretask_k13_code_of_programs.main.body 52
def st53 : Stmt := nthS PySem.Challenge.pw_foretask_k13_code_of_programs.main.body 53
def st54 : Stmt := nthS PySem.Challenge.pw_foretask_k13_code_of_programs.main.body 54
def st55 : Stmt := nthS PySem.Challenge.pw_foretask_k13_code_of_programs.main.body 55
def st56 : Stmt := nthS PySem.Challenge.pw_foretask_k13_code_of_programs.main.body 56
def st57 : Stmt := nthS PySem.Challenge.pw_foretask_k13_code_of_programs.main.body 57
def st58 : Stmt := nthS PySem.Challenge.pw_foretask_k13_code_of_programs.main.body 58
def st59 : Stmt := nthS PySem.Challenge.pw_foretask_k13_code_of_programs.main.body 59
def st60 : Stmt := nthS PySem.Challenge.pw_foretask_k13_code_of_programs.main.body 60
def st61 : Stmt := nthS PySem.Challenge.pw_foretask_k13_code_of_programs.main.body 61
def st62 : Stmt := nthS PySem.Challenge.pw_foretask_k13_code_of_programs.main.body 62
def st63 : Stmt := nthS PySem.Challenge.pw_foretask_k13_code_of_programs.main.body 63
def st64 : Stmt := nthS PySem.Challenge.pw_foretask_k13_code_of_programs.main.body 64
def st65 : Stmt := nthS PySem.Challenge.pw_foretask_k13_code_of_programs.main.body 65
def st66 : Stmt := nthS PySem.Challenge.pw_foretask_k13_code_of_programs.main.body 66
def st67 : Stmt := nthS PySem.Challenge.pw_foretask_k13_code_of_programs.main.body 67
def st68 : Stmt := nthS PySem.Challenge.pw_foretask_k13_code_of_programs.main.body 68
def st69 : Stmt := nthS PySem.Challenge.pw_foretask_k13_code_of_programs.main.body 69
def st70 : Stmt := nthS PySem.Challenge.pw_foretask_k13_code_of_programs.main.body 70
def st71 : Stmt := nthS PySem.Challenge.pw_foretask_k13_code_of_programs.main.body 71
def st72 : Stmt := nthS PySem.Challenge.pw_foretask_k13_code_of_programs.main.body 72
def st73 : Stmt := nthS PySem.Challenge.pw_foretask_k13_code_of_programs.main.body 73
def st74 : Stmt := nthS PySem.Challenge.pw_foretask_k13_code_of_programs.main.body 74
def st75 : Stmt := nthS PySem.Challenge.pw_foretask_k13_code_of_programs.main.body 75
def st76 : Stmt := nthS PySem.Challenge.pw_foretask_k13_code_of_programs.main.body 76
def st77 : Stmt := nthS PySem.Challenge.pw_foretask_k13_code_of_programs.main.body 77
def st78 : Stmt := nthS PySem.Challenge.pw_foretask_k13_code_of_programs.main.body 78
def st79 : Stmt := nthS PySem.Challenge.pw_foretask_k13_code_of_programs.main.body 79
def st80 : Stmt := nthS PySem.Challenge.pw_foretask_k13_code_of_programs.main.body 80
def st81 : Stmt := nthS PySem.Challenge.pw_foretask_k13_code_of_programs.main.body 81
def st82 : Stmt := nthS PySem.Challenge.pw_foretask_k13_code_of_programs.main.body 82
def st83 : Stmt := nthS PySem.Challenge.pw_foretask_k13_code_of_programs.main.body 83
def st84 : Stmt := nthS PySem.Challenge.pw_foretask_k13_code_of_programs.main.body 84
def st85 : Stmt := nthS PySem.Challenge.pw_foretask_k13_code_of_programs.main.body 85
def st86 : Stmt := nthS PySem.Challenge.pw_foretask_k13_code_of_programs.main.body 86
def st87 : Stmt := nthS PySem.Challenge.pw_foretask_k13_code_of_programs.main.body 87
def st88 : Stmt := nthS PySem.Challenge.pw_foretask_k13_code_of_programs.main.body 88
def st89 : Stmt := nthS PySem.Challenge.pw_foretask_k13_code_of_programs.main.body 89
def st90 : Stmt := nthS PySem.Challenge.pw_foretask_k13_code_of_programs.main.body 90
def st91 : Stmt := nthS PySem.Challenge.pw_foretask_k13_code_of_programs.main.body 91
def st92 : Stmt := nthS PySem.Challenge.pw_foretask_k13_code_of_programs.main.body 92
def st93 : Stmt := nthS PySem.Challenge.pw_foretask_k13_code_of_programs.main.body 93
def pw2 : Program := { PySem.Challenge.pw_foretask_k13_code_of_programs with main := { PySem.Challenge.pw_foretask_k13_code_of_programs.main with body := [st0, st1, st2, st3, st4, st5, st6, st7, st8, st9, st10, st11, st12, st13, st14, st15, st16, st17, st18, st19, st20, st21, st22, st23, st24, st25, st26, st27, st28, st29, st30, st31, st32, st33, st34, st35, st36, st37, st38, st39, st40, st41, st42, st43, st44, st45, st46, st47, st48, st49, st50, st51, st52, st53, st54, st55, st56, st57, st58, st59, st60, st61, st62, st63, st64, st65, st66, st67, st68, st69, st70, st71, st72, st73, st74, st75, st76, st77, st78, st79, st80, st81, st82, st83, st84, st85, st86, st87, st88, st89, st90, st91, st92, st93] } }
def rw2 : PySem.W.OpenLaw := { PySem.Challenge.rw_foretask_k13_code_of_programs with prog := pw2 }
theorem rw2_eq : rw2 = PySem.Challenge.rw_foretask_k13_code_of_programs := by kernel_rfl
end FK.K13
open PySem PySem.W PyProof.Rows
set_option maxRecDepth 100000 in
set_option maxHeartbeats 0 in
theorem PySem.Challenge.cw_foretask_k13_code_of_programs_holds : PySem.Challenge.rw_foretask_k13_code_of_programs.Holds := by
  refine FK.K13.rw2_eq ▸ (?_ : FK.K13.rw2.Holds)
  w_on; o_law; k_head; (case hw => w_witness2)
  k_fill
  refine L2.walk_of (l := FK.K13.rw2) (n := 63) (k := 2 * 100) (x := "_law_script") (CX := fun _ => L2.CX0) (sp := fun w => FK.spLaw _) rfl (by decide) rfl ⟨rfl, by decide, by decide⟩ (fun w h Y => PySem.W.kIn_of Y) ?F (fun _ _ a ns hl hO hS => ⟨a, ns, rfl, hl, hO, hS, fun _ => rfl⟩) (fun _ _ _ _ _ h => h)
  case F =>
    intro w mg fa h KX G hmg
    refine' FK.law_all (T := FK.K13.TT) (k := 100) (F := FK.K13.F_law) (x := 1782007) KX G hmg ?_ ?_ (by rfl) rfl FK.K13.law_true ?_ ?_ ?_ ?_ ?_ ?_ (by decide)
    · kernel_rfl
    · kernel_rfl
    · kernel_rfl
    · kernel_rfl
    · kernel_rfl
    · kernel_rfl
    · kernel_rfl
    · kernel_rfl
