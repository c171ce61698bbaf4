import PyProof.Rows.All
import Wide.All
import OpenK.AllK
import Wide.FinOn
import HandS.ForMost
import HandS.TupAny
import HandS.Style
import HandS.IsInst
import HandS.DictEq
import HandS.NoneIn
import HandS.More
import HandS.Conv
import HandS.Deep
import KE.KEqDict
import PyProof.NeKinds
import HandS.SortRule
import HandS.Iter
import PySem.Challenge.RW_captionwarrant_k41_whole_edits_there_and
set_option Elab.async false
set_option linter.all false
namespace Ev

/-- pure values -/
inductive PV where
  | non
  | bl (b : Bool)
  | int (i : Int)
  | str (s : List Nat)
  | tup (xs : List PV)
  | lst (xs : List PV)
  | frl (xs : List PV)
  | dict (kvs : List (PV × PV))

inductive SV where
  | v (p : PV)
  | o (i : Nat)

inductive Cell where
  | lst (xs : List PV)
  | dict (kvs : List (PV × PV))
  | frz (p : PV)

abbrev AH := List Cell
abbrev En := List (Option SV)

def SZ : Nat := 16777216

/-! ### the same thing, part by part -/
mutual
def same : PV → PV → Bool
  | .non, .non => true
  | .bl a, .bl b => a == b
  | .int a, .int b => a == b
  | .str a, .str b => a == b
  | .tup xs, .tup ys => sames xs ys
  | .lst xs, .lst ys => sames xs ys
  | .frl xs, .frl ys => sames xs ys
  | .dict xs, .dict ys => samed xs ys
  | _, _ => false
def sames : List PV → List PV → Bool
  | [], [] => true
  | x :: xs, y :: ys => same x y && sames xs ys
  | _, _ => false
def samed : List (PV × PV) → List (PV × PV) → Bool
  | [], [] => true
  | (k, x) :: xs, (k', y) :: ys => same k k' && same x y && samed xs ys
  | _, _ => false
end

/-- == of keys: ints and texts -/
def keyEq : PV → PV → Bool
  | .int a, .int b => a == b
  | .str a, .str b => a == b
  | _, _ => false
def isKey : PV → Bool
  | .int _ => true
  | .str _ => true
  | _ => false
def dlook (kvs : List (PV × PV)) (k : PV) : Option PV :=
  match kvs with
  | [] => none
  | (a, x) :: r => if keyEq a k then some x else dlook r k
def dhas (kvs : List (PV × PV)) (k : PV) : Bool := (dlook kvs k).isSome
def dput (kvs : List (PV × PV)) (k : PV) (v : PV) : List (PV × PV) :=
  if kvs.any (fun kv => keyEq kv.1 k) then kvs.map (fun kv => if keyEq kv.1 k then (kv.1, v) else kv) else kvs ++ [(k, v)]

/-! ### == -/
mutual
def eqv : PV → PV → Bool
  | .non, .non => true
  | .bl a, .bl b => a == b
  | .bl a, .int j => (if a then 1 else 0) == j
  | .int i, .bl b => i == (if b then 1 else 0)
  | .int i, .int j => i == j
  | .str a, .str b => a == b
  | .tup xs, .tup ys => eqvs xs ys
  | .lst xs, .lst ys => eqvs xs ys
  | _, _ => false
def eqvs : List PV → List PV → Bool
  | [], [] => true
  | x :: xs, y :: ys => eqv x y && eqvs xs ys
  | _, _ => false
end
/-! no dict within; how deep -/
mutual
def plainD : PV → Bool
  | .tup xs => plainDs xs
  | .lst xs => plainDs xs
  | .dict _ => false
  | .frl _ => false
  | _ => true
def plainDs : List PV → Bool
  | [] => true
  | x :: xs => plainD x && plainDs xs
end
mutual
def dep : PV → Nat
  | .tup xs => deps xs + 1
  | .lst xs => deps xs + 1
  | _ => 0
def deps : List PV → Nat
  | [] => 0
  | x :: xs => max (dep x) (deps xs)
end
def okD (p : PV) : Bool := plainD p && decide (dep p ≤ 64)

def dictEq (ks ls : List (PV × PV)) : Bool :=
  ks.length == ls.length && ks.all fun kv => match dlook ls kv.1 with
    | some y => eqv kv.2 y
    | none => false
def okDict (ks : List (PV × PV)) : Bool := ks.all fun kv => okD kv.2

/-- == as Python answers it, where it is served -/
def eqP (p q : PV) : Option Bool :=
  match p, q with
  | .dict ks, .dict ls => if okDict ks && okDict ls then some (dictEq ks ls) else none
  | .lst xs, .lst ys => if xs.length ≠ ys.length then some false else if okD (.lst xs) && okD (.lst ys) then some (eqv (.lst xs) (.lst ys)) else none
  | p, q => if okD p && okD q then some (eqv p q) else none

/-! ### < -/
mutual
def ltv : PV → PV → Option Bool
  | .int a, .int b => some (decide (a < b))
  | .str a, .str b => some (decide (a < b))
  | .tup xs, .tup ys => ltvs xs ys
  | _, _ => none
def ltvs : List PV → List PV → Option Bool
  | [], [] => some false
  | [], _ :: _ => some true
  | _ :: _, [] => some false
  | x :: xs, y :: ys => if eqv x y then ltvs xs ys else ltv x y
end

inductive BOp | add | sub | mul | fdiv | mod | pow
  deriving DecidableEq
inductive COp | eq | ne | lt | le | gt | ge | isIn | notIn | is | isNot
  deriving DecidableEq
inductive Ty | int | bool | str | tuple | list | dict
  deriving DecidableEq

def mulOk (i j : Int) : Bool := (decide (-(2 ^ 64) < i) && decide (i < 2 ^ 64)) || (decide (-(2 ^ 64) < j) && decide (j < 2 ^ 64))
def rep {α : Type} (xs : List α) (k : Nat) : List α := (List.replicate k xs).flatten

def peek (h : AH) : SV → Option PV
  | .v p => some p
  | .o i => match h[i]? with
    | some (.lst xs) => some (.lst xs)
    | some (.dict kvs) => some (.dict kvs)
    | some (.frz p) => some p
    | none => none

/-- what a binary operator makes; the Bool: a new list is made -/
def binP (op : BOp) (p q : PV) : Option PV :=
  match op, p, q with
  | .add, .int a, .int b => some (.int (a + b))
  | .sub, .int a, .int b => some (.int (a - b))
  | .mul, .int a, .int b => if mulOk a b then some (.int (a * b)) else none
  | .fdiv, .int a, .int b => if decide (0 < b) && decide (b < 1073741824) then some (.int (a / b)) else none
  | .mod, .int a, .int b => if decide (0 < b) then some (.int (a % b)) else none
  | .pow, .int a, .int b => if decide (0 ≤ b) && decide (b ≤ 1000000) && decide (a.natAbs < 2 ^ 64) then some (.int (a ^ b.toNat)) else none
  | .add, .str a, .str b => if a.length + b.length ≤ SZ then some (.str (a ++ b)) else none
  | .add, .tup a, .tup b => if a.length + b.length ≤ SZ then some (.tup (a ++ b)) else none
  | .add, .lst a, .lst b => if a.length + b.length ≤ SZ then some (.lst (a ++ b)) else none
  | .mul, .str a, .int b => if decide (-1000 ≤ b) && decide (b ≤ 1000) && decide (a.length ≤ 1000) then some (.str (rep a b.toNat)) else none
  | _, _, _ => none

def inP (p q : PV) : Option Bool :=
  match q with
  | .dict kvs => if isKey p then some (dhas kvs p) else none
  | .tup ys => if okD p && okD (.tup ys) then some (ys.any fun y => eqv y p) else none
  | .lst ys => if okD p && okD (.lst ys) then some (ys.any fun y => eqv y p) else none
  | _ => none

def isNon : PV → Bool
  | .non => true
  | _ => false
def isP (p q : PV) : Option Bool :=
  match q with
  | .non => some (isNon p)
  | .bl b => match p with | .bl a => some (a == b) | _ => none
  | _ => none

def cmpP (op : COp) (p q : PV) : Option Bool :=
  match op with
  | .eq => eqP p q
  | .ne => (eqP p q).map not
  | .lt => match p, q with | .int a, .int b => some (decide (a < b)) | .str a, .str b => some (decide (a < b)) | _, _ => none
  | .gt => match p, q with | .int a, .int b => some (decide (b < a)) | _, _ => none
  | .le => match p, q with | .int a, .int b => some (decide (a ≤ b)) | _, _ => none
  | .ge => match p, q with | .int a, .int b => some (decide (b ≤ a)) | _, _ => none
  | .isIn => inP p q
  | .notIn => (inP p q).map not
  | .is => isP p q
  | .isNot => (isP p q).map not

def truP : PV → Option Bool
  | .non => some false
  | .bl b => some b
  | .int i => some (i != 0)
  | .str s => some (!s.isEmpty)
  | .tup xs => some (!xs.isEmpty)
  | .lst xs => some (!xs.isEmpty)
  | .frl xs => some (!xs.isEmpty)
  | .dict kvs => some (!kvs.isEmpty)

/-! ### places -/
def sIx (n d : Nat) : Option Int → Nat
  | none => d
  | some v => if v < 0 then (v + (n : Int)).toNat else min v.toNat n
def cut {α : Type} (xs : List α) (lo hi : Option Int) : List α := (xs.drop (sIx xs.length 0 lo)).take (sIx xs.length xs.length hi - sIx xs.length 0 lo)
def ixN (n : Nat) (i : Int) : Option Nat := if 0 ≤ i then (if i < n then some i.toNat else none) else if -(n : Int) ≤ i then some (i + n).toNat else none
def atI {α : Type} (xs : List α) (i : Int) : Option α := (ixN xs.length i).bind fun j => xs[j]?

def idxP (p q : PV) : Option PV :=
  match p, q with
  | .tup xs, .int i => atI xs i
  | .lst xs, .int i => atI xs i
  | .frl xs, .int i => atI xs i
  | .str s, .int i => (atI s i).map fun c => .str [c]
  | .dict kvs, k => if isKey k then dlook kvs k else none
  | _, _ => none
def sliceP (p : PV) (lo hi : Option Int) : Option PV :=
  match p with
  | .tup xs => some (.tup (cut xs lo hi))
  | .lst xs => some (.lst (cut xs lo hi))
  | .frl xs => some (.lst (cut xs lo hi))
  | .str s => some (.str (cut s lo hi))
  | _ => none

def tyOf : PV → Option Ty
  | .non => none
  | .bl _ => some .bool
  | .int _ => some .int
  | .str _ => some .str
  | .tup _ => some .tuple
  | .lst _ => some .list
  | .frl _ => some .list
  | .dict _ => some .dict
def isiTy (p : PV) (t : Ty) : Bool :=
  match p, t with
  | .bl _, .bool => true
  | .bl _, .int => true
  | .int _, .int => true
  | .str _, .str => true
  | .tup _, .tuple => true
  | .lst _, .list => true
  | .frl _, .list => true
  | .dict _, .dict => true
  | _, _ => false

/-! ### lists of one kind -/
def intsOf : List PV → Option (List Int)
  | [] => some []
  | .int i :: r => (intsOf r).map (i :: ·)
  | _ :: _ => none
def blsOf : List PV → Option (List Bool)
  | [] => some []
  | .bl i :: r => (blsOf r).map (i :: ·)
  | _ :: _ => none
def strsOf : List PV → Option (List (List Nat))
  | [] => some []
  | .str i :: r => (strsOf r).map (i :: ·)
  | _ :: _ => none
def prsOf : List PV → Option (List (Int × Int))
  | [] => some []
  | .tup [.int a, .int b] :: r => (prsOf r).map ((a, b) :: ·)
  | _ :: _ => none
def lexI (p q : Int × Int) : Bool := if p.1 = q.1 then decide (p.2 < q.2) else decide (p.1 < q.1)
def keysOf : List PV → Bool
  | [] => true
  | x :: r => isKey x && keysOf r
def pairsOf : List PV → Option (List (PV × PV))
  | [] => some []
  | .tup [k, v] :: r => if isKey k then (pairsOf r).map ((k, v) :: ·) else none
  | _ :: _ => none
def mergeP (kvs more : List (PV × PV)) : List (PV × PV) := more.foldl (fun acc kv => dput acc kv.1 kv.2) kvs
def minL : List Int → Option Int
  | [] => none
  | x :: r => some (r.foldl min x)
def maxL : List Int → Option Int
  | [] => none
  | x :: r => some (r.foldl max x)


def insR {α : Type} (lt : α → α → Bool) (x : α) : List α → List α
  | [] => [x]
  | y :: r => if lt y x then y :: insR lt x r else x :: y :: r
def isort {α : Type} (lt : α → α → Bool) : List α → List α
  | [] => []
  | x :: r => insR lt x (isort lt r)

end Ev

set_option Elab.async false
set_option linter.all false
namespace Ev

inductive Blt | len | abs | int | min2 | max2 | min1 | max1 | sum | any | all | tuple | list | sorted | dict | str
  deriving DecidableEq
inductive Mth | append | extend | pop | popAt | insert | get1 | get2 | lower | join | count | index
  deriving DecidableEq

inductive Tg
  | nm (i : Nat)
  | tp (is : List Nat)

mutual
inductive Ex
  | var (i : Nat) (z : Bool)
  | lit (p : PV)
  | glob (x : List Nat) (p : PV)
  | bin (op : BOp) (a b : Ex)
  | neg (a : Ex)
  | cmp (op : COp) (a b : Ex)
  | cmp2 (op op2 : COp) (a b c : Ex)
  | boo (isAnd : Bool) (a b : Ex)
  | not (a : Ex)
  | ite (c : Ts) (a b : Ex)
  | tup (es : Exs)
  | lst (m : Bool) (es : Exs)
  | dict (m : Bool) (kvs : Prs)
  | idx (a i : Ex)
  | slc (a : Ex) (lo hi : Exs)
  | rev (a : Ex)
  | call (f : Nat) (es : Exs)
  | blt (m : Bool) (b : Blt) (es : Exs)
  | mth (m : Mth) (o : Ex) (es : Exs)
  | isi (a : Ex) (t : Ty)
  | comp (m : Bool) (elt : Ex) (own : List Nat) (tg : Tg) (it : Itr) (ifs : Ts)
  | comp2 (m : Bool) (elt : Ex) (own : List Nat) (tg : Tg) (it : Itr) (own2 : List Nat) (tg2 : Tg) (it2 : Itr) (ifs : Ts)
inductive Exs
  | nil
  | cons (e : Ex) (es : Exs)
inductive Prs
  | nil
  | cons (k v : Ex) (r : Prs)
inductive Ts
  | yes
  | of (e : Ex)
  | not (t : Ts)
  | boo (isAnd : Bool) (a b : Ts)
inductive Itr
  | var (i : Nat) (z : Bool)
  | ex (e : Ex)
  | rng1 (a : Ex)
  | rng2 (a b : Ex)
  | rng3 (a b c : Ex)
  | enum (e : Ex)
  | zip (a b : Ex)
end

mutual
inductive Stm
  | expr (e : Ex)
  | asg (t : Tg) (e : Ex)
  | par (is : List Nat) (es : Exs)
  | aug (i : Nat) (op : BOp) (e : Ex)
  | put (o k e : Ex)
  | augput (o k : Ex) (op : BOp) (e : Ex)
  | ret (e : Ex)
  | ifs (c : Ts) (a b : Sts)
  | whil (c : Ts) (b : Sts)
  | for (t : Tg) (it : Itr) (b : Sts)
  | brk | cont | pass
inductive Sts
  | nil
  | cons (s : Stm) (ss : Sts)
end

structure Fn where
  name : List Nat
  ps : List (List Nat)
  N : List (List Nat)
  body : Sts

/-! ### how it runs -/
abbrev Calls := Nat → List SV → AH → Option (SV × AH)

def SV.pv : SV → Option PV
  | .v p => some p
  | .o _ => none
def pvs : List SV → Option (List PV)
  | [] => some []
  | .v p :: r => (pvs r).map (p :: ·)
  | .o _ :: _ => none

/-- a slice's part -/
def part : List SV → Option (Option Int)
  | [] => some none
  | [.v (.int i)] => some (some i)
  | _ => none
/-- a name is read: what is frozen is told as a value; z: it is frozen now -/
def rdVar (z : Bool) (h : AH) : SV → Option (SV × AH)
  | .v p => some (.v p, h)
  | .o j => match h[j]? with
    | some (.frz p) => some (.v p, h)
    | some (.lst xs) => if z then some (.v (.lst xs), h.set j (.frz (.lst xs))) else some (.o j, h)
    | some (.dict kvs) => if z then some (.v (.dict kvs), h.set j (.frz (.dict kvs))) else some (.o j, h)
    | none => none

/-- a new list, a new dict: a value or a thing that may change -/
def mkL (m : Bool) (xs : List PV) (h : AH) : Option (SV × AH) :=
  if m then some (.o h.length, h ++ [.lst xs]) else some (.v (.lst xs), h)
def mkD (m : Bool) (kvs : List (PV × PV)) (h : AH) : Option (SV × AH) :=
  if m then some (.o h.length, h ++ [.dict kvs]) else some (.v (.dict kvs), h)

/-- what a builtin made: new lists and dicts may be things that change -/
def mkR (m : Bool) (b : Blt) (r : PV) (h : AH) : Option (SV × AH) :=
  if m then match b, r with
    | .list, .lst xs => some (.o h.length, h ++ [.lst xs])
    | .sorted, .lst xs => some (.o h.length, h ++ [.lst xs])
    | .dict, .dict kvs => some (.o h.length, h ++ [.dict kvs])
    | _, _ => none
  else some (.v r, h)

def asgT : Tg → SV → En → Option En
  | .nm i, s, e => some (e.set i (some s))
  | .tp is, .v (.tup ps), e => if ps.length = is.length then some ((is.zip ps).foldl (fun e ip => e.set ip.1 (some (.v ip.2))) e) else none
  | .tp is, .v (.lst ps), e => if ps.length = is.length then some ((is.zip ps).foldl (fun e ip => e.set ip.1 (some (.v ip.2))) e) else none
  | _, _, _ => none

def wipeE (e : En) : List Nat → En
  | [] => e
  | v :: vs => (wipeE e vs).set v none

/-- what is walked: the items, and the changing list they stand in -/
abbrev Walk := List PV × Option Nat

def guardOk (xs : List PV) (g : Option Nat) (h : AH) : Bool :=
  match g with
  | none => true
  | some j => match h[j]? with
    | some (.lst ys) => sames ys xs
    | _ => false

def loopC (f : PV → AH → Option (Option PV × AH)) (ok : AH → Bool) (j : Nat) : List PV → AH → Option AH
  | [], h => if ok h then some h else none
  | x :: xs, h => if ok h then
      match f x h with
      | none => none
      | some (none, h') => loopC f ok j xs h'
      | some (some y, h') => match h'[j]? with
        | some (.lst acc) => if acc.length < SZ then loopC f ok j xs (h'.set j (.lst (acc ++ [y]))) else none
        | _ => none
    else none
/-- what was made at j is done -/
def finL (m : Bool) (j : Nat) (h : AH) : Option (SV × AH) :=
  match h[j]? with
  | some (.lst ys) => if m then some (.o j, h.take (j + 1)) else some (.v (.lst ys), h.take j)
  | _ => none
def finD (m : Bool) (j : Nat) (kvs : List (PV × PV)) (h : AH) : Option (SV × AH) :=
  match h[j]? with
  | some (.dict []) => if m then some (.o j, (h.set j (.dict kvs)).take (j + 1)) else some (.v (.dict kvs), h.take j)
  | _ => none

inductive Fl
  | nx (e : En) (h : AH)
  | rt (v : SV) (h : AH)
  | bk (e : En) (h : AH)
  | ct (e : En) (h : AH)

def loopF (f : PV → En → AH → Option Fl) (ok : AH → Bool) : List PV → En → AH → Option Fl
  | [], e, h => if ok h then some (.nx e h) else none
  | x :: xs, e, h => if ok h then
      match f x e h with
      | none => none
      | some (.nx e' h') => loopF f ok xs e' h'
      | some (.ct e' h') => loopF f ok xs e' h'
      | some (.bk e' h') => some (.nx e' h')
      | some (.rt v h') => some (.rt v h')
    else none

def whileF (t : En → AH → Option (Bool × AH)) (b : En → AH → Option Fl) : Nat → En → AH → Option Fl
  | 0, _, _ => none
  | n + 1, e, h => match t e h with
    | none => none
    | some (false, h') => some (.nx e h')
    | some (true, h') => match b e h' with
      | none => none
      | some (.nx e' h'') => whileF t b n e' h''
      | some (.ct e' h'') => whileF t b n e' h''
      | some (.bk e' h'') => some (.nx e' h'')
      | some (.rt v h'') => some (.rt v h'')

def FUEL : Nat := 100000

def rngs (lo : Int) (n : Nat) : List PV := (List.range n).map fun (i : Nat) => .int (lo + (i : Int))
def rngsC (lo c : Int) (n : Nat) : List PV := (List.range n).map fun (i : Nat) => .int (lo + (i : Int) * c)
def smallR (i : Int) : Bool := decide (-(2 ^ 62) ≤ i) && decide (i < 2 ^ 62)

/-- the items of a value -/
def itemsP : PV → Option (List PV)
  | .tup xs => some xs
  | .lst xs => some xs
  | .str s => some (s.map fun c => .str [c])
  | .dict kvs => some (kvs.map (·.1))
  | _ => none
/-- a list or a tuple -/
def seqP : PV → Option (List PV)
  | .tup xs => some xs
  | .lst xs => some xs
  | .frl xs => some xs
  | _ => none

def lenP : PV → Option PV
  | .str s => some (.int s.length)
  | .tup xs => some (.int xs.length)
  | .lst xs => some (.int xs.length)
  | .frl xs => some (.int xs.length)
  | .dict xs => some (.int xs.length)
  | _ => none
def sortL (xs : List PV) : Option (List PV) :=
  match intsOf xs with
  | some ns => if ns.length < 64 then some ((isort (fun a b => decide (a < b)) ns).map .int) else none
  | none => match strsOf xs with
    | some ss => if ss.length < 64 then some ((isort (fun a b => decide (a < b)) ss).map .str) else none
    | none => match prsOf xs with
      | some ps => some ((isort lexI ps).map fun p => .tup [.int p.1, .int p.2])
      | none => none
def sortP : PV → Option PV
  | .lst xs => (sortL xs).map .lst
  | .dict kvs => match strsOf (kvs.map (·.1)) with
    | some ss => if ss.length < 64 then some (.lst ((isort (fun a b => decide (a < b)) ss).map .str)) else none
    | none => none
  | _ => none
def onL (f : List PV → Option PV) : PV → Option PV
  | .lst xs => f xs
  | _ => none
def tupP : PV → Option PV
  | .lst xs => some (.tup xs)
  | .frl xs => some (.tup xs)
  | .tup xs => some (.tup xs)
  | _ => none
def listP : PV → Option PV
  | .lst xs => some (.lst xs)
  | .frl xs => some (.lst xs)
  | .tup xs => some (.lst xs)
  | _ => none
def dicP : PV → Option PV
  | .lst xs => (pairsOf xs).map fun kvs => .dict (mergeP [] kvs)
  | .dict kvs => some (.dict kvs)
  | _ => none
def blt1 (b : Blt) (p : PV) : Option PV :=
  match b with
  | .len => lenP p
  | .abs => match p with | .int i => some (.int (if i < 0 then -i else i)) | _ => none
  | .int => match p with | .int i => some (.int i) | _ => none
  | .min1 => onL (fun xs => (intsOf xs).bind fun ns => (minL ns).map .int) p
  | .max1 => onL (fun xs => (intsOf xs).bind fun ns => (maxL ns).map .int) p
  | .sum => onL (fun xs => (intsOf xs).map fun ns => .int ns.sum) p
  | .any => onL (fun xs => (blsOf xs).map fun bs => .bl (bs.any id)) p
  | .all => onL (fun xs => (blsOf xs).map fun bs => .bl (bs.all id)) p
  | .tuple => tupP p
  | .list => listP p
  | .sorted => sortP p
  | .dict => dicP p
  | _ => none
def blt2 (b : Blt) (p q : PV) : Option PV :=
  match b, p, q with
  | .min2, .int i, .int j => some (.int (if j < i then j else i))
  | .max2, .int i, .int j => some (.int (if j > i then j else i))
  | _, _, _ => none
def bltE (m : Bool) (b : Blt) (vs : List SV) (h : AH) : Option (SV × AH) :=
  match vs with
  | [x] => match peek h x with
    | some p => match blt1 b p with
      | some r => mkR m b r h
      | none => none
    | none => none
  | [.v p, .v q] => (blt2 b p q).map fun r => (.v r, h)
  | _ => none
/-- methods that change nothing -/
def lowP (s : List Nat) : Option (List Nat) :=
  match s with
  | [] => some []
  | [88] => some [120]
  | [88, 89] => some [120, 121]
  | [88, 89, 90] => some [120, 121, 122]
  | [73] => some [105]
  | _ => none
def mthT (m : Mth) (o : PV) : Bool :=
  match m, o with
  | .get1, .dict _ => true
  | .get2, .dict _ => true
  | .lower, .str _ => true
  | _, _ => false
def mthP (m : Mth) (o : PV) (ps : List PV) : Option PV :=
  match m with
  | .get1 => match o, ps with
    | .dict kvs, [k] => if isKey k then some ((dlook kvs k).getD .non) else none
    | _, _ => none
  | .get2 => match o, ps with
    | .dict kvs, [k, d] => if isKey k then some ((dlook kvs k).getD d) else none
    | _, _ => none
  | .lower => match o, ps with
    | .str s, [] => (lowP s).map .str
    | _, _ => none
  | _ => none

/-- methods that change the thing at j: what comes back, the thing behind it -/
def mthC (m : Mth) (c : Cell) (ps : List PV) : Option (PV × Cell) :=
  match c with
  | .lst xs => match m with
    | .append => match ps with
      | [p] => if xs.length < SZ then some (.non, .lst (xs ++ [p])) else none
      | _ => none
    | .extend => match ps with
      | [.lst ys] => if xs.length + ys.length ≤ SZ then some (.non, .lst (xs ++ ys)) else none
      | _ => none
    | .pop => match ps with
      | [] => match xs[xs.length - 1]? with
        | some p => some (p, .lst xs.dropLast)
        | none => none
      | _ => none
    | .popAt => match ps with
      | [.int i] => match ixN xs.length i with
        | some k => match xs[k]? with
          | some p => if smallR i then some (p, .lst (xs.eraseIdx k)) else none
          | none => none
        | none => none
      | _ => none
    | _ => none
  | _ => none
def isLst : Option Cell → Bool
  | some (.lst _) => true
  | _ => false
/-- the arguments of a method that changes -/
def argsM (m : Mth) (vs : List SV) (h : AH) : Option (List PV) :=
  match m with
  | .extend => match vs with
    | [y] => (peek h y).map ([·])
    | _ => none
  | _ => pvs vs
def mthE (m : Mth) (j : Nat) (vs : List SV) (h : AH) : Option (SV × AH) :=
  match h[j]? with
  | some c => match argsM m vs h with
    | some ps => (mthC m c ps).map fun r => (.v r.1, h.set j r.2)
    | none => none
  | none => none
def changes : Mth → Bool
  | .append | .extend | .pop | .popAt | .insert => true
  | _ => false

def notD : PV → Bool
  | .dict _ => false
  | _ => true
/-- the walk over a thing; dk: a dict may be walked -/
def walkOf (dk : Bool) (s : SV) (h : AH) : Option (List PV × Option Nat × AH) :=
  match s with
  | .v p => if dk || notD p then (itemsP p).map fun xs => (xs, none, h) else none
  | .o j => match h[j]? with
    | some (.lst xs) => some (xs, some j, h)
    | _ => none

mutual
def evE (C : Calls) : Ex → En → AH → Option (SV × AH)
  | .var i z, e, h => match e[i]? with
    | some (some s) => rdVar z h s
    | _ => none
  | .lit p, _, h => some (.v p, h)
  | .glob _ p, _, h => some (.v p, h)
  | .bin op a b, e, h => match evE C a e h with
    | none => none
    | some (x, h1) => match evE C b e h1 with
      | none => none
      | some (y, h2) => match peek h2 x, peek h2 y with
        | some p, some q => (binP op p q).map fun r => (.v r, h2)
        | _, _ => none
  | .neg a, e, h => match evE C a e h with
    | some (.v (.int i), h1) => some (.v (.int (-i)), h1)
    | _ => none
  | .cmp op a b, e, h => match evE C a e h with
    | none => none
    | some (x, h1) => match evE C b e h1 with
      | none => none
      | some (y, h2) => match peek h2 x, peek h2 y with
        | some p, some q => (cmpP op p q).map fun r => (.v (.bl r), h2)
        | _, _ => none
  | .cmp2 op op2 a b c, e, h => match evE C a e h with
    | none => none
    | some (x, h1) => match evE C b e h1 with
      | none => none
      | some (y, h2) => match peek h2 x, peek h2 y with
        | some p, some q => match cmpP op p q with
          | none => none
          | some false => some (.v (.bl false), h2)
          | some true => match evE C c e h2 with
            | none => none
            | some (z, h3) => match peek h3 y, peek h3 z with
              | some q, some r => (cmpP op2 q r).map fun r => (.v (.bl r), h3)
              | _, _ => none
        | _, _ => none
  | .boo isAnd a b, e, h => match evE C a e h with
    | some (.v (.bl c), h1) => if c == isAnd then evE C b e h1 else some (.v (.bl c), h1)
    | _ => none
  | .not a, e, h => match evE C a e h with
    | some (.v (.bl c), h1) => some (.v (.bl !c), h1)
    | _ => none
  | .ite c a b, e, h => match evT C c e h with
    | some (true, h1) => evE C a e h1
    | some (false, h1) => evE C b e h1
    | none => none
  | .tup es, e, h => match evL C es e h with
    | none => none
    | some (vs, h1) => match pvs vs with
      | some ps => if ps.length ≤ SZ then some (.v (.tup ps), h1) else none
      | none => none
  | .lst m es, e, h => match evL C es e h with
    | none => none
    | some (vs, h1) => match pvs vs with
      | some ps => if ps.length ≤ SZ then mkL m ps h1 else none
      | none => none
  | .dict m .nil, e, h => mkD m [] h
  | .dict m (.cons k a r), e, h => match evD C (.cons k a r) e (h ++ [.dict []]) with
    | none => none
    | some (kvs, h1) => if kvs.all (fun kv => isKey kv.1) && decide (kvs.length ≤ 15) then finD m h.length (mergeP [] kvs) h1 else none
  | .idx a i, e, h => match evE C a e h with
    | none => none
    | some (x, h1) => match evE C i e h1 with
      | none => none
      | some (y, h2) => match peek h2 x, y with
        | some p, .v q => (idxP p q).map fun r => (.v r, h2)
        | _, _ => none
  | .slc a lo hi, e, h => match evE C a e h with
    | none => none
    | some (x, h1) => match evL C lo e h1 with
      | none => none
      | some (l, h2) => match evL C hi e h2 with
        | none => none
        | some (u, h3) => match peek h3 x, part l, part u with
          | some p, some a, some b => (sliceP p a b).map fun r => (.v r, h3)
          | _, _, _ => none
  | .rev _, _, _ => none
  | .call f es, e, h => match evL C es e h with
    | none => none
    | some (vs, h1) => C f vs h1
  | .blt m b es, e, h => match evL C es e h with
    | none => none
    | some (vs, h1) => bltE m b vs h1
  | .mth m o es, e, h => match evE C o e h with
    | none => none
    | some (x, h1) =>
      if changes m then
        match x with
        | .o j => if isLst h1[j]? then
            match evL C es e h1 with
            | none => none
            | some (vs, h2) => mthE m j vs h2
          else none
        | .v _ => none
      else
        match peek h1 x with
        | none => none
        | some p0 => if mthT m p0 then
            match evL C es e h1 with
            | none => none
            | some (vs, h2) => match peek h2 x, pvs vs with
              | some p, some ps => (mthP m p ps).map fun r => (.v r, h2)
              | _, _ => none
          else none
  | .isi a t, e, h => match evE C a e h with
    | none => none
    | some (x, h1) => match peek h1 x with
      | some p => some (.v (.bl (isiTy p t)), h1)
      | none => none
  | .comp m elt own tg it ifs, e, h => match evI C it e h with
    | none => none
    | some (xs, g, h1) => match loopC (fun x h => match asgT tg (.v x) (wipeE e own) with
        | none => none
        | some e2 => match evT C ifs e2 h with
          | none => none
          | some (false, h2) => some (none, h2)
          | some (true, h2) => match evE C elt e2 h2 with
            | some (.v y, h3) => some (some y, h3)
            | _ => none) (guardOk xs g) h1.length xs (h1 ++ [.lst []]) with
      | none => none
      | some h2 => finL m h1.length h2
  | .comp2 m elt own tg it own2 tg2 it2 ifs, e, h => none
def evL (C : Calls) : Exs → En → AH → Option (List SV × AH)
  | .nil, _, h => some ([], h)
  | .cons a es, e, h => match evE C a e h with
    | none => none
    | some (x, h1) => match evL C es e h1 with
      | none => none
      | some (xs, h2) => some (x :: xs, h2)
def evD (C : Calls) : Prs → En → AH → Option (List (PV × PV) × AH)
  | .nil, _, h => some ([], h)
  | .cons k a ks, e, h => match evE C k e h with
    | some (.v p, h0) => match evE C a e h0 with
      | some (.v x, h1) => match evD C ks e h1 with
        | none => none
        | some (xs, h2) => some ((p, x) :: xs, h2)
      | _ => none
    | _ => none
def evT (C : Calls) : Ts → En → AH → Option (Bool × AH)
  | .yes, _, h => some (true, h)
  | .of a, e, h => match evE C a e h with
    | none => none
    | some (x, h1) => match peek h1 x with
      | some p => (truP p).map fun b => (b, h1)
      | none => none
  | .not t, e, h => match evT C t e h with
    | none => none
    | some (b, h1) => some (!b, h1)
  | .boo isAnd a b, e, h => match evT C a e h with
    | none => none
    | some (c, h1) => if c == isAnd then evT C b e h1 else some (c, h1)
def evI (C : Calls) : Itr → En → AH → Option (List PV × Option Nat × AH)
  | .var i z, e, h => match e[i]? with
    | some (some s) => match rdVar z h s with
      | some (t, h1) => walkOf true t h1
      | none => none
    | _ => none
  | .ex a, e, h => match evE C a e h with
    | some (t, h1) => walkOf false t h1
    | none => none
  | .rng1 a, e, h => match evE C a e h with
    | some (.v (.int i), h1) => if smallR i then some (rngs 0 i.toNat, none, h1) else none
    | _ => none
  | .rng2 a b, e, h => match evE C a e h with
    | some (.v (.int i), h1) => match evE C b e h1 with
      | some (.v (.int j), h2) => if smallR i && smallR j then some (rngs i (j - i).toNat, none, h2) else none
      | _ => none
    | _ => none
  | .rng3 a b c, e, h => none
  | .enum a, e, h => none
  | .zip a b, e, h => none
end

def binA (op : BOp) (p q : PV) : Option PV :=
  match op, p, q with
  | .add, .int a, .int b => some (.int (a + b))
  | .sub, .int a, .int b => some (.int (a - b))
  | .add, .str a, .str b => if a.length + b.length ≤ SZ then some (.str (a ++ b)) else none
  | _, _, _ => none

mutual
def evS (C : Calls) : Stm → En → AH → Option Fl
  | .expr a, e, h => (evE C a e h).map fun r => .nx e r.2
  | .asg t a, e, h => match evE C a e h with
    | none => none
    | some (x, h1) => (asgT t x e).map fun e' => .nx e' h1
  | .par is es, e, h => match evL C es e h with
    | none => none
    | some (vs, h1) => if vs.length = is.length then some (.nx ((is.zip vs).foldl (fun e iv => e.set iv.1 (some iv.2)) e) h1) else none
  | .aug i op a, e, h => match e[i]? with
    | some (some (.v p)) => match evE C a e h with
      | some (.v q, h1) => (binA op p q).map fun r => .nx (e.set i (some (.v r))) h1
      | _ => none
    | _ => none
  | .put o k a, e, h => match evE C a e h with
    | some (.v x, h1) => match evE C o e h1 with
      | some (.o j, h2) => match evE C k e h2 with
        | some (.v q, h3) => match h3[j]? with
          | some (.lst xs) => match q with
            | .int i => (ixN xs.length i).map fun n => .nx e (h3.set j (.lst (xs.set n x)))
            | _ => none
          | some (.dict kvs) => if isKey q && decide (kvs.length < SZ) then some (.nx e (h3.set j (.dict (dput kvs q x)))) else none
          | _ => none
        | _ => none
      | _ => none
    | _ => none
  | .augput o k op a, e, h => match evE C o e h with
    | some (.o j, h1) => match evE C k e h1 with
      | some (.v q, h2) => match h2[j]? with
        | some (.dict kvs) => if isKey q && decide (kvs.length < SZ) then
            match dlook kvs q with
            | some old => match evE C a e h2 with
              | some (.v y, h3) => match binA op old y with
                | some z => match h3[j]? with
                  | some (.dict kvs') => if decide (kvs'.length < SZ) then some (.nx e (h3.set j (.dict (dput kvs' q z)))) else none
                  | _ => none
                | none => none
              | _ => none
            | none => none
          else none
        | _ => none
      | _ => none
    | _ => none
  | .ret a, e, h => (evE C a e h).map fun r => .rt r.1 r.2
  | .ifs c a b, e, h => match evT C c e h with
    | none => none
    | some (true, h1) => evSs C a e h1
    | some (false, h1) => evSs C b e h1
  | .whil c b, e, h => whileF (evT C c) (evSs C b) FUEL e h
  | .for t it b, e, h => match evI C it e h with
    | none => none
    | some (xs, g, h1) => loopF (fun x e h => match asgT t (.v x) e with
        | none => none
        | some e' => evSs C b e' h) (guardOk xs g) xs e h1
  | .brk, e, h => some (.bk e h)
  | .cont, e, h => some (.ct e h)
  | .pass, e, h => some (.nx e h)
def evSs (C : Calls) : Sts → En → AH → Option Fl
  | .nil, e, h => some (.nx e h)
  | .cons s ss, e, h => match evS C s e h with
    | none => none
    | some (.nx e' h') => evSs C ss e' h'
    | some f => some f
end

/-- what comes back from a def: the things it made alone go -/
def retn (n : Nat) (h : AH) : SV → Option (SV × AH)
  | .v p => some (.v p, h.take n)
  | .o i => if i < n then some (.o i, h.take n) else if i = n then some (.o i, h.take (n + 1)) else none

def startE (fn : Fn) (args : List SV) : En := args.map some ++ List.replicate (fn.N.length - args.length) none

def callN (P : List Fn) : Nat → Calls
  | 0, _, _, _ => none
  | n + 1, f, args, h => match P[f]? with
    | none => none
    | some fn => if args.length = fn.ps.length then
        match evSs (callN P n) fn.body (startE fn args) h with
        | some (.nx _ h') => retn h.length h' (.v .non)
        | some (.rt v h') => retn h.length h' v
        | _ => none
      else none

/-- a def's run -/
def runF (C : Calls) (fn : Fn) (args : List SV) (h : AH) : Option (SV × AH) :=
  if args.length = fn.ps.length then
    match evSs C fn.body (startE fn args) h with
    | some (.nx _ h') => retn h.length h' (.v .non)
    | some (.rt v h') => retn h.length h' v
    | _ => none
  else none

end Ev

set_option Elab.async false
set_option linter.all false
set_option maxRecDepth 100000
namespace Ev
open PySem PySem.Spec PyProof.Rows L2

def strV (s : List Nat) : Str := ⟨s.toArray⟩
def keyV : PV → Key
  | .str s => .inr (strV s)
  | .int i => .inl i
  | _ => .inl 0
theorem SZ_eq : SZ = sizeLine := rfl

mutual
inductive VR (K : PySem.W.Frag) (M : Addr → Prop) (H : Hp) : V → PV → Prop
  | non : VR K M H .non .non
  | bl (b : Bool) : VR K M H (.bl b) (.bl b)
  | int (i : Int) : VR K M H (.int i) (.int i)
  | str {s : List Nat} (hz : s.length ≤ SZ) (hc : ∀ c ∈ s, c < 0x110000) : VR K M H (.str (strV s)) (.str s)
  | tup {a : Addr} {vs : List V} {xs : List PV} (e : H a = some (.tup vs)) (m : ¬ M a) (hz : xs.length ≤ SZ) (r : VRs K M H vs xs) : VR K M H (.ref a) (.tup xs)
  | lst {a : Addr} {vs : List V} {xs : List PV} (e : H a = some (.lst vs)) (m : ¬ M a) (hz : xs.length ≤ SZ) (r : VRs K M H vs xs) : VR K M H (.ref a) (.lst xs)
  | frl {a : Addr} {vs : List V} {xs : List PV} (e : (Rd H a (.lst vs) ∧ ¬ M a) ∨ ∀ H : Hp, SqL K H a vs) (hz : xs.length ≤ SZ) (r : VRs K M H vs xs) : VR K M H (.ref a) (.frl xs)
  | dict {a : Addr} {ks : List (Key × V)} {kvs : List (PV × PV)} (e : Rd H a (.dK ks)) (m : ¬ M a) (hz : kvs.length ≤ SZ) (r : KRs K M H ks kvs) : VR K M H (.ref a) (.dict kvs)
inductive VRs (K : PySem.W.Frag) (M : Addr → Prop) (H : Hp) : List V → List PV → Prop
  | nil : VRs K M H [] []
  | cons {v : V} {p : PV} {vs : List V} {ps : List PV} (r : VR K M H v p) (t : VRs K M H vs ps) : VRs K M H (v :: vs) (p :: ps)
inductive KRs (K : PySem.W.Frag) (M : Addr → Prop) (H : Hp) : List (Key × V) → List (PV × PV) → Prop
  | nil : KRs K M H [] []
  | cons {k : Key} {v : V} {q p : PV} {ks : List (Key × V)} {ps : List (PV × PV)} (kk : kV k = kV k) (e : VR K M H (kV k) q) (ik : isKey q = true) (ek : k = keyV q) (r : VR K M H v p) (t : KRs K M H ks ps) : KRs K M H ((k, v) :: ks) ((q, p) :: ps)
end

/-- the heap grows; what does not change stays -/
structure Ex1 (M : Addr → Prop) (H : Hp) (M' : Addr → Prop) (H' : Hp) : Prop where
  rdl : ∀ a xs, Rd H a (.lst xs) → ¬ M a → Rd H' a (.lst xs)
  rdk : ∀ a ks, Rd H a (.dK ks) → ¬ M a → Rd H' a (.dK ks)
  lst : ∀ a xs, H a = some (.lst xs) → ¬ M a → H' a = some (.lst xs)
  tup : ∀ a xs, H a = some (.tup xs) → H' a = some (.tup xs)
  ne : ∀ a, H a ≠ none → ¬ M a → H' a ≠ none
  mt : ∀ a, M' a → M a ∨ H a = none
theorem Ex1.refl (M : Addr → Prop) (H : Hp) : Ex1 M H M H := ⟨fun _ _ h _ => h, fun _ _ h _ => h, fun _ _ h _ => h, fun _ _ h => h, fun _ h _ => h, fun _ h => .inl h⟩
theorem Rd.none_of {H : Hp} {a : Addr} {u : HO} (r : Rd H a u) (n : H a = none) : False := by
  rcases r with r | ⟨o, r⟩ <;> rw [n] at r <;> cases r
theorem Ex1.trans {M M1 M2 : Addr → Prop} {H H1 H2 : Hp} (a : Ex1 M H M1 H1) (b : Ex1 M1 H1 M2 H2) : Ex1 M H M2 H2 where
  rdl := fun c u h m => b.rdl c u (a.rdl c u h m) fun z => (a.mt c z).elim m (fun n => Rd.none_of h n)
  rdk := fun c u h m => b.rdk c u (a.rdk c u h m) fun z => (a.mt c z).elim m (fun n => Rd.none_of h n)
  lst := fun c xs h m => b.lst c xs (a.lst c xs h m) fun z => (a.mt c z).elim m (fun n => by rw [n] at h; cases h)
  tup := fun c xs h => b.tup c xs (a.tup c xs h)
  ne := fun c h m => b.ne c (a.ne c h m) fun z => (a.mt c z).elim m h
  mt := fun c z => by
    rcases b.mt c z with z | n
    · exact a.mt c z
    · by_cases m : M c
      · exact .inl m
      · refine .inr ?_
        cases q : H c with
        | none => rfl
        | some u =>
          exact absurd n (a.ne c (by rw [q]; simp) m)
theorem Ex1.exact {M M' : Addr → Prop} {H H' : Hp} (s : ∀ a o, H a = some o → ¬ M a → H' a = some o) (t : ∀ a xs, H a = some (.tup xs) → H' a = some (.tup xs)) (m : ∀ a, M' a → M a ∨ H a = none) : Ex1 M H M' H' where
  rdl := fun a u h n => by
    rcases h with h | ⟨o, h⟩
    · exact .inl (s a _ h n)
    · exact .inr ⟨o, s a _ h n⟩
  rdk := fun a u h n => by
    rcases h with h | ⟨o, h⟩
    · exact .inl (s a _ h n)
    · exact .inr ⟨o, s a _ h n⟩
  lst := fun a xs h n => s a _ h n
  tup := t
  ne := fun a h n => by
    cases q : H a with
    | none => exact absurd q h
    | some u => rw [s a u q n]; simp
  mt := m
theorem Ex1.same {M M' : Addr → Prop} {H H' : Hp} (s : Same H H') (m : ∀ a, M' a → M a ∨ H a = none) : Ex1 M H M' H' :=
  Ex1.exact (fun a o h _ => s a o h) (fun a xs h => s a _ h) m

section
variable {K : PySem.W.Frag} {M M' : Addr → Prop} {H H' : Hp}
mutual
theorem VR.mono (x : Ex1 M H M' H') : ∀ {v : V} {p : PV}, VR K M H v p → VR K M' H' v p
  | _, _, .non => .non
  | _, _, .bl b => .bl b
  | _, _, .int i => .int i
  | _, _, .str hz hc => .str hz hc
  | _, _, .tup (a := a) e m hz r => .tup (x.tup _ _ e) (fun z => (x.mt a z).elim m fun n => by rw [n] at e; cases e) hz (VRs.mono x r)
  | _, _, .lst (a := a) e m hz r => .lst (x.lst _ _ e m) (fun z => (x.mt a z).elim m fun n => by rw [n] at e; cases e) hz (VRs.mono x r)
  | _, _, .frl (a := a) e hz r => by
    refine .frl ?_ hz (VRs.mono x r)
    rcases e with ⟨e, m⟩ | e
    · exact .inl ⟨x.rdl _ _ e m, fun z => (x.mt a z).elim m fun n => Rd.none_of e n⟩
    · exact .inr e
  | _, _, .dict (a := a) e m hz r => .dict (x.rdk _ _ e m) (fun z => (x.mt a z).elim m fun n => Rd.none_of e n) hz (KRs.mono x r)
theorem VRs.mono (x : Ex1 M H M' H') : ∀ {vs : List V} {ps : List PV}, VRs K M H vs ps → VRs K M' H' vs ps
  | _, _, .nil => .nil
  | _, _, .cons r t => .cons (VR.mono x r) (VRs.mono x t)
theorem KRs.mono (x : Ex1 M H M' H') : ∀ {vs : List (Key × V)} {ps : List (PV × PV)}, KRs K M H vs ps → KRs K M' H' vs ps
  | _, _, .nil => .nil
  | _, _, .cons kk e ik ek r t => .cons kk (VR.mono x e) ik ek (VR.mono x r) (KRs.mono x t)
end

theorem VRs.length : ∀ {vs : List V} {ps : List PV}, VRs K M H vs ps → vs.length = ps.length
  | _, _, .nil => rfl
  | _, _, .cons _ t => by rw [List.length_cons, List.length_cons, VRs.length t]
theorem VRs.get : ∀ {vs : List V} {ps : List PV} {i : Nat} {p : PV}, VRs K M H vs ps → ps[i]? = some p → ∃ v, vs[i]? = some v ∧ VR K M H v p
  | _, _, _, _, .nil, e => by simp at e
  | _, _, 0, _, .cons r _, e => by simp at e; subst e; exact ⟨_, rfl, r⟩
  | _, _, i + 1, p, .cons _ t, e => by
    obtain ⟨v, h1, h2⟩ := VRs.get (i := i) (p := p) t (by simpa using e)
    exact ⟨v, by simpa using h1, h2⟩
theorem VRs.getV : ∀ {vs : List V} {ps : List PV} {i : Nat} {v : V}, VRs K M H vs ps → vs[i]? = some v → ∃ p, ps[i]? = some p ∧ VR K M H v p
  | _, _, _, _, .nil, e => by simp at e
  | _, _, 0, _, .cons r _, e => by simp at e; subst e; exact ⟨_, rfl, r⟩
  | _, _, i + 1, p, .cons _ t, e => by
    obtain ⟨v, h1, h2⟩ := VRs.getV (i := i) (v := p) t (by simpa using e)
    exact ⟨v, by simpa using h1, h2⟩
theorem VRs.append : ∀ {vs ws : List V} {ps qs : List PV}, VRs K M H vs ps → VRs K M H ws qs → VRs K M H (vs ++ ws) (ps ++ qs)
  | _, _, _, _, .nil, s => s
  | _, _, _, _, .cons r t, s => .cons r (VRs.append t s)
theorem VRs.take : ∀ {vs : List V} {ps : List PV} (n : Nat), VRs K M H vs ps → VRs K M H (vs.take n) (ps.take n)
  | _, _, 0, _ => by rw [List.take_zero, List.take_zero]; exact .nil
  | _, _, _ + 1, .nil => .nil
  | _, _, n + 1, .cons r t => .cons r (VRs.take n t)
theorem VRs.drop : ∀ {vs : List V} {ps : List PV} (n : Nat), VRs K M H vs ps → VRs K M H (vs.drop n) (ps.drop n)
  | _, _, 0, r => r
  | _, _, _ + 1, .nil => .nil
  | _, _, n + 1, .cons _ t => VRs.drop n t
theorem VRs.set {v : V} {p : PV} (r : VR K M H v p) : ∀ {vs : List V} {ps : List PV} (i : Nat), VRs K M H vs ps → VRs K M H (vs.set i v) (ps.set i p)
  | _, _, _, .nil => .nil
  | _, _, 0, .cons _ t => .cons r t
  | _, _, i + 1, .cons q t => .cons q (VRs.set r i t)
theorem VRs.eraseIdx : ∀ {vs : List V} {ps : List PV} (i : Nat), VRs K M H vs ps → VRs K M H (vs.eraseIdx i) (ps.eraseIdx i)
  | _, _, _, .nil => .nil
  | _, _, 0, .cons _ t => t
  | _, _, i + 1, .cons q t => .cons q (VRs.eraseIdx i t)
theorem VRs.dropLast {vs : List V} {ps : List PV} (r : VRs K M H vs ps) : VRs K M H vs.dropLast ps.dropLast := by
  rw [List.dropLast_eq_take, List.dropLast_eq_take, VRs.length r]
  exact r.take _
end

/-! ### the heap of things that change -/
def mutC : Cell → Bool
  | .frz _ => false
  | _ => true
def Mt (φ : List Addr) (h : AH) (a : Addr) : Prop := ∃ (i : Nat) (c : Cell), h[i]? = some c ∧ mutC c = true ∧ φ[i]? = some a

def CR (K : PySem.W.Frag) (M : Addr → Prop) (H : Hp) (a : Addr) : Cell → Prop
  | .lst xs => ∃ vs, H a = some (.lst vs) ∧ VRs K M H vs xs ∧ xs.length ≤ SZ
  | .dict kvs => ∃ ks, H a = some (.dK ks) ∧ KRs K M H ks kvs ∧ kvs.length ≤ SZ
  | .frz p => VR K M H (.ref a) p ∧ ¬ M a ∧ H a ≠ none

structure HR (K : PySem.W.Frag) (φ : List Addr) (h : AH) (H : Hp) : Prop where
  len : φ.length = h.length
  cell : ∀ (i : Nat) (c : Cell) (a : Addr), h[i]? = some c → φ[i]? = some a → CR K (Mt φ h) H a c
  inj : ∀ (i j : Nat) (c d : Cell) (a : Addr), h[i]? = some c → h[j]? = some d → mutC c = true → mutC d = true → φ[i]? = some a → φ[j]? = some a → i = j
theorem HR.at {K : PySem.W.Frag} {φ : List Addr} {h : AH} {H : Hp} (R : HR K φ h H) {i : Nat} {c : Cell} (e : h[i]? = some c) : ∃ a, φ[i]? = some a ∧ CR K (Mt φ h) H a c := by
  have hl : i < φ.length := by rw [R.len]; exact (List.getElem?_eq_some_iff.mp e).1
  exact ⟨φ[i], List.getElem?_eq_getElem hl, R.cell i c _ e (List.getElem?_eq_getElem hl)⟩
theorem HR.tracked {K : PySem.W.Frag} {φ : List Addr} {h : AH} {H : Hp} (R : HR K φ h H) {a : Addr} (m : Mt φ h a) : ∃ o, H a = some o ∧ Mut (some o) := by
  obtain ⟨i, c, e, mc, ea⟩ := m
  have := R.cell i c a e ea
  cases c with
  | lst xs => obtain ⟨vs, q, _⟩ := this; exact ⟨_, q, True.intro⟩
  | dict kvs => obtain ⟨vs, q, _⟩ := this; exact ⟨_, q, True.intro⟩
  | frz p => cases mc

def Ext (φ : List Addr) (h : AH) (H : Hp) (φ' : List Addr) (h' : AH) (H' : Hp) : Prop :=
  Ex1 (Mt φ h) H (Mt φ' h') H' ∧ (∃ t, φ' = φ ++ t) ∧ ∀ a o, H a = some o → ¬ Mt φ h a → H' a = some o
theorem Ext.refl {φ h H} : Ext φ h H φ h H := ⟨Ex1.refl _ _, ⟨[], by simp⟩, fun _ _ e _ => e⟩
theorem Ext.trans {φ h H φ1 h1 H1 φ2 h2 H2} (a : Ext φ h H φ1 h1 H1) (b : Ext φ1 h1 H1 φ2 h2 H2) : Ext φ h H φ2 h2 H2 := by
  obtain ⟨a1, ⟨t, rfl⟩, a3⟩ := a
  obtain ⟨b1, ⟨u, rfl⟩, b3⟩ := b
  exact ⟨a1.trans b1, ⟨t ++ u, by simp⟩, fun c o e m => b3 c o (a3 c o e m) fun z => (a1.mt c z).elim m fun n => by rw [n] at e; cases e⟩

def SR (K : PySem.W.Frag) (φ : List Addr) (h : AH) (H : Hp) (v : V) : SV → Prop
  | .v p => VR K (Mt φ h) H v p
  | .o i => ∃ a, v = .ref a ∧ φ[i]? = some a
theorem SR.mono {K φ h H φ' h' H' v} {s : SV} (x : Ext φ h H φ' h' H') (r : SR K φ h H v s) : SR K φ' h' H' v s := by
  cases s with
  | v p => exact VR.mono x.1 r
  | o i =>
    obtain ⟨a, e, q⟩ := r
    obtain ⟨_, ⟨t, rfl⟩, _⟩ := x
    exact ⟨a, e, by rw [List.getElem?_append_left (List.getElem?_eq_some_iff.mp q).1]; exact q⟩
def SRs (K : PySem.W.Frag) (φ : List Addr) (h : AH) (H : Hp) : List V → List SV → Prop := Paired (SR K φ h H)
theorem SRs.mono {K φ h H φ' h' H'} (x : Ext φ h H φ' h' H') : ∀ {vs : List V} {ss : List SV}, SRs K φ h H vs ss → SRs K φ' h' H' vs ss
  | _, _, .nil => .nil
  | _, _, .cons r t => .cons (r.mono x) (SRs.mono x t)
theorem SRs.pvs {K φ h H} : ∀ {vs : List V} {ss : List SV} {ps : List PV}, SRs K φ h H vs ss → pvs ss = some ps → VRs K (Mt φ h) H vs ps
  | _, _, ps, .nil, e => by
    cases (Option.some.inj e)
    exact .nil
  | _, _, ps, .cons (b := b) r t, e => by
    cases b with
    | o i => cases e
    | v p =>
      unfold Ev.pvs at e
      rw [Option.map_eq_some_iff] at e
      obtain ⟨qs, e1, rfl⟩ := e
      exact .cons r (SRs.pvs t e1)

structure ER (K : PySem.W.Frag) (φ : List Addr) (h : AH) (H : Hp) (e : En) (σ : L2.St) : Prop where
  len : e.length = σ.length
  at_ : ∀ (i : Nat) (s : SV), e[i]? = some (some s) → ∃ v, σ[i]? = some (some v) ∧ SR K φ h H v s
theorem ER.mono {K φ h H φ' h' H' e σ} (x : Ext φ h H φ' h' H') (r : ER K φ h H e σ) : ER K φ' h' H' e σ :=
  ⟨r.len, fun i s q => let ⟨v, a, b⟩ := r.at_ i s q; ⟨v, a, b.mono x⟩⟩
theorem ER.set {K φ h H e σ} (r : ER K φ h H e σ) (i : Nat) {v : V} {s : SV} (q : SR K φ h H v s) : ER K φ h H (e.set i (some s)) (σ.set i (some v)) := by
  refine ⟨by simp [r.len], fun j t e1 => ?_⟩
  by_cases hj : i = j
  · subst hj
    by_cases hl : i < e.length
    · rw [List.getElem?_set_self hl] at e1
      cases e1
      exact ⟨v, List.getElem?_set_self (by rw [← r.len]; exact hl), q⟩
    · rw [List.getElem?_eq_none (by simpa using hl)] at e1; cases e1
  · rw [List.getElem?_set_ne hj] at e1
    rw [List.getElem?_set_ne hj]
    exact r.at_ j t e1

/-! ### steps of the heap -/
section
variable {K : PySem.W.Frag} {φ : List Addr} {h : AH} {H : Hp}
/-- a new thing at p that does not change -/
theorem Ext.new (R : HR K φ h H) {p : Addr} (n : H p = none) (o : HO) : Ext φ h H φ h (upd H p o) :=
  ⟨Ex1.same (fun b u e => by rw [upd_ne (ne_of_none e n)]; exact e) fun a z => .inl z, ⟨[], by simp⟩, fun b u e _ => by rw [upd_ne (ne_of_none e n)]; exact e⟩
theorem CR.mono {M M' : Addr → Prop} {H' : Hp} {a : Addr} (x : Ex1 M H M' H') (hm : ∀ o, H a = some o → Mut (some o) → H' a = some o) : ∀ {c : Cell}, CR K M H a c → CR K M' H' a c
  | .lst xs, ⟨vs, e, r, z⟩ => ⟨vs, hm _ e True.intro, r.mono x, z⟩
  | .dict kvs, ⟨vs, e, r, z⟩ => ⟨vs, hm _ e True.intro, r.mono x, z⟩
  | .frz p, ⟨r, m, q⟩ => ⟨VR.mono x r, fun z => (x.mt a z).elim m q, x.ne a q m⟩
theorem HR.new (R : HR K φ h H) {p : Addr} (n : H p = none) (o : HO) : HR K φ h (upd H p o) :=
  ⟨R.len, fun i c a e ea => (R.cell i c a e ea).mono (Ext.new R n o).1 (fun u q _ => by rw [upd_ne (ne_of_none q n)]; exact q), R.inj⟩
theorem HR.new_not (R : HR K φ h H) {p : Addr} (n : H p = none) : ¬ Mt φ h p := fun m => by
  obtain ⟨o, e, _⟩ := R.tracked m
  rw [n] at e; cases e
theorem Mt.push {p : Addr} {c : Cell} (hl : φ.length = h.length) {a : Addr} (m : Mt (φ ++ [p]) (h ++ [c]) a) : Mt φ h a ∨ a = p := by
  obtain ⟨i, d, e, mc, ea⟩ := m
  by_cases hi : i < h.length
  · rw [List.getElem?_append_left hi] at e
    rw [List.getElem?_append_left (by omega)] at ea
    exact .inl ⟨i, d, e, mc, ea⟩
  · have hi' : i = h.length := by
      have := (List.getElem?_eq_some_iff.mp e).1
      simp at this
      omega
    subst hi'
    rw [List.getElem?_append_right (by omega)] at ea
    rw [show h.length - φ.length = 0 by omega] at ea
    simp at ea
    exact .inr ea.symm
/-- a new thing that may change -/
theorem Ext.push (R : HR K φ h H) {p : Addr} (n : H p = none) (o : HO) (c : Cell) : Ext φ h H (φ ++ [p]) (h ++ [c]) (upd H p o) :=
  ⟨Ex1.same (fun b u e => by rw [upd_ne (ne_of_none e n)]; exact e) fun a z => (Mt.push R.len z).imp id fun e => by subst e; exact n, ⟨[p], rfl⟩, fun b u e _ => by rw [upd_ne (ne_of_none e n)]; exact e⟩
theorem HR.push (R : HR K φ h H) {p : Addr} (n : H p = none) (o : HO) (c : Cell) (r : CR K (Mt (φ ++ [p]) (h ++ [c])) (upd H p o) p c) : HR K (φ ++ [p]) (h ++ [c]) (upd H p o) := by
  have x := Ext.push R n o c
  have low : ∀ (i : Nat) (d : Cell) (a : Addr), (h ++ [c])[i]? = some d → (φ ++ [p])[i]? = some a → (i < h.length ∧ h[i]? = some d ∧ φ[i]? = some a) ∨ (i = h.length ∧ d = c ∧ a = p) := fun i d a e ea => by
    by_cases hi : i < h.length
    · rw [List.getElem?_append_left hi] at e
      rw [List.getElem?_append_left (by have := R.len; omega)] at ea
      exact .inl ⟨hi, e, ea⟩
    · have hi' : i = h.length := by
        have := (List.getElem?_eq_some_iff.mp e).1
        simp at this
        omega
      subst hi'
      rw [List.getElem?_append_right (by omega)] at e
      rw [List.getElem?_append_right (by have := R.len; omega)] at ea
      rw [show h.length - φ.length = 0 by have := R.len; omega] at ea
      simp at e ea
      exact .inr ⟨rfl, e.symm, ea.symm⟩
  refine ⟨by simp [R.len], fun i d a e ea => ?_, fun i j d d' a e1 e2 m1 m2 a1 a2 => ?_⟩
  · rcases low i d a e ea with ⟨_, e, ea⟩ | ⟨_, rfl, rfl⟩
    · exact (R.cell i d a e ea).mono x.1 fun u q _ => by rw [upd_ne (ne_of_none q n)]; exact q
    · exact r
  · rcases low i d a e1 a1 with ⟨_, e1, a1⟩ | ⟨q1, q2, q3⟩
    · rcases low j d' a e2 a2 with ⟨_, e2, a2⟩ | ⟨q1, q2, q3⟩
      · exact R.inj i j d d' a e1 e2 m1 m2 a1 a2
      · exact absurd ⟨i, d, e1, m1, q3 ▸ a1⟩ (R.new_not n)
    · rcases low j d' a e2 a2 with ⟨_, e2, a2⟩ | ⟨r1, r2, r3⟩
      · exact absurd ⟨j, d', e2, m2, q3 ▸ a2⟩ (R.new_not n)
      · exact q1.trans r1.symm
theorem Mt.set {j : Nat} {c d : Cell} {a : Addr} (e : h[j]? = some c) (mc : mutC c = true) (m : Mt φ (h.set j d) a) : Mt φ h a := by
  obtain ⟨i, f, e1, mf, ea⟩ := m
  by_cases hi : j = i
  · subst hi
    exact ⟨j, c, e, mc, ea⟩
  · rw [List.getElem?_set_ne hi] at e1
    exact ⟨i, f, e1, mf, ea⟩
/-- the thing at j is written -/
theorem Ext.put (R : HR K φ h H) {j : Nat} {c d : Cell} {a : Addr} {o : HO} (e : h[j]? = some c) (mc : mutC c = true) (ea : φ[j]? = some a) : Ext φ h H φ (h.set j d) (upd H a o) := by
  have hM : Mt φ h a := ⟨j, c, e, mc, ea⟩
  obtain ⟨u, hu, mu⟩ := R.tracked hM
  have ne : ∀ b, ¬ Mt φ h b → b ≠ a := fun b m z => m (z ▸ hM)
  have key : ∀ b v, H b = some v → ¬ Mt φ h b → (upd H a o) b = some v := fun b v q m => by rw [upd_ne (ne b m)]; exact q
  exact ⟨Ex1.exact key (fun b xs q => by rw [upd_ne (fun z => by subst z; rw [hu] at q; cases q; exact mu)]; exact q) fun b z => .inl (Mt.set e mc z), ⟨[], by simp⟩, key⟩
theorem HR.put (R : HR K φ h H) {j : Nat} {c d : Cell} {a : Addr} {o : HO} (e : h[j]? = some c) (mc : mutC c = true) (ea : φ[j]? = some a) (r : CR K (Mt φ (h.set j d)) (upd H a o) a d) : HR K φ (h.set j d) (upd H a o) := by
  have x := Ext.put (d := d) (o := o) R e mc ea
  refine ⟨by simp [R.len], fun i f b e1 eb => ?_, fun i k f g b e1 e2 m1 m2 b1 b2 => ?_⟩
  · by_cases hi : j = i
    · subst hi
      rw [List.getElem?_set_self (List.getElem?_eq_some_iff.mp e).1] at e1
      cases e1
      rw [ea] at eb
      cases eb
      exact r
    · rw [List.getElem?_set_ne hi] at e1
      refine (R.cell i f b e1 eb).mono x.1 fun u q mu => ?_
      by_cases hb : b = a
      · subst hb
        cases hf : mutC f with
        | true => exact absurd (R.inj j i c f b e e1 mc hf ea eb) hi
        | false =>
          cases f with
          | lst _ => cases hf
          | dict _ => cases hf
          | frz p => exact absurd ⟨j, c, e, mc, ea⟩ (R.cell i _ b e1 eb).2.1
      · rw [upd_ne hb]; exact q
  · have back : ∀ i f, (h.set j d)[i]? = some f → mutC f = true → ∃ f', h[i]? = some f' ∧ mutC f' = true := fun i f e1 m1 => by
      by_cases hi : j = i
      · subst hi; exact ⟨c, e, mc⟩
      · rw [List.getElem?_set_ne hi] at e1; exact ⟨f, e1, m1⟩
    obtain ⟨f', e1', m1'⟩ := back i f e1 m1
    obtain ⟨g', e2', m2'⟩ := back k g e2 m2
    exact R.inj i k f' g' b e1' e2' m1' m2' b1 b2

/-- the thing at j changes no more -/
theorem HR.frzM (R : HR K φ h H) {j : Nat} {c : Cell} {p : PV} {a : Addr} (e : h[j]? = some c) (mc : mutC c = true) (ea : φ[j]? = some a) : ¬ Mt φ (h.set j (.frz p)) a := by
  rintro ⟨i, d, e1, m1, a1⟩
  by_cases hi : j = i
  · subst hi
    rw [List.getElem?_set_self (List.getElem?_eq_some_iff.mp e).1] at e1
    cases e1
    cases m1
  · rw [List.getElem?_set_ne hi] at e1
    exact hi (R.inj j i c d a e e1 mc m1 ea a1)
theorem Ext.frzX (R : HR K φ h H) {j : Nat} {c : Cell} {p : PV} (e : h[j]? = some c) (mc : mutC c = true) : Ext φ h H φ (h.set j (.frz p)) H :=
  ⟨⟨fun _ _ q _ => q, fun _ _ q _ => q, fun _ _ q _ => q, fun _ _ q => q, fun _ q _ => q, fun _ z => .inl (Mt.set e mc z)⟩, ⟨[], by simp⟩, fun _ _ q _ => q⟩
theorem HR.frz (R : HR K φ h H) {j : Nat} {c : Cell} {p : PV} {a : Addr} (e : h[j]? = some c) (mc : mutC c = true) (ea : φ[j]? = some a) (v : VR K (Mt φ (h.set j (.frz p))) H (.ref a) p) : HR K φ (h.set j (.frz p)) H := by
  have x := Ext.frzX (p := p) R e mc
  obtain ⟨u, hu, _⟩ := R.tracked ⟨j, c, e, mc, ea⟩
  refine ⟨by simp [R.len], fun i d b e1 eb => ?_, fun i k f g b e1 e2 m1 m2 b1 b2 => ?_⟩
  · by_cases hi : j = i
    · subst hi
      rw [List.getElem?_set_self (List.getElem?_eq_some_iff.mp e).1] at e1
      cases e1
      rw [ea] at eb
      cases eb
      exact ⟨v, R.frzM e mc ea, by rw [hu]; simp⟩
    · rw [List.getElem?_set_ne hi] at e1
      exact (R.cell i d b e1 eb).mono x.1 fun u q _ => q
  · have back : ∀ i f, (h.set j (.frz p))[i]? = some f → mutC f = true → ∃ f', h[i]? = some f' ∧ mutC f' = true := fun i f e1 m1 => by
      by_cases hi : j = i
      · subst hi; exact ⟨c, e, mc⟩
      · rw [List.getElem?_set_ne hi] at e1; exact ⟨f, e1, m1⟩
    obtain ⟨f', e1', m1'⟩ := back i f e1 m1
    obtain ⟨g', e2', m2'⟩ := back k g e2 m2
    exact R.inj i k f' g' b e1' e2' m1' m2' b1 b2
/-- things at the end are forgotten -/
theorem Mt.take {n : Nat} {a : Addr} (m : Mt (φ.take n) (h.take n) a) : Mt φ h a := by
  obtain ⟨i, c, e, mc, ea⟩ := m
  rw [List.getElem?_take] at e ea
  split at e
  · rw [if_pos (by assumption)] at ea
    exact ⟨i, c, e, mc, ea⟩
  · cases e
theorem HR.take (R : HR K φ h H) (n : Nat) : HR K (φ.take n) (h.take n) H := by
  have x : Ex1 (Mt φ h) H (Mt (φ.take n) (h.take n)) H := ⟨fun _ _ q _ => q, fun _ _ q _ => q, fun _ _ q _ => q, fun _ _ q => q, fun _ q _ => q, fun _ z => .inl (Mt.take z)⟩
  have low : ∀ {α : Type} {l : List α} {i : Nat} {y : α}, (l.take n)[i]? = some y → l[i]? = some y := fun {α l i y} e => by
    rw [List.getElem?_take] at e
    split at e
    · exact e
    · cases e
  refine ⟨by simp [R.len], fun i c a e ea => (R.cell i c a (low e) (low ea)).mono x fun u q _ => q, fun i j c d a e1 e2 m1 m2 a1 a2 => R.inj i j c d a (low e1) (low e2) m1 m2 (low a1) (low a2)⟩
theorem Ext.take {φ0 : List Addr} {h0 : AH} {H0 : Hp} (x : Ext φ0 h0 H0 φ h H) {n : Nat} (hn : φ0.length ≤ n) : Ext φ0 h0 H0 (φ.take n) (h.take n) H := by
  obtain ⟨x, ⟨t, rfl⟩, x3⟩ := x
  refine ⟨⟨x.rdl, x.rdk, x.lst, x.tup, x.ne, fun a z => x.mt a (Mt.take z)⟩, ⟨t.take (n - φ0.length), ?_⟩, x3⟩
  rw [List.take_append, List.take_of_length_le hn]
theorem VR.take {n : Nat} {v : V} {p : PV} (r : VR K (Mt φ h) H v p) : VR K (Mt (φ.take n) (h.take n)) H v p :=
  VR.mono ⟨fun _ _ q _ => q, fun _ _ q _ => q, fun _ _ q _ => q, fun _ _ q => q, fun _ q _ => q, fun _ z => .inl (Mt.take z)⟩ r

/-! ### what stands behind a name -/
inductive CV (K : PySem.W.Frag) (φ : List Addr) (h : AH) (H : Hp) : V → PV → Prop
  | v {v : V} {p : PV} (r : VR K (Mt φ h) H v p) : CV K φ h H v p
  | lst {a : Addr} {vs : List V} {xs : List PV} (e : H a = some (.lst vs)) (hz : xs.length ≤ SZ) (r : VRs K (Mt φ h) H vs xs) : CV K φ h H (.ref a) (.lst xs)
  | dict {a : Addr} {ks : List (Key × V)} {kvs : List (PV × PV)} (e : Rd H a (.dK ks)) (hz : kvs.length ≤ SZ) (r : KRs K (Mt φ h) H ks kvs) : CV K φ h H (.ref a) (.dict kvs)
theorem peek_cv (R : HR K φ h H) {v : V} {s : SV} {p : PV} (r : SR K φ h H v s) (e : peek h s = some p) : CV K φ h H v p := by
  cases s with
  | v q => cases e; exact .v r
  | o i =>
    obtain ⟨a, rfl, ea⟩ := r
    cases hc : h[i]? with
    | none => simp only [peek, hc] at e; cases e
    | some c =>
      simp only [peek, hc] at e
      have q := R.cell i c a hc ea
      cases c with
      | lst xs => cases e; obtain ⟨vs, q, r, z⟩ := q; exact .lst q z r
      | dict xs => cases e; obtain ⟨vs, q, r, z⟩ := q; exact .dict (.inl q) z r
      | frz p => cases e; exact .v q.1
theorem CV.int {v : V} {i : Int} (c : CV K φ h H v (.int i)) : v = .int i := by
  cases c with
  | v r => cases r; rfl
theorem CV.bl {v : V} {i : Bool} (c : CV K φ h H v (.bl i)) : v = .bl i := by
  cases c with
  | v r => cases r; rfl
theorem CV.non {v : V} (c : CV K φ h H v .non) : v = .non := by
  cases c with
  | v r => cases r; rfl
theorem CV.str {v : V} {s : List Nat} (c : CV K φ h H v (.str s)) : v = .str (strV s) ∧ s.length ≤ SZ ∧ ∀ c ∈ s, c < 0x110000 := by
  cases c with
  | v r => cases r with
    | str hz hc => exact ⟨rfl, hz, hc⟩
theorem CV.tup {v : V} {xs : List PV} (c : CV K φ h H v (.tup xs)) : ∃ a vs, v = .ref a ∧ H a = some (.tup vs) ∧ VRs K (Mt φ h) H vs xs ∧ xs.length ≤ SZ := by
  cases c with
  | v r => cases r with
    | tup e m hz r => exact ⟨_, _, rfl, e, r, hz⟩
theorem CV.list {v : V} {xs : List PV} (c : CV K φ h H v (.lst xs)) : ∃ a vs, v = .ref a ∧ H a = some (.lst vs) ∧ VRs K (Mt φ h) H vs xs ∧ xs.length ≤ SZ := by
  cases c with
  | v r => cases r with
    | lst e m hz r => exact ⟨_, _, rfl, e, r, hz⟩
  | lst e hz r => exact ⟨_, _, rfl, e, r, hz⟩
theorem CV.frl {v : V} {xs : List PV} (c : CV K φ h H v (.frl xs)) : ∃ a vs, v = .ref a ∧ SqL K H a vs ∧ VRs K (Mt φ h) H vs xs ∧ xs.length ≤ SZ := by
  cases c with
  | v r => cases r with
    | frl e hz r => exact ⟨_, _, rfl, e.elim (fun z => .inl z.1) (fun z => z H), r, hz⟩
theorem CV.dic {v : V} {xs : List (PV × PV)} (c : CV K φ h H v (.dict xs)) : ∃ a ks, v = .ref a ∧ Rd H a (.dK ks) ∧ KRs K (Mt φ h) H ks xs ∧ xs.length ≤ SZ := by
  cases c with
  | v r => cases r with
    | dict e m hz r => exact ⟨_, _, rfl, e, r, hz⟩
  | dict e hz r => exact ⟨_, _, rfl, e, r, hz⟩
end

/-! ### new things -/
section
variable {K : PySem.W.Frag} {φ : List Addr} {h : AH} {H : Hp}
abbrev Kont (K : PySem.W.Frag) (φ : List Addr) (h : AH) (H : Hp) (h' : AH) (s : SV) (Q : VK) : Prop :=
  ∀ (v : V) (H' : Hp) (φ' : List Addr), HR K φ' h' H' → Ext φ h H φ' h' H' → SR K φ' h' H' v s → Q v H'
theorem new_tup (R : HR K φ h H) {vs : List V} {xs : List PV} {Q : VK} (r : VRs K (Mt φ h) H vs xs) (hz : xs.length ≤ SZ) (k : Kont K φ h H h (.v (.tup xs)) Q) : ∀ p, H p = none → Q (.ref p) (upd H p (.tup vs)) := fun p n =>
  k _ _ φ (R.new n _) (Ext.new R n _) (.tup upd_same (R.new_not n) hz (r.mono (Ext.new R n _).1))
theorem new_lst (R : HR K φ h H) {vs : List V} {xs : List PV} {Q : VK} (r : VRs K (Mt φ h) H vs xs) (hz : xs.length ≤ SZ) (k : Kont K φ h H h (.v (.lst xs)) Q) : ∀ p, H p = none → Q (.ref p) (upd H p (.lst vs)) := fun p n =>
  k _ _ φ (R.new n _) (Ext.new R n _) (.lst upd_same (R.new_not n) hz (r.mono (Ext.new R n _).1))
theorem new_lstM (R : HR K φ h H) {vs : List V} {xs : List PV} {Q : VK} {m : Bool} {s : SV} {h' : AH} (r : VRs K (Mt φ h) H vs xs) (hz : xs.length ≤ SZ) (e : mkL m xs h = some (s, h')) (k : Kont K φ h H h' s Q) : ∀ p, H p = none → Q (.ref p) (upd H p (.lst vs)) := fun p n => by
  cases m with
  | false => cases e; exact new_lst R r hz k p n
  | true =>
    cases e
    have x := Ext.push R n (.lst vs) (.lst xs)
    refine k _ _ (φ ++ [p]) (R.push n _ _ ⟨vs, upd_same, r.mono x.1, hz⟩) x ⟨p, rfl, ?_⟩
    rw [List.getElem?_append_right (by rw [R.len]; exact Nat.le_refl _), R.len, Nat.sub_self]
    rfl
theorem new_dicM (R : HR K φ h H) {ks : List (Key × V)} {xs : List (PV × PV)} {Q : VK} {m : Bool} {s : SV} {h' : AH} (r : KRs K (Mt φ h) H ks xs) (hz : xs.length ≤ SZ) (e : mkD m xs h = some (s, h')) (k : Kont K φ h H h' s Q) : ∀ p, H p = none → Q (.ref p) (upd H p (.dK ks)) := fun p n => by
  cases m with
  | false => cases e; exact k _ _ φ (R.new n _) (Ext.new R n _) (.dict (.inl upd_same) (R.new_not n) hz (r.mono (Ext.new R n _).1))
  | true =>
    cases e
    have x := Ext.push R n (.dK ks) (.dict xs)
    refine k _ _ (φ ++ [p]) (R.push n _ _ ⟨ks, upd_same, r.mono x.1, hz⟩) x ⟨p, rfl, ?_⟩
    rw [List.getElem?_append_right (by rw [R.len]; exact Nat.le_refl _), R.len, Nat.sub_self]
    rfl
end
end Ev

set_option Elab.async false
set_option linter.all false
set_option maxRecDepth 100000
namespace Ev
open PySem PySem.Spec PyProof.Rows L2

theorem PE.imp {X : Cx} {e : Expr} {t t' : TE} (h : PE X e t) (i : ∀ σ H Q, t' σ H Q → t σ H Q) : PE X e t' := ⟨fun pins s σ H Q I w => h.run pins s σ H Q I (i σ H Q w)⟩
theorem PE.or {X : Cx} {e : Expr} {t t' : TE} (h : PE X e t) (h' : PE X e t') : PE X e (fun σ H Q => t σ H Q ∨ t' σ H Q) :=
  ⟨fun pins s σ H Q I w => w.elim (h.run pins s σ H Q I) (h'.run pins s σ H Q I)⟩
theorem PE.no {X : Cx} {e : Expr} : PE X e (fun _ _ _ => False) := ⟨fun _ _ _ _ _ _ h => h.elim⟩
theorem PT.imp {X : Cx} {e : Expr} {t t' : TT} (h : PT X e t) (i : ∀ σ H Q, t' σ H Q → t σ H Q) : PT X e t' := ⟨fun pins s σ H Q I w => h.run pins s σ H Q I (i σ H Q w)⟩
theorem PS.imp {X : Cx} {e : Stmt} {t t' : TS} (h : PS X e t) (i : ∀ D σ H, t' D σ H → t D σ H) : PS X e t' := ⟨fun pins s σ H D I w => h.run pins s σ H D I (i D σ H w)⟩
theorem PSs.imp {X : Cx} {e : List Stmt} {t t' : TS} (h : PSs X e t) (i : ∀ D σ H, t' D σ H → t D σ H) : PSs X e t' := ⟨fun pins s σ H D I w => h.run pins s σ H D I (i D σ H w)⟩
theorem PS.no {X : Cx} {e : Stmt} : PS X e (fun _ _ _ => False) := ⟨fun _ _ _ _ _ _ h => h.elim⟩

/-! ### data -/
mutual
def toD : PV → PyData
  | .non => .none
  | .bl b => .bool b
  | .int i => .int i
  | .str s => .str (strV s)
  | .tup xs => .tuple (toDs xs)
  | .lst xs => .list (toDs xs)
  | .frl _ => .none
  | .dict _ => .none
def toDs : List PV → List PyData
  | [] => []
  | x :: xs => toD x :: toDs xs
end
theorem str_beq (a b : List Nat) : (strV a == strV b) = (a == b) := by
  by_cases h : a = b
  · subst h; simp
  · have : ¬ strV a = strV b := fun e => h (by
      have := congrArg (fun x => x.cps.toList) e
      simpa [strV] using this)
    rw [beq_eq_false_iff_ne.mpr this, beq_eq_false_iff_ne.mpr h]
mutual
theorem eqv_toD : ∀ (p q : PV), plainD p = true → plainD q = true → PyData.eqv (toD p) (toD q) = eqv p q
  | .non, q, _, hq => by cases q <;> simp_all [toD, PyData.eqv, eqv, plainD]
  | .bl a, q, _, hq => by cases q <;> simp_all [toD, PyData.eqv, eqv, plainD]
  | .int a, q, _, hq => by cases q <;> simp_all [toD, PyData.eqv, eqv, plainD]
  | .str a, q, _, hq => by cases q <;> simp_all [toD, PyData.eqv, eqv, plainD, str_beq]
  | .tup xs, q, hp, hq => by
    cases q with
    | tup ys => simp only [toD, PyData.eqv, eqv]; exact eqvs_toD xs ys hp hq
    | _ => simp_all [toD, PyData.eqv, eqv, plainD]
  | .lst xs, q, hp, hq => by
    cases q with
    | lst ys => simp only [toD, PyData.eqv, eqv]; exact eqvs_toD xs ys hp hq
    | _ => simp_all [toD, PyData.eqv, eqv, plainD]
  | .frl xs, q, hp, hq => by cases hp
  | .dict xs, q, hp, hq => by cases hp
theorem eqvs_toD : ∀ (p q : List PV), plainDs p = true → plainDs q = true → PyData.eqvAll (toDs p) (toDs q) = eqvs p q
  | [], [], _, _ => by simp [toDs, PyData.eqvAll, eqvs]
  | [], _ :: _, _, _ => by simp [toDs, PyData.eqvAll, eqvs]
  | _ :: _, [], _, _ => by simp [toDs, PyData.eqvAll, eqvs]
  | x :: xs, y :: ys, hp, hq => by
    simp only [plainDs, Bool.and_eq_true] at hp hq
    simp only [toDs, PyData.eqvAll, eqvs, eqv_toD x y hp.1 hq.1, eqvs_toD xs ys hp.2 hq.2]
end
mutual
theorem dep_toD : ∀ (p : PV), plainD p = true → (toD p).depth = dep p
  | .non, _ => by simp [toD, PyData.depth, dep]
  | .bl a, _ => by simp [toD, PyData.depth, dep]
  | .int a, _ => by simp [toD, PyData.depth, dep]
  | .str a, _ => by simp [toD, PyData.depth, dep]
  | .tup xs, hp => by simp only [toD, PyData.depth, dep, deps_toD xs hp]
  | .lst xs, hp => by simp only [toD, PyData.depth, dep, deps_toD xs hp]
  | .frl xs, hp => by cases hp
  | .dict xs, hp => by cases hp
theorem deps_toD : ∀ (p : List PV), plainDs p = true → PyData.depthAll (toDs p) = deps p
  | [], _ => by simp [toDs, PyData.depthAll, deps]
  | x :: xs, hp => by
    simp only [plainDs, Bool.and_eq_true] at hp
    simp only [toDs, PyData.depthAll, deps, dep_toD x hp.1, deps_toD xs hp.2]
end
section
variable {K : PySem.W.Frag} {φ : List Addr} {h : AH} {H : Hp} {M : Addr → Prop}
mutual
theorem VR.dp : ∀ (p : PV) {v : V}, VR K M H v p → plainD p = true → Dp K H v (toD p) ∧ (toD p).canLay0 = true
  | .non, _, r, _ => by cases r; exact ⟨.non, by simp [toD, PyData.canLay0]⟩
  | .bl b, _, r, _ => by cases r; exact ⟨.bl b, by simp [toD, PyData.canLay0]⟩
  | .int i, _, r, _ => by cases r; exact ⟨.int i, by simp [toD, PyData.canLay0]⟩
  | .str s, _, r, _ => by
    cases r with
    | str hz hc =>
      refine ⟨.str _, ?_⟩
      simp only [toD, PyData.canLay0]
      unfold PyData.strOk strV
      simp
      exact hc
  | .tup xs, _, r, hp => by
    cases r with
    | tup e m hz r =>
      obtain ⟨a, b⟩ := VRs.dp xs r hp
      exact ⟨.tup (.inl (.inl e)) a, by simp only [toD, PyData.canLay0]; exact b⟩
  | .lst xs, _, r, hp => by
    cases r with
    | lst e m hz r =>
      obtain ⟨a, b⟩ := VRs.dp xs r hp
      exact ⟨.lst (.inl (.inl e)) a, by simp only [toD, PyData.canLay0]; exact b⟩
  | .frl xs, _, r, hp => by cases hp
  | .dict xs, _, r, hp => by cases hp
theorem VRs.dp : ∀ (p : List PV) {v : List V}, VRs K M H v p → plainDs p = true → DpAll K H v (toDs p) ∧ PyData.canLayAll0 (toDs p) = true
  | [], _, r, _ => by cases r; exact ⟨.nil, by simp [toDs, PyData.canLayAll0]⟩
  | x :: xs, _, r, hp => by
    cases r with
    | cons r t =>
      simp only [plainDs, Bool.and_eq_true] at hp
      obtain ⟨a1, a2⟩ := VR.dp x r hp.1
      obtain ⟨b1, b2⟩ := VRs.dp xs t hp.2
      exact ⟨.cons a1 b1, by simp only [toDs, PyData.canLayAll0, a2, b2, Bool.and_self]⟩
end
theorem CV.dp {v : V} {p : PV} (c : CV K φ h H v p) (hp : okD p = true) : Dp K H v (toD p) ∧ SeqAt.shaped (toD p) = true := by
  unfold okD at hp
  rw [Bool.and_eq_true] at hp
  have key : Dp K H v (toD p) ∧ (toD p).canLay0 = true := by
    cases c with
    | v r => exact VR.dp _ r hp.1
    | lst e hz r => exact ⟨.lst (.inl (.inl e)) (VRs.dp _ r hp.1).1, by simp only [toD, PyData.canLay0]; exact (VRs.dp _ r hp.1).2⟩
    | dict e hz r => simp [plainD] at hp
  refine ⟨key.1, ?_⟩
  unfold SeqAt.shaped
  rw [key.2, dep_toD p hp.1, hp.2]
  rfl
end

/-! ### operators -/
theorem rep_zero {α : Type} (xs : List α) : rep xs 0 = [] := rfl
theorem rep_one {α : Type} (xs : List α) : rep xs 1 = xs := by simp [rep]
theorem rep_len {α : Type} (xs : List α) (k : Nat) : (rep xs k).length = k * xs.length := by
  unfold rep
  induction k with
  | zero => simp
  | succ k ih => rw [List.replicate_succ, List.flatten_cons, List.length_append, ih]; rw [Nat.succ_mul, Nat.add_comm]
theorem rep_mem {α : Type} {xs : List α} {k : Nat} {c : α} (h : c ∈ rep xs k) : c ∈ xs := by
  unfold rep at h
  rw [List.mem_flatten] at h
  obtain ⟨l, h1, h2⟩ := h
  rw [List.mem_replicate] at h1
  exact h1.2 ▸ h2
theorem rep_nil {α : Type} (k : Nat) : rep ([] : List α) k = [] := by
  unfold rep
  induction k with
  | zero => rfl
  | succ k ih => rw [List.replicate_succ, List.flatten_cons, ih]; rfl
theorem foldl_repN (xs : List Nat) : ∀ (k : Nat) (acc : List Nat),
    List.foldl (fun x1 x2 => x1 ++ x2) acc.toArray (List.replicate k xs.toArray) = (acc ++ rep xs k).toArray
  | 0, acc => by simp [rep]
  | k + 1, acc => by
    rw [List.replicate_succ, List.foldl_cons]
    have e : acc.toArray ++ xs.toArray = (acc ++ xs).toArray := by simp
    rw [e, foldl_repN xs k]
    simp [rep, List.replicate_succ]
theorem op_mulS {X : Cx} : OpR X (binaryOp .Mult) (fun x y H Q => ∃ (z : List Nat) (k : Int), x = .str (strV z) ∧ y = .int k ∧ z.length ≤ 1000 ∧ -(2 ^ 63) ≤ k ∧ k ≤ 1000 ∧ Q (.str (strV (rep z k.toNat))) H) := by
  intro pins s σ H x y v u Q I rx ry h
  obtain ⟨z, k, rfl, rfl, hz, h1, h2, q⟩ := h
  obtain ⟨t, rfl⟩ := rx
  obtain ⟨t', rfl⟩ := ry
  have hl : (strV z).length = z.length := by simp [strV, Str.length]
  have mulle : z.length * k.toNat ≤ 1000 * 1000 := Nat.mul_le_mul hz (by omega)
  refine P.mul_str (by rw [decide_eq_false (by omega), decide_eq_false (by omega)]; rfl) (fun hk hn => ?_) (fun hk hn => ?_) ?_
  · rw [hl]
    have a1 : (1000 : Int) ≤ (2 ^ 63 - 1) / k := Int.le_ediv_of_mul_le (by omega) (by omega)
    omega
  · rw [hl]
    unfold Builtin.Str.tooLong
    rw [sizeLine_eq]
    exact decide_eq_false (by omega)
  · by_cases hk : k < 1
    · rw [if_pos hk]
      have e : rep z k.toNat = [] := by rw [show k.toNat = 0 by omega]; rfl
      rw [e] at q
      exact ⟨by decide, .str _, H, I.tok _, ⟨_, rfl⟩, q⟩
    · rw [if_neg hk]
      by_cases hb : (k == 1 || (strV z).length == 0) = true
      · rw [if_pos hb]
        have e : rep z k.toNat = z := by
          rw [Bool.or_eq_true] at hb
          rcases hb with hb | hb
          · have : k = 1 := by simpa using hb
            subst this
            exact rep_one z
          · rw [hl] at hb
            have : z = [] := List.eq_nil_of_length_eq_zero (by simpa using hb)
            subst this
            exact rep_nil _
        rw [e] at q
        exact ⟨.str _, H, I, ⟨_, rfl⟩, q⟩
      · rw [if_neg hb]
        have e : (⟨(List.replicate k.toNat (strV z).cps).foldl (· ++ ·) #[]⟩ : Str) = strV (rep z k.toNat) := by
          have := foldl_repN z k.toNat []
          rw [List.nil_append] at this
          show (⟨(List.replicate k.toNat z.toArray).foldl (· ++ ·) #[]⟩ : Str) = _
          rw [this]
          rfl
        rw [e]
        refine ⟨?_, .str _, H, I.tok _, ⟨_, rfl⟩, q⟩
        show (strV (rep z k.toNat)).length ≤ sizeLine
        rw [show (strV (rep z k.toNat)).length = (rep z k.toNat).length by simp [strV, Str.length], rep_len, sizeLine_eq]
        have := Nat.mul_comm z.length k.toNat
        omega

def opB : BOp → Operator
  | .add => .Add
  | .sub => .Sub
  | .mul => .Mult
  | .fdiv => .FloorDiv
  | .mod => .Mod
  | .pow => .Pow
def R2.or (r r' : R2) : R2 := fun x y H Q => r x y H Q ∨ r' x y H Q
def rAddS : R2 := fun x y H Q => ∃ i j, x = .str i ∧ y = .str j ∧ i.length + j.length ≤ sizeLine ∧ Q (.str (i ++ j)) H
def rMulS : R2 := fun x y H Q => ∃ (z : List Nat) (k : Int), x = .str (strV z) ∧ y = .int k ∧ z.length ≤ 1000 ∧ -(2 ^ 63) ≤ k ∧ k ≤ 1000 ∧ Q (.str (strV (rep z k.toNat))) H
def rB (K : PySem.W.Frag) : BOp → R2
  | .add => R2.or (rI0 fun i j => .int (i + j)) (R2.or rAddS (R2.or (rCatA K) rCat))
  | .sub => rI0 fun i j => .int (i - j)
  | .mul => R2.or (rI CMul fun i j => .int (i * j)) rMulS
  | .fdiv => rI CDiv fun i j => .int (i / j)
  | .mod => rI (fun _ j => 0 < j) fun i j => .int (i % j)
  | .pow => rI CPow fun i j => .int (i ^ j.toNat)
theorem or_b {X : Cx} : ∀ op, OpR X (binaryOp (opB op)) (rB X.K op)
  | .add => op_add.or (op_add_str.or (op_catA.or op_cat))
  | .sub => op_sub
  | .mul => op_mul.or op_mulS
  | .fdiv => op_fdiv
  | .mod => op_mod
  | .pow => op_pow
theorem strV_len (s : List Nat) : (strV s).length = s.length := by simp [strV, Str.length]
theorem strV_app (a b : List Nat) : strV a ++ strV b = strV (a ++ b) := by
  show (⟨a.toArray ++ b.toArray⟩ : Str) = ⟨(a ++ b).toArray⟩
  rw [List.append_toArray]
section
variable {K : PySem.W.Frag} {φ : List Addr} {h : AH} {H : Hp}
theorem Kont.val {p : PV} {v : V} {Q : VK} (R : HR K φ h H) (k : Kont K φ h H h (.v p) Q) (r : VR K (Mt φ h) H v p) : Q v H := k v H φ R Ext.refl r
theorem bin_sound (R : HR K φ h H) {op : BOp} {x y : V} {p q r : PV} {Q : VK} (e : binP op p q = some r) (cx : CV K φ h H x p) (cy : CV K φ h H y q) (k : Kont K φ h H h (.v r) Q) : rB K op x y H Q := by
  unfold binP at e
  split at e
  · cases e
    obtain rfl := cx.int
    obtain rfl := cy.int
    exact .inl ⟨_, _, rfl, rfl, Kont.val R k (.int _)⟩
  · cases e
    obtain rfl := cx.int
    obtain rfl := cy.int
    exact ⟨_, _, rfl, rfl, Kont.val R k (.int _)⟩
  · obtain rfl := cx.int
    obtain rfl := cy.int
    split at e
    · rename_i hm
      cases e
      refine .inl ⟨_, _, rfl, rfl, ?_, Kont.val R k (.int _)⟩
      unfold mulOk at hm
      simpa [CMul] using hm
    · cases e
  · obtain rfl := cx.int
    obtain rfl := cy.int
    split at e
    · rename_i hm
      cases e
      exact ⟨_, _, rfl, rfl, by simpa [CDiv] using hm, Kont.val R k (.int _)⟩
    · cases e
  · obtain rfl := cx.int
    obtain rfl := cy.int
    split at e
    · rename_i hm
      cases e
      exact ⟨_, _, rfl, rfl, by simpa using hm, Kont.val R k (.int _)⟩
    · cases e
  · obtain rfl := cx.int
    obtain rfl := cy.int
    split at e
    · rename_i hm
      cases e
      exact ⟨_, _, rfl, rfl, by simpa [CPow, and_assoc] using hm, Kont.val R k (.int _)⟩
    · cases e
  · obtain ⟨rfl, z1, c1⟩ := cx.str
    obtain ⟨rfl, z2, c2⟩ := cy.str
    split at e
    · rename_i hm
      cases e
      refine .inr (.inl ⟨_, _, rfl, rfl, by rw [strV_len, strV_len]; exact hm, ?_⟩)
      rw [strV_app]
      exact Kont.val R k (.str (by rw [List.length_append]; exact hm) fun c hc => (List.mem_append.mp hc).elim (c1 c) (c2 c))
    · cases e
  · obtain ⟨a, vs, rfl, ea, ra, za⟩ := cx.tup
    obtain ⟨b, ws, rfl, eb, rb, zb⟩ := cy.tup
    split at e
    · rename_i hm
      cases e
      refine .inr (.inr (.inl ⟨a, b, vs, ws, rfl, rfl, .inl (.inl ea), .inl (.inl eb), by rw [ra.length, rb.length]; exact hm, fun hv => ?_, fun hv hw => ?_, fun hv hw => ?_⟩))
      · subst hv
        cases ra
        cases cy with
        | v r => exact Kont.val R k r
      · subst hw
        cases rb
        cases cx with
        | v r => rw [List.append_nil] at k; exact Kont.val R k r
      · exact new_tup R (ra.append rb) (by rw [List.length_append]; exact hm) k
    · cases e
  · obtain ⟨a, vs, rfl, ea, ra, za⟩ := cx.list
    obtain ⟨b, ws, rfl, eb, rb, zb⟩ := cy.list
    split at e
    · rename_i hm
      cases e
      exact .inr (.inr (.inr ⟨a, b, vs, ws, rfl, rfl, ea, eb, by rw [ra.length, rb.length]; exact hm, new_lst R (ra.append rb) (by rw [List.length_append]; exact hm) k⟩))
    · cases e
  · obtain ⟨rfl, z1, c1⟩ := cx.str
    obtain rfl := cy.int
    split at e
    · rename_i a b hm
      cases e
      simp only [Bool.and_eq_true, decide_eq_true_eq] at hm
      refine .inr ⟨_, _, rfl, rfl, hm.2, by omega, hm.1.2, ?_⟩
      have := Nat.mul_le_mul (show b.toNat ≤ 1000 by omega) hm.2
      exact Kont.val R k (.str (by rw [rep_len]; show _ ≤ 16777216; omega) fun c hc => c1 c (rep_mem hc))
    · cases e
  · cases e
end

/-! ### dicts -/
theorem keyV_inj {a b : PV} (ha : isKey a = true) (hb : isKey b = true) : keyEq a b = decide (keyV a = keyV b) := by
  cases a <;> first | cases ha | skip
  · cases b <;> first | cases hb | skip
    · rename_i x y
      show (x == y) = decide ((Sum.inl x : Key) = Sum.inl y)
      rw [key_ll]
    · rename_i x y
      exact (key_lr x (strV y)).symm
  · cases b <;> first | cases hb | skip
    · rename_i x y
      exact (key_rl (strV x) y).symm
    · rename_i x y
      show (x == y) = decide ((Sum.inr (strV x) : Key) = Sum.inr (strV y))
      rw [key_rr, ← str_beq, Bool.eq_iff_iff, decide_eq_true_eq]
      exact beq_iff_eq
section
variable {K : PySem.W.Frag} {φ : List Addr} {h : AH} {H : Hp} {M : Addr → Prop}
theorem KRs.length : ∀ {vs : List (Key × V)} {ps : List (PV × PV)}, KRs K M H vs ps → vs.length = ps.length
  | _, _, .nil => rfl
  | _, _, .cons _ _ _ _ _ t => by rw [List.length_cons, List.length_cons, KRs.length t]
theorem KRs.look {q : PV} (hq : isKey q = true) : ∀ {ks : List (Key × V)} {kvs : List (PV × PV)}, KRs K M H ks kvs →
    (dlook kvs q = none ∧ valV ks (keyV q) = none) ∨ ∃ p v, dlook kvs q = some p ∧ valV ks (keyV q) = some v ∧ VR K M H v p
  | _, _, .nil => .inl ⟨rfl, rfl⟩
  | _, _, .cons (k := k) (v := v) (q := a) (p := p) (ks := ks) (ps := ps) kk e ik ek r t => by
    have hk := keyV_inj ik hq
    by_cases hkk : keyV a = keyV q
    · rw [decide_eq_true hkk] at hk
      refine .inr ⟨p, v, ?_, ?_, r⟩
      · unfold dlook; rw [hk]; rfl
      · exact valV_pos (ek.trans hkk)
    · rw [decide_eq_false hkk] at hk
      have e1 : dlook ((a, p) :: ps) q = dlook ps q := by
        show (if keyEq a q then some p else dlook ps q) = _
        rw [hk]; rfl
      rcases KRs.look hq t with ⟨h1, h2⟩ | ⟨p', v', h1, h2, h3⟩
      · exact .inl ⟨e1.trans h1, (valV_neg (fun z => hkk (ek.symm.trans z))).trans h2⟩
      · exact .inr ⟨p', v', e1.trans h1, (valV_neg (fun z => hkk (ek.symm.trans z))).trans h2, h3⟩
theorem kV_keyV {q : PV} {v : V} (hq : isKey q = true) (r : VR K M H v q) : v = kV (keyV q) := by
  cases r <;> first | rfl | cases hq
theorem DGet.at_ {a : Addr} {ks : List (Key × V)} {v : V} {q : PV} (e : Rd H a (.dK ks)) (hq : isKey q = true) (r : VR K M H v q) : DGet H a v (valV ks (keyV q)) :=
  .inl ⟨ks, keyV q, e, kV_keyV hq r, rfl⟩
theorem KRs.any {q : PV} (hq : isKey q = true) : ∀ {ks : List (Key × V)} {kvs : List (PV × PV)}, KRs K M H ks kvs → (ks.any fun kv => decide (kv.1 = keyV q)) = kvs.any fun kv => keyEq kv.1 q
  | _, _, .nil => rfl
  | _, _, .cons (k := k) (v := v) (q := a) (p := p) (ks := ks) (ps := ps) kk e ik ek r t => by
    rw [List.any_cons, List.any_cons, KRs.any hq t, keyV_inj ik hq, ek]
theorem KRs.map {q p : PV} {v : V} (hq : isKey q = true) (rp : VR K M H v p) : ∀ {ks : List (Key × V)} {kvs : List (PV × PV)}, KRs K M H ks kvs →
    KRs K M H (ks.map fun kv => if kv.1 = keyV q then (kv.1, v) else kv) (kvs.map fun kv => if keyEq kv.1 q then (kv.1, p) else kv)
  | _, _, .nil => .nil
  | _, _, .cons (k := k) (v := w) (q := a) (p := p') (ks := ks) (ps := ps) kk e ik ek r t => by
    rw [List.map_cons, List.map_cons]
    have hk := keyV_inj ik hq
    by_cases hkk : keyV a = keyV q
    · rw [decide_eq_true hkk] at hk
      rw [if_pos (show (k, w).1 = keyV q from ek.trans hkk), if_pos (show keyEq (a, p').1 q = true from hk)]
      exact .cons rfl e ik ek rp (KRs.map hq rp t)
    · rw [decide_eq_false hkk] at hk
      rw [if_neg (show ¬ (k, w).1 = keyV q from fun z => hkk (ek.symm.trans z)), if_neg (show ¬ keyEq (a, p').1 q = true by rw [show keyEq (a, p').1 q = false from hk]; exact Bool.false_ne_true)]
      exact .cons rfl e ik ek r (KRs.map hq rp t)
theorem KRs.append : ∀ {ks ls : List (Key × V)} {kvs lvs : List (PV × PV)}, KRs K M H ks kvs → KRs K M H ls lvs → KRs K M H (ks ++ ls) (kvs ++ lvs)
  | _, _, _, _, .nil, s => s
  | _, _, _, _, .cons kk e ik ek r t, s => .cons kk e ik ek r (KRs.append t s)
theorem KRs.put {q p : PV} {k v : V} (hq : isKey q = true) (rk : VR K M H k q) (rp : VR K M H v p) {ks : List (Key × V)} {kvs : List (PV × PV)} (r : KRs K M H ks kvs) : KRs K M H (putK ks (keyV q) v) (dput kvs q p) := by
  unfold putK dput
  rw [KRs.any hq r]
  by_cases hc : (kvs.any fun kv => keyEq kv.1 q) = true
  · rw [if_pos hc, if_pos hc]
    exact KRs.map hq rp r
  · rw [if_neg hc, if_neg hc]
    exact r.append (.cons rfl (by rw [← kV_keyV hq rk]; exact rk) hq rfl rp .nil)
end
theorem dput_len (kvs : List (PV × PV)) (q p : PV) : (dput kvs q p).length ≤ kvs.length + 1 := by
  unfold dput
  split
  · simp
  · simp

/-! ### comparisons -/
section
variable {X : Cx}
def rLenL (K : PySem.W.Frag) (b : Bool) : R2 := fun x y H Q => ∃ a c xs ys, x = .ref a ∧ y = .ref c ∧ SqL K H a xs ∧ SqL K H c ys ∧ xs.length ≠ ys.length ∧ Q (.bl b) H
theorem op_lenEq (hu : X.A.units < cLine) : OpR X (compareOp .Eq) (rLenL X.K false) := by
  intro pins s σ H x y v u Q I rx ry h
  obtain ⟨a, c, xs, ys, rfl, rfl, h1, h2, hn, q⟩ := h
  cases rx; cases ry
  obtain ⟨us, r1, p1, _⟩ := I.list h1
  obtain ⟨ws, r2, p2, _⟩ := I.list h2
  exact SeqAt.RcAt.lists_lengths p1.isList p2.isList (by simp only [List.size_toArray, bne_iff_ne, ne_eq]; rw [← r1.length, ← r2.length]; exact hn) hu _ _ _ _ ⟨.bl false, H, I, rfl, q⟩
theorem op_lenNe (hu : X.A.units < cLine) : OpR X (compareOp .NotEq) (rLenL X.K true) := by
  intro pins s σ H x y v u Q I rx ry h
  obtain ⟨a, c, xs, ys, rfl, rfl, h1, h2, hn, q⟩ := h
  cases rx; cases ry
  obtain ⟨us, r1, p1, _⟩ := I.list h1
  obtain ⟨ws, r2, p2, _⟩ := I.list h2
  exact SeqAt.RcNeAt.lists_lengths p1.isList p2.isList (by simp only [List.size_toArray, bne_iff_ne, ne_eq]; rw [← r1.length, ← r2.length]; exact hn) hu _ _ _ _ ⟨.bl true, H, I, rfl, q⟩
/-- two dicts of data: the answer of each value at its key -/
inductive Hits (K : PySem.W.Frag) (H : Hp) (ls : List (Key × V)) : List (Key × V) → Bool → Prop
  | nil : Hits K H ls [] true
  | miss {k : Key} {v : V} {r : List (Key × V)} : valV ls k = none → Hits K H ls ((k, v) :: r) false
  | hit {k : Key} {v y : V} {r : List (Key × V)} {d e : PyData} {b : Bool} : valV ls k = some y → Dp K H v d → Dp K H y e → SeqAt.shaped d = true → SeqAt.shaped e = true → Hits K H ls r b → Hits K H ls ((k, v) :: r) (PyData.eqv d e && b)
theorem Hits.keq {pins : List (Addr × Obj)} {s : Shared} {σ : L2.St} {H : Hp} (I : Inv X pins σ H s) (hu : X.A.units + 65 < cLine) {ls : List (Key × V)} {vb : List (Key × Value)} (rb : KV ls vb) {ks : List (Key × V)} {b : Bool} (hh : Hits X.K H ls ks b) :
    ∀ {va : List (Key × Value)}, KV ks va → PySem.W.KeqHits X.A.in1 s vb va b := by
  induction hh with
  | nil =>
    intro va rv
    unfold KV at rv
    cases rv
    exact .nil
  | @miss k v r e =>
    intro va rv
    unfold KV at rv
    cases rv with
    | @cons _ q _ _ h t =>
      obtain ⟨h1, h2⟩ := h
      obtain ⟨k', v'⟩ := q
      have h1' : k = k' := h1
      subst h1'
      have rr := rb.val k
      rw [e] at rr
      exact .miss rr.none_of
  | @hit k v y r d e b ey d1 d2 s1 s2 _ ih =>
    intro va rv
    unfold KV at rv
    cases rv with
    | @cons _ q _ _ h t =>
      obtain ⟨h1, h2⟩ := h
      obtain ⟨k', v'⟩ := q
      have h1' : k = k' := h1
      subst h1'
      have rr := rb.val k
      rw [ey] at rr
      obtain ⟨y', hy, ry⟩ := rr.some_of
      obtain ⟨as, q1⟩ := Dp.reads I _ _ v' d1 h2
      obtain ⟨bs, q2⟩ := Dp.reads I _ _ y' d2 ry
      exact .hit hy (PySem.W.keq_at q1 q2 s1 s2 (by show X.A.units + 1 + 64 < cLine; omega)) (ih t)
def rDictE (K : PySem.W.Frag) (neg : Bool) : R2 := fun x y H Q => ∃ a c ks ls b, x = .ref a ∧ y = .ref c ∧ Rd H a (.dK ks) ∧ Rd H c (.dK ls) ∧ Hits K H ls ks b ∧ Q (.bl (if neg then !(ks.length == ls.length && b) else (ks.length == ls.length && b))) H
theorem op_dictEq (hu : X.A.units + 65 < cLine) : OpR X (compareOp .Eq) (rDictE X.K false) := by
  intro pins s σ H x y v u Q I rx ry h
  obtain ⟨a, c, ks, ls, b, rfl, rfl, h1, h2, hh, q⟩ := h
  cases rx; cases ry
  obtain ⟨_, ya, va, ra, da⟩ := dk_rd I.hok h1
  obtain ⟨_, yb, vb, rb, db⟩ := dk_rd I.hok h2
  refine PySem.W.keq_eq (knd := mixKind X.prog X.w) (r := b) ya yb da db (by omega) (fun _ => hh.keq I hu rb ra) ⟨.bl _, H, I, rfl, ?_⟩
  rw [← ra.length, ← rb.length]
  exact q
theorem op_dictNe (hu : X.A.units + 65 < cLine) : OpR X (compareOp .NotEq) (rDictE X.K true) := by
  intro pins s σ H x y v u Q I rx ry h
  obtain ⟨a, c, ks, ls, b, rfl, rfl, h1, h2, hh, q⟩ := h
  cases rx; cases ry
  obtain ⟨_, ya, va, ra, da⟩ := dk_rd I.hok h1
  obtain ⟨_, yb, vb, rb, db⟩ := dk_rd I.hok h2
  refine PySem.W.keq_ne (knd := mixKind X.prog X.w) (r := b) ya yb da db (by omega) (fun _ => hh.keq I hu rb ra) ⟨.bl _, H, I, rfl, ?_⟩
  rw [← ra.length, ← rb.length]
  exact q
def rInT (K : PySem.W.Frag) (neg : Bool) : R2 := fun x y H Q => ∃ d ds, Dp K H x d ∧ Dp K H y (.tuple ds) ∧ SeqAt.shaped d = true ∧ SeqAt.shaped (.tuple ds) = true ∧ Q (.bl (if neg then !ds.any fun z => PyData.eqv z d else ds.any fun z => PyData.eqv z d)) H
theorem op_inT (hu : X.A.units + 65 < cLine) : OpR X (compareOp .In) (rInT X.K false) := by
  intro pins s σ H x y v u Q I rx ry h
  obtain ⟨d, ds, hd, he, sd, se, q⟩ := h
  obtain ⟨as, r1⟩ := Dp.reads I d x v hd rx
  obtain ⟨bs, r2⟩ := Dp.reads I (.tuple ds) y u he ry
  exact SeqAt.in_tuple_reads r2 r1 (SeqAt.canLay_of_shaped se) (SeqAt.canLay_of_shaped sd) (room_in_shaped sd hu) ⟨.bl _, H, I, rfl, q⟩
theorem op_notInT (hu : X.A.units + 65 < cLine) : OpR X (compareOp .NotIn) (rInT X.K true) := by
  intro pins s σ H x y v u Q I rx ry h
  obtain ⟨d, ds, hd, he, sd, se, q⟩ := h
  obtain ⟨as, r1⟩ := Dp.reads I d x v hd rx
  obtain ⟨bs, r2⟩ := Dp.reads I (.tuple ds) y u he ry
  exact SeqAt.notIn_tuple_reads r2 r1 (SeqAt.canLay_of_shaped se) (SeqAt.canLay_of_shaped sd) (room_in_shaped sd hu) ⟨.bl _, H, I, rfl, q⟩
def rInK (neg : Bool) : R2 := fun x y H Q => ∃ a o, y = .ref a ∧ DGet H a x o ∧ Q (.bl (if neg then !o.isSome else o.isSome)) H
theorem op_inK (hu : X.A.units + 1 < cLine) : OpR X (compareOp .In) (rInK false) := by
  intro pins s σ H x y v u Q I rx ry h
  obtain ⟨a, o, rfl, g, q⟩ := h
  cases ry
  exact d_in hu I g rx fun s' I' => ⟨.bl _, H, I', rfl, q⟩
theorem op_notInK (hu : X.A.units + 1 < cLine) : OpR X (compareOp .NotIn) (rInK true) := by
  intro pins s σ H x y v u Q I rx ry h
  obtain ⟨a, o, rfl, g, q⟩ := h
  cases ry
  exact d_notIn hu I g rx fun s' I' => ⟨.bl _, H, I', rfl, q⟩
end
def opC : COp → CmpOp
  | .eq => .Eq
  | .ne => .NotEq
  | .lt => .Lt
  | .le => .LtE
  | .gt => .Gt
  | .ge => .GtE
  | .isIn => .In
  | .notIn => .NotIn
  | .is => .Is
  | .isNot => .IsNot
def rLtS : R2 := fun x y H Q => ∃ i j, x = .str i ∧ y = .str j ∧ Q (.bl (decide (i.cps.toList < j.cps.toList))) H
def rLeS : R2 := fun x y H Q => ∃ i j, x = .str i ∧ y = .str j ∧ Q (.bl (decide (i.cps.toList ≤ j.cps.toList))) H
def rC (K : PySem.W.Frag) : COp → R2
  | .eq => R2.or (rEqD K) (R2.or (rLenL K false) (rDictE K false))
  | .ne => R2.or (rNeD K) (R2.or (rLenL K true) (rDictE K true))
  | .lt => R2.or (rI0 fun i j => .bl (decide (i < j))) rLtS
  | .le => rI0 fun i j => .bl (decide (i ≤ j))
  | .gt => rI0 fun i j => .bl (decide (j < i))
  | .ge => rI0 fun i j => .bl (decide (j ≤ i))
  | .isIn => R2.or (rInK false) (R2.or (rInT K false) (rInD K))
  | .notIn => R2.or (rInK true) (R2.or (rInT K true) (rNotInD K))
  | .is => R2.or (fun x y H Q => y = .non ∧ Q (.bl (decide (x = .non))) H) rIsB
  | .isNot => R2.or (fun x y H Q => y = .non ∧ Q (.bl (!decide (x = .non))) H) rNotB
theorem or_c {X : Cx} (hu : X.A.units + 65 < cLine) : ∀ op, OpR X (compareOp (opC op)) (rC X.K op)
  | .eq => (op_eqD (by omega)).or ((op_lenEq (by omega)).or (op_dictEq hu))
  | .ne => (op_neD (by omega)).or ((op_lenNe (by omega)).or (op_dictNe hu))
  | .lt => op_lt.or op_lt_str
  | .le => op_le
  | .gt => op_gt
  | .ge => op_ge
  | .isIn => (op_inK (by omega)).or ((op_inT hu).or (op_inD hu))
  | .notIn => (op_notInK (by omega)).or ((op_notInT hu).or (op_notInD hu))
  | .is => op_isN.or op_isBl
  | .isNot => op_notN.or op_notBl
section
variable {K : PySem.W.Frag} {φ : List Addr} {h : AH} {H : Hp} {M : Addr → Prop}
theorem any_toD (p : PV) (hp : plainD p = true) : ∀ (xs : List PV), plainDs xs = true → ((toDs xs).any fun z => PyData.eqv z (toD p)) = xs.any fun y => eqv y p
  | [], _ => rfl
  | x :: xs, h => by
    simp only [plainDs, Bool.and_eq_true] at h
    simp only [toDs, List.any_cons, eqv_toD x p h.1 hp, any_toD p hp xs h.2]
theorem okD_plain {p : PV} (h : okD p = true) : plainD p = true := by
  unfold okD at h
  rw [Bool.and_eq_true] at h
  exact h.1
theorem KRs.hits {ls : List (Key × V)} {lvs : List (PV × PV)} (rl : KRs K (Mt φ h) H ls lvs) (ol : okDict lvs = true) : ∀ {ks : List (Key × V)} {kvs : List (PV × PV)}, KRs K (Mt φ h) H ks kvs → okDict kvs = true →
    Hits K H ls ks (kvs.all fun kv => match dlook lvs kv.1 with | some y => eqv kv.2 y | none => false)
  | _, _, .nil, _ => .nil
  | _, _, .cons (k := k) (v := v) (q := a) (p := p) (ks := ks) (ps := ps) kk e ik ek r t, o => by
    unfold okDict at o
    rw [List.all_cons, Bool.and_eq_true] at o
    rw [List.all_cons]
    rcases KRs.look ik rl with ⟨h1, h2⟩ | ⟨p', v', h1, h2, h3⟩
    · simp only [h1, Bool.false_and]
      exact .miss (by rw [ek]; exact h2)
    · simp only [h1]
      have op' : okD p' = true := by
        have : ∀ {lvs : List (PV × PV)}, okDict lvs = true → dlook lvs a = some p' → okD p' = true := by
          intro lvs
          induction lvs with
          | nil => intro _ z; cases z
          | cons x r ih =>
            intro o z
            obtain ⟨x1, x2⟩ := x
            unfold okDict at o
            rw [List.all_cons, Bool.and_eq_true] at o
            unfold dlook at z
            split at z
            · cases z; exact o.1
            · exact ih o.2 z
        exact this ol h1
      obtain ⟨d1, s1⟩ := CV.dp (CV.v r) o.1
      obtain ⟨d2, s2⟩ := CV.dp (CV.v h3) op'
      rw [← eqv_toD p p' (okD_plain o.1) (okD_plain op')]
      exact .hit (by rw [ek]; exact h2) d1 d2 s1 s2 (KRs.hits rl ol t o.2)
theorem eq_sound (R : HR K φ h H) {x y : V} {p q : PV} {b : Bool} {Q : VK} (e : eqP p q = some b) (cx : CV K φ h H x p) (cy : CV K φ h H y q) (neg : Bool) (k : Q (.bl (if neg then !b else b)) H) :
    if neg then R2.or (rNeD K) (R2.or (rLenL K true) (rDictE K true)) x y H Q else R2.or (rEqD K) (R2.or (rLenL K false) (rDictE K false)) x y H Q := by
  have data : okD p = true → okD q = true → b = eqv p q → if neg then R2.or (rNeD K) (R2.or (rLenL K true) (rDictE K true)) x y H Q else R2.or (rEqD K) (R2.or (rLenL K false) (rDictE K false)) x y H Q := fun h1 h2 hb => by
    obtain ⟨d1, s1⟩ := CV.dp cx h1
    obtain ⟨d2, s2⟩ := CV.dp cy h2
    have eb : PyData.eqv (toD p) (toD q) = b := by rw [eqv_toD p q (okD_plain h1) (okD_plain h2), hb]
    cases neg with
    | true => exact .inl ⟨_, _, d1, d2, s1, s2, by rw [eb]; exact k⟩
    | false => exact .inl ⟨_, _, d1, d2, s1, s2, by rw [eb]; exact k⟩
  unfold eqP at e
  split at e
  · split at e
    · rename_i ho
      rw [Bool.and_eq_true] at ho
      cases e
      obtain ⟨a, ks, rfl, ea, ra, _⟩ := cx.dic
      obtain ⟨c, ls, rfl, ec, rc, _⟩ := cy.dic
      have hh := KRs.hits rc ho.2 ra ho.1
      unfold dictEq at k
      rw [← ra.length, ← rc.length] at k
      cases neg with
      | true => exact .inr (.inr ⟨a, c, ks, ls, _, rfl, rfl, ea, ec, hh, k⟩)
      | false => exact .inr (.inr ⟨a, c, ks, ls, _, rfl, rfl, ea, ec, hh, k⟩)
    · cases e
  · split at e
    · rename_i hn
      cases e
      obtain ⟨a, vs, rfl, ea, ra, _⟩ := cx.list
      obtain ⟨c, ws, rfl, ec, rc, _⟩ := cy.list
      have hn' : vs.length ≠ ws.length := by rw [ra.length, rc.length]; exact hn
      cases neg with
      | true => exact .inr (.inl ⟨a, c, vs, ws, rfl, rfl, SqL.of ea, SqL.of ec, hn', k⟩)
      | false => exact .inr (.inl ⟨a, c, vs, ws, rfl, rfl, SqL.of ea, SqL.of ec, hn', k⟩)
    · split at e
      · rename_i ho
        rw [Bool.and_eq_true] at ho
        cases e
        exact data ho.1 ho.2 rfl
      · cases e
  · split at e
    · rename_i ho
      rw [Bool.and_eq_true] at ho
      cases e
      exact data ho.1 ho.2 rfl
    · cases e
theorem in_sound (R : HR K φ h H) {x y : V} {p q : PV} {b : Bool} {Q : VK} (e : inP p q = some b) (cx : CV K φ h H x p) (cy : CV K φ h H y q) (neg : Bool) (k : Q (.bl (if neg then !b else b)) H) :
    if neg then rC K .notIn x y H Q else rC K .isIn x y H Q := by
  unfold inP at e
  split at e
  · split at e
    · rename_i kvs hk
      cases e
      obtain ⟨c, ls, rfl, ec, rc, _⟩ := cy.dic
      have rx : VR K (Mt φ h) H x p := by
        cases cx with
        | v r => exact r
        | lst _ _ _ => cases hk
        | dict _ _ _ => cases hk
      have g := DGet.at_ ec hk rx
      have eb : (valV ls (keyV p)).isSome = dhas kvs p := by
        unfold dhas
        rcases KRs.look hk rc with ⟨h1, h2⟩ | ⟨p', v', h1, h2, h3⟩
        · rw [h1, h2]; rfl
        · rw [h1, h2]; rfl
      cases neg with
      | true => exact .inl ⟨c, _, rfl, g, by rw [eb]; exact k⟩
      | false => exact .inl ⟨c, _, rfl, g, by rw [eb]; exact k⟩
    · cases e
  · split at e
    · rename_i ys ho
      rw [Bool.and_eq_true] at ho
      cases e
      obtain ⟨d1, s1⟩ := CV.dp cx ho.1
      obtain ⟨d2, s2⟩ := CV.dp cy ho.2
      have hy := okD_plain ho.2
      simp only [plainD] at hy
      simp only [toD] at d2 s2
      have eb := any_toD p (okD_plain ho.1) ys hy
      cases neg with
      | true => exact .inr (.inl ⟨_, _, d1, d2, s1, s2, by rw [eb]; exact k⟩)
      | false => exact .inr (.inl ⟨_, _, d1, d2, s1, s2, by rw [eb]; exact k⟩)
    · cases e
  · split at e
    · rename_i ys ho
      rw [Bool.and_eq_true] at ho
      cases e
      obtain ⟨d1, s1⟩ := CV.dp cx ho.1
      obtain ⟨d2, s2⟩ := CV.dp cy ho.2
      have hy := okD_plain ho.2
      simp only [plainD] at hy
      simp only [toD] at d2 s2
      have eb := any_toD p (okD_plain ho.1) ys hy
      cases neg with
      | true => exact .inr (.inr ⟨_, _, d1, d2, s1, s2, by rw [eb]; exact k⟩)
      | false => exact .inr (.inr ⟨_, _, d1, d2, s1, s2, by rw [eb]; exact k⟩)
    · cases e
  · cases e
theorem non_iff {x : V} {p : PV} (cx : CV K φ h H x p) : decide (x = .non) = isNon p := by
  cases cx with
  | v r => cases r <;> simp [isNon]
  | lst _ _ _ => simp [isNon]
  | dict _ _ _ => simp [isNon]
theorem is_sound (R : HR K φ h H) {x y : V} {p q : PV} {b : Bool} {Q : VK} (e : isP p q = some b) (cx : CV K φ h H x p) (cy : CV K φ h H y q) (neg : Bool) (k : Q (.bl (if neg then !b else b)) H) :
    if neg then rC K .isNot x y H Q else rC K .is x y H Q := by
  unfold isP at e
  split at e
  · cases e
    obtain rfl := cy.non
    rw [← non_iff cx] at k
    cases neg with
    | true => exact .inl ⟨rfl, k⟩
    | false => exact .inl ⟨rfl, k⟩
  · rename_i c
    cases p <;> first | cases e | skip
    rename_i a
    obtain rfl := cx.bl
    obtain rfl := cy.bl
    rw [Bool.beq_eq_decide_eq] at k
    cases neg with
    | true => exact .inr ⟨_, _, rfl, rfl, k⟩
    | false => exact .inr ⟨_, _, rfl, rfl, k⟩
  · cases e
theorem cmp_sound (R : HR K φ h H) {op : COp} {x y : V} {p q : PV} {b : Bool} {Q : VK} (e : cmpP op p q = some b) (cx : CV K φ h H x p) (cy : CV K φ h H y q) (k : Q (.bl b) H) : rC K op x y H Q := by
  cases op with
  | eq => exact eq_sound R e cx cy false k
  | ne =>
    unfold cmpP at e
    rw [Option.map_eq_some_iff] at e
    obtain ⟨c, e, rfl⟩ := e
    exact eq_sound R e cx cy true k
  | lt =>
    simp only [cmpP] at e
    split at e
    · cases e; obtain rfl := cx.int; obtain rfl := cy.int; exact .inl ⟨_, _, rfl, rfl, k⟩
    · cases e
      obtain ⟨rfl, _⟩ := cx.str
      obtain ⟨rfl, _⟩ := cy.str
      exact .inr ⟨_, _, rfl, rfl, k⟩
    · cases e
  | le =>
    simp only [cmpP] at e
    split at e
    · cases e; obtain rfl := cx.int; obtain rfl := cy.int; exact ⟨_, _, rfl, rfl, k⟩
    · cases e
  | gt =>
    simp only [cmpP] at e
    split at e
    · cases e; obtain rfl := cx.int; obtain rfl := cy.int; exact ⟨_, _, rfl, rfl, k⟩
    · cases e
  | ge =>
    simp only [cmpP] at e
    split at e
    · cases e; obtain rfl := cx.int; obtain rfl := cy.int; exact ⟨_, _, rfl, rfl, k⟩
    · cases e
  | isIn => exact in_sound R e cx cy false k
  | notIn =>
    unfold cmpP at e
    rw [Option.map_eq_some_iff] at e
    obtain ⟨c, e, rfl⟩ := e
    exact in_sound R e cx cy true k
  | is => exact is_sound R e cx cy false k
  | isNot =>
    unfold cmpP at e
    rw [Option.map_eq_some_iff] at e
    obtain ⟨c, e, rfl⟩ := e
    exact is_sound R e cx cy true k
end
end Ev

set_option Elab.async false
set_option linter.all false
set_option maxRecDepth 100000
namespace Ev
open PySem PySem.Spec PyProof.Rows L2

/-! ### the text and its own form are the same -/
def plainX : Expr → Bool
  | .Starred .. => false
  | .Slice .. => false
  | .Set .. => false
  | _ => true
def visB (sc : Scope) (x : Str) : Bool :=
  (match sc.names.lookup x with | some .local => true | some .cell => true | some .free => true | _ => false) && !(x == ("__debug__" : Str)) && !(x == ("__classdict__" : Str))
def glB (sc : Scope) (x : Str) : Bool :=
  (match sc.names.lookup x with | some .globalImplicit => true | _ => false) && !(x == ("__debug__" : Str)) && !(x == ("__name__" : Str))
def locB (sc : Scope) (x : Str) : Bool :=
  match sc.names.lookup x with | some .local => true | some .cell => true | _ => false
def litB : PV → Const → Bool
  | .non, .none => true
  | .bl a, .bool b => a == b
  | .int i, .int j => i == j
  | .str s, .str z => decide (z = strV s) && decide (s.length ≤ SZ) && s.all fun c => decide (c < 0x110000)
  | _, _ => false
def opbB : BOp → Operator → Bool
  | .add, .Add => true
  | .sub, .Sub => true
  | .mul, .Mult => true
  | .fdiv, .FloorDiv => true
  | .mod, .Mod => true
  | .pow, .Pow => true
  | _, _ => false
def opcB : COp → CmpOp → Bool
  | .eq, .Eq => true
  | .ne, .NotEq => true
  | .lt, .Lt => true
  | .le, .LtE => true
  | .gt, .Gt => true
  | .ge, .GtE => true
  | .isIn, .In => true
  | .notIn, .NotIn => true
  | .is, .Is => true
  | .isNot, .IsNot => true
  | _, _ => false
def booB : Bool → BoolOp → Bool
  | true, .And => true
  | false, .Or => true
  | _, _ => false
def tyS : Ty → String
  | .int => "int"
  | .bool => "bool"
  | .str => "str"
  | .tuple => "tuple"
  | .list => "list"
  | .dict => "dict"
def bltS : Blt → String
  | .len => "len"
  | .abs => "abs"
  | .int => "int"
  | .min2 => "min"
  | .max2 => "max"
  | .min1 => "min"
  | .max1 => "max"
  | .sum => "sum"
  | .any => "any"
  | .all => "all"
  | .tuple => "tuple"
  | .list => "list"
  | .sorted => "sorted"
  | .dict => "dict"
  | .str => "str"
def bltN : Blt → Nat
  | .min2 => 2
  | .max2 => 2
  | _ => 1
def mthS : Mth → String
  | .append => "append"
  | .extend => "extend"
  | .pop => "pop"
  | .popAt => "pop"
  | .insert => "insert"
  | .get1 => "get"
  | .get2 => "get"
  | .lower => "lower"
  | .join => "join"
  | .count => "count"
  | .index => "index"
def mthN : Mth → Nat
  | .append => 1
  | .extend => 1
  | .pop => 0
  | .popAt => 1
  | .insert => 2
  | .get1 => 1
  | .get2 => 2
  | .lower => 0
  | .join => 1
  | .count => 1
  | .index => 1
def noSup : Expr → Bool
  | .Call (.Name _ _) [] [] _ => false
  | _ => true
def Exs.len : Exs → Nat
  | .nil => 0
  | .cons _ es => es.len + 1
/-- its test is its value's truth -/
def plainT : Expr → Bool
  | .UnaryOp .Not _ _ => false
  | .BoolOp .. => false
  | .IfExp .. => false
  | .Compare .. => false
  | _ => true
def isCmp : Ex → Bool
  | .cmp .. => true
  | .cmp2 .. => true
  | _ => false

def tgB (N : List Str) (sc : Scope) : Tg → Expr → Bool
  | .nm i, .Name x _ => decide (N[i]? = some x) && locB sc x
  | .tp is, .Tuple es _ _ => go is es
  | _, _ => false
where go : List Nat → List Expr → Bool
  | [], [] => true
  | i :: is, .Name x _ :: es => decide (N[i]? = some x) && locB sc x && go is es
  | _, _ => false

section
variable (P : List Fn) (N : List Str)
mutual
def mE (sc : Scope) : Ex → Expr → Bool
  | .var i _, e => match e with
    | .Name x _ => decide (N[i]? = some x) && visB sc x
    | _ => false
  | .lit p, e => match e with
    | .Constant c _ _ => litB p c
    | _ => false
  | .glob _ _, _ => false
  | .bin op a b, e => match e with
    | .BinOp l o r _ => opbB op o && mE sc a l && mE sc b r
    | _ => false
  | .neg a, e => match e with
    | .UnaryOp .USub l _ => mE sc a l
    | _ => false
  | .cmp op a b, e => match e with
    | .Compare l [o] [r] _ => opcB op o && mE sc a l && mE sc b r && plainX r
    | _ => false
  | .cmp2 op op2 a b c, e => match e with
    | .Compare l [o, o2] [r, r2] _ => opcB op o && opcB op2 o2 && mE sc a l && mE sc b r && mE sc c r2 && plainX r && plainX r2
    | _ => false
  | .boo isAnd a b, e => match e with
    | .BoolOp o (l :: r :: rs) p => booB isAnd o && mE sc a l && (match rs with
      | [] => mE sc b r
      | _ :: _ => mE sc b (.BoolOp o (r :: rs) p))
    | _ => false
  | .not a, e => match e with
    | .UnaryOp .Not l _ => mE sc a l
    | _ => false
  | .ite c a b, e => match e with
    | .IfExp t l r _ => mT sc c t && mE sc a l && mE sc b r
    | _ => false
  | .tup es, e => match e with
    | .Tuple ls _ _ => mL sc es ls
    | _ => false
  | .lst _ es, e => match e with
    | .List ls _ => mL sc es ls
    | _ => false
  | .dict _ ks, e => match e with
    | .Dict [] [] _ => (match ks with | .nil => true | _ => false)
    | .Dict (k :: kk) vv _ => decide ((k :: kk).length ≤ 15) && mD sc ks (k :: kk) vv
    | _ => false
  | .idx a i, e => match e with
    | .Subscript l r _ => mE sc a l && mE sc i r && plainX r
    | _ => false
  | .slc a lo hi, e => match e with
    | .Subscript l (.Slice x y none _) _ => mE sc a l && mO sc lo x && mO sc hi y
    | _ => false
  | .rev _, _ => false
  | .call f es, e => match e with
    | .Call (.Name x _) ls [] _ => (match P[f]? with | some fn => decide (x = strV fn.name) | none => false) && glB sc x && mL sc es ls && !ls.isEmpty
    | _ => false
  | .blt m b es, e => match e with
    | .Call (.Name x _) ls [] _ => decide (x = Str.ofString (bltS b)) && glB sc x && decide (ls.length = bltN b) && mL sc es ls && (match b with | .str => false | _ => true)
    | _ => false
  | .mth m o es, e => match e with
    | .Call (.Attribute l x apos) ls [] cpos => decide (x = Str.ofString (mthS m)) && decide (ls.length = mthN m) && (apos.endLine == cpos.line) && noSup l && mE sc o l && mL sc es ls && (match m with | .insert => false | .join => false | .count => false | .index => false | _ => true)
    | _ => false
  | .isi a t, e => match e with
    | .Call (.Name x _) [l, .Name y _] [] _ => decide (x = Str.ofString "isinstance") && glB sc x && decide (y = Str.ofString (tyS t)) && glB sc y && mE sc a l && plainX l
    | _ => false
  | .comp _ elt own tg it ifs, e => match e with
    | .ListComp el [⟨t, i, fs, 0⟩] sc2 _ => (blkC N sc sc2 (own.map fun j => (N.getD j Str.empty, j))) && mI sc it i && tgB N sc2 tg t && mE sc2 elt el && (match fs with
      | [] => (match ifs with | .yes => true | _ => false)
      | [c] => mT sc2 ifs c
      | _ => false) && (match tg with | .nm j => own.contains j | .tp js => js.all own.contains)
    | _ => false
  | .comp2 .., _ => false
def mL (sc : Scope) : Exs → List Expr → Bool
  | .nil, ls => match ls with
    | [] => true
    | _ => false
  | .cons a es, ls => match ls with
    | l :: ls => mE sc a l && plainX l && mL sc es ls
    | _ => false
def mO (sc : Scope) : Exs → Option Expr → Bool
  | .nil, o => match o with
    | none => true
    | _ => false
  | .cons a .nil, o => match o with
    | some l => mE sc a l && plainX l
    | _ => false
  | .cons _ (.cons _ _), _ => false
def mD (sc : Scope) : Prs → List (Option Expr) → List Expr → Bool
  | .nil, ks, vs => match ks, vs with
    | [], [] => true
    | _, _ => false
  | .cons k v r, ks, vs => match ks, vs with
    | some k' :: ks, v' :: vs => mE sc k k' && mE sc v v' && mD sc r ks vs
    | _, _ => false
def mT (sc : Scope) : Ts → Expr → Bool
  | .yes, _ => false
  | .of a, e => mE sc a e && (plainT e || isCmp a)
  | .not t, e => match e with
    | .UnaryOp .Not l _ => mT sc t l
    | _ => false
  | .boo isAnd a b, e => match e with
    | .BoolOp o (l :: r :: rs) p => booB isAnd o && mT sc a l && (match rs with
      | [] => mT sc b r
      | _ :: _ => mT sc b (.BoolOp o (r :: rs) p))
    | _ => false
def mI (sc : Scope) : Itr → Expr → Bool
  | .var i _, e => match e with
    | .Name x _ => decide (N[i]? = some x) && visB sc x
    | _ => false
  | .ex a, e => mE sc a e && plainX e
  | .rng1 a, e => match e with
    | .Call (.Name x _) [l] [] _ => decide (x = Str.ofString "range") && glB sc x && mE sc a l && plainX l
    | _ => false
  | .rng2 a b, e => match e with
    | .Call (.Name x _) [l, r] [] _ => decide (x = Str.ofString "range") && glB sc x && mE sc a l && plainX l && mE sc b r && plainX r
    | _ => false
  | .rng3 .., _ => false
  | .enum .., _ => false
  | .zip .., _ => false
end
end

/-! ### what is asked of where one stands -/
def bltNames : List String := ["len", "abs", "int", "min", "max", "sum", "any", "all", "tuple", "list", "sorted", "dict", "str", "range", "isinstance", "bool", "enumerate", "zip", "set"]

structure ScOk (sc : Scope) (X : Cx) : Prop where
  vis : ∀ x, visB sc x = true → Vis X.env.scope x
  gl : ∀ x, glB sc x = true → Gl X x
  loc : ∀ x, locB sc x = true → Loc X.env.scope x ∧ (X.fn x = true ∨ X.env.scope.names.lookup x = some .local)
  lcl : ∀ x, sc.names.lookup x = some .local → X.env.scope.names.lookup x = some .local
  cel : ∀ x, sc.names.lookup x = some .cell → X.env.scope.names.lookup x = some .cell
  fc : ∀ x, sc.names.lookup x = some .cell ∨ sc.names.lookup x = some .free → X.env.scope.names.lookup x = some .cell ∨ X.env.scope.names.lookup x = some .free
  kind : X.env.scope.kind = .function

def spN (K : PySem.W.Frag) (P : List Fn) (n i : Nat) : Sp := fun vs H Q _ => ∃ φ h ss sv h' fn, P[i]? = some fn ∧ vs.length = fn.ps.length ∧ HR K φ h H ∧ SRs K φ h H vs ss ∧ callN P n i ss h = some (sv, h') ∧ Kont K φ h H h' sv Q

structure Gd (P : List Fn) (N : List Str) (n : Nat) (X : Cx) : Prop where
  calm : X.calm = true
  nd : N.Nodup
  hN : X.N = N
  room : Room n X.A
  xe : X.xe = fun _ _ => False
  fns : ∀ (i : Nat) (fn : Fn), P[i]? = some fn → ∃ f fd, X.mg (strV fn.name) = some (.ref f) ∧ PySem.W.keepIn X.K (.ref f) = true ∧ Binds X.K fd (fn.ps.map strV) [] ∧ FnOk X.prog X.w X.K X.mg X.base CX0 n f fd (fn.ps.map strV) (spN X.K P n i)
  blt : ∀ x ∈ bltNames, X.mg (Str.ofString x) = none
theorem Gd.units {P N n X} (G : Gd P N n X) : X.A.units + 65 < cLine := by
  have := G.room.un
  omega
theorem Gd.blk {P N n X} (G : Gd P N n X) (s : Shared) (H : Hp) (scope : Scope) (cenv : Env) (fp : List Addr) : Gd P N n (X.blk s H scope cenv fp) :=
  ⟨G.calm, G.nd, G.hN, G.room, rfl, G.fns, G.blt⟩
theorem Gd.pass {P N n X} (G : Gd P N n X) : PassesOwn (model X.prog X.w) X.A X.env X.xe := by
  rw [G.xe]; exact PassesOwn.never

theorem ScOk.blk {sc sc2 : Scope} {X : Cx} (S : ScOk sc X) (hk : sc2.kind = .function) (s : Shared) (H : Hp) (C : Addr) (cl : List (Str × Addr)) (fp : List Addr) : ScOk sc2 (X.blk s H sc2 (compEnvC sc2 cl C X.env) fp) := by
  have key : ∀ x k, k ≠ .free → sc2.names.lookup x = some k → (compEnvC sc2 cl C X.env).scope.names.lookup x = some k := fun x k hk e => lookup_relS_keep hk e
  have keyf : ∀ x, sc2.names.lookup x = some .free → (compEnvC sc2 cl C X.env).scope.names.lookup x = some .cell ∨ (compEnvC sc2 cl C X.env).scope.names.lookup x = some .free := fun x e => by
    show (relS sc2 X.env.scope).names.lookup x = _ ∨ (relS sc2 X.env.scope).names.lookup x = _
    have gen : ∀ (names : List (Str × NameKind)), names.lookup x = some .free → 
        (names.map fun (n, k) => if (k == NameKind.free && X.env.scope.kind == .function && X.env.scope.names.lookup n == some .cell) then (n, NameKind.cell) else (n, k)).lookup x = some .cell ∨
        (names.map fun (n, k) => if (k == NameKind.free && X.env.scope.kind == .function && X.env.scope.names.lookup n == some .cell) then (n, NameKind.cell) else (n, k)).lookup x = some .free := by
      intro names
      induction names with
      | nil => intro z; cases z
      | cons p r ih =>
        obtain ⟨n, k⟩ := p
        intro z
        rw [List.lookup_cons] at z
        rw [List.map_cons]
        dsimp only
        cases hb : x == n with
        | true =>
          rw [hb] at z
          cases z
          split
          · left; rw [List.lookup_cons, hb]
          · right; rw [List.lookup_cons, hb]
        | false =>
          rw [hb] at z
          split
          · rw [List.lookup_cons, hb]; exact ih z
          · rw [List.lookup_cons, hb]; exact ih z
    exact gen _ e
  refine ⟨fun x hx => ?_, fun x hx => ?_, fun x hx => ?_, fun x hx => key x _ (by decide) hx, fun x hx => key x _ (by decide) hx, fun x hx => ?_, hk⟩
  · unfold visB at hx
    simp only [Bool.and_eq_true] at hx
    have h1 := hx.1.1
    cases hl : sc2.names.lookup x with
    | none => rw [hl] at h1; cases h1
    | some k =>
      rw [hl] at h1
      cases k <;> first | cases h1 | skip
      · exact .inl (key x _ (by decide) hl)
      · exact .inr (.inl (key x _ (by decide) hl))
      · exact (keyf x hl).elim (fun z => .inr (.inl z)) fun z => .inr (.inr z)
  · unfold glB at hx
    simp only [Bool.and_eq_true] at hx
    have h1 := hx.1.1
    cases hl : sc2.names.lookup x with
    | none => rw [hl] at h1; cases h1
    | some k =>
      rw [hl] at h1
      cases k <;> first | cases h1 | skip
      exact key x _ (by decide) hl
  · unfold locB at hx
    cases hl : sc2.names.lookup x with
    | none => rw [hl] at hx; cases hx
    | some k =>
      rw [hl] at hx
      cases k <;> first | cases hx | skip
      · exact ⟨.inl (key x _ (by decide) hl), .inr (key x _ (by decide) hl)⟩
      · refine ⟨.inr (key x _ (by decide) hl), .inl ?_⟩
        show (sc2.names.lookup x == some .cell) = true
        rw [hl]; rfl
  · rcases hx with hx | hx
    · exact .inl (key x _ (by decide) hx)
    · exact keyf x hx

/-! ### side conditions of the tree -/
theorem starEach_cons {e : Expr} {es : List Expr} {env : Env} (h : plainX e = true) : starEach (e :: es) env = (false, eval e env) :: starEach es env := by
  cases e <;> first | rfl | cases h
theorem plain_ix {e : Expr} (h : plainX e = true) : PlainIx e := by
  intro o i
  cases e <;> first | rfl | cases h
theorem plain_mark {op : CmpOp} {e : Expr} (h : plainX e = true) : behindInMarks op e = false := by
  cases e <;> first | rfl | cases h
theorem plain_fold {e : Expr} {env : Env} (h : plainX e = true) : ∀ x, foldedSetIterable e env x = pure x := by
  intro x
  cases e <;> first | rfl | cases h
theorem plain_true {e : Expr} {env : Env} (h : plainT e = true) : ∀ whole, isTrue e env whole = (do let v ← whole; standAt e.pos; holding [v] (truthy v)) := by
  intro w
  cases e <;> first | rfl | skip
  · cases h
  · rename_i op x pos
    cases op <;> first | rfl | cases h
  · cases h
  · cases h
theorem any_false {es : List Expr} {env : Env} {pos : Pos} : (∀ e ∈ es, plainX e = true) → (backTo pos (starEach es env)).any (·.1) = false := by
  induction es with
  | nil => intro _; rfl
  | cons e es ih =>
    intro h
    rw [starEach_cons (h e List.mem_cons_self)]
    show (false || (backTo pos (starEach es env)).any (·.1)) = false
    rw [ih fun x hx => h x (List.mem_cons_of_mem _ hx)]
    rfl
theorem mL_plain {P N sc} : ∀ {es : Exs} {ls : List Expr}, mL P N sc es ls = true → ∀ e ∈ ls, plainX e = true
  | .nil, [], _ => fun e he => nomatch he
  | .nil, _ :: _, h => by simp [mL] at h
  | .cons _ _, [], h => by simp [mL] at h
  | .cons a es, l :: ls, h => by
    simp only [mL, Bool.and_eq_true] at h
    intro e he
    rcases List.mem_cons.mp he with rfl | he
    · exact h.1.2
    · exact mL_plain h.2 e he
theorem noSup_base {o : Expr} {m : Str} {env : Env} (h : noSup o = true) : attributeBase o m env (eval o env) = eval o env := by
  unfold attributeBase
  split
  · cases h
  · rfl

/-! ### readings by evaluation -/
section
variable (K : PySem.W.Frag) (C : Calls)
def tE (e : Ex) : TE := fun σ H Q => ∃ φ h env sv h', HR K φ h H ∧ ER K φ h H env σ ∧ evE C e env h = some (sv, h') ∧ Kont K φ h H h' sv Q
def tT (t : Ts) : TT := fun σ H Q => ∃ φ h env b h', HR K φ h H ∧ ER K φ h H env σ ∧ evT C t env h = some (b, h') ∧ ∀ (H' : Hp) (φ' : List Addr), HR K φ' h' H' → Ext φ h H φ' h' H' → Q b H'
def tL (es : Exs) : TA := fun σ H Q => ∃ φ h env ss h', HR K φ h H ∧ ER K φ h H env σ ∧ evL C es env h = some (ss, h') ∧ ∀ (vs : List V) (H' : Hp) (φ' : List Addr), HR K φ' h' H' → Ext φ h H φ' h' H' → SRs K φ' h' H' vs ss → Q vs H'
end
end Ev

set_option Elab.async false
set_option linter.all false
set_option maxRecDepth 100000
namespace Ev
open PySem PySem.Spec PyProof.Rows L2

section
variable {X : Cx} {K : PySem.W.Frag} {C : Calls} {P : List Fn} {N : List Str} {n : Nat}

theorem two {a b : Ex} {σ : L2.St} {H : Hp} {φ : List Addr} {h h1 h2 : AH} {env : En} {x y : SV} {S : V → V → Hp → Prop} (R : HR K φ h H) (E : ER K φ h H env σ) (hx : evE C a env h = some (x, h1)) (hy : evE C b env h1 = some (y, h2))
    (F : ∀ v1 v2 H2 φ2, HR K φ2 h2 H2 → Ext φ h H φ2 h2 H2 → SR K φ2 h2 H2 v1 x → SR K φ2 h2 H2 v2 y → S v1 v2 H2) : tE K C a σ H fun v1 H1 => tE K C b σ H1 fun v2 H2 => S v1 v2 H2 :=
  ⟨φ, h, env, x, h1, R, E, hx, fun v1 H1 φ1 R1 X1 s1 => ⟨φ1, h1, env, y, h2, R1, E.mono X1, hy, fun v2 H2 φ2 R2 X2 s2 => F v1 v2 H2 φ2 R2 (X1.trans X2) (s1.mono X2) s2⟩⟩

theorem Kont.keep {φ : List Addr} {h : AH} {H : Hp} {φ2 : List Addr} {h2 h' : AH} {H2 : Hp} {s : SV} {Q : VK} (k : Kont K φ h H h' s Q) (x : Ext φ h H φ2 h2 H2) : Kont K φ2 h2 H2 h' s Q :=
  fun v H' φ' R X2 r => k v H' φ' R (x.trans X2) r

/-! ### names, constants -/
theorem var_core {i : Nat} {z : Bool} {φ : List Addr} {h h' : AH} {H : Hp} {env : En} {σ : L2.St} {s t : SV} (R : HR K φ h H) (E : ER K φ h H env σ) (hs : env[i]? = some (some s)) (ev : rdVar z h s = some (t, h')) :
    ∃ v, σ[i]? = some (some v) ∧ HR K φ h' H ∧ Ext φ h H φ h' H ∧ SR K φ h' H v t := by
  obtain ⟨v, e1, r⟩ := E.at_ i s hs
  cases s with
  | v p => cases ev; exact ⟨v, e1, R, Ext.refl, r⟩
  | o j =>
    obtain ⟨a, rfl, ea⟩ := id r
    simp only [rdVar] at ev
    split at ev
    · rename_i p hc
      cases ev
      exact ⟨_, e1, R, Ext.refl, (R.cell j _ a hc ea).1⟩
    · rename_i xs hc
      split at ev
      · cases ev
        obtain ⟨vs, q, rv, hz⟩ := R.cell j _ a hc ea
        have m := R.frzM (p := .lst xs) hc rfl ea
        have xx := Ext.frzX (p := .lst xs) R hc rfl
        have vr : VR K (Mt φ (h.set j (.frz (.lst xs)))) H (.ref a) (.lst xs) := .lst q m hz (rv.mono xx.1)
        exact ⟨_, e1, R.frz hc rfl ea vr, xx, vr⟩
      · cases ev; exact ⟨_, e1, R, Ext.refl, r⟩
    · rename_i xs hc
      split at ev
      · cases ev
        obtain ⟨vs, q, rv, hz⟩ := R.cell j _ a hc ea
        have m := R.frzM (p := .dict xs) hc rfl ea
        have xx := Ext.frzX (p := .dict xs) R hc rfl
        have vr : VR K (Mt φ (h.set j (.frz (.dict xs)))) H (.ref a) (.dict xs) := .dict (.inl q) m hz (rv.mono xx.1)
        exact ⟨_, e1, R.frz hc rfl ea vr, xx, vr⟩
      · cases ev; exact ⟨_, e1, R, Ext.refl, r⟩
    · cases ev
theorem l_var {i : Nat} {z : Bool} {x : Str} {pos : Pos} (hN : X.N[i]? = some x) (hv : Vis X.env.scope x) (hd : (x == ("__debug__" : Str)) = false) (hcd : (x == ("__classdict__" : Str)) = false) : PE X (.Name x pos) (tE K C (.var i z)) := by
  refine PE.imp (pe_var (i := i) hN hv hd hcd) fun σ H Q ⟨φ, h, env, sv, h', R, E, ev, k⟩ => ?_
  simp only [evE] at ev
  split at ev
  · rename_i s hs
    obtain ⟨v, e1, R1, X1, s1⟩ := var_core R E hs ev
    exact ⟨v, e1, k v H φ R1 X1 s1⟩
  · cases ev
theorem l_lit {p : PV} {c : Const} {j : Nat} {pos : Pos} (h : litB p c = true) : PE X (.Constant c j pos) (tE K C (.lit p)) := by
  have go : ∀ (v : V), (∀ M H, VR K M H v p) → PE X (.Constant c j pos) (tC v) → PE X (.Constant c j pos) (tE K C (.lit p)) := fun v r hp =>
    PE.imp hp fun σ H Q ⟨φ, h, env, sv, h', R, E, ev, k⟩ => by
      cases ev
      exact k v H φ R Ext.refl (r _ _)
  cases p <;> cases c <;> first | (exact absurd h Bool.false_ne_true) | skip
  · exact go _ (fun _ _ => .non) pe_non
  · have e := of_decide_eq_true (by simpa [litB] using h : decide (_ = _) = true)
    subst e
    exact go _ (fun _ _ => .bl _) pe_bl
  · have e := eq_of_beq (show (_ == _) = true from h)
    subst e
    exact go _ (fun _ _ => .int _) pe_int
  · simp only [litB, Bool.and_eq_true, decide_eq_true_eq, List.all_eq_true] at h
    obtain ⟨⟨rfl, h1⟩, h2⟩ := h
    exact go _ (fun _ _ => .str h1 h2) pe_str

/-! ### operators -/
theorem opb_eq {op : BOp} {o : Operator} (h : opbB op o = true) : o = opB op := by
  cases op <;> cases o <;> first | rfl | cases h
theorem opc_eq {op : COp} {o : CmpOp} (h : opcB op o = true) : o = opC op := by
  cases op <;> cases o <;> first | rfl | cases h
theorem l_bin {op : BOp} {a b : Ex} {l r : Expr} {pos : Pos} (ha : PE X l (tE X.K C a)) (hb : PE X r (tE X.K C b)) : PE X (.BinOp l (opB op) r pos) (tE X.K C (.bin op a b)) := by
  refine PE.imp (pe_op (or_b op) ha hb) fun σ H Q ⟨φ, h, env, sv, h', R, E, ev, k⟩ => ?_
  simp only [evE] at ev
  split at ev
  · cases ev
  · rename_i x h1 hx
    split at ev
    · cases ev
    · rename_i y h2 hy
      split at ev
      · rename_i p q hp hq
        rw [Option.map_eq_some_iff] at ev
        obtain ⟨z, ez, e⟩ := ev
        cases e
        exact two R E hx hy fun v1 v2 H2 φ2 R2 X2 s1 s2 => bin_sound R2 ez (peek_cv R2 s1 hp) (peek_cv R2 s2 hq) (k.keep X2)
      · cases ev
theorem l_neg {a : Ex} {l : Expr} {pos : Pos} (ha : PE X l (tE X.K C a)) : PE X (.UnaryOp .USub l pos) (tE X.K C (.neg a)) := by
  refine PE.imp (pe_un un_neg ha) fun σ H Q ⟨φ, h, env, sv, h', R, E, ev, k⟩ => ?_
  simp only [evE] at ev
  split at ev
  · rename_i i h1 hx
    cases ev
    refine ⟨φ, h, env, _, _, R, E, hx, fun v H1 φ1 R1 X1 s1 => ?_⟩
    cases s1
    exact ⟨i, rfl, k _ H1 φ1 R1 X1 (.int _)⟩
  · cases ev
theorem l_cmp {op : COp} {a b : Ex} {l r : Expr} {pos : Pos} (hu : X.A.units + 65 < cLine) (ha : PE X l (tE X.K C a)) (hb : PE X r (tE X.K C b)) (hp : plainX r = true) : PE X (.Compare l [opC op] [r] pos) (tE X.K C (.cmp op a b)) := by
  refine PE.imp (pe_cmpR (or_c hu op) ha hb (plain_mark hp)) fun σ H Q ⟨φ, h, env, sv, h', R, E, ev, k⟩ => ?_
  simp only [evE] at ev
  split at ev
  · cases ev
  · rename_i x h1 hx
    split at ev
    · cases ev
    · rename_i y h2 hy
      split at ev
      · rename_i p q hp hq
        rw [Option.map_eq_some_iff] at ev
        obtain ⟨z, ez, e⟩ := ev
        cases e
        exact two R E hx hy fun v1 v2 H2 φ2 R2 X2 s1 s2 => cmp_sound R2 ez (peek_cv R2 s1 hp) (peek_cv R2 s2 hq) (k _ H2 φ2 R2 X2 (.bl _))
      · cases ev
theorem l_cmpT {op : COp} {a b : Ex} {l r : Expr} {pos : Pos} (hu : X.A.units + 65 < cLine) (ha : PE X l (tE X.K C a)) (hb : PE X r (tE X.K C b)) (hp : plainX r = true) : PT X (.Compare l [opC op] [r] pos) (tT X.K C (.of (.cmp op a b))) := by
  refine PT.imp (pt_cmpR (or_c hu op) ha hb (plain_mark hp)) fun σ H Q ⟨φ, h, env, sv, h', R, E, ev, k⟩ => ?_
  simp only [evT, evE] at ev
  split at ev
  · cases ev
  · rename_i s hs0 hs
    split at hs
    · cases hs
    · rename_i x h1 hx
      split at hs
      · cases hs
      · rename_i y h2 hy
        split at hs
        · rename_i p q hp hq
          rw [Option.map_eq_some_iff] at hs
          obtain ⟨z, ez, e⟩ := hs
          cases e
          simp only [peek, truP, Option.map_some] at ev
          cases ev
          exact two R E hx hy fun v1 v2 H2 φ2 R2 X2 s1 s2 => cmp_sound R2 ez (peek_cv R2 s1 hp) (peek_cv R2 s2 hq) ⟨_, rfl, k H2 φ2 R2 X2⟩
        · cases hs
theorem chain_go {op op2 : COp} {a b c : Ex} {σ : L2.St} {H : Hp} {φ : List Addr} {h h' : AH} {env : En} {sv : SV} {Q : VK} (R : HR K φ h H) (E : ER K φ h H env σ) (ev : evE C (.cmp2 op op2 a b c) env h = some (sv, h'))
    (k : ∀ (b : Bool) (H' : Hp) (φ' : List Addr), HR K φ' h' H' → Ext φ h H φ' h' H' → sv = .v (.bl b) → Q (.bl b) H') : tChain (rC K op) (rC K op2) (tE K C a) (tE K C b) (tE K C c) σ H Q := by
  simp only [evE] at ev
  split at ev
  · cases ev
  · rename_i x h1 hx
    split at ev
    · cases ev
    · rename_i y h2 hy
      split at ev
      · rename_i p q hp hq
        split at ev
        · cases ev
        · rename_i hc
          cases ev
          exact two R E hx hy fun v1 v2 H2 φ2 R2 X2 s1 s2 => cmp_sound R2 hc (peek_cv R2 s1 hp) (peek_cv R2 s2 hq) ⟨false, rfl, by rw [if_neg Bool.false_ne_true]; exact k _ H2 φ2 R2 X2 rfl⟩
        · rename_i hc
          split at ev
          · cases ev
          · rename_i z h3 hz
            split at ev
            · rename_i q' r hq' hr
              rw [Option.map_eq_some_iff] at ev
              obtain ⟨w, ew, e⟩ := ev
              cases e
              refine two R E hx hy fun v1 v2 H2 φ2 R2 X2 s1 s2 => cmp_sound R2 hc (peek_cv R2 s1 hp) (peek_cv R2 s2 hq) ⟨true, rfl, ?_⟩
              rw [if_pos rfl]
              exact ⟨φ2, h2, env, z, _, R2, E.mono X2, hz, fun v3 H3 φ3 R3 X3 s3 => cmp_sound R3 ew (peek_cv R3 (s2.mono X3) hq') (peek_cv R3 s3 hr) (k _ H3 φ3 R3 (X2.trans X3) rfl)⟩
            · cases ev
      · cases ev
theorem lastM {o o2 : CmpOp} {r r2 : Expr} (h : plainX r2 = true) : lastMarks [o, o2] [r, r2] = false := by
  show behindInMarks o2 r2 = false
  exact plain_mark h
theorem l_cmp2 {op op2 : COp} {a b c : Ex} {l r r2 : Expr} {pos : Pos} (hu : X.A.units + 65 < cLine) (ha : PE X l (tE X.K C a)) (hb : PE X r (tE X.K C b)) (hc : PE X r2 (tE X.K C c)) (hp : plainX r2 = true) :
    PE X (.Compare l [opC op, opC op2] [r, r2] pos) (tE X.K C (.cmp2 op op2 a b c)) := by
  refine PE.imp (pe_chain (or_c hu op) (or_c hu op2) ha hb hc (lastM hp)) fun σ H Q ⟨φ, h, env, sv, h', R, E, ev, k⟩ => ?_
  exact chain_go R E ev fun b H' φ' R' X' e => by
    subst e
    exact k _ H' φ' R' X' (.bl _)
theorem l_cmp2T {op op2 : COp} {a b c : Ex} {l r r2 : Expr} {pos : Pos} (hu : X.A.units + 65 < cLine) (ha : PE X l (tE X.K C a)) (hb : PE X r (tE X.K C b)) (hc : PE X r2 (tE X.K C c)) (hp : plainX r2 = true) :
    PT X (.Compare l [opC op, opC op2] [r, r2] pos) (tT X.K C (.of (.cmp2 op op2 a b c))) := by
  refine PT.imp (pt_chain (or_c hu op) (or_c hu op2) ha hb hc (lastM hp)) fun σ H Q ⟨φ, h, env, sv, h', R, E, ev, k⟩ => ?_
  simp only [evT] at ev
  split at ev
  · cases ev
  · rename_i s h1 hs
    refine chain_go R E hs fun bb H' φ' R' X' e => ?_
    subst e
    simp only [peek, truP, Option.map_some] at ev
    cases ev
    exact ⟨_, rfl, k H' φ' R' X'⟩
theorem l_boo {isAnd : Bool} {o : BoolOp} (ho : booB isAnd o = true) {a b : Ex} {l : Expr} {r : Expr} {rs : List Expr} {pos : Pos} (ha : PE X l (tE X.K C a)) (hb : PE X (.BoolOp o (r :: rs) pos) (tE X.K C b)) :
    PE X (.BoolOp o (l :: r :: rs) pos) (tE X.K C (.boo isAnd a b)) := by
  cases isAnd <;> cases o <;> first | cases ho | skip
  · refine PE.imp (pe_or ha hb) fun σ H Q ⟨φ, h, env, sv, h', R, E, ev, k⟩ => ?_
    simp only [evE] at ev
    split at ev
    · rename_i c h1 hx
      refine ⟨φ, h, env, _, _, R, E, hx, fun v H1 φ1 R1 X1 s1 => ?_⟩
      cases s1
      refine ⟨c, rfl, ?_⟩
      cases c with
      | true => cases ev; rw [if_pos rfl]; exact k _ H1 φ1 R1 X1 (.bl _)
      | false =>
        rw [if_neg Bool.false_ne_true]
        exact ⟨φ1, h1, env, sv, h', R1, E.mono X1, ev, k.keep X1⟩
    · cases ev
  · refine PE.imp (pe_and ha hb) fun σ H Q ⟨φ, h, env, sv, h', R, E, ev, k⟩ => ?_
    simp only [evE] at ev
    split at ev
    · rename_i c h1 hx
      refine ⟨φ, h, env, _, _, R, E, hx, fun v H1 φ1 R1 X1 s1 => ?_⟩
      cases s1
      refine ⟨c, rfl, ?_⟩
      cases c with
      | false => cases ev; rw [if_neg Bool.false_ne_true]; exact k _ H1 φ1 R1 X1 (.bl _)
      | true =>
        rw [if_pos rfl]
        exact ⟨φ1, h1, env, sv, h', R1, E.mono X1, ev, k.keep X1⟩
    · cases ev
theorem l_not {a : Ex} {l : Expr} {pos : Pos} (ha : PE X l (tE X.K C a)) : PE X (.UnaryOp .Not l pos) (tE X.K C (.not a)) := by
  refine PE.imp (pe_not ha) fun σ H Q ⟨φ, h, env, sv, h', R, E, ev, k⟩ => ?_
  simp only [evE] at ev
  split at ev
  · rename_i i h1 hx
    cases ev
    refine ⟨φ, h, env, _, _, R, E, hx, fun v H1 φ1 R1 X1 s1 => ?_⟩
    cases s1
    exact ⟨i, rfl, k _ H1 φ1 R1 X1 (.bl _)⟩
  · cases ev
theorem l_ite {c : Ts} {a b : Ex} {t l r : Expr} {pos : Pos} (hc : PT X t (tT X.K C c)) (ha : PE X l (tE X.K C a)) (hb : PE X r (tE X.K C b)) : PE X (.IfExp t l r pos) (tE X.K C (.ite c a b)) := by
  refine PE.imp (pe_ifExp hc ha hb) fun σ H Q ⟨φ, h, env, sv, h', R, E, ev, k⟩ => ?_
  simp only [evE] at ev
  split at ev
  · rename_i h1 hx
    refine ⟨φ, h, env, _, _, R, E, hx, fun H1 φ1 R1 X1 => ?_⟩
    exact iteT (A := tE X.K C a σ H1 Q) (B := tE X.K C b σ H1 Q) ⟨φ1, h1, env, sv, h', R1, E.mono X1, ev, k.keep X1⟩
  · rename_i h1 hx
    refine ⟨φ, h, env, _, _, R, E, hx, fun H1 φ1 R1 X1 => ?_⟩
    exact iteF (A := tE X.K C a σ H1 Q) (B := tE X.K C b σ H1 Q) ⟨φ1, h1, env, sv, h', R1, E.mono X1, ev, k.keep X1⟩
  · cases ev

/-! ### tests -/
/-- a value's truth, dicts that are locked too -/
def TruW (K : PySem.W.Frag) (x : V) (H : Hp) (k : Bool) : Prop := TruV K x H k ∨ ∃ a kvs, x = .ref a ∧ Rd H a (.dK kvs) ∧ k = !kvs.isEmpty
theorem tru_okW : TruR X (fun x H Q => ∃ k, TruW X.K x H k ∧ Q k H) := by
  intro pins s σ H x v Q I r h
  obtain ⟨k, hk, q⟩ := h
  rcases hk with hk | ⟨a, kvs, rfl, e, rfl⟩
  · exact tru_ok pins s σ H x v Q I r ⟨k, hk, q⟩
  · cases r
    exact d_truth I e fun s' I' => ⟨H, I', q⟩
theorem pt_truthW {a : Expr} {ta : TE} (ha : PE X a ta) (he : ∀ whole, isTrue a X.env whole = (do let v ← whole; standAt a.pos; holding [v] (truthy v))) :
    PT X a (fun σ H Q => ta σ H fun x H' => ∃ k, TruW X.K x H' k ∧ Q k H') :=
  ⟨fun pins s σ H Q I h => isTrue_plain (thn (ha.run pins s σ H _ I h) fun v s1 ⟨x, H1, I1, r1, q1⟩ => tru_okW pins s1 σ H1 x v Q I1 r1 q1) (he _)⟩
theorem emptyVs {M : Addr → Prop} {H : Hp} {vs : List V} {xs : List PV} (r : VRs K M H vs xs) : vs.isEmpty = xs.isEmpty := by
  cases r <;> rfl
theorem emptyKs {M : Addr → Prop} {H : Hp} {vs : List (Key × V)} {xs : List (PV × PV)} (r : KRs K M H vs xs) : vs.isEmpty = xs.isEmpty := by
  cases r <;> rfl
theorem truW_sound {φ : List Addr} {h : AH} {H : Hp} {v : V} {p : PV} {b : Bool} (cv : CV K φ h H v p) (e : truP p = some b) : TruW K v H b := by
  cases p with
  | non => cases e; rw [cv.non]; exact .inl rfl
  | bl c => cases e; rw [cv.bl]; exact .inl rfl
  | int i => cases e; rw [cv.int]; exact .inl rfl
  | str s =>
    cases e
    obtain ⟨rfl, hz, _⟩ := cv.str
    refine .inl ⟨by rw [strV_len]; exact hz, ?_⟩
    rw [strV_len]
    cases s with
    | nil => rfl
    | cons c r =>
      show true = _
      rw [Eq.comm, bne_iff_ne]
      simp only [List.length_cons]
      omega
  | tup xs =>
    cases e
    obtain ⟨a, vs, rfl, ea, r, _⟩ := cv.tup
    exact .inl (.inr (.inl ⟨vs, SqT.of ea, by rw [emptyVs r]⟩))
  | lst xs =>
    cases e
    obtain ⟨a, vs, rfl, ea, r, _⟩ := cv.list
    exact .inl (.inl ⟨vs, SqL.of ea, by rw [emptyVs r]⟩)
  | frl xs =>
    cases e
    obtain ⟨a, vs, rfl, ea, r, _⟩ := cv.frl
    exact .inl (.inl ⟨vs, ea, by rw [emptyVs r]⟩)
  | dict xs =>
    cases e
    obtain ⟨a, ks, rfl, ea, r, _⟩ := cv.dic
    exact .inr ⟨a, ks, rfl, ea, by rw [emptyKs r]⟩
theorem l_of {a : Ex} {l : Expr} (ha : PE X l (tE X.K C a)) (hp : plainT l = true) : PT X l (tT X.K C (.of a)) := by
  refine PT.imp (pt_truthW ha (plain_true hp)) fun σ H Q ⟨φ, h, env, sv, h', R, E, ev, k⟩ => ?_
  simp only [evT] at ev
  split at ev
  · cases ev
  · rename_i x h1 hx
    split at ev
    · rename_i p hp
      rw [Option.map_eq_some_iff] at ev
      obtain ⟨b, eb, e⟩ := ev
      cases e
      exact ⟨φ, h, env, x, h', R, E, hx, fun v H1 φ1 R1 X1 s1 => ⟨_, truW_sound (peek_cv R1 s1 hp) eb, k H1 φ1 R1 X1⟩⟩
    · cases ev
theorem l_notT {t : Ts} {l : Expr} {pos : Pos} (ha : PT X l (tT X.K C t)) : PT X (.UnaryOp .Not l pos) (tT X.K C (.not t)) := by
  refine PT.imp (pt_not ha) fun σ H Q ⟨φ, h, env, sv, h', R, E, ev, k⟩ => ?_
  simp only [evT] at ev
  split at ev
  · cases ev
  · rename_i b h1 hx
    cases ev
    exact ⟨φ, h, env, b, h', R, E, hx, k⟩
theorem l_booT1 {isAnd : Bool} {o : BoolOp} (ho : booB isAnd o = true) {a b : Ts} {l r : Expr} {rs : List Expr} {pos : Pos} (ha : PT X l (tT X.K C a)) (hb : PW X (.BoolOp o (r :: rs) pos) (tT X.K C b)) :
    PW X (.BoolOp o (l :: r :: rs) pos) (tT X.K C (.boo isAnd a b)) := by
  cases isAnd <;> cases o <;> first | cases ho | skip
  · refine ⟨fun whole pins s σ H Q I hw => (pw_or ha hb).run whole pins s σ H Q I ?_⟩
    obtain ⟨φ, h, env, sv, h', R, E, ev, k⟩ := hw
    simp only [evT] at ev
    split at ev
    · cases ev
    · rename_i c h1 hx
      refine ⟨φ, h, env, c, h1, R, E, hx, fun H1 φ1 R1 X1 => ?_⟩
      cases c with
      | true => cases ev; rw [if_pos rfl]; exact k H1 φ1 R1 X1
      | false =>
        rw [if_neg Bool.false_ne_true]
        exact ⟨φ1, h1, env, sv, h', R1, E.mono X1, ev, fun H2 φ2 R2 X2 => k H2 φ2 R2 (X1.trans X2)⟩
  · refine ⟨fun whole pins s σ H Q I hw => (pw_and ha hb).run whole pins s σ H Q I ?_⟩
    obtain ⟨φ, h, env, sv, h', R, E, ev, k⟩ := hw
    simp only [evT] at ev
    split at ev
    · cases ev
    · rename_i c h1 hx
      refine ⟨φ, h, env, c, h1, R, E, hx, fun H1 φ1 R1 X1 => ?_⟩
      cases c with
      | false => cases ev; rw [if_neg Bool.false_ne_true]; exact k H1 φ1 R1 X1
      | true =>
        rw [if_pos rfl]
        exact ⟨φ1, h1, env, sv, h', R1, E.mono X1, ev, fun H2 φ2 R2 X2 => k H2 φ2 R2 (X1.trans X2)⟩

/-! ### rows of expressions -/
theorem l_nil : PA X [] (tL X.K C .nil) := ⟨fun pos pins s σ H Q I h => pa_nil.run pos pins s σ H Q I (by
  obtain ⟨φ, h, env, ss, h', R, E, ev, k⟩ := h
  cases ev
  exact k [] H φ R Ext.refl .nil)⟩
theorem l_cons {a : Ex} {es : Exs} {l : Expr} {ls : List Expr} (ha : PE X l (tE X.K C a)) (hp : plainX l = true) (hs : PA X ls (tL X.K C es)) : PA X (l :: ls) (tL X.K C (.cons a es)) :=
  ⟨fun pos pins s σ H Q I h => (pa_cons ha hs (starEach_cons hp)).run pos pins s σ H Q I (by
    obtain ⟨φ, h, env, ss, h', R, E, ev, k⟩ := h
    simp only [evL] at ev
    split at ev
    · cases ev
    · rename_i x h1 hx
      split at ev
      · cases ev
      · rename_i xs h2 hxs
        cases ev
        exact ⟨φ, h, env, x, h1, R, E, hx, fun v H1 φ1 R1 X1 s1 => ⟨φ1, h1, env, xs, _, R1, E.mono X1, hxs, fun vs H2 φ2 R2 X2 s2 => k _ H2 φ2 R2 (X1.trans X2) (.cons (s1.mono X2) s2)⟩⟩)⟩
theorem l_tup {es : Exs} {ls : List Expr} {k : Nat} {pos : Pos} (hs : PA X ls (tL X.K C es)) : PE X (.Tuple ls k pos) (tE X.K C (.tup es)) := by
  refine PE.imp (pe_tup hs) fun σ H Q ⟨φ, h, env, sv, h', R, E, ev, k⟩ => ?_
  simp only [evE] at ev
  split at ev
  · cases ev
  · rename_i ss h1 hx
    split at ev
    · rename_i ps hp
      split at ev
      · rename_i hz
        cases ev
        refine ⟨φ, h, env, ss, _, R, E, hx, fun vs H1 φ1 R1 X1 s1 => ?_⟩
        have r := s1.pvs hp
        exact ⟨by rw [r.length]; exact hz, new_tup R1 r hz (k.keep X1)⟩
      · cases ev
    · cases ev
theorem l_lst {m : Bool} {es : Exs} {ls : List Expr} {pos : Pos} (hs : PA X ls (tL X.K C es)) : PE X (.List ls pos) (tE X.K C (.lst m es)) := by
  refine PE.imp (pe_lst hs) fun σ H Q ⟨φ, h, env, sv, h', R, E, ev, k⟩ => ?_
  simp only [evE] at ev
  split at ev
  · cases ev
  · rename_i ss h1 hx
    split at ev
    · rename_i ps hp
      split at ev
      · rename_i hz
        refine ⟨φ, h, env, ss, h1, R, E, hx, fun vs H1 φ1 R1 X1 s1 => ?_⟩
        have r := s1.pvs hp
        exact ⟨by rw [r.length]; exact hz, new_lstM R1 r hz ev (k.keep X1)⟩
      · cases ev
    · cases ev

/-! ### places -/
theorem at_get {vs : List V} {xs : List PV} {M : Addr → Prop} {H : Hp} {i : Int} {p : PV} (r : VRs K M H vs xs) (e : atI xs i = some p) : ∃ v, L2.atI vs i = some v ∧ VR K M H v p := by
  unfold atI at e
  rw [Option.bind_eq_some_iff] at e
  obtain ⟨j, e1, e2⟩ := e
  have r' := r
  obtain ⟨v, e3, r⟩ := r.get e2
  refine ⟨v, ?_, r⟩
  show (L2.ixN vs.length i).bind (fun j => vs[j]?) = some v
  rw [r'.length, Option.bind_eq_some_iff]
  exact ⟨j, e1, e3⟩

def rIxD : R2 := fun x y H Q => ∃ a v, x = .ref a ∧ DGet H a y (some v) ∧ Q v H
theorem ix_dict (hu : X.A.units + 1 < cLine) : IxR X rIxD := by
  intro value slice pins s σ H x y v u Q I rx ry h hs
  obtain ⟨a, w, rfl, g, q⟩ := h
  cases rx
  exact tail_any (dict_typeIs I g) PySem.F.slot_dict_getitem.lookup (d_getItem hu I g ry fun w' s3 I3 rw' => ⟨w, H, I3, rw', q⟩) hs
theorem idx_sound {φ : List Addr} {h : AH} {H : Hp} (R : HR K φ h H) {x y : V} {p q r : PV} {Q : VK} (e : idxP p q = some r) (cx : CV K φ h H x p) (ry : VR K (Mt φ h) H y q) (k : Kont K φ h H h (.v r) Q) :
    rIx K x y H Q ∨ rIxD x y H Q := by
  unfold idxP at e
  split at e
  · obtain ⟨a, vs, rfl, ea, rr, _⟩ := cx.tup
    cases ry
    obtain ⟨v, e1, e2⟩ := at_get rr e
    exact .inl (.inr (.inl ⟨a, vs, _, v, rfl, rfl, SqT.of ea, e1, Kont.val R k e2⟩))
  · obtain ⟨a, vs, rfl, ea, rr, _⟩ := cx.list
    cases ry
    obtain ⟨v, e1, e2⟩ := at_get rr e
    exact .inl (.inl ⟨a, vs, _, v, rfl, rfl, SqL.of ea, e1, Kont.val R k e2⟩)
  · obtain ⟨a, vs, rfl, ea, rr, _⟩ := cx.frl
    cases ry
    obtain ⟨v, e1, e2⟩ := at_get rr e
    exact .inl (.inl ⟨a, vs, _, v, rfl, rfl, ea, e1, Kont.val R k e2⟩)
  · obtain ⟨rfl, hz, hc⟩ := cx.str
    cases ry
    rw [Option.map_eq_some_iff] at e
    obtain ⟨c, e1, rfl⟩ := e
    refine .inl (.inr (.inr ⟨_, _, c, rfl, rfl, by rw [strV_len]; exact hz, ?_, ?_⟩))
    · exact e1
    · refine Kont.val R k (show VR K (Mt φ h) H (.str (strV [c])) (.str [c]) from .str (by show 1 ≤ 16777216; decide) fun d hd => ?_)
      have : d = c := by simpa using hd
      subst this
      unfold atI at e1
      rw [Option.bind_eq_some_iff] at e1
      obtain ⟨j, _, e2⟩ := e1
      exact hc _ (List.mem_of_getElem? e2)
  · split at e
    · rename_i kvs q' hk
      obtain ⟨a, ks, rfl, ea, rr, _⟩ := cx.dic
      have g := DGet.at_ ea hk ry
      rcases KRs.look hk rr with ⟨h1, h2⟩ | ⟨p', v', h1, h2, h3⟩
      · rw [h1] at e; cases e
      · rw [h1] at e; cases e
        rw [h2] at g
        exact .inr ⟨a, v', rfl, g, Kont.val R k h3⟩
    · cases e
  · cases e
theorem l_idx {a i : Ex} {l r : Expr} {pos : Pos} (hu : X.A.units + 65 < cLine) (ha : PE X l (tE X.K C a)) (hb : PE X r (tE X.K C i)) (hp : plainX r = true) : PE X (.Subscript l r pos) (tE X.K C (.idx a i)) := by
  have rule : PE X (.Subscript l r pos) (tOp (fun x y H Q => rIx X.K x y H Q ∨ rIxD x y H Q) (tE X.K C a) (tE X.K C i)) := pe_ix (ix_seq.or (ix_dict (by omega))) ha hb (plain_ix hp)
  refine PE.imp rule fun σ H Q ⟨φ, h, env, sv, h', R, E, ev, k⟩ => ?_
  simp only [evE] at ev
  split at ev
  · cases ev
  · rename_i x h1 hx
    split at ev
    · cases ev
    · rename_i y h2 hy
      split at ev
      · rename_i p q hp
        rw [Option.map_eq_some_iff] at ev
        obtain ⟨z, ez, e⟩ := ev
        cases e
        exact two R E hx hy fun v1 v2 H2 φ2 R2 X2 s1 s2 => idx_sound R2 ez (peek_cv R2 s1 hp) s2 (k.keep X2)
      · cases ev


/-! ### slices -/
def tO (K : PySem.W.Frag) (C : Calls) (es : Exs) : TO := fun σ H Q => ∃ φ h env ss h' o, HR K φ h H ∧ ER K φ h H env σ ∧ evL C es env h = some (ss, h') ∧ part ss = some o ∧ ∀ (H' : Hp) (φ' : List Addr), HR K φ' h' H' → Ext φ h H φ' h' H' → Q o H'
theorem PO.imp {e : Option Expr} {t t' : TO} (h : PO X e t) (i : ∀ σ H Q, t' σ H Q → t σ H Q) : PO X e t' := ⟨fun pins s σ H Q I w => h.run pins s σ H Q I (i σ H Q w)⟩
theorem l_o0 : PO X none (tO X.K C .nil) := PO.imp po_none fun σ H Q ⟨φ, h, env, ss, h', o, R, E, ev, eo, k⟩ => by
  cases ev
  cases eo
  exact k H φ R Ext.refl
theorem l_o1 {a : Ex} {l : Expr} (ha : PE X l (tE X.K C a)) : PO X (some l) (tO X.K C (.cons a .nil)) := PO.imp (po_some ha) fun σ H Q ⟨φ, h, env, ss, h', o, R, E, ev, eo, k⟩ => by
  simp only [evL] at ev
  split at ev
  · cases ev
  · rename_i x h1 hx
    cases ev
    refine ⟨φ, h, env, x, _, R, E, hx, fun v H1 φ1 R1 X1 s1 => ?_⟩
    unfold part at eo
    split at eo
    · rename_i he; cases he
    · rename_i i he
      cases he
      cases eo
      cases s1
      exact ⟨i, rfl, k H1 φ1 R1 X1⟩
    · cases eo
theorem cut_len {α : Type} (xs : List α) (lo hi : Option Int) : (cut xs lo hi).length ≤ xs.length := by
  unfold cut
  rw [List.length_take, List.length_drop]
  omega
theorem cut_mem {α : Type} {xs : List α} {lo hi : Option Int} {c : α} (h : c ∈ cut xs lo hi) : c ∈ xs := List.mem_of_mem_drop (List.mem_of_mem_take h)
theorem cut_vs {vs : List V} {xs : List PV} {M : Addr → Prop} {H : Hp} (r : VRs K M H vs xs) (lo hi : Option Int) : VRs K M H (cutV vs lo hi) (cut xs lo hi) := by
  show VRs K M H ((vs.drop (HT.sIx vs.length 0 lo)).take (HT.sIx vs.length vs.length hi - HT.sIx vs.length 0 lo)) _
  rw [r.length]
  exact (r.drop _).take _
theorem cut_whole {α : Type} {xs : List α} {lo hi : Option Int} (h : HT.sIx xs.length 0 lo = 0 ∧ HT.sIx xs.length xs.length hi = xs.length) : cut xs lo hi = xs := by
  show (xs.drop (HT.sIx xs.length 0 lo)).take (HT.sIx xs.length xs.length hi - HT.sIx xs.length 0 lo) = xs
  rw [h.1, h.2]
  simp
theorem slice_sound {φ : List Addr} {h : AH} {H : Hp} (R : HR K φ h H) {x : V} {p r : PV} {lo hi : Option Int} {Q : VK} (e : sliceP p lo hi = some r) (cx : CV K φ h H x p) (k : Kont K φ h H h (.v r) Q) :
    rSlL K x lo hi H Q ∨ (rSlA K x lo hi H Q ∨ rSlS x lo hi H Q) := by
  unfold sliceP at e
  split at e
  · cases e
    obtain ⟨a, vs, rfl, ea, rr, hz⟩ := cx.tup
    refine .inr (.inl ⟨a, vs, rfl, SqT.of ea, fun hw => ?_, fun hw => new_tup R (cut_vs rr lo hi) (Nat.le_trans (cut_len _ _ _) hz) k⟩)
    rw [rr.length] at hw
    rw [cut_whole hw] at k
    cases cx with
    | v r => exact Kont.val R k r
  · cases e
    obtain ⟨a, vs, rfl, ea, rr, hz⟩ := cx.list
    exact .inl ⟨a, vs, rfl, SqL.of ea, new_lst R (cut_vs rr lo hi) (Nat.le_trans (cut_len _ _ _) hz) k⟩
  · cases e
    obtain ⟨a, vs, rfl, ea, rr, hz⟩ := cx.frl
    exact .inl ⟨a, vs, rfl, ea, new_lst R (cut_vs rr lo hi) (Nat.le_trans (cut_len _ _ _) hz) k⟩
  · cases e
    obtain ⟨rfl, hz, hc⟩ := cx.str
    refine .inr (.inr ⟨_, rfl, by rw [strV_len]; exact hz, ?_⟩)
    show Q (.str (strV (cut _ lo hi))) H
    exact Kont.val R k (.str (Nat.le_trans (cut_len _ _ _) hz) fun c h => hc c (cut_mem h))
  · cases e
theorem l_slc {a : Ex} {lo hi : Exs} {l : Expr} {x y : Option Expr} {pos p2 : Pos} (ha : PE X l (tE X.K C a)) (hl : PO X x (tO X.K C lo)) (hh : PO X y (tO X.K C hi)) : PE X (.Subscript l (.Slice x y none p2) pos) (tE X.K C (.slc a lo hi)) := by
  refine PE.imp (pe_slice (sl_list.or (sl_tupA.or sl_str)) ha hl hh) fun σ H Q ⟨φ, h, env, sv, h', R, E, ev, k⟩ => ?_
  simp only [evE] at ev
  split at ev
  · cases ev
  · rename_i x h1 hx
    split at ev
    · cases ev
    · rename_i l h2 hl
      split at ev
      · cases ev
      · rename_i u h3 hu
        split at ev
        · rename_i p a b hp ha hb
          rw [Option.map_eq_some_iff] at ev
          obtain ⟨z, ez, e⟩ := ev
          cases e
          refine ⟨φ, h, env, x, h1, R, E, hx, fun v1 H1 φ1 R1 X1 s1 => ⟨φ1, h1, env, l, h2, a, R1, E.mono X1, hl, ha, fun H2 φ2 R2 X2 => ⟨φ2, h2, env, u, _, b, R2, E.mono (X1.trans X2), hu, hb, fun H3 φ3 R3 X3 => ?_⟩⟩⟩
          exact slice_sound R3 ez (peek_cv R3 (s1.mono (X2.trans X3)) hp) (k.keep (X1.trans (X2.trans X3)))
        · cases ev

/-! ### calls -/
theorem l_call {f : Nat} {fn : Fn} {es : Exs} {ls : List Expr} {x : Str} {p pos : Pos} (G : Gd P N n X) (hf : P[f]? = some fn) (hx : x = strV fn.name) (hg : Gl X x) (hd : (x == ("__debug__" : Str)) = false) (hs : PA X ls (tL X.K (callN P n) es)) (hp : ∀ e ∈ ls, plainX e = true) (hne : ls ≠ []) :
    PE X (.Call (.Name x p) ls [] pos) (tE X.K (callN P n) (.call f es)) := by
  obtain ⟨fa, fd, hm, hk, hb, F⟩ := G.fns f fn hf
  subst hx
  have rule : PE X (.Call (.Name (strV fn.name) p) ls [] pos) (tCall (spN X.K P n f) [] E0 (tL X.K (callN P n) es)) := by
    cases ls with
    | nil => exact absurd rfl hne
    | cons e es' => exact pe_call F G.room hg hm hk hb .nil pass0 hs (by exact hd) (starEach_cons (hp e List.mem_cons_self)) (any_false fun x hx => hp x (List.mem_cons_of_mem _ hx))
  refine PE.imp rule fun σ H Q ⟨φ, h, env, sv, h', R, E, ev, k⟩ => ?_
  simp only [evE] at ev
  split at ev
  · cases ev
  · rename_i ss h1 hss
    refine ⟨φ, h, env, ss, h1, R, E, hss, fun vs H1 φ1 R1 X1 s1 => ⟨φ1, h1, ss, sv, h', fn, hf, ?_, R1, ?_, ev, k.keep X1⟩⟩
    · cases n with
      | zero => cases ev
      | succ m =>
        unfold callN at ev
        rw [hf] at ev
        simp only at ev
        split at ev
        · rename_i hl
          rw [List.append_nil]
          exact (Paired.length s1).trans hl
        · cases ev
    · rw [List.append_nil]
      exact s1
end
end Ev

set_option Elab.async false
set_option linter.all false
set_option maxRecDepth 100000
namespace Ev
open PySem PySem.Spec PyProof.Rows L2

/-! ### sorting -/
section
variable {α : Type} {lt : α → α → Bool}
theorem insR_stb (O : SrtO.Swo lt) (x : α) : ∀ l : List α, SrtO.Stb lt (insR lt x l) (x :: l)
  | [] => SrtO.Stb.refl _
  | y :: r => by
    unfold insR
    by_cases h : lt y x = true
    · rw [if_pos h]
      have q : SrtO.Stb lt ([y] ++ [x]) ([x] ++ [y]) := SrtO.Stb.swap O fun a ha b hb => by
        rw [List.mem_singleton.mp ha, List.mem_singleton.mp hb]; exact h
      exact ((SrtO.Stb.refl [y]).app (insR_stb O x r)).trans (q.app (SrtO.Stb.refl r))
    · rw [if_neg h]
      exact SrtO.Stb.refl _
theorem insR_srtd (O : SrtO.Swo lt) (x : α) : ∀ l : List α, SrtO.Srtd lt l → SrtO.Srtd lt (insR lt x l)
  | [], _ => SrtO.srtd_one x
  | y :: r, hs => by
    unfold insR
    by_cases h : lt y x = true
    · rw [if_pos h]
      refine List.pairwise_cons.mpr ⟨fun z hz => ?_, insR_srtd O x r (List.pairwise_cons.mp hs).2⟩
      have := (insR_stb O x r).perm.mem_iff.mp hz
      rcases List.mem_cons.mp this with rfl | hz
      · exact O.asym _ _ h
      · exact (List.pairwise_cons.mp hs).1 z hz
    · rw [if_neg h]
      have hf : lt y x = false := by simpa using h
      refine List.pairwise_cons.mpr ⟨fun z hz => ?_, hs⟩
      rcases List.mem_cons.mp hz with rfl | hz
      · exact hf
      · exact O.tr x y z hf ((List.pairwise_cons.mp hs).1 z hz)
theorem isort_stb (O : SrtO.Swo lt) : ∀ l : List α, SrtO.Stb lt (isort lt l) l
  | [] => SrtO.Stb.refl _
  | x :: r => (insR_stb O x (isort lt r)).trans ((SrtO.Stb.refl [x]).app (isort_stb O r))
theorem isort_srtd (O : SrtO.Swo lt) : ∀ l : List α, SrtO.Srtd lt (isort lt l)
  | [] => List.Pairwise.nil
  | x :: r => insR_srtd O x _ (isort_srtd O r)
end
theorem swoI : SrtO.Swo (fun a b : Int => decide (a < b)) := ⟨fun x y h => by
  simp only [decide_eq_true_eq, decide_eq_false_iff_not] at *; omega, fun x y z h1 h2 => by
  simp only [decide_eq_true_eq, decide_eq_false_iff_not] at *; omega⟩
theorem swoS : SrtO.Swo (fun a b : List Nat => decide (a < b)) := ⟨fun x y h => by
  simp only [decide_eq_true_eq, decide_eq_false_iff_not] at *
  exact List.lt_asymm h, fun x y z h1 h2 => by
  simp only [decide_eq_true_eq, decide_eq_false_iff_not] at *
  exact List.not_lt.mpr (List.le_trans (List.not_lt.mp h1) (List.not_lt.mp h2))⟩
theorem lexI_eq : lexI = SrtO.lexB := rfl
theorem swoL : SrtO.Swo lexI := by
  have := SrtO.swo_lex (fun _ : Value => ((0 : Int), (0 : Int)))
  refine ⟨fun x y h => ?_, fun x y z h1 h2 => ?_⟩
  · rw [lexI_eq] at *
    have a := SrtO.lexB_iff.mp h
    refine SrtO.lexB_no.mpr ?_
    omega
  · rw [lexI_eq] at *
    have a := SrtO.lexB_no.mp h1
    have b := SrtO.lexB_no.mp h2
    refine SrtO.lexB_no.mpr ?_
    omega
theorem isort_uniqI {ns ms : List Int} (hp : ms.Perm ns) (hs : ms.Pairwise (· ≤ ·)) : ms = isort (fun a b => decide (a < b)) ns := by
  have h1 : (isort (fun a b : Int => decide (a < b)) ns).Pairwise (· ≤ ·) := (isort_srtd swoI ns).imp fun {a b} h => by
    have : ¬ b < a := of_decide_eq_false h
    omega
  exact List.Perm.eq_of_pairwise (fun x y _ _ h1 h2 => Int.le_antisymm h1 h2) hs h1 (hp.trans (isort_stb swoI ns).perm.symm)
theorem sortedS_pairwise : ∀ {l : List Str}, sortedS l = true → (l.map fun x => x.cps.toList).Pairwise (fun a b => decide (b < a) = false)
  | [], _ => List.Pairwise.nil
  | [x], _ => by simp
  | x :: y :: r, h => by
    have h' : (!ltCps y.cps.toList x.cps.toList && risingS y r) = true := h
    rw [Bool.and_eq_true] at h'
    have ih := sortedS_pairwise (l := y :: r) h'.2
    have hxy : decide (y.cps.toList < x.cps.toList) = false := by
      rw [← ltCps_eq]
      simpa using h'.1
    rw [List.map_cons]
    refine List.pairwise_cons.mpr ⟨fun z hz => ?_, ih⟩
    rw [List.map_cons] at ih hz
    rcases List.mem_cons.mp hz with rfl | hz
    · exact hxy
    · exact swoS.tr _ _ _ hxy ((List.pairwise_cons.mp ih).1 z hz)
theorem isort_uniqS {ss : List (List Nat)} {ys : List Str} (hp : ys.Perm (ss.map strV)) (hs : sortedS ys = true) : ys = (isort (fun a b => decide (a < b)) ss).map strV := by
  have e : ys.map (fun x => x.cps.toList) = isort (fun a b => decide (a < b)) ss := by
    refine List.Perm.eq_of_pairwise (le := fun a b => decide (b < a) = false) (fun x y _ _ h1 h2 => ?_) (sortedS_pairwise hs) (isort_srtd swoS ss) ?_
    · have a1 := of_decide_eq_false h1
      have a2 := of_decide_eq_false h2
      exact List.le_antisymm (List.not_lt.mp a1) (List.not_lt.mp a2)
    · have := hp.map (fun x : Str => x.cps.toList)
      rw [List.map_map] at this
      have e2 : (ss.map ((fun x : Str => x.cps.toList) ∘ strV)) = ss := by
        have : ((fun x : Str => x.cps.toList) ∘ strV) = id := by funext z; simp [strV]
        rw [this, List.map_id]
      rw [e2] at this
      exact this.trans (isort_stb swoS ss).perm.symm
  rw [← e, List.map_map]
  have : (strV ∘ fun x : Str => x.cps.toList) = id := by funext z; simp [strV]
  rw [this, List.map_id]

/-! ### lists of one kind -/
section
variable {K : PySem.W.Frag} {M : Addr → Prop} {H : Hp}
theorem intsOf_vs : ∀ {xs : List PV} {ns : List Int} {vs : List V}, intsOf xs = some ns → VRs K M H vs xs → vs = ns.map V.int
  | [], ns, vs, e, r => by cases e; cases r; rfl
  | x :: xs, ns, vs, e, r => by
    cases x <;> first | (simp [intsOf] at e; done) | skip
    simp only [intsOf] at e
    rw [Option.map_eq_some_iff] at e
    obtain ⟨ms, e1, rfl⟩ := e
    cases r with
    | cons r t =>
      cases r
      rw [intsOf_vs e1 t]
      rfl
theorem blsOf_vs : ∀ {xs : List PV} {ns : List Bool} {vs : List V}, blsOf xs = some ns → VRs K M H vs xs → vs = ns.map V.bl
  | [], ns, vs, e, r => by cases e; cases r; rfl
  | x :: xs, ns, vs, e, r => by
    cases x <;> first | (simp [blsOf] at e; done) | skip
    simp only [blsOf] at e
    rw [Option.map_eq_some_iff] at e
    obtain ⟨ms, e1, rfl⟩ := e
    cases r with
    | cons r t =>
      cases r
      rw [blsOf_vs e1 t]
      rfl
def okS (s : List Nat) : Prop := s.length ≤ SZ ∧ ∀ c ∈ s, c < 0x110000
theorem strsOf_vs : ∀ {xs : List PV} {ns : List (List Nat)} {vs : List V}, strsOf xs = some ns → VRs K M H vs xs → vs = (ns.map strV).map V.str ∧ ∀ s ∈ ns, okS s
  | [], ns, vs, e, r => by cases e; cases r; exact ⟨rfl, fun s hs => nomatch hs⟩
  | x :: xs, ns, vs, e, r => by
    cases x <;> first | (simp [strsOf] at e; done) | skip
    simp only [strsOf] at e
    rw [Option.map_eq_some_iff] at e
    obtain ⟨ms, e1, rfl⟩ := e
    cases r with
    | cons r t =>
      cases r with
      | str hz hc =>
        obtain ⟨e2, o⟩ := strsOf_vs e1 t
        subst e2
        exact ⟨rfl, fun s hs => (List.mem_cons.mp hs).elim (fun z => z ▸ ⟨hz, hc⟩) (o s)⟩
theorem ints_vs : ∀ ns : List Int, VRs K M H (ns.map V.int) (ns.map PV.int)
  | [] => .nil
  | n :: ns => .cons (.int n) (ints_vs ns)
theorem strs_vs : ∀ {ss : List (List Nat)}, (∀ s ∈ ss, okS s) → VRs K M H ((ss.map strV).map V.str) (ss.map PV.str)
  | [], _ => .nil
  | s :: ss, o => .cons (.str (o s List.mem_cons_self).1 (o s List.mem_cons_self).2) (strs_vs fun x hx => o x (List.mem_cons_of_mem _ hx))
theorem intsOf_len : ∀ {xs : List PV} {ns : List Int}, intsOf xs = some ns → ns.length = xs.length
  | [], ns, e => by cases e; rfl
  | x :: xs, ns, e => by
    cases x <;> first | (simp [intsOf] at e; done) | skip
    simp only [intsOf] at e
    rw [Option.map_eq_some_iff] at e
    obtain ⟨ms, e1, rfl⟩ := e
    rw [List.length_cons, List.length_cons, intsOf_len e1]
theorem strsOf_len : ∀ {xs : List PV} {ns : List (List Nat)}, strsOf xs = some ns → ns.length = xs.length
  | [], ns, e => by cases e; rfl
  | x :: xs, ns, e => by
    cases x <;> first | (simp [strsOf] at e; done) | skip
    simp only [strsOf] at e
    rw [Option.map_eq_some_iff] at e
    obtain ⟨ms, e1, rfl⟩ := e
    rw [List.length_cons, List.length_cons, strsOf_len e1]
end
theorem minL_spec : ∀ {ns : List Int} {m : Int}, minL ns = some m → m ∈ ns ∧ ∀ y ∈ ns, m ≤ y
  | [], _, e => by cases e
  | x :: r, m, e => by
    simp only [minL, Option.some.injEq] at e
    subst e
    have key : ∀ (r : List Int) (x : Int), (r.foldl min x ∈ x :: r) ∧ ∀ y ∈ x :: r, r.foldl min x ≤ y := by
      intro r
      induction r with
      | nil => intro x; simp
      | cons z r ih =>
        intro x
        obtain ⟨h1, h2⟩ := ih (min x z)
        rw [List.foldl_cons]
        have e : min x z = x ∨ min x z = z := by omega
        refine ⟨?_, fun y hy => ?_⟩
        · rcases List.mem_cons.mp h1 with h | h
          · rw [h]
            rcases e with e | e
            · rw [e]; exact List.mem_cons_self
            · rw [e]; exact List.mem_cons_of_mem _ List.mem_cons_self
          · exact List.mem_cons_of_mem _ (List.mem_cons_of_mem _ h)
        · have h3 := h2 (min x z) List.mem_cons_self
          rcases List.mem_cons.mp hy with rfl | hy
          · omega
          · rcases List.mem_cons.mp hy with rfl | hy
            · omega
            · exact h2 y (List.mem_cons_of_mem _ hy)
    exact key r x
theorem maxL_spec : ∀ {ns : List Int} {m : Int}, maxL ns = some m → m ∈ ns ∧ ∀ y ∈ ns, y ≤ m
  | [], _, e => by cases e
  | x :: r, m, e => by
    simp only [maxL, Option.some.injEq] at e
    subst e
    have key : ∀ (r : List Int) (x : Int), (r.foldl max x ∈ x :: r) ∧ ∀ y ∈ x :: r, y ≤ r.foldl max x := by
      intro r
      induction r with
      | nil => intro x; simp
      | cons z r ih =>
        intro x
        obtain ⟨h1, h2⟩ := ih (max x z)
        rw [List.foldl_cons]
        have e : max x z = x ∨ max x z = z := by omega
        refine ⟨?_, fun y hy => ?_⟩
        · rcases List.mem_cons.mp h1 with h | h
          · rw [h]
            rcases e with e | e
            · rw [e]; exact List.mem_cons_self
            · rw [e]; exact List.mem_cons_of_mem _ List.mem_cons_self
          · exact List.mem_cons_of_mem _ (List.mem_cons_of_mem _ h)
        · have h3 := h2 (max x z) List.mem_cons_self
          rcases List.mem_cons.mp hy with rfl | hy
          · omega
          · rcases List.mem_cons.mp hy with rfl | hy
            · omega
            · exact h2 y (List.mem_cons_of_mem _ hy)
    exact key r x

/-! ### builtins -/
section
variable {X : Cx} {K : PySem.W.Frag} {C : Calls} {φ : List Addr} {h : AH} {H : Hp}
def RB (K : PySem.W.Frag) (m : Bool) (b : Blt) (r : List V → Hp → VK → Prop) : Prop :=
  ∀ (φ : List Addr) (h : AH) (H : Hp) (vs : List V) (ss : List SV) (sv : SV) (h' : AH) (Q : VK), HR K φ h H → SRs K φ h H vs ss → bltE m b ss h = some (sv, h') → Kont K φ h H h' sv Q → r vs H Q
theorem l_blt {m : Bool} {b : Blt} {es : Exs} {e : Expr} {r : List V → Hp → VK → Prop} (hP : PE X e (tCB r (tL X.K C es))) (snd : RB X.K m b r) : PE X e (tE X.K C (.blt m b es)) := by
  refine PE.imp hP fun σ H Q ⟨φ, h, env, sv, h', R, E, ev, k⟩ => ?_
  simp only [evE] at ev
  split at ev
  · cases ev
  · rename_i ss h1 hss
    exact ⟨φ, h, env, ss, h1, R, E, hss, fun vs H1 φ1 R1 X1 s1 => snd φ1 h1 H1 vs ss sv h' Q R1 s1 ev (k.keep X1)⟩
theorem RB.one {m : Bool} {b : Blt} {r : List V → Hp → VK → Prop} (hb : ∀ p q, blt2 b p q = none)
    (s : ∀ (φ : List Addr) (h : AH) (H : Hp) (x : V) (p r' : PV) (sv : SV) (h' : AH) (Q : VK), HR K φ h H → CV K φ h H x p → blt1 b p = some r' → mkR m b r' h = some (sv, h') → Kont K φ h H h' sv Q → r [x] H Q) : RB K m b r := by
  intro φ h H vs ss sv h' Q R rs e k
  unfold bltE at e
  split at e
  · cases rs with
    | cons r1 t =>
      cases t
      split at e
      · rename_i p hp
        split at e
        · rename_i r' hr
          exact s φ h H _ p r' sv h' Q R (peek_cv R r1 hp) hr e k
        · cases e
      · cases e
  · rename_i p q
    rw [hb] at e
    cases e
  · cases e
theorem mkR_val {b : Blt} {r : PV} {h : AH} {sv : SV} {h' : AH} {m : Bool} (hb : ∀ xs, r ≠ .lst xs) (hd : ∀ xs, r ≠ .dict xs) (e : mkR m b r h = some (sv, h')) : sv = .v r ∧ h' = h := by
  unfold mkR at e
  cases m with
  | false => cases e; exact ⟨rfl, rfl⟩
  | true =>
    rw [if_pos rfl] at e
    split at e
    · rename_i xs; exact absurd rfl (hb xs)
    · rename_i xs; exact absurd rfl (hb xs)
    · rename_i xs; exact absurd rfl (hd xs)
    · cases e
theorem mkR_lst {b : Blt} {xs : List PV} {h : AH} {sv : SV} {h' : AH} {m : Bool} (e : mkR m b (.lst xs) h = some (sv, h')) : mkL m xs h = some (sv, h') := by
  unfold mkR at e
  unfold mkL
  cases m with
  | false => exact e
  | true =>
    rw [if_pos rfl] at e
    split at e
    · rename_i h1; cases h1; exact e
    · rename_i h1; cases h1; exact e
    · rename_i h1; cases h1
    · cases e
theorem mkR_dic {b : Blt} {xs : List (PV × PV)} {h : AH} {sv : SV} {h' : AH} {m : Bool} (e : mkR m b (.dict xs) h = some (sv, h')) : mkD m xs h = some (sv, h') := by
  unfold mkR at e
  unfold mkD
  cases m with
  | false => exact e
  | true =>
    rw [if_pos rfl] at e
    split at e
    · rename_i h1; cases h1
    · rename_i h1; cases h1
    · rename_i h1; cases h1; exact e
    · cases e
theorem Kont.int {φ h H h' sv Q} {i : Int} {m b} (R : HR K φ h H) (e : mkR m b (.int i) h = some (sv, h')) (k : Kont K φ h H h' sv Q) : Q (.int i) H := by
  obtain ⟨rfl, rfl⟩ := mkR_val (by simp) (by simp) e
  exact Kont.val R k (.int _)
theorem Kont.bl {φ h H h' sv Q} {i : Bool} {m b} (R : HR K φ h H) (e : mkR m b (.bl i) h = some (sv, h')) (k : Kont K φ h H h' sv Q) : Q (.bl i) H := by
  obtain ⟨rfl, rfl⟩ := mkR_val (by simp) (by simp) e
  exact Kont.val R k (.bl _)
def rLen (K : PySem.W.Frag) : List V → Hp → VK → Prop := fun xs H Q => (∃ x n, xs = [x] ∧ LenV K x H n ∧ Q (.int n) H) ∨ ∃ a kvs, xs = [.ref a] ∧ Rd H a (.dK kvs) ∧ Q (.int kvs.length) H
theorem cr_len : CallR X (.builtin "len") (rLen X.K) := by
  intro pins s σ H xs us Q I r q
  rcases q with q | ⟨a, kvs, rfl, e, q⟩
  · exact call_len pins s σ H xs us Q I r q
  · obtain ⟨u, rfl, rx⟩ := vals1 r
    cases rx
    exact d_len I e fun t s' I' => ⟨.int _, H, I', ⟨_, rfl⟩, q⟩
theorem rb_len {m : Bool} : RB K m .len (rLen K) := RB.one (fun p q => rfl) fun φ h H x p r' sv h' Q R cx er em k => by
  cases p <;> first | cases er | skip
  · obtain ⟨rfl, hz, _⟩ := cx.str
    refine .inl ⟨_, _, rfl, ⟨by rw [strV_len]; exact hz, rfl⟩, ?_⟩
    rw [strV_len]
    exact Kont.int R em k
  · obtain ⟨a, vs, rfl, ea, rr, _⟩ := cx.tup
    refine .inl ⟨_, _, rfl, .inr ⟨vs, SqT.of ea, rfl⟩, ?_⟩
    rw [rr.length]
    exact Kont.int R em k
  · obtain ⟨a, vs, rfl, ea, rr, _⟩ := cx.list
    refine .inl ⟨_, _, rfl, .inl ⟨vs, SqL.of ea, rfl⟩, ?_⟩
    rw [rr.length]
    exact Kont.int R em k
  · obtain ⟨a, vs, rfl, ea, rr, _⟩ := cx.frl
    refine .inl ⟨_, _, rfl, .inl ⟨vs, ea, rfl⟩, ?_⟩
    rw [rr.length]
    exact Kont.int R em k
  · obtain ⟨a, ks, rfl, ea, rr, _⟩ := cx.dic
    refine .inr ⟨a, ks, rfl, ea, ?_⟩
    rw [rr.length]
    exact Kont.int R em k
theorem rb_abs {m : Bool} : RB K m .abs (fun xs H Q => ∃ i, xs = [.int i] ∧ Q (.int (if i < 0 then -i else i)) H) := RB.one (fun p q => rfl) fun φ h H x p r' sv h' Q R cx er em k => by
  cases p <;> first | cases er | skip
  obtain rfl := cx.int
  exact ⟨_, rfl, Kont.int R em k⟩
theorem rb_int {m : Bool} : RB K m .int (fun xs H Q => (∃ i, xs = [.int i] ∧ Q (.int i) H) ∨ ∃ k, xs = [.bl k] ∧ Q (.int (if k then 1 else 0)) H) := RB.one (fun p q => rfl) fun φ h H x p r' sv h' Q R cx er em k => by
  cases p <;> first | cases er | skip
  obtain rfl := cx.int
  exact .inl ⟨_, rfl, Kont.int R em k⟩
theorem onL_some {f : List PV → Option PV} {p r : PV} (e : onL f p = some r) : ∃ xs, p = .lst xs ∧ f xs = some r := by
  cases p <;> first | cases e | skip
  exact ⟨_, rfl, e⟩
theorem rb_min1 {m : Bool} : RB K m .min1 (rMin K) := RB.one (fun p q => rfl) fun φ h H x p r' sv h' Q R cx er em k => by
  obtain ⟨xs, rfl, er2⟩ := onL_some er
  rw [Option.bind_eq_some_iff] at er2
  obtain ⟨ns, e1, e2⟩ := er2
  rw [Option.map_eq_some_iff] at e2
  obtain ⟨mi, e3, rfl⟩ := e2
  obtain ⟨a, vs, rfl, ea, rr, _⟩ := cx.list
  have := intsOf_vs e1 rr
  subst this
  obtain ⟨h1, h2⟩ := minL_spec e3
  refine ⟨a, ns, rfl, SqL.of ea, List.length_pos_of_mem h1, fun m' hm hl => ?_⟩
  have : m' = mi := Int.le_antisymm (hl mi h1) (h2 m' hm)
  subst this
  exact Kont.int R em k
theorem rb_max1 {m : Bool} : RB K m .max1 (rMax K) := RB.one (fun p q => rfl) fun φ h H x p r' sv h' Q R cx er em k => by
  obtain ⟨xs, rfl, er2⟩ := onL_some er
  rw [Option.bind_eq_some_iff] at er2
  obtain ⟨ns, e1, e2⟩ := er2
  rw [Option.map_eq_some_iff] at e2
  obtain ⟨mi, e3, rfl⟩ := e2
  obtain ⟨a, vs, rfl, ea, rr, _⟩ := cx.list
  have := intsOf_vs e1 rr
  subst this
  obtain ⟨h1, h2⟩ := maxL_spec e3
  refine ⟨a, ns, rfl, SqL.of ea, List.length_pos_of_mem h1, fun m' hm hl => ?_⟩
  have : m' = mi := Int.le_antisymm (h2 m' hm) (hl mi h1)
  subst this
  exact Kont.int R em k
theorem rb_sum {m : Bool} : RB K m .sum (rSum K) := RB.one (fun p q => rfl) fun φ h H x p r' sv h' Q R cx er em k => by
  obtain ⟨xs, rfl, er2⟩ := onL_some er
  rw [Option.map_eq_some_iff] at er2
  obtain ⟨ns, e1, rfl⟩ := er2
  obtain ⟨a, vs, rfl, ea, rr, _⟩ := cx.list
  have := intsOf_vs e1 rr
  subst this
  exact ⟨a, ns, rfl, SqL.of ea, Kont.int R em k⟩
theorem rb_any {m : Bool} : RB K m .any (rAny K) := RB.one (fun p q => rfl) fun φ h H x p r' sv h' Q R cx er em k => by
  obtain ⟨xs, rfl, er2⟩ := onL_some er
  rw [Option.map_eq_some_iff] at er2
  obtain ⟨ns, e1, rfl⟩ := er2
  obtain ⟨a, vs, rfl, ea, rr, _⟩ := cx.list
  have := blsOf_vs e1 rr
  subst this
  exact ⟨a, ns, rfl, SqL.of ea, Kont.bl R em k⟩
theorem rb_all {m : Bool} : RB K m .all (rAll K) := RB.one (fun p q => rfl) fun φ h H x p r' sv h' Q R cx er em k => by
  obtain ⟨xs, rfl, er2⟩ := onL_some er
  rw [Option.map_eq_some_iff] at er2
  obtain ⟨ns, e1, rfl⟩ := er2
  obtain ⟨a, vs, rfl, ea, rr, _⟩ := cx.list
  have := blsOf_vs e1 rr
  subst this
  exact ⟨a, ns, rfl, SqL.of ea, Kont.bl R em k⟩
def rTuple (K : PySem.W.Frag) : List V → Hp → VK → Prop := fun xs H Q => ∃ p ys, xs = [.ref p] ∧ ((SqL K H p ys ∧ ∀ l, H l = none → Q (.ref l) (upd H l (.tup ys))) ∨ (SqT K H p ys ∧ Q (.ref p) H))
theorem rb_tuple {m : Bool} : RB K m .tuple (rTuple K) := RB.one (fun p q => rfl) fun φ h H x p r' sv h' Q R cx er em k => by
  cases p <;> first | cases er | skip
  · obtain ⟨a, vs, rfl, ea, rr, hz⟩ := cx.tup
    obtain ⟨rfl, rfl⟩ := mkR_val (by simp) (by simp) em
    refine ⟨a, vs, rfl, .inr ⟨SqT.of ea, ?_⟩⟩
    cases cx with
    | v r => exact Kont.val R k r
  · obtain ⟨a, vs, rfl, ea, rr, hz⟩ := cx.list
    obtain ⟨rfl, rfl⟩ := mkR_val (by simp) (by simp) em
    exact ⟨a, vs, rfl, .inl ⟨SqL.of ea, new_tup R rr hz k⟩⟩
  · obtain ⟨a, vs, rfl, ea, rr, hz⟩ := cx.frl
    obtain ⟨rfl, rfl⟩ := mkR_val (by simp) (by simp) em
    exact ⟨a, vs, rfl, .inl ⟨ea, new_tup R rr hz k⟩⟩
def rList (K : PySem.W.Frag) : List V → Hp → VK → Prop := fun xs H Q => ∃ p ys, xs = [.ref p] ∧ (SqL K H p ys ∨ SqT K H p ys) ∧ ∀ l, H l = none → Q (.ref l) (upd H l (.lst ys))
theorem rb_list {m : Bool} : RB K m .list (rList K) := RB.one (fun p q => rfl) fun φ h H x p r' sv h' Q R cx er em k => by
  cases p <;> first | cases er | skip
  · obtain ⟨a, vs, rfl, ea, rr, hz⟩ := cx.tup
    exact ⟨a, vs, rfl, .inr (SqT.of ea), new_lstM R rr hz (mkR_lst em) k⟩
  · obtain ⟨a, vs, rfl, ea, rr, hz⟩ := cx.list
    exact ⟨a, vs, rfl, .inl (SqL.of ea), new_lstM R rr hz (mkR_lst em) k⟩
  · obtain ⟨a, vs, rfl, ea, rr, hz⟩ := cx.frl
    exact ⟨a, vs, rfl, .inl ea, new_lstM R rr hz (mkR_lst em) k⟩
/-- pairs of ints: the values and the items stand in the same order -/
theorem insR_vs {vs : List V} {ps : List (Int × Int)} {M : Addr → Prop} {f : V → Int × Int} (hf : ∀ v p, VR K M H v (.tup [.int p.1, .int p.2]) → f v = p) {x : V} {p : Int × Int} (rx : VR K M H x (.tup [.int p.1, .int p.2])) :
    ∀ {vs : List V} {ps : List (Int × Int)}, VRs K M H vs (ps.map fun p => .tup [.int p.1, .int p.2]) → VRs K M H (insR (ltP f) x vs) ((insR lexI p ps).map fun p => .tup [.int p.1, .int p.2])
  | [], [], _ => .cons rx .nil
  | [], _ :: _, r => by cases r
  | _ :: _, [], r => by cases r
  | v :: vs, q :: ps, r => by
    cases r with
    | cons r t =>
      have e : ltP f v x = lexI q p := by
        show SrtO.lexB (f v) (f x) = _
        rw [hf v q r, hf x p rx]; rfl
      unfold insR
      rw [e]
      by_cases hl : lexI q p = true
      · rw [if_pos hl, if_pos hl]
        exact .cons r (insR_vs (vs := vs) (ps := ps) hf rx t)
      · rw [if_neg hl, if_neg hl]
        exact .cons rx (.cons r t)
theorem isort_vs {M : Addr → Prop} {f : V → Int × Int} (hf : ∀ v p, VR K M H v (.tup [.int p.1, .int p.2]) → f v = p) :
    ∀ {vs : List V} {ps : List (Int × Int)}, VRs K M H vs (ps.map fun p => .tup [.int p.1, .int p.2]) → VRs K M H (isort (ltP f) vs) ((isort lexI ps).map fun p => .tup [.int p.1, .int p.2])
  | [], [], _ => .nil
  | [], _ :: _, r => by cases r
  | _ :: _, [], r => by cases r
  | v :: vs, q :: ps, r => by
    cases r with
    | cons r t => exact insR_vs (vs := vs) (ps := ps) hf r (isort_vs hf t)
theorem prsOf_eq : ∀ {xs : List PV} {ps : List (Int × Int)}, prsOf xs = some ps → xs = ps.map fun p => .tup [.int p.1, .int p.2]
  | [], ps, e => by cases e; rfl
  | x :: xs, ps, e => by
    unfold prsOf at e
    split at e
    · rename_i h1; cases h1
    · rename_i a b r h1
      cases h1
      rw [Option.map_eq_some_iff] at e
      obtain ⟨qs, e1, rfl⟩ := e
      rw [prsOf_eq e1]
      rfl
    · cases e
/-- the two ints of a pair -/
noncomputable def prK (H : Hp) (v : V) : Int × Int :=
  match v with
  | .ref a => match H a with
    | some (.tup [.int i, .int j]) => (i, j)
    | _ => (0, 0)
  | _ => (0, 0)
theorem prK_of {M : Addr → Prop} (v : V) (p : Int × Int) (r : VR K M H v (.tup [.int p.1, .int p.2])) : prK H v = p := by
  cases r with
  | tup e m hz r =>
    cases r with
    | cons r1 t =>
      cases t with
      | cons r2 t =>
        cases t
        cases r1
        cases r2
        show (match H _ with | some (.tup [.int i, .int j]) => (i, j) | _ => (0, 0)) = p
        rw [e]
def rSort3 (K : PySem.W.Frag) : List V → Hp → VK → Prop := fun vs H Q => rSorted K vs H Q ∨ (rSortedS K vs H Q ∨ (rSortedPO K vs H Q ∨ (∃ (a : Addr) (kvs : List (Key × V)) (ks : List Str), vs = [.ref a] ∧ Rd H a (.dK kvs) ∧ kvs.map (·.1) = ks.map Sum.inr ∧ ks.length < 64 ∧
    ∀ ys p, ys.Perm ks → sortedS ys = true → H p = none → Q (.ref p) (upd H p (.lst (ys.map V.str))))))
theorem cr_sort3 (hc : X.calm = true) : CallR X (.builtin "sorted") (rSort3 X.K) := cr_sorted.or (cr_sortedS.or (cr_sortedPO.or (call_sortedD hc)))
theorem KRs.strs : ∀ {ks : List (Key × V)} {kvs : List (PV × PV)} {ss : List (List Nat)} {M : Addr → Prop}, KRs K M H ks kvs → strsOf (kvs.map (·.1)) = some ss → ks.map (·.1) = (ss.map strV).map Sum.inr ∧ ∀ s ∈ ss, okS s
  | _, _, ss, _, .nil, e => by cases e; exact ⟨rfl, fun s hs => nomatch hs⟩
  | _, _, ss, _, .cons (k := k) (v := v) (q := a) (p := p) (ks := ks) (ps := ps) kk ee ik ek r t, e => by
    rw [List.map_cons] at e
    cases a <;> first | (simp [strsOf] at e; done) | skip
    simp only [strsOf] at e
    rw [Option.map_eq_some_iff] at e
    obtain ⟨ms, e1, rfl⟩ := e
    obtain ⟨h1, h2⟩ := KRs.strs t e1
    subst ek
    cases ee with
    | str hz hc =>
      rw [List.map_cons, h1]
      exact ⟨rfl, fun s hs => (List.mem_cons.mp hs).elim (fun z => z ▸ ⟨hz, hc⟩) (h2 s)⟩
theorem rb_sorted {m : Bool} : RB K m .sorted (rSort3 K) := RB.one (fun p q => rfl) fun φ h H x p r' sv h' Q R cx er em k => by
  have er : sortP p = some r' := er
  cases p <;> first | cases er | skip
  · rename_i xs
    simp only [sortP, Option.map_eq_some_iff] at er
    obtain ⟨ys, er, rfl⟩ := er
    obtain ⟨a, vs, rfl, ea, rr, hz⟩ := cx.list
    unfold sortL at er
    split at er
    · rename_i ns e1
      split at er
      · rename_i h64
        cases er
        have e2 := intsOf_vs e1 rr
        subst e2
        refine .inl ⟨a, ns, rfl, SqL.of ea, h64, fun ns' p' hp hs => ?_⟩
        have := isort_uniqI hp hs
        subst this
        exact new_lstM R (ints_vs _) (by rw [List.length_map, (isort_stb swoI ns).len, intsOf_len e1]; exact hz) (mkR_lst em) k p'
      · cases er
    · split at er
      · rename_i ss e1
        split at er
        · rename_i h64
          cases er
          obtain ⟨e2, o⟩ := strsOf_vs e1 rr
          subst e2
          refine .inr (.inl ⟨a, ss.map strV, rfl, SqL.of ea, by rw [List.length_map]; exact h64, fun ys p' hp hs => ?_⟩)
          have := isort_uniqS hp hs
          subst this
          have perm := (isort_stb swoS ss).perm
          exact new_lstM R (strs_vs fun s hs => o s (perm.mem_iff.mp hs)) (by rw [List.length_map, perm.length_eq, strsOf_len e1]; exact hz) (mkR_lst em) k p'
        · cases er
      · split at er
        · rename_i ps e1
          cases er
          have e2 := prsOf_eq e1
          subst e2
          have hf := prK_of (K := K) (H := H) (M := Mt φ h)
          refine .inr (.inr (.inl ⟨a, vs, prK H, rfl, SqL.of ea, fun v hv => ?_, fun ys p' hs hb => ?_⟩))
          · obtain ⟨i, hi⟩ := List.getElem?_of_mem hv
            obtain ⟨q, e3, r3⟩ := rr.getV hi
            rw [List.getElem?_map, Option.map_eq_some_iff] at e3
            obtain ⟨pq, _, rfl⟩ := e3
            have e4 := hf v pq r3
            cases r3 with
            | tup e5 m5 z5 r5 =>
              rename_i t ws
              refine ⟨t, rfl, ?_⟩
              rw [e4, e5]
              cases r5 with
              | cons r1 t5 =>
                cases t5 with
                | cons r2 t5 =>
                  cases t5
                  cases r1
                  cases r2
                  rfl
          · have e3 : ys = isort (ltP (prK H)) vs := SrtO.stb_uniq (ltP_swo (prK H)) hs (isort_srtd (ltP_swo (prK H)) vs) (hb.trans ⟨(isort_stb (ltP_swo (prK H)) vs).perm.symm, fun x => ((isort_stb (ltP_swo (prK H)) vs).cls x).symm⟩)
            subst e3
            exact new_lstM R (isort_vs hf rr) (by rw [List.length_map, (isort_stb swoL ps).len]; simpa using hz) (mkR_lst em) k p'
        · cases er
  · rename_i kvs
    simp only [sortP] at er
    obtain ⟨a, ks, rfl, ea, rr, hz⟩ := cx.dic
    split at er
    · rename_i ss e1
      split at er
      · rename_i h64
        cases er
        obtain ⟨h1, o⟩ := KRs.strs rr e1
        refine .inr (.inr (.inr ⟨a, ks, ss.map strV, rfl, ea, h1, by rw [List.length_map]; exact h64, fun ys p' hp hs => ?_⟩))
        have := isort_uniqS hp hs
        subst this
        have perm := (isort_stb swoS ss).perm
        have hl := strsOf_len e1
        rw [List.length_map] at hl
        exact new_lstM R (strs_vs fun s hs => o s (perm.mem_iff.mp hs)) (by rw [List.length_map, perm.length_eq, hl]; exact hz) (mkR_lst em) k p'
      · cases er
    · cases er
end
end Ev

set_option Elab.async false
set_option linter.all false
set_option maxRecDepth 100000
namespace Ev
open PySem PySem.Spec PyProof.Rows L2

section
variable {X : Cx} {K : PySem.W.Frag} {C : Calls} {φ : List Addr} {h : AH} {H : Hp}

/-! ### min, max of two; dict(..) -/
theorem RB.two {m : Bool} {b : Blt} {r : List V → Hp → VK → Prop} (hb : ∀ p, blt1 b p = none)
    (s : ∀ (φ : List Addr) (h : AH) (H : Hp) (x y : V) (p q r' : PV) (Q : VK), HR K φ h H → CV K φ h H x p → CV K φ h H y q → blt2 b p q = some r' → Kont K φ h H h (.v r') Q → r [x, y] H Q) : RB K m b r := by
  intro φ h H vs ss sv h' Q R rs e k
  unfold bltE at e
  split at e
  · split at e
    · rename_i p hp
      rw [hb] at e
      cases e
    · cases e
  · cases rs with
    | cons r1 t =>
      cases t with
      | cons r2 t =>
        cases t
        rw [Option.map_eq_some_iff] at e
        obtain ⟨r', e1, e2⟩ := e
        cases e2
        exact s φ h H _ _ _ _ r' Q R (.v r1) (.v r2) e1 k
  · cases e
theorem rb_min2 {m : Bool} : RB K m .min2 (fun xs H Q => ∃ i j, xs = [.int i, .int j] ∧ Q (.int (if j < i then j else i)) H) := RB.two (fun p => rfl) fun φ h H x y p q r' Q R cx cy e k => by
  cases p <;> first | cases e | skip
  cases q <;> first | cases e | skip
  obtain rfl := cx.int
  obtain rfl := cy.int
  exact ⟨_, _, rfl, Kont.val R k (.int _)⟩
theorem rb_max2 {m : Bool} : RB K m .max2 (fun xs H Q => ∃ i j, xs = [.int i, .int j] ∧ Q (.int (if j > i then j else i)) H) := RB.two (fun p => rfl) fun φ h H x y p q r' Q R cx cy e k => by
  cases p <;> first | cases e | skip
  cases q <;> first | cases e | skip
  obtain rfl := cx.int
  obtain rfl := cy.int
  exact ⟨_, _, rfl, Kont.val R k (.int _)⟩
theorem merge_krs {M : Addr → Prop} : ∀ {more : List (Key × V)} {mo : List (PV × PV)} {ks : List (Key × V)} {kvs : List (PV × PV)}, KRs K M H more mo → KRs K M H ks kvs → KRs K M H (mergeK ks more) (mergeP kvs mo)
  | _, _, _, _, .nil, r => r
  | _, _, _, _, .cons (k := k) (v := v) (q := a) (p := p) (ks := more) (ps := mo) kk e ik ek r t, q => by
    show KRs K M H (mergeK (putK _ k v) more) (mergeP (dput _ a p) mo)
    rw [ek]
    exact merge_krs t (KRs.put (k := kV k) ik e r q)
theorem mergeP_len : ∀ (more kvs : List (PV × PV)), (mergeP kvs more).length ≤ kvs.length + more.length
  | [], kvs => by show kvs.length ≤ kvs.length + 0; omega
  | p :: r, kvs => by
    have h1 := mergeP_len r (dput kvs p.1 p.2)
    have h2 := dput_len kvs p.1 p.2
    show (mergeP (dput kvs p.1 p.2) r).length ≤ _
    rw [List.length_cons]
    omega
theorem pairsOf_krs {M : Addr → Prop} : ∀ {xs : List PV} {kvs : List (PV × PV)} {vs : List V}, pairsOf xs = some kvs → VRs K M H vs xs →
    kvs.length = xs.length ∧ ∃ (ps : List Addr) (ks : List (Key × V)), vs = ps.map V.ref ∧ Paired (fun p kv => SqT K H p [kV kv.1, kv.2]) ps ks ∧ KRs K M H ks kvs
  | [], kvs, vs, e, r => by cases e; cases r; exact ⟨rfl, [], [], rfl, .nil, .nil⟩
  | x :: xs, kvs, vs, e, r => by
    unfold pairsOf at e
    split at e
    · rename_i h1; cases h1
    · rename_i k v r' h1
      cases h1
      split at e
      · rename_i hk
        rw [Option.map_eq_some_iff] at e
        obtain ⟨qs, e1, rfl⟩ := e
        cases r with
        | cons r t =>
          obtain ⟨hl, ps, ks, rfl, hp, hk2⟩ := pairsOf_krs e1 t
          cases r with
          | tup e2 m2 z2 r2 =>
            rename_i a ws
            cases r2 with
            | cons ra t2 =>
              rename_i vk ws2
              cases t2 with
              | cons rb t3 =>
                rename_i vv ws3
                cases t3
                have ekk := kV_keyV hk ra
                subst ekk
                exact ⟨by rw [List.length_cons, List.length_cons, hl], a :: ps, (keyV k, vv) :: ks, rfl, .cons (SqT.of e2) hp, .cons rfl ra hk rfl rb hk2⟩
      · cases e
    · cases e
def rDict (K : PySem.W.Frag) : List V → Hp → VK → Prop := fun xs H Q => (∃ (a : Addr) (ps : List Addr) (kvs : List (Key × V)), xs = [.ref a] ∧ SqL K H a (ps.map V.ref) ∧ Paired (fun p kv => SqT K H p [kV kv.1, kv.2]) ps kvs ∧
    ∀ p, H p = none → Q (.ref p) (upd H p (.dK (mergeK [] kvs)))) ∨ ∃ a kvs, xs = [.ref a] ∧ Rd H a (.dK kvs) ∧ ∀ p, H p = none → Q (.ref p) (upd H p (.dK kvs))
theorem cr_dict (hc : X.calm = true) : CallR X (.type "dict") (rDict X.K) := by
  intro pins s σ H xs us Q I r q
  rcases q with q | ⟨a, kvs, rfl, e, q⟩
  · exact call_dictP hc pins s σ H xs us Q I r q
  · obtain ⟨u, rfl, rx⟩ := vals1 r
    cases rx
    exact d_copyOf I e fun p s' n I' => ⟨.ref p, _, I', rfl, q p n⟩
theorem rb_dict {m : Bool} : RB K m .dict (rDict K) := RB.one (fun p q => rfl) fun φ h H x p r' sv h' Q R cx er em k => by
  have er : dicP p = some r' := er
  cases p <;> first | cases er | skip
  · simp only [dicP, Option.map_eq_some_iff] at er
    obtain ⟨kvs, e1, rfl⟩ := er
    obtain ⟨a, vs, rfl, ea, rr, hz⟩ := cx.list
    obtain ⟨hl, ps, ks, rfl, hp, hk⟩ := pairsOf_krs e1 rr
    refine .inl ⟨a, ps, ks, rfl, SqL.of ea, hp, new_dicM R (merge_krs hk .nil) ?_ (mkR_dic em) k⟩
    have := mergeP_len kvs []
    rw [List.length_nil] at this
    omega
  · obtain ⟨a, ks, rfl, ea, rr, hz⟩ := cx.dic
    exact .inr ⟨a, ks, rfl, ea, new_dicM R rr hz (mkR_dic em) k⟩

/-! ### isinstance -/
def kT : PV → String
  | .non => "NoneType"
  | .bl _ => "bool"
  | .int _ => "int"
  | .str _ => "str"
  | .tup _ => "tuple"
  | .lst _ => "list"
  | .frl _ => "list"
  | .dict _ => "dict"
theorem kitTab (p : PV) (t : Ty) : kitB (kT p) (tyS t) = some (isiTy p t) := by
  cases p <;> cases t <;> (simp only [kT, tyS, isiTy]; decide +kernel)
theorem tyX_of {v : V} {p : PV} (c : CV K φ h H v p) : TyX K H v (.type (kT p)) := by
  cases p with
  | non => rw [c.non]; exact .base .non
  | bl b => rw [c.bl]; exact .base (.bl b)
  | int i => rw [c.int]; exact .base (.int i)
  | str s => rw [c.str.1]; exact .base (.str _)
  | tup xs => obtain ⟨a, vs, rfl, e, _⟩ := c.tup; exact .base (.tup e)
  | lst xs => obtain ⟨a, vs, rfl, e, _⟩ := c.list; exact .base (.lst e)
  | frl xs =>
    obtain ⟨a, vs, rfl, e, _⟩ := c.frl
    rcases e with (e | ⟨o, e⟩) | ⟨o, its, n, e, hc, _⟩
    · exact .base (.lst e)
    · exact .base (.frz e)
    · exact .kList e hc
  | dict xs =>
    obtain ⟨a, vs, rfl, e, _⟩ := c.dic
    rcases e with e | ⟨o, e⟩
    · exact .base (.dK e)
    · exact .fDict e
theorem boot_ty (t : Ty) : bootBuiltins (Str.ofString (tyS t)) = some (.type (tyS t)) := by cases t <;> decide +kernel
theorem ty_names (t : Ty) : tyS t ∈ bltNames := by cases t <;> decide
theorem ne_name (t : Ty) : Str.ofString (tyS t) ≠ "__name__" ∧ (Str.ofString (tyS t) == ("__debug__" : Str)) = false := by cases t <;> decide +kernel
theorem l_isi {a : Ex} {t : Ty} {l : Expr} {x y : Str} {p p2 pos : Pos} (hx : x = Str.ofString "isinstance") (hy : y = Str.ofString (tyS t)) (gx : Gl X x) (gy : Gl X y) (mg : ∀ x ∈ bltNames, X.mg (Str.ofString x) = none) (ha : PE X l (tE X.K C a)) (hp : plainX l = true) :
    PE X (.Call (.Name x p) [l, .Name y p2] [] pos) (tE X.K C (.isi a t)) := by
  subst hx hy
  have hb : PE X (.Name (Str.ofString (tyS t)) p2) (tC (.ty (tyS t))) := pe_bltn gy (mg _ (ty_names t)) (boot_ty t) rfl (ne_name t).1 (ne_name t).2
  refine PE.imp (pe_callB call_isi gx (mg "isinstance" (by decide)) boot_isinstance (pa_cons ha (pa_cons hb pa_nil rfl) (starEach_cons hp)) (by decide +kernel) (by decide +kernel) (starEach_cons hp) rfl) fun σ H Q ⟨φ, h, env, sv, h', R, E, ev, k⟩ => ?_
  simp only [evE] at ev
  split at ev
  · cases ev
  · rename_i x h1 hx
    split at ev
    · rename_i q hq
      cases ev
      exact ⟨φ, h, env, x, _, R, E, hx, fun v H1 φ1 R1 X1 s1 => ⟨v, _, _, _, _, rfl, .ty _, tyX_of (peek_cv R1 s1 hq), kit_ty (kitTab q t), k _ H1 φ1 R1 X1 (.bl _)⟩⟩
    · cases ev

/-! ### methods -/
def RM (K : PySem.W.Frag) (m : Mth) (r : V → List V → Hp → VK → Prop) : Prop :=
  ∀ (φ : List Addr) (h : AH) (H : Hp) (j : Nat) (a : Addr) (vs : List V) (ss : List SV) (sv : SV) (h' : AH) (Q : VK), HR K φ h H → φ[j]? = some a → SRs K φ h H vs ss → mthE m j ss h = some (sv, h') → Kont K φ h H h' sv Q → r (.ref a) vs H Q
theorem mthE_some {m : Mth} {j : Nat} {ss : List SV} {h : AH} {sv : SV} {h' : AH} (e : mthE m j ss h = some (sv, h')) : ∃ xs ps p c, h[j]? = some (.lst xs) ∧ argsM m ss h = some ps ∧ mthC m (.lst xs) ps = some (p, c) ∧ sv = .v p ∧ h' = h.set j c := by
  unfold mthE at e
  split at e
  · rename_i c hc
    split at e
    · rename_i ps hp
      rw [Option.map_eq_some_iff] at e
      obtain ⟨⟨p, c'⟩, e1, e2⟩ := e
      cases e2
      cases c with
      | lst xs => exact ⟨xs, ps, p, c', hc, hp, e1, rfl, rfl⟩
      | dict _ => simp [mthC] at e1
      | frz _ => simp [mthC] at e1
    · cases e
  · cases e
theorem put_lst (R : HR K φ h H) {j : Nat} {a : Addr} {xs ys : List PV} {ws : List V} {p : PV} {v : V} {Q : VK} (e : h[j]? = some (.lst xs)) (ea : φ[j]? = some a) (r : VRs K (Mt φ h) H ws ys) (hz : ys.length ≤ SZ) (rv : VR K (Mt φ h) H v p)
    (k : Kont K φ h H (h.set j (.lst ys)) (.v p) Q) : Q v (upd H a (.lst ws)) := by
  have x := Ext.put (d := .lst ys) (o := .lst ws) R e rfl ea
  exact k v _ φ (R.put e rfl ea ⟨ws, upd_same, r.mono x.1, hz⟩) x (VR.mono x.1 rv)
theorem mthC_append {xs ps : List PV} {p : PV} {c : Cell} (e : mthC .append (.lst xs) ps = some (p, c)) : ∃ q, ps = [q] ∧ xs.length < SZ ∧ p = .non ∧ c = .lst (xs ++ [q]) := by
  simp only [mthC] at e
  split at e
  · split at e
    · rename_i hl; cases e; exact ⟨_, rfl, hl, rfl, rfl⟩
    · cases e
  · cases e
theorem args_pvs {m : Mth} (hm : m ≠ .extend) {ss : List SV} {h : AH} {ps : List PV} {vs : List V} (rs : SRs K φ h H vs ss) (e : argsM m ss h = some ps) : VRs K (Mt φ h) H vs ps := by
  have : argsM m ss h = pvs ss := by
    cases m <;> first | rfl | exact absurd rfl hm
  rw [this] at e
  exact rs.pvs e
theorem VRs.nil_of {M : Addr → Prop} {vs : List V} (r : VRs K M H vs []) : vs = [] := by cases r; rfl
theorem VRs.one_of {M : Addr → Prop} {vs : List V} {p : PV} (r : VRs K M H vs [p]) : ∃ v, vs = [v] ∧ VR K M H v p := by
  cases r with
  | cons r t => cases t; exact ⟨_, rfl, r⟩
theorem VRs.two_of {M : Addr → Prop} {vs : List V} {p q : PV} (r : VRs K M H vs [p, q]) : ∃ v w, vs = [v, w] ∧ VR K M H v p ∧ VR K M H w q := by
  cases r with
  | cons r t => obtain ⟨w, rfl, r2⟩ := t.one_of; exact ⟨_, w, rfl, r, r2⟩
/-- an item put into a list is a value -/
theorem rm_append : RM K .append rAppend := by
  intro φ h H j a vs ss sv h' Q R ea rs e k
  obtain ⟨xs, ps, p, c, e1, e2, e3, rfl, rfl⟩ := mthE_some e
  obtain ⟨q, rfl, hl, rfl, rfl⟩ := mthC_append e3
  obtain ⟨v, rfl, r⟩ := (args_pvs (m := .append) (by decide) rs e2).one_of
  obtain ⟨ws, q1, r1, z1⟩ := R.cell j _ a e1 ea
  exact ⟨a, ws, v, rfl, rfl, q1, by rw [r1.length]; exact hl, put_lst R e1 ea (r1.append (.cons r .nil)) (by rw [List.length_append]; exact hl) .non k⟩
theorem mthC_extend {xs ps : List PV} {p : PV} {c : Cell} (e : mthC .extend (.lst xs) ps = some (p, c)) : ∃ ys, ps = [.lst ys] ∧ xs.length + ys.length ≤ SZ ∧ p = .non ∧ c = .lst (xs ++ ys) := by
  simp only [mthC] at e
  split at e
  · split at e
    · rename_i hl; cases e; exact ⟨_, rfl, hl, rfl, rfl⟩
    · cases e
  · cases e
theorem args_ext {ss : List SV} {h : AH} {q : PV} {vs : List V} (R : HR K φ h H) (rs : SRs K φ h H vs ss) (e : argsM .extend ss h = some [q]) : ∃ v, vs = [v] ∧ CV K φ h H v q := by
  simp only [argsM] at e
  split at e
  · rename_i y
    rw [Option.map_eq_some_iff] at e
    obtain ⟨p, e1, e2⟩ := e
    cases e2
    cases rs with
    | cons r t =>
      cases t
      exact ⟨_, rfl, peek_cv R r e1⟩
  · cases e
theorem rm_extend : RM K .extend rExtend := by
  intro φ h H j a vs ss sv h' Q R ea rs e k
  obtain ⟨xs, ps, p, c, e1, e2, e3, rfl, rfl⟩ := mthE_some e
  obtain ⟨ys, rfl, hl, rfl, rfl⟩ := mthC_extend e3
  obtain ⟨v, rfl, cv⟩ := args_ext R rs e2
  obtain ⟨ws, q1, r1, z1⟩ := R.cell j _ a e1 ea
  obtain ⟨b, us, rfl, q2, r2, z2⟩ := cv.list
  exact ⟨a, b, ws, us, rfl, rfl, q1, q2, by rw [r1.length, r2.length]; exact hl, put_lst R e1 ea (r1.append r2) (by rw [List.length_append]; exact hl) .non k⟩
theorem mthC_pop {xs ps : List PV} {p : PV} {c : Cell} (e : mthC .pop (.lst xs) ps = some (p, c)) : ps = [] ∧ xs[xs.length - 1]? = some p ∧ c = .lst xs.dropLast := by
  simp only [mthC] at e
  split at e
  · split at e
    · rename_i hl; cases e; exact ⟨rfl, hl, rfl⟩
    · cases e
  · cases e
theorem rm_pop : RM K .pop rPop := by
  intro φ h H j a vs ss sv h' Q R ea rs e k
  obtain ⟨xs, ps, p, c, e1, e2, e3, rfl, rfl⟩ := mthE_some e
  obtain ⟨rfl, hl, rfl⟩ := mthC_pop e3
  obtain rfl := (args_pvs (m := .pop) (by decide) rs e2).nil_of
  obtain ⟨ws, q1, r1, z1⟩ := R.cell j _ a e1 ea
  obtain ⟨v, q2, r2⟩ := r1.get hl
  exact ⟨a, ws, v, rfl, rfl, q1, by rw [r1.length]; exact q2, put_lst R e1 ea r1.dropLast (by rw [List.length_dropLast]; omega) r2 k⟩
theorem mthC_popAt {xs ps : List PV} {p : PV} {c : Cell} (e : mthC .popAt (.lst xs) ps = some (p, c)) : ∃ i n, ps = [.int i] ∧ ixN xs.length i = some n ∧ xs[n]? = some p ∧ smallR i = true ∧ c = .lst (xs.eraseIdx n) := by
  simp only [mthC] at e
  split at e
  · split at e
    · rename_i n hn
      split at e
      · rename_i p' hp
        split at e
        · rename_i hs
          cases e
          exact ⟨_, n, rfl, hn, hp, hs, rfl⟩
        · cases e
      · cases e
    · cases e
  · cases e
theorem smallR_le {i : Int} (h : smallR i = true) : -(2 ^ 62) ≤ i ∧ i < 2 ^ 62 := by
  unfold smallR at h
  simpa using h
theorem rm_popAt : RM K .popAt rPopAt := by
  intro φ h H j a vs ss sv h' Q R ea rs e k
  obtain ⟨xs, ps, p, c, e1, e2, e3, rfl, rfl⟩ := mthE_some e
  obtain ⟨i, n, rfl, hn, hp, hs, rfl⟩ := mthC_popAt e3
  obtain ⟨v, rfl, r⟩ := (args_pvs (m := .popAt) (by decide) rs e2).one_of
  cases r
  obtain ⟨ws, q1, r1, z1⟩ := R.cell j _ a e1 ea
  obtain ⟨v, q2, r2⟩ := r1.get hp
  have h2 := smallR_le hs
  refine ⟨a, ws, i, n, v, rfl, rfl, q1, by omega, by omega, ?_, q2, put_lst R e1 ea (r1.eraseIdx n) (Nat.le_trans (List.length_eraseIdx_le _ _) z1) r2 k⟩
  rw [r1.length]
  exact (ixN_seq hn).1
end
end Ev

set_option Elab.async false
set_option linter.all false
set_option maxRecDepth 100000
namespace Ev
open PySem PySem.Spec PyProof.Rows L2

section
variable {X : Cx} {C : Calls}

/-! ### methods: what was evaluated -/
theorem mth_inv {m : Mth} {o : Ex} {es : Exs} {e : En} {h h' : AH} {sv : SV} (hm : changes m = false) (ev : evE C (.mth m o es) e h = some (sv, h')) :
    ∃ x h1 p0 vs p ps r, evE C o e h = some (x, h1) ∧ peek h1 x = some p0 ∧ mthT m p0 = true ∧ evL C es e h1 = some (vs, h') ∧ peek h' x = some p ∧ pvs vs = some ps ∧ mthP m p ps = some r ∧ sv = .v r := by
  simp only [evE, hm, Bool.false_eq_true, if_false] at ev
  split at ev
  · cases ev
  · rename_i x h1 hx
    split at ev
    · cases ev
    · rename_i p0 hp0
      split at ev
      · rename_i ht
        split at ev
        · cases ev
        · rename_i vs h2 hvs
          split at ev
          · rename_i p ps hp hps
            rw [Option.map_eq_some_iff] at ev
            obtain ⟨r, er, e2⟩ := ev
            cases e2
            exact ⟨x, h1, p0, vs, p, ps, r, hx, hp0, ht, hvs, hp, hps, er, rfl⟩
          · cases ev
      · cases ev
theorem mthM_inv {m : Mth} {o : Ex} {es : Exs} {e : En} {h h' : AH} {sv : SV} (hm : changes m = true) (ev : evE C (.mth m o es) e h = some (sv, h')) :
    ∃ j h1 xs vs h2, evE C o e h = some (.o j, h1) ∧ h1[j]? = some (.lst xs) ∧ evL C es e h1 = some (vs, h2) ∧ mthE m j vs h2 = some (sv, h') := by
  simp only [evE, hm, if_true] at ev
  split at ev
  · cases ev
  · rename_i x h1 hx
    split at ev
    · rename_i j
      split at ev
      · rename_i hl
        split at ev
        · cases ev
        · rename_i vs h2 hvs
          have : ∃ xs, h1[j]? = some (.lst xs) := by
            unfold isLst at hl
            split at hl
            · rename_i xs e1; exact ⟨xs, e1⟩
            · cases hl
          obtain ⟨xs, e1⟩ := this
          exact ⟨j, h1, xs, vs, h2, hx, e1, hvs, ev⟩
      · cases ev
    · cases ev
theorem evL_one {a : Ex} {e : En} {h h' : AH} {vs : List SV} (ev : evL C (.cons a .nil) e h = some (vs, h')) : ∃ y, evE C a e h = some (y, h') ∧ vs = [y] := by
  simp only [evL] at ev
  split at ev
  · cases ev
  · rename_i x h1 hx
    cases ev
    exact ⟨x, hx, rfl⟩
theorem evL_two {a b : Ex} {e : En} {h h' : AH} {vs : List SV} (ev : evL C (.cons a (.cons b .nil)) e h = some (vs, h')) : ∃ y h1 z, evE C a e h = some (y, h1) ∧ evE C b e h1 = some (z, h') ∧ vs = [y, z] := by
  simp only [evL] at ev
  split at ev
  · cases ev
  · rename_i x h1 hx
    split at ev
    · cases ev
    · rename_i xs h2 hxs
      split at hxs
      · cases hxs
      · rename_i z h3 hz
        cases hxs
        cases ev
        exact ⟨x, h1, z, hx, hz, rfl⟩
theorem few1 {l : Expr} {cpos : Pos} {env : Env} (hp : plainX l = true) : ((backTo cpos (starEach [l] env)).all (fun x => !x.1) && (backToKw cpos (keywordEach [] env)).all (fun x => x.1.isSome)
      && decide (([l] : List Expr).length + ([] : List Keyword).length + (if ([] : List Keyword).isEmpty then 0 else 1) < 30)) = true := by
  rw [starEach_cons hp]; rfl
theorem few2 {l r : Expr} {cpos : Pos} {env : Env} (hp : plainX l = true) (hq : plainX r = true) : ((backTo cpos (starEach [l, r] env)).all (fun x => !x.1) && (backToKw cpos (keywordEach [] env)).all (fun x => x.1.isSome)
      && decide (([l, r] : List Expr).length + ([] : List Keyword).length + (if ([] : List Keyword).isEmpty then 0 else 1) < 30)) = true := by
  rw [starEach_cons hp, starEach_cons hq]; rfl

theorem pvs_one {y : SV} {ps : List PV} (e : pvs [y] = some ps) : ∃ q, y = .v q ∧ ps = [q] := by
  cases y with
  | v q => cases e; exact ⟨q, rfl, rfl⟩
  | o i => cases e
theorem pvs_two {y z : SV} {ps : List PV} (e : pvs [y, z] = some ps) : ∃ q r, y = .v q ∧ z = .v r ∧ ps = [q, r] := by
  cases y with
  | v q => cases z with
    | v r => cases e; exact ⟨q, r, rfl, rfl, rfl⟩
    | o i => cases e
  | o i => cases e
theorem dict_of {m : Mth} {p : PV} (hm : m = .get1 ∨ m = .get2) (h : mthT m p = true) : ∃ kvs, p = .dict kvs := by
  rcases hm with rfl | rfl <;> cases p <;> first | exact ⟨_, rfl⟩ | cases h
theorem look_getD {K : PySem.W.Frag} {M : Addr → Prop} {H : Hp} {q : PV} (hq : isKey q = true) {ks : List (Key × V)} {kvs : List (PV × PV)} (r : KRs K M H ks kvs) {d : PV} {v : V} (rd : VR K M H v d) : VR K M H ((valV ks (keyV q)).getD v) ((dlook kvs q).getD d) := by
  rcases KRs.look hq r with ⟨h1, h2⟩ | ⟨p, w, h1, h2, h3⟩
  · rw [h1, h2]; exact rd
  · rw [h1, h2]; exact h3
theorem l_get1 {o a : Ex} {l e : Expr} {apos cpos : Pos} (hu : X.A.units + 65 < cLine) (hl : (apos.endLine == cpos.line) = true) (hn : noSup l = true) (ho : PE X l (tE X.K C o)) (ha : PE X e (tE X.K C a)) (hp : plainX e = true) :
    PE X (.Call (.Attribute l "get" apos) [e] [] cpos) (tE X.K C (.mth .get1 o (.cons a .nil))) := by
  have m : M1 X l "get" apos e cpos := ⟨noSup_base hn, few1 hp, hl, by rw [starEach_cons hp]; rfl⟩
  refine PE.imp (pe_dget1 (by omega) ho ha m) fun σ H Q ⟨φ, h, env, sv, h', R, E, ev, k⟩ => ?_
  obtain ⟨x, h1, p0, vs, p, ps, r, e1, e2, e3, e4, e5, e6, e7, rfl⟩ := mth_inv rfl ev
  obtain ⟨y, e8, rfl⟩ := evL_one e4
  obtain ⟨q, rfl, rfl⟩ := pvs_one e6
  obtain ⟨kv0, rfl⟩ := dict_of (.inl rfl) e3
  refine ⟨φ, h, env, x, h1, R, E, e1, fun v1 H1 φ1 R1 X1 s1 => ?_⟩
  obtain ⟨ad, ks0, rfl, ea, _, _⟩ := (peek_cv R1 s1 e2).dic
  refine ⟨ad, rfl, .inl ⟨_, ea⟩, φ1, h1, env, _, _, R1, E.mono X1, e8, fun v2 H2 φ2 R2 X2 s2 => ?_⟩
  simp only [mthP] at e7
  split at e7
  · rename_i kvs q' he
    cases he
    split at e7
    · rename_i hk
      cases e7
      obtain ⟨ad', ks, e9, ea2, rr, _⟩ := (peek_cv R2 (s1.mono X2) e5).dic
      cases e9
      exact ⟨_, DGet.at_ ea2 hk s2, k.keep (X1.trans X2) _ H2 φ2 R2 Ext.refl (look_getD hk rr .non)⟩
    · cases e7
  · cases e7
theorem l_get2 {o a b : Ex} {l e f : Expr} {apos cpos : Pos} (hu : X.A.units + 65 < cLine) (hl : (apos.endLine == cpos.line) = true) (hn : noSup l = true) (ho : PE X l (tE X.K C o)) (ha : PE X e (tE X.K C a)) (hb : PE X f (tE X.K C b)) (hp : plainX e = true) (hq : plainX f = true) :
    PE X (.Call (.Attribute l "get" apos) [e, f] [] cpos) (tE X.K C (.mth .get2 o (.cons a (.cons b .nil)))) := by
  have m : M2 X l "get" apos e f cpos := ⟨noSup_base hn, few2 hp hq, hl, by rw [starEach_cons hp, starEach_cons hq]; rfl⟩
  refine PE.imp (pe_dget2 (by omega) ho ha hb m) fun σ H Q ⟨φ, h, env, sv, h', R, E, ev, k⟩ => ?_
  obtain ⟨x, h1, p0, vs, p, ps, r, e1, e2, e3, e4, e5, e6, e7, rfl⟩ := mth_inv rfl ev
  obtain ⟨y, h2, z, e8, e9, rfl⟩ := evL_two e4
  obtain ⟨q, d, rfl, rfl, rfl⟩ := pvs_two e6
  obtain ⟨kv0, rfl⟩ := dict_of (.inr rfl) e3
  refine ⟨φ, h, env, x, h1, R, E, e1, fun v1 H1 φ1 R1 X1 s1 => ?_⟩
  obtain ⟨ad, ks0, rfl, ea, _, _⟩ := (peek_cv R1 s1 e2).dic
  refine ⟨ad, rfl, .inl ⟨_, ea⟩, φ1, h1, env, _, _, R1, E.mono X1, e8, fun v2 H2 φ2 R2 X2 s2 => ⟨φ2, h2, env, _, _, R2, E.mono (X1.trans X2), e9, fun v3 H3 φ3 R3 X3 s3 => ?_⟩⟩
  simp only [mthP] at e7
  split at e7
  · rename_i kvs q' d' he
    cases he
    split at e7
    · rename_i hk
      cases e7
      obtain ⟨ad', ks, e10, ea2, rr, _⟩ := (peek_cv R3 (s1.mono (X2.trans X3)) e5).dic
      cases e10
      exact ⟨_, DGet.at_ ea2 hk (s2.mono X3), k.keep (X1.trans (X2.trans X3)) _ H3 φ3 R3 Ext.refl (look_getD hk rr s3)⟩
    · cases e7
  · cases e7
theorem low_ok {s t : List Nat} (h : lowP s = some t) : Txt.lower (strV s) = strV t ∧ t.length ≤ SZ ∧ s.length ≤ 5592405 ∧ ∀ c ∈ t, c < 0x110000 := by
  unfold lowP at h
  split at h <;> first | (cases h; done) | skip
  all_goals (cases h; refine ⟨by decide +kernel, by decide, by decide, by decide⟩)
theorem l_lower {o : Ex} {l : Expr} {apos cpos : Pos} (hl : (apos.endLine == cpos.line) = true) (hn : noSup l = true) (ho : PE X l (tE X.K C o)) : PE X (.Call (.Attribute l "lower" apos) [] [] cpos) (tE X.K C (.mth .lower o .nil)) := by
  refine PE.imp (pe_lower ho (noSup_base hn) hl) fun σ H Q ⟨φ, h, env, sv, h', R, E, ev, k⟩ => ?_
  obtain ⟨x, h1, p0, vs, p, ps, r, e1, e2, e3, e4, e5, e6, e7, rfl⟩ := mth_inv rfl ev
  cases e4
  cases e6
  refine ⟨φ, h, env, x, h', R, E, e1, fun v1 H1 φ1 R1 X1 s1 => ?_⟩
  have cv := peek_cv R1 s1 e5
  cases p <;> first | (simp [mthP] at e7; done) | skip
  simp only [mthP, Option.map_eq_some_iff] at e7
  obtain ⟨t, et, rfl⟩ := e7
  obtain ⟨rfl, hz, hc⟩ := cv.str
  obtain ⟨w1, w2, w3, w4⟩ := low_ok et
  refine ⟨⟨_, rfl⟩, _, rfl, rfl, by rw [strV_len]; exact w3, ?_⟩
  rw [w1]
  exact k _ H1 φ1 R1 X1 (.str w2 w4)

/-! ### methods that change a list -/
theorem l_chg0 {m : Mth} {r : V → List V → Hp → VK → Prop} {id : String} {name : Str} {o : Ex} {l : Expr} {apos cpos : Pos} (hm : changes m = true) (slot : Slot "list" name id) (hty : typeOf (.builtin id) = pure (.type "method_descriptor")) (rule : MtM X id r) (rm : RM X.K m r)
    (hl : (apos.endLine == cpos.line) = true) (hn : noSup l = true) (ho : PE X l (tE X.K C o)) : PE X (.Call (.Attribute l name apos) [] [] cpos) (tE X.K C (.mth m o .nil)) := by
  refine PE.imp (pe_bm0 (r := r) PySem.F.plainAttrs_list slot hty rule ho (noSup_base hn) hl) fun σ H Q ⟨φ, h, env, sv, h', R, E, ev, k⟩ => ?_
  obtain ⟨j, h1, xs, vs, h2, e1, e2, e3, e4⟩ := mthM_inv hm ev
  cases e3
  refine ⟨φ, h, env, _, _, R, E, e1, fun v1 H1 φ1 R1 X1 s1 => ?_⟩
  obtain ⟨a, rfl, ea⟩ := s1
  obtain ⟨ws, q1, _, _⟩ := R1.cell j _ a e2 ea
  exact ⟨.inl ⟨rfl, _, SqL.of q1⟩, rm φ1 _ H1 j a [] [] sv h' Q R1 ea .nil e4 (k.keep X1)⟩
theorem l_chg1 {m : Mth} {r : V → List V → Hp → VK → Prop} {id : String} {name : Str} {o a : Ex} {l e : Expr} {apos cpos : Pos} (hm : changes m = true) (slot : Slot "list" name id) (hty : typeOf (.builtin id) = pure (.type "method_descriptor")) (rule : MtM X id r) (rm : RM X.K m r)
    (hl : (apos.endLine == cpos.line) = true) (hn : noSup l = true) (ho : PE X l (tE X.K C o)) (ha : PE X e (tE X.K C a)) (hp : plainX e = true) : PE X (.Call (.Attribute l name apos) [e] [] cpos) (tE X.K C (.mth m o (.cons a .nil))) := by
  refine PE.imp (pe_bm (r := r) PySem.F.plainAttrs_list slot hty rule ho (l_cons ha hp l_nil) (noSup_base hn) (few1 hp) hl (starEach_cons hp) rfl) fun σ H Q ⟨φ, h, env, sv, h', R, E, ev, k⟩ => ?_
  obtain ⟨j, h1, xs, vs, h2, e1, e2, e3, e4⟩ := mthM_inv hm ev
  refine ⟨φ, h, env, _, _, R, E, e1, fun v1 H1 φ1 R1 X1 s1 => ?_⟩
  obtain ⟨a, rfl, ea⟩ := s1
  obtain ⟨ws, q1, _, _⟩ := R1.cell j _ a e2 ea
  refine ⟨.inl ⟨rfl, _, SqL.of q1⟩, φ1, h1, env, vs, h2, R1, E.mono X1, e3, fun us H2 φ2 R2 X2 s2 => ?_⟩
  obtain ⟨_, ⟨t, rfl⟩, _⟩ := _root_.id X2
  exact rm _ _ H2 j a us vs sv h' Q R2 (by rw [List.getElem?_append_left (List.getElem?_eq_some_iff.mp ea).1]; exact ea) s2 e4 (k.keep (X1.trans X2))

/-! ### builtins, one and all -/
theorem boot_of (x : String) (h : x ∈ bltNames) : Str.ofString x ≠ "__name__" ∧ (Str.ofString x == ("__debug__" : Str)) = false := by
  have : ∀ x ∈ bltNames, Str.ofString x ≠ "__name__" ∧ (Str.ofString x == ("__debug__" : Str)) = false := by decide +kernel
  exact this x h
theorem l_b1 {m : Bool} {b : Blt} {r : List V → Hp → VK → Prop} {es : Exs} {l : Expr} {ls : List Expr} {x : Str} {p pos : Pos} {id : String} (hx : x = Str.ofString (bltS b)) (hi : bltS b ∈ bltNames) (gx : Gl X x) (mg : ∀ x ∈ bltNames, X.mg (Str.ofString x) = none)
    (hv : bootBuiltins (Str.ofString (bltS b)) = some (.builtin id)) (rule : CallR X (.builtin id) r) (snd : RB X.K m b r) (hs : PA X (l :: ls) (tL X.K C es)) (hp : ∀ e ∈ l :: ls, plainX e = true) : PE X (.Call (.Name x p) (l :: ls) [] pos) (tE X.K C (.blt m b es)) := by
  subst hx
  exact l_blt (pe_callB rule gx (mg _ hi) hv hs (boot_of _ hi).1 (boot_of _ hi).2 (starEach_cons (hp l List.mem_cons_self)) (any_false fun e he => hp e (List.mem_cons_of_mem _ he))) snd
theorem l_bT {m : Bool} {b : Blt} {r : List V → Hp → VK → Prop} {es : Exs} {l : Expr} {ls : List Expr} {x : Str} {p pos : Pos} {id : String} (hx : x = Str.ofString (bltS b)) (hi : bltS b ∈ bltNames) (gx : Gl X x) (mg : ∀ x ∈ bltNames, X.mg (Str.ofString x) = none)
    (hv : bootBuiltins (Str.ofString (bltS b)) = some (.type id)) (rule : CallR X (.type id) r) (snd : RB X.K m b r) (hs : PA X (l :: ls) (tL X.K C es)) (hp : ∀ e ∈ l :: ls, plainX e = true) : PE X (.Call (.Name x p) (l :: ls) [] pos) (tE X.K C (.blt m b es)) := by
  subst hx
  exact l_blt (pe_callTy rule gx (mg _ hi) hv hs (boot_of _ hi).1 (boot_of _ hi).2 (starEach_cons (hp l List.mem_cons_self)) (any_false fun e he => hp e (List.mem_cons_of_mem _ he))) snd
end
end Ev

set_option Elab.async false
set_option linter.all false
set_option maxRecDepth 100000
namespace Ev
open PySem PySem.Spec PyProof.Rows L2

mutual
theorem same_eq : ∀ {p q : PV}, same p q = true → p = q
  | .non, q, h => by cases q <;> simp_all [same]
  | .bl a, q, h => by cases q <;> simp_all [same]
  | .int a, q, h => by cases q <;> simp_all [same]
  | .str a, q, h => by cases q <;> simp_all [same]
  | .tup xs, q, h => by
    cases q with
    | tup ys => rw [sames_eq (p := xs) (q := ys) (by simpa [same] using h)]
    | _ => simp [same] at h
  | .lst xs, q, h => by
    cases q with
    | lst ys => rw [sames_eq (p := xs) (q := ys) (by simpa [same] using h)]
    | _ => simp [same] at h
  | .frl xs, q, h => by
    cases q with
    | frl ys => rw [sames_eq (p := xs) (q := ys) (by simpa [same] using h)]
    | _ => simp [same] at h
  | .dict xs, q, h => by
    cases q with
    | dict ys => rw [samed_eq (p := xs) (q := ys) (by simpa [same] using h)]
    | _ => simp [same] at h
theorem sames_eq : ∀ {p q : List PV}, sames p q = true → p = q
  | [], [], _ => rfl
  | [], _ :: _, h => by simp [sames] at h
  | _ :: _, [], h => by simp [sames] at h
  | x :: xs, y :: ys, h => by
    simp only [sames, Bool.and_eq_true] at h
    rw [same_eq h.1, sames_eq h.2]
theorem samed_eq : ∀ {p q : List (PV × PV)}, samed p q = true → p = q
  | [], [], _ => rfl
  | [], _ :: _, h => by simp [samed] at h
  | _ :: _, [], h => by simp [samed] at h
  | (k, x) :: xs, (k', y) :: ys, h => by
    simp only [samed, Bool.and_eq_true] at h
    rw [same_eq h.1.1, same_eq h.1.2, samed_eq h.2]
end

theorem PI.or {X : Cx} {tg it : Expr} {t t' : TI} (h : PI X tg it t) (h' : PI X tg it t') : PI X tg it (fun σ H R => t σ H R ∨ t' σ H R) :=
  ⟨fun pins s σ H R I w => w.elim (h.run pins s σ H R I) (h'.run pins s σ H R I)⟩
theorem PI.imp {X : Cx} {tg it : Expr} {t t' : TI} (h : PI X tg it t) (i : ∀ σ H R, t' σ H R → t σ H R) : PI X tg it t' := ⟨fun pins s σ H R I w => h.run pins s σ H R I (i σ H R w)⟩
theorem PG.imp {X : Cx} {tg : Expr} {t t' : TG} (h : PG X tg t) (i : ∀ v σ H R, t' v σ H R → t v σ H R) : PG X tg t' := ⟨fun pins s σ H v u R I r w => h.run pins s σ H v u R I r (i v σ H R w)⟩
theorem PTs.imp {X : Cx} {ifs : List Expr} {t t' : TT} (h : PTs X ifs t) (i : ∀ σ H R, t' σ H R → t σ H R) : PTs X ifs t' := ⟨fun pins s σ H R I w => h.run pins s σ H R I (i σ H R w)⟩

/-! ### what is walked -/
/-- J yields the items xs -/
def ItS (K : PySem.W.Frag) (J : It) (xs : List PV) (g : Option Nat) (φ : List Addr) (h : AH) (H : Hp) : Prop :=
  ∀ (φ2 : List Addr) (h2 : AH) (H2 : Hp), HR K φ2 h2 H2 → Ext φ h H φ2 h2 H2 → guardOk xs g h2 = true →
    (∀ (i : Nat) (p : PV), xs[i]? = some p → J.go i H2 ∧ ∀ (x : V) (H3 : Hp), J.yld i H2 x H3 → HR K φ2 h2 H3 ∧ Ext φ2 h2 H2 φ2 h2 H3 ∧ VR K (Mt φ2 h2) H3 x p) ∧ J.stop xs.length H2
section
variable {K : PySem.W.Frag} {φ : List Addr} {h : AH} {H : Hp}
theorem its_list {a : Addr} {xs : List PV} {g : Option Nat}
    (P : ∀ (φ2 : List Addr) (h2 : AH) (H2 : Hp), HR K φ2 h2 H2 → Ext φ h H φ2 h2 H2 → guardOk xs g h2 = true → ∃ vs, SqL K H2 a vs ∧ VRs K (Mt φ2 h2) H2 vs xs) : ItS K (Itl K a) xs g φ h H := by
  intro φ2 h2 H2 R2 X2 hg
  obtain ⟨vs, q, r⟩ := P φ2 h2 H2 R2 X2 hg
  refine ⟨fun i p hp => ?_, vs, q, by rw [r.length]; exact Nat.le_refl _⟩
  obtain ⟨v, e, rv⟩ := r.get hp
  refine ⟨⟨vs, v, q, e⟩, fun x H3 y => ?_⟩
  obtain ⟨rfl, y⟩ := y
  have := y vs q
  rw [e] at this
  cases this
  exact ⟨R2, Ext.refl, rv⟩
theorem its_tup {a : Addr} {xs : List PV} {vs : List V} (e : H a = some (.tup vs)) (r : VRs K (Mt φ h) H vs xs) : ItS K (Itt K a) xs none φ h H := by
  intro φ2 h2 H2 R2 X2 hg
  have q := X2.1.tup _ _ e
  have r := r.mono X2.1
  refine ⟨fun i p hp => ?_, vs, SqT.of q, by rw [r.length]; exact Nat.le_refl _⟩
  obtain ⟨v, e, rv⟩ := r.get hp
  refine ⟨⟨vs, v, SqT.of q, e⟩, fun x H3 y => ?_⟩
  obtain ⟨rfl, y⟩ := y
  have := y vs (SqT.of q)
  rw [e] at this
  cases this
  exact ⟨R2, Ext.refl, rv⟩
theorem its_str {s : List Nat} (hz : s.length ≤ SZ) (hc : ∀ c ∈ s, c < 0x110000) : ItS K (Its (strV s)) (s.map fun c => .str [c]) none φ h H := by
  intro φ2 h2 H2 R2 X2 hg
  have sz : (strV s).cps.size = s.length := by simp [strV]
  refine ⟨fun i p hp => ?_, by show (strV s).cps.size ≤ _; rw [List.length_map, sz]; exact Nat.le_refl _⟩
  rw [List.getElem?_map, Option.map_eq_some_iff] at hp
  obtain ⟨c, e, rfl⟩ := hp
  refine ⟨by show i < (strV s).cps.size; rw [sz]; exact (List.getElem?_eq_some_iff.mp e).1, fun x H3 y => ?_⟩
  obtain ⟨rfl, c', e2, rfl⟩ := y
  have : (strV s).cps[i]? = s[i]? := by simp [strV]
  rw [this, e] at e2
  cases e2
  exact ⟨R2, Ext.refl, .str (show [c].length ≤ SZ by show 1 ≤ 16777216; decide) fun d hd => by
    have : d = c := by simpa using hd
    subst this
    exact hc _ (List.mem_of_getElem? e)⟩
theorem its_range {lo : Int} {n : Nat} : ItS K (L2.Itr lo n) (rngs lo n) none φ h H := by
  intro φ2 h2 H2 R2 X2 hg
  have len : (rngs lo n).length = n := by simp [rngs]
  refine ⟨fun i p hp => ?_, by show n ≤ _; rw [len]; exact Nat.le_refl _⟩
  have hi : i < n := by
    have := (List.getElem?_eq_some_iff.mp hp).1
    rw [len] at this
    exact this
  refine ⟨hi, fun x H3 y => ?_⟩
  obtain ⟨rfl, rfl⟩ := y
  have e : (rngs lo n)[i]? = some (.int (lo + (i : Int))) := by
    unfold rngs
    rw [List.getElem?_map, List.getElem?_range hi]
    rfl
  rw [e] at hp
  cases hp
  exact ⟨R2, Ext.refl, .int _⟩
theorem KRs.get {M : Addr → Prop} : ∀ {ks : List (Key × V)} {kvs : List (PV × PV)} {i : Nat} {q p : PV}, KRs K M H ks kvs → kvs[i]? = some (q, p) → ∃ k v, ks[i]? = some (k, v) ∧ VR K M H (kV k) q ∧ VR K M H v p
  | _, _, _, _, _, .nil, e => by simp at e
  | _, _, 0, _, _, .cons kk ee ik ek r _, e => by
    simp at e
    obtain ⟨rfl, rfl⟩ := e
    exact ⟨_, _, rfl, ee, r⟩
  | _, _, i + 1, q, p, .cons _ _ _ _ _ t, e => by
    obtain ⟨k, v, h1, h2⟩ := KRs.get (i := i) (q := q) (p := p) t (by simpa using e)
    exact ⟨k, v, by simpa using h1, h2⟩
theorem its_keys (R : HR K φ h H) {d : Addr} {o : Obj} {ks : List (Key × V)} {kvs : List (PV × PV)} (e : H d = some (.frz o (.dK ks))) (m : ¬ Mt φ h d) (r : KRs K (Mt φ h) H ks kvs) : ItS K (Itk d o ks) (kvs.map (·.1)) none φ h H := by
  intro φ2 h2 H2 R2 X2 hg
  have q := X2.2.2 _ _ e m
  have r := r.mono X2.1
  refine ⟨fun i p hp => ?_, q, by show ks.length ≤ _; rw [List.length_map, r.length]; exact Nat.le_refl _⟩
  rw [List.getElem?_map, Option.map_eq_some_iff] at hp
  obtain ⟨⟨p', w⟩, e1, rfl⟩ := hp
  obtain ⟨k, v, e2, rk, rv⟩ := r.get e1
  refine ⟨⟨q, (List.getElem?_eq_some_iff.mp e2).1⟩, fun x H3 y => ?_⟩
  obtain ⟨rfl, k', v', e3, rfl⟩ := y
  rw [e2] at e3
  cases e3
  exact ⟨R2, Ext.refl, rk⟩

/-- what a walk begins with, of a value -/
def WkV (K : PySem.W.Frag) (v : V) (H : Hp) (R : It → Hp → Prop) : Prop :=
  (∃ a, v = .ref a ∧ (∃ xs, SqL K H a xs) ∧ R (Itl K a) H) ∨ (∃ a, v = .ref a ∧ (∃ xs, SqT K H a xs) ∧ R (Itt K a) H) ∨ ∃ x, v = .str x ∧ R (Its x) H
def WkK (v : V) (H : Hp) (R : It → Hp → Prop) : Prop := ∃ d o kvs, v = .ref d ∧ H d = some (.frz o (.dK kvs)) ∧ R (Itk d o kvs) H
theorem walk_sound (R : HR K φ h H) {v : V} {t : SV} {dk : Bool} {xs : List PV} {g : Option Nat} {h' : AH} {Q : It → Hp → Prop} (s : SR K φ h H v t) (e : walkOf dk t h = some (xs, g, h')) (hl : dk = true → ∀ d ks, v = .ref d → H d ≠ some (.dK ks)) (k : ∀ J, ItS K J xs g φ h H → Q J H) :
    h' = h ∧ (WkV K v H Q ∨ (dk = true ∧ WkK v H Q)) := by
  unfold walkOf at e
  split at e
  · rename_i p
    split at e
    · rename_i hd
      rw [Option.map_eq_some_iff] at e
      obtain ⟨ys, e1, e2⟩ := e
      cases e2
      refine ⟨rfl, ?_⟩
      have s' : VR K (Mt φ h) H v p := s
      cases s' with
      | non => cases e1
      | bl b => cases e1
      | int i => cases e1
      | str hz hc => cases e1; exact .inl (.inr (.inr ⟨_, rfl, k _ (its_str hz hc)⟩))
      | tup ea m hz r => cases e1; exact .inl (.inr (.inl ⟨_, rfl, ⟨_, SqT.of ea⟩, k _ (its_tup ea r)⟩))
      | lst ea m hz r =>
        cases e1
        exact .inl (.inl ⟨_, rfl, ⟨_, SqL.of ea⟩, k _ (its_list fun φ2 h2 H2 R2 X2 _ => ⟨_, SqL.of (X2.1.lst _ _ ea m), r.mono X2.1⟩)⟩)
      | frl ea hz r => cases e1
      | dict ea m hz r =>
        cases e1
        have hdk : dk = true := by simpa [notD] using hd
        rcases ea with ea | ⟨o, ea⟩
        · exact absurd ea (hl hdk _ _ rfl)
        · exact .inr ⟨hdk, _, o, _, rfl, ea, k _ (its_keys R ea m r)⟩
    · cases e
  · rename_i j
    split at e
    · rename_i ys hc
      cases e
      refine ⟨rfl, ?_⟩
      obtain ⟨a, rfl, ea⟩ := s
      obtain ⟨vs, q, r, z⟩ := R.cell j _ a hc ea
      refine .inl (.inl ⟨a, rfl, ⟨vs, SqL.of q⟩, k _ (its_list fun φ2 h2 H2 R2 X2 hg => ?_)⟩)
      simp only [guardOk] at hg
      split at hg
      · rename_i ys hc2
        obtain ⟨_, ⟨t, rfl⟩, _⟩ := X2
        obtain ⟨vs2, q2, r2, z2⟩ := R2.cell j _ a hc2 (by rw [List.getElem?_append_left (List.getElem?_eq_some_iff.mp ea).1]; exact ea)
        rw [sames_eq hg] at r2
        exact ⟨vs2, SqL.of q2, r2⟩
      · cases hg
    · cases e
end

/-- a dict that is walked is locked -/
def Lkd : Itr → L2.St → Hp → Prop
  | .var i _, σ, H => ∀ d ks, σ[i]? = some (some (.ref d)) → H d ≠ some (.dK ks)
  | _, _, _ => True
def tI (K : PySem.W.Frag) (C : Calls) (it : Itr) : TI := fun σ H R => ∃ φ h env xs g h', HR K φ h H ∧ ER K φ h H env σ ∧ evI C it env h = some (xs, g, h') ∧ Lkd it σ H ∧ ∀ (J : It) (H' : Hp) (φ' : List Addr), HR K φ' h' H' → Ext φ h H φ' h' H' → ItS K J xs g φ' h' H' → R J H'
section
variable {X : Cx} {K : PySem.W.Frag} {C : Calls} {tg : Expr}
theorem pi_wk {e : Expr} {te : TE} (he : PE X e te) : PI X tg e (fun σ H R => te σ H fun v H1 => WkV X.K v H1 R ∨ WkK v H1 R) := by
  refine ⟨fun pins s σ H R I h => ?_⟩
  have split : ∀ {v : Value} {s1 : Shared} {x : V} {H1 : Hp}, Inv X pins σ H1 s1 → RelV x v → WkV X.K x H1 R ∨ WkK x H1 R → wpAny (model X.prog X.w) X.A (pyIter v) (PIE X pins σ tg R) X.xe s1 := by
    intro v s1 x H1 I1 r1 q
    -- the value itself, read
    let T : TE := fun σ' H' Q => Q x H1
    have run : ∀ {wi : TI}, (∀ (pe : PE X e te), True) → True := fun _ => True.intro
    rcases q with (⟨a, rfl, ⟨xs, hq⟩, q⟩ | ⟨a, rfl, ⟨xs, hq⟩, q⟩ | ⟨z, rfl, q⟩) | ⟨d, o, kvs, rfl, hd, q⟩
    · cases r1
      obtain ⟨its, rv, p, hz⟩ := I1.list hq
      refine wpAny_pyIter_list p.isList ?_
      refine ⟨s1.heap.objs.size, [s1.heap.objs.size], _, _, H1, rfl, I1.kept (t' := s1.toks) fun b o e => Heap.get?_push_of_some _ e, turn_list a _, ⟨_, Heap.get?_push_size _ rfl, rfl, rfl⟩, fun b hb => ?_, q⟩
      have e : b = s1.heap.objs.size := by simpa using hb
      subst e
      exact I1.fpOk (Nat.le_refl _) (I1.hok.fresh (Nat.le_refl _))
    · cases r1
      obtain ⟨its, rv, p, hz⟩ := I1.tuple hq
      refine wpAny_pyIter_tuple (show s1.heap.IsTuple a its.toArray from p) ?_
      refine ⟨s1.heap.objs.size, [s1.heap.objs.size], _, _, H1, rfl, I1.kept (t' := s1.toks) fun b o e => Heap.get?_push_of_some _ e, turn_tuple a _, ⟨_, Heap.get?_push_size _ rfl, rfl, rfl⟩, fun b hb => ?_, q⟩
      have e : b = s1.heap.objs.size := by simpa using hb
      subst e
      exact I1.fpOk (Nat.le_refl _) (I1.hok.fresh (Nat.le_refl _))
    · obtain ⟨t, rfl⟩ := r1
      cases ha : z.cps.all (· < 128)
      · exact wpAny_pyIter_wide ha (pi_one (tk := s1.toks) I1 _ (turn_str _ z t "str_iterator" (.inr rfl)) ⟨_, Heap.get?_push_size _ rfl, rfl, rfl⟩ q)
      · exact wpAny_pyIter_ascii ha (pi_one (tk := s1.toks) I1 _ (turn_str _ z t "str_ascii_iterator" (.inl rfl)) ⟨_, Heap.get?_push_size _ rfl, rfl, rfl⟩ q)
    · obtain rfl : v = Value.ref d := r1
      obtain ⟨hs, hgd, hx, es, ep, vs, hdt, hsz, kv, hm⟩ := I1.frzK hd
      refine iter_keys hs hgd hx hdt (pi_one (tk := s1.toks) I1 _ (turn_keys _ hdt) ⟨_, Heap.get?_push_size _ rfl, rfl, ?_⟩ q)
      rw [hsz] <;> rfl
  exact thn (he.run pins s σ H _ I h) fun v s1 ⟨x, H1, I1, r1, q1⟩ => split I1 r1 q1
theorem l_iex {a : Ex} {l : Expr} (ha : PE X l (tE X.K C a)) : PI X tg l (tI X.K C (.ex a)) := by
  refine PI.imp (pi_wk ha) fun σ H Q ⟨φ, h, env, xs, g, h', R, E, ev, lk, k⟩ => ?_
  simp only [evI] at ev
  split at ev
  · rename_i t h1 hx
    refine ⟨φ, h, env, t, h1, R, E, hx, fun v H1 φ1 R1 X1 s1 => ?_⟩
    obtain ⟨rfl, w⟩ := walk_sound (Q := Q) R1 s1 ev (fun z => by cases z) fun J hJ => k J H1 φ1 (by
      obtain ⟨rfl, _⟩ := walk_sound (Q := fun _ _ => True) R1 s1 ev (fun z => by cases z) fun _ _ => True.intro
      exact R1) (by
      obtain ⟨rfl, _⟩ := walk_sound (Q := fun _ _ => True) R1 s1 ev (fun z => by cases z) fun _ _ => True.intro
      exact X1) (by
      obtain ⟨rfl, _⟩ := walk_sound (Q := fun _ _ => True) R1 s1 ev (fun z => by cases z) fun _ _ => True.intro
      exact hJ)
    rcases w with w | ⟨z, _⟩
    · exact .inl w
    · cases z
  · cases ev
theorem l_ivar {i : Nat} {z : Bool} {x : Str} {pos : Pos} (hN : X.N[i]? = some x) (hv : Vis X.env.scope x) (hd : (x == ("__debug__" : Str)) = false) (hcd : (x == ("__classdict__" : Str)) = false) : PI X tg (.Name x pos) (tI X.K C (.var i z)) := by
  refine PI.imp (pi_wk (pe_var (i := i) hN hv hd hcd)) fun σ H Q ⟨φ, h, env, xs, g, h', R, E, ev, lk, k⟩ => ?_
  simp only [evI] at ev
  split at ev
  · rename_i s hs
    split at ev
    · rename_i t h1 hr
      obtain ⟨v, e1, R1, X1, s1⟩ := var_core R E hs hr
      have hl : ∀ d ks, v = .ref d → H d ≠ some (.dK ks) := fun d ks e => lk d ks (by rw [e1, e])
      have e0 : h' = h1 := (walk_sound (Q := fun _ _ => True) R1 s1 ev (fun _ => hl) fun _ _ => True.intro).1
      subst e0
      obtain ⟨_, w⟩ := walk_sound (Q := Q) R1 s1 ev (fun _ => hl) fun J hJ => k J H φ R1 X1 hJ
      exact ⟨v, e1, w.imp id fun z => z.2⟩
    · cases ev
  · cases ev
theorem l_rng1 {a : Ex} {l : Expr} {x : Str} {p pos : Pos} (hx : x = Str.ofString "range") (hg : Gl X x) (mg : ∀ x ∈ bltNames, X.mg (Str.ofString x) = none) (ha : PE X l (tE X.K C a)) (hp : plainX l = true) : PI X tg (.Call (.Name x p) [l] [] pos) (tI X.K C (.rng1 a)) := by
  subst hx
  refine PI.imp (pi_range1 hg (mg "range" (by decide)) (l_cons (es := .nil) ha hp l_nil) (by rw [starEach_cons hp]; rfl)) fun σ H Q ⟨φ, h, env, xs, g, h', R, E, ev, lk, k⟩ => ?_
  simp only [evI] at ev
  split at ev
  · rename_i i h1 hx
    split at ev
    · rename_i hs
      cases ev
      have hs := smallR_le hs
      refine ⟨φ, h, env, [.v (.int i)], h', R, E, by simp only [evL, hx], fun vs H1 φ1 R1 X1 s1 => ?_⟩
      cases s1 with
      | cons r t =>
        cases t
        cases r
        exact ⟨i, rfl, hs.1, hs.2, k _ H1 φ1 R1 X1 its_range⟩
    · cases ev
  · cases ev
theorem l_rng2 {a b : Ex} {l r : Expr} {x : Str} {p pos : Pos} (hx : x = Str.ofString "range") (hg : Gl X x) (mg : ∀ x ∈ bltNames, X.mg (Str.ofString x) = none) (ha : PE X l (tE X.K C a)) (hb : PE X r (tE X.K C b)) (hp : plainX l = true) (hq : plainX r = true) : PI X tg (.Call (.Name x p) [l, r] [] pos) (tI X.K C (.rng2 a b)) := by
  subst hx
  refine PI.imp (pi_range2 hg (mg "range" (by decide)) (l_cons (es := .cons b .nil) ha hp (l_cons hb hq l_nil)) (by rw [starEach_cons hp, starEach_cons hq]; rfl) (by rw [starEach_cons hq]; rfl)) fun σ H Q ⟨φ, h, env, xs, g, h', R, E, ev, lk, k⟩ => ?_
  simp only [evI] at ev
  split at ev
  · rename_i i h1 hx
    split at ev
    · rename_i j h2 hy
      split at ev
      · rename_i hs
        cases ev
        rw [Bool.and_eq_true] at hs
        have h1 := smallR_le hs.1
        have h2 := smallR_le hs.2
        refine ⟨φ, h, env, [.v (.int i), .v (.int j)], h', R, E, by simp only [evL, hx, hy], fun vs H1 φ1 R1 X1 s1 => ?_⟩
        cases s1 with
        | cons r t =>
          cases t with
          | cons r2 t =>
            cases t
            cases r
            cases r2
            exact ⟨i, j, rfl, ⟨h1.1, h1.2, h2.1, h2.2⟩, k _ H1 φ1 R1 X1 its_range⟩
      · cases ev
    · cases ev
  · cases ev
end
end Ev

set_option Elab.async false
set_option linter.all false
set_option maxRecDepth 100000
namespace Ev
open PySem PySem.Spec PyProof.Rows L2

/-! ### slots forgotten -/
theorem wipe_set {σ : L2.St} {i : Nat} {x : Option V} : ∀ {vs : List Nat}, i ∈ vs → wipe (σ.set i x) vs = wipe σ vs
  | v :: vs, h => by
    unfold wipe
    by_cases hv : v = i
    · subst hv
      by_cases hm : v ∈ vs
      · rw [wipe_set hm]
      · have : ∀ (vs : List Nat), v ∉ vs → wipe (σ.set v x) vs = (wipe σ vs).set v x := by
          intro vs
          induction vs with
          | nil => intro _; rfl
          | cons w ws ih =>
            intro hn
            rw [List.mem_cons, not_or] at hn
            unfold wipe
            rw [ih hn.2, List.set_comm _ _ hn.1]
        rw [this vs hm, List.set_set]
    · have hm : i ∈ vs := by
        rcases List.mem_cons.mp h with e | h
        · exact absurd e.symm hv
        · exact h
      rw [wipe_set hm]
theorem wipe_idem {σ : L2.St} : ∀ (vs ws : List Nat), (∀ v ∈ vs, v ∈ ws) → wipe (wipe σ vs) ws = wipe σ ws
  | [], ws, _ => rfl
  | v :: vs, ws, h => by
    show wipe ((wipe σ vs).set v none) ws = _
    rw [wipe_set (h v List.mem_cons_self)]
    exact wipe_idem vs ws fun x hx => h x (List.mem_cons_of_mem _ hx)
section
variable {K : PySem.W.Frag} {φ : List Addr} {h : AH} {H : Hp}
theorem ER.wipe {e : En} {σ : L2.St} (E : ER K φ h H e σ) : ∀ vs : List Nat, ER K φ h H (wipeE e vs) (L2.wipe σ vs)
  | [] => E
  | v :: vs => by
    have := ER.wipe E vs
    unfold wipeE L2.wipe
    refine ⟨by simp [this.len], fun j t e1 => ?_⟩
    by_cases hj : v = j
    · subst hj
      by_cases hl : v < (wipeE e vs).length
      · rw [List.getElem?_set_self hl] at e1; cases e1
      · rw [List.getElem?_eq_none (by simpa using hl)] at e1; cases e1
    · rw [List.getElem?_set_ne hj] at e1
      rw [List.getElem?_set_ne hj]
      exact this.at_ j t e1
end

/-! ### targets -/
def tgN : Tg → List Nat
  | .nm i => [i]
  | .tp is => is
def gNames : List Nat → TGs
  | [] => gNil
  | i :: is => gCons (gName i) (gNames is)
def tG (K : PySem.W.Frag) (t : Tg) : TG := fun v σ H Q => ∃ φ h env s env', HR K φ h H ∧ ER K φ h H env σ ∧ SR K φ h H v s ∧ asgT t s env = some env' ∧
  ∀ σ', ER K φ h H env' σ' → (∀ own : List Nat, (∀ j ∈ tgN t, j ∈ own) → wipe σ' own = wipe σ own) → Q σ' H
theorem gNames_run {K : PySem.W.Frag} {φ : List Addr} {h : AH} {H : Hp} {Q : L2.St → Hp → Prop} : ∀ {is : List Nat} {vs : List V} {ps : List PV} {env : En} {σ : L2.St}, VRs K (Mt φ h) H vs ps → ps.length = is.length → ER K φ h H env σ →
    (∀ σ', ER K φ h H ((is.zip ps).foldl (fun e ip => e.set ip.1 (some (.v ip.2))) env) σ' → (∀ own : List Nat, (∀ j ∈ is, j ∈ own) → wipe σ' own = wipe σ own) → Q σ' H) → gNames is vs σ H Q
  | [], vs, ps, env, σ, r, hl, E, k => by
    have : ps = [] := List.eq_nil_of_length_eq_zero hl
    subst this
    cases r
    exact ⟨rfl, k σ E fun _ _ => rfl⟩
  | i :: is, vs, ps, env, σ, r, hl, E, k => by
    cases r with
    | nil => cases hl
    | @cons v p vs ps r t =>
      refine ⟨v, vs, rfl, ?_⟩
      show gNames is vs (σ.set i (some v)) H Q
      refine gNames_run t (by simpa using hl) (E.set i (s := .v p) r) fun σ' E' hw => k σ' E' fun own ho => ?_
      rw [hw own fun j hj => ho j (List.mem_cons_of_mem _ hj), wipe_set (ho i List.mem_cons_self)]
section
variable {X : Cx} {C : Calls} {sc : Scope} {N : List Str}
theorem names_ok (S : ScOk sc X) (hN : X.N = N) (nd : N.Nodup) : ∀ {is : List Nat} {es : List Expr}, tgB.go N sc is es = true →
    PGs X es (gNames is) ∧ (assignEach es X.env).length = is.length ∧ (assignEach es X.env).findIdx? (·.1) = none
  | [], [], _ => ⟨pgs_nil, rfl, rfl⟩
  | [], _ :: _, h => by simp [tgB.go] at h
  | _ :: _, [], h => by simp [tgB.go] at h
  | i :: is, e :: es, h => by
    cases e <;> first | (simp [tgB.go] at h; done) | skip
    rename_i x p
    simp only [tgB.go, Bool.and_eq_true, decide_eq_true_eq] at h
    obtain ⟨⟨h1, h2⟩, h3⟩ := h
    obtain ⟨a, b, c⟩ := names_ok S hN nd h3
    obtain ⟨l1, l2⟩ := S.loc x h2
    subst hN
    refine ⟨pgs_cons (pg_name nd h1 l1 l2) a rfl, ?_, ?_⟩
    · show (assignEach es X.env).length + 1 = _
      rw [b]; rfl
    · show List.findIdx? (fun x => x.1) ((false, assign (.Name x p) X.env) :: assignEach es X.env) = none
      rw [List.findIdx?_cons, c]
      rfl
theorem asgT_tp {is : List Nat} {s : SV} {e e' : En} (ev : asgT (.tp is) s e = some e') : ∃ ps, (s = .v (.tup ps) ∨ s = .v (.lst ps)) ∧ ps.length = is.length ∧ e' = (is.zip ps).foldl (fun e ip => e.set ip.1 (some (.v ip.2))) e := by
  cases s with
  | o i => simp [asgT] at ev
  | v p =>
    cases p <;> first | (simp [asgT] at ev; done) | skip
    · rename_i ps
      simp only [asgT] at ev
      split at ev
      · rename_i hl; cases ev; exact ⟨ps, .inl rfl, hl, rfl⟩
      · cases ev
    · rename_i ps
      simp only [asgT] at ev
      split at ev
      · rename_i hl; cases ev; exact ⟨ps, .inr rfl, hl, rfl⟩
      · cases ev
theorem tpB {is : List Nat} {es : List Expr} {k : Nat} {p : Pos} (h : tgB N sc (.tp is) (.Tuple es k p) = true) : tgB.go N sc is es = true := h
theorem l_tg (G : X.calm = true) (S : ScOk sc X) (hN : X.N = N) (nd : N.Nodup) {t : Tg} {e : Expr} (hm : tgB N sc t e = true) : PG X e (tG X.K t) := by
  cases t with
  | nm i =>
    cases e <;> first | (simp [tgB] at hm; done) | skip
    rename_i x p
    simp only [tgB, Bool.and_eq_true, decide_eq_true_eq] at hm
    obtain ⟨l1, l2⟩ := S.loc x hm.2
    subst hN
    refine PG.imp (pg_name nd hm.1 l1 l2) fun v σ H Q ⟨φ, h, env, s, env', R, E, r, ev, k⟩ => ?_
    cases ev
    exact k _ (E.set i r) fun own ho => wipe_set (ho i (by simp [tgN]))
  | tp is =>
    cases e <;> first | (simp [tgB] at hm; done) | skip
    rename_i es kk p
    obtain ⟨a, b, c⟩ := names_ok S hN nd (tpB hm)
    have two : PG X (.Tuple es kk p) (fun v σ H Q => gTup X.K is.length (gNames is) v σ H Q ∨ gUnl X.K is.length (gNames is) v σ H Q) :=
      ⟨fun pins s σ H v u R I r w => w.elim ((pg_tup G a b c).run pins s σ H v u R I r) ((pg_unl G a b c).run pins s σ H v u R I r)⟩
    refine PG.imp two fun v σ H Q ⟨φ, h, env, s, env', R, E, r, ev, k⟩ => ?_
    obtain ⟨ps, hs, hl, rfl⟩ := asgT_tp ev
    rcases hs with rfl | rfl
    · have r : VR X.K (Mt φ h) H v (.tup ps) := r
      cases r with
      | tup ea m hz rr => exact .inl ⟨_, _, rfl, SqT.of ea, by rw [rr.length]; exact hl, gNames_run rr hl E k⟩
    · have r : VR X.K (Mt φ h) H v (.lst ps) := r
      cases r with
      | lst ea m hz rr => exact .inr ⟨_, _, rfl, SqL.of ea, by rw [rr.length]; exact hl, gNames_run rr hl E k⟩
end

/-! ### locking a dict -/
section
variable {K : PySem.W.Frag} {φ : List Addr} {h : AH} {H : Hp}
/-- the same things, another heap -/
theorem HR.swap (R : HR K φ h H) {H' : Hp} (x : Ex1 (Mt φ h) H (Mt φ h) H') (hm : ∀ a o, Mt φ h a → H a = some o → H' a = some o) : HR K φ h H' := by
  refine ⟨R.len, fun i c a e ea => ?_, R.inj⟩
  have q := R.cell i c a e ea
  cases c with
  | lst xs => obtain ⟨vs, q, r, z⟩ := q; exact ⟨vs, hm a _ ⟨i, _, e, rfl, ea⟩ q, r.mono x, z⟩
  | dict xs => obtain ⟨vs, q, r, z⟩ := q; exact ⟨vs, hm a _ ⟨i, _, e, rfl, ea⟩ q, r.mono x, z⟩
  | frz p => obtain ⟨r, m, z⟩ := q; exact ⟨VR.mono x r, m, x.ne a z m⟩
theorem SR.swap {v : V} {s : SV} {H' : Hp} (r : SR K φ h H v s) (x : Ex1 (Mt φ h) H (Mt φ h) H') : SR K φ h H' v s := by
  cases s with
  | v p => exact VR.mono x r
  | o i => exact r
theorem ER.swap {e : En} {σ : L2.St} {H' : Hp} (E : ER K φ h H e σ) (x : Ex1 (Mt φ h) H (Mt φ h) H') : ER K φ h H' e σ :=
  ⟨E.len, fun i s q => let ⟨v, a, b⟩ := E.at_ i s q; ⟨v, a, b.swap x⟩⟩
theorem lock_ex {d : Addr} {od : Obj} {ks : List (Key × V)} (e : H d = some (.dK ks)) : Ex1 (Mt φ h) H (Mt φ h) (upd H d (.frz od (.dK ks))) where
  rdl := fun a xs r m => by
    by_cases ha : a = d
    · subst ha
      rcases r with r | ⟨o, r⟩ <;> rw [e] at r <;> cases r
    · rcases r with r | ⟨o, r⟩
      · exact .inl (by rw [upd_ne ha]; exact r)
      · exact .inr ⟨o, by rw [upd_ne ha]; exact r⟩
  rdk := fun a xs r m => by
    by_cases ha : a = d
    · subst ha
      rcases r with r | ⟨o, r⟩ <;> rw [e] at r <;> cases r
      exact .inr ⟨od, upd_same⟩
    · rcases r with r | ⟨o, r⟩
      · exact .inl (by rw [upd_ne ha]; exact r)
      · exact .inr ⟨o, by rw [upd_ne ha]; exact r⟩
  lst := fun a xs r m => by rw [upd_ne (fun z => by subst z; rw [e] at r; cases r)]; exact r
  tup := fun a xs r => by rw [upd_ne (fun z => by subst z; rw [e] at r; cases r)]; exact r
  ne := fun a r m => by
    by_cases ha : a = d
    · subst ha; rw [upd_same]; simp
    · rw [upd_ne ha]; exact r
  mt := fun a z => .inl z
theorem unlock_ex {d : Addr} {od : Obj} {ks : List (Key × V)} (e : H d = some (.frz od (.dK ks))) : Ex1 (Mt φ h) H (Mt φ h) (upd H d (.dK ks)) where
  rdl := fun a xs r m => by
    by_cases ha : a = d
    · subst ha
      rcases r with r | ⟨o, r⟩ <;> rw [e] at r <;> cases r
    · rcases r with r | ⟨o, r⟩
      · exact .inl (by rw [upd_ne ha]; exact r)
      · exact .inr ⟨o, by rw [upd_ne ha]; exact r⟩
  rdk := fun a xs r m => by
    by_cases ha : a = d
    · subst ha
      rcases r with r | ⟨o, r⟩ <;> rw [e] at r <;> cases r
      exact .inl upd_same
    · rcases r with r | ⟨o, r⟩
      · exact .inl (by rw [upd_ne ha]; exact r)
      · exact .inr ⟨o, by rw [upd_ne ha]; exact r⟩
  lst := fun a xs r m => by rw [upd_ne (fun z => by subst z; rw [e] at r; cases r)]; exact r
  tup := fun a xs r => by rw [upd_ne (fun z => by subst z; rw [e] at r; cases r)]; exact r
  ne := fun a r m => by
    by_cases ha : a = d
    · subst ha; rw [upd_same]; simp
    · rw [upd_ne ha]; exact r
  mt := fun a z => .inl z
/-- from the heap with d locked back to the one with d not -/
theorem unlock_all {φ' : List Addr} {h' : AH} {H' : Hp} {d : Addr} {od : Obj} {ks : List (Key × V)} (ed : H d = some (.dK ks)) (md : ¬ Mt φ h d) (R' : HR K φ' h' H') (X' : Ext φ h (upd H d (.frz od (.dK ks))) φ' h' H') :
    H' d = some (.frz od (.dK ks)) ∧ HR K φ' h' (upd H' d (.dK ks)) ∧ Ext φ h H φ' h' (upd H' d (.dK ks)) ∧ (∀ v s, SR K φ' h' H' v s → SR K φ' h' (upd H' d (.dK ks)) v s) ∧ ∀ e σ, ER K φ' h' H' e σ → ER K φ' h' (upd H' d (.dK ks)) e σ := by
  have e1 : H' d = some (.frz od (.dK ks)) := X'.2.2 d _ upd_same md
  have md' : ¬ Mt φ' h' d := fun z => (X'.1.mt d z).elim md fun n => by rw [upd_same] at n; cases n
  have ux := unlock_ex (φ := φ') (h := h') e1
  refine ⟨e1, R'.swap ux fun a o m q => ?_, ⟨?_, X'.2.1, fun a o q m => ?_⟩, fun v s r => r.swap ux, fun e σ E => E.swap ux⟩
  · rw [upd_ne (fun z => by subst z; exact md' m)]; exact q
  · exact ((lock_ex (φ := φ) (h := h) (od := od) ed).trans X'.1).trans ux
  · by_cases ha : a = d
    · subst ha; rw [ed] at q; cases q; exact upd_same
    · rw [upd_ne ha]
      exact X'.2.2 a o (by rw [upd_ne ha]; exact q) m
end
end Ev

set_option Elab.async false
set_option linter.all false
set_option maxRecDepth 100000
namespace Ev
open PySem PySem.Spec PyProof.Rows L2

section
variable {X : Cx} {C : Calls}
theorem wipe_tgs {own : List Nat} : ∀ {σ : L2.St}, wipe (wipe σ own) own = wipe σ own := fun {σ} => wipe_idem own own fun _ h => h
theorem rdVar_idem {z : Bool} {h h0 : AH} {s t : SV} (e : rdVar z h s = some (t, h0)) : rdVar z h0 s = some (t, h0) := by
  cases s with
  | v p => cases e; rfl
  | o j =>
    simp only [rdVar] at e
    split at e
    · rename_i p hc; cases e; simp only [rdVar, hc]
    · rename_i xs hc
      split at e
      · cases e
        simp only [rdVar, List.getElem?_set_self (List.getElem?_eq_some_iff.mp hc).1]
      · rename_i hz; cases e; simp only [rdVar, hc, hz]; rfl
    · rename_i xs hc
      split at e
      · cases e
        simp only [rdVar, List.getElem?_set_self (List.getElem?_eq_some_iff.mp hc).1]
      · rename_i hz; cases e; simp only [rdVar, hc, hz]; rfl
    · cases e
/-- the turns of a comprehension -/
def turnE (C : Calls) (elt : Ex) (own : List Nat) (tg : Tg) (ifs : Ts) (e : En) (x : PV) (h : AH) : Option (Option PV × AH) :=
  match asgT tg (.v x) (wipeE e own) with
  | none => none
  | some e2 => match evT C ifs e2 h with
    | none => none
    | some (false, h2) => some (none, h2)
    | some (true, h2) => match evE C elt e2 h2 with
      | some (.v y, h3) => some (some y, h3)
      | _ => none
theorem comp_inv {m : Bool} {elt : Ex} {own : List Nat} {tg : Tg} {it : Itr} {ifs : Ts} {e : En} {h h' : AH} {sv : SV} (ev : evE C (.comp m elt own tg it ifs) e h = some (sv, h')) :
    ∃ xs g h1 h2, evI C it e h = some (xs, g, h1) ∧ loopC (turnE C elt own tg ifs e) (guardOk xs g) h1.length xs (h1 ++ [.lst []]) = some h2 ∧ finL m h1.length h2 = some (sv, h') := by
  simp only [evE] at ev
  split at ev
  · cases ev
  · rename_i xs g h1 hI
    split at ev
    · cases ev
    · rename_i h2 hl
      exact ⟨xs, g, h1, h2, hI, hl, ev⟩
theorem turn_inv {elt : Ex} {own : List Nat} {tg : Tg} {ifs : Ts} {e : En} {x : PV} {h h' : AH} {r : Option PV} (ev : turnE C elt own tg ifs e x h = some (r, h')) :
    ∃ e2, asgT tg (.v x) (wipeE e own) = some e2 ∧ ((r = none ∧ evT C ifs e2 h = some (false, h')) ∨ ∃ y h2, r = some y ∧ evT C ifs e2 h = some (true, h2) ∧ evE C elt e2 h2 = some (.v y, h')) := by
  unfold turnE at ev
  split at ev
  · cases ev
  · rename_i e2 ha
    refine ⟨e2, ha, ?_⟩
    split at ev
    · cases ev
    · rename_i h2 ht; cases ev; exact .inl ⟨rfl, ht⟩
    · rename_i h2 ht
      split at ev
      · rename_i y h3 he; cases ev; exact .inr ⟨y, h2, rfl, ht, he⟩
      · cases ev
theorem cell_j {φ φ2 : List Addr} {h h2 : AH} {H H2 : Hp} {j : Nat} {D : Addr} (x : Ext φ h H φ2 h2 H2) (e : φ[j]? = some D) : φ2[j]? = some D := by
  obtain ⟨_, ⟨t, rfl⟩, _⟩ := x
  rw [List.getElem?_append_left (List.getElem?_eq_some_iff.mp e).1]; exact e
theorem comp_fin {K : PySem.W.Frag} {φ φ2 : List Addr} {h h1 h2 h' : AH} {H H2 : Hp} {m : Bool} {D : Addr} {sv : SV} {Q : VK} (R2 : HR K φ2 h2 H2) (X2 : Ext φ h H φ2 h2 H2) (hl : φ.length ≤ h1.length) (ej : φ2[h1.length]? = some D) (ev : finL m h1.length h2 = some (sv, h')) (k : Kont K φ h H h' sv Q) : Q (.ref D) H2 := by
  unfold finL at ev
  split at ev
  · rename_i ys hc
    obtain ⟨ws, q, r, z⟩ := R2.cell _ _ D hc ej
    cases m with
    | true =>
      rw [if_pos rfl] at ev
      cases ev
      refine k _ H2 _ (R2.take (h1.length + 1)) (X2.take (by omega)) ⟨D, rfl, ?_⟩
      rw [List.getElem?_take, if_pos (by omega)]
      exact ej
    | false =>
      rw [if_neg Bool.false_ne_true] at ev
      cases ev
      refine k _ H2 _ (R2.take h1.length) (X2.take hl) (.lst q ?_ z ?_)
      · rintro ⟨i, c, e1, m1, a1⟩
        rw [List.getElem?_take] at e1 a1
        split at e1
        · rename_i hi
          rw [if_pos hi] at a1
          have := R2.inj i h1.length c _ D e1 hc m1 rfl a1 ej
          omega
        · cases e1
      · exact r.mono ⟨fun _ _ q _ => q, fun _ _ q _ => q, fun _ _ q _ => q, fun _ _ q => q, fun _ q _ => q, fun _ z => .inl (Mt.take z)⟩
  · cases ev
theorem comp_sound {K : PySem.W.Frag} {m : Bool} {elt : Ex} {own : List Nat} {tg : Tg} {it : Itr} {ifs : Ts} {σ : L2.St} {H : Hp} {Q : VK} (ho : ∀ j ∈ tgN tg, j ∈ own) (w : tE K C (.comp m elt own tg it ifs) σ H Q) (lk : Lkd it σ H) :
    tLc (tI K C it) (tG K tg) (tT K C ifs) (tE K C elt) own σ H Q := by
  obtain ⟨φ, h, env, sv, h', R, E, ev, k⟩ := w
  obtain ⟨xs, g, h1, h2, hI, hL, hF⟩ := comp_inv ev
  refine ⟨φ, h, env, xs, g, h1, R, E, hI, lk, fun J H1 φ1 R1 X1 its D nD => ?_⟩
  have xp := Ext.push R1 nD (.lst []) (.lst [])
  have Rp := R1.push nD (.lst []) (.lst []) ⟨[], upd_same, .nil, Nat.zero_le _⟩
  have ejp : (φ1 ++ [D])[h1.length]? = some D := by
    rw [List.getElem?_append_right (by rw [R1.len]; exact Nat.le_refl _), R1.len, Nat.sub_self]; rfl
  let W : Nat → Nat → Hp → Prop := fun i mm Hc => mm = xs.length - i ∧ i ≤ xs.length ∧ ∃ φc hc, HR K φc hc Hc ∧ Ext φ1 h1 H1 φc hc Hc ∧ φc[h1.length]? = some D ∧ loopC (turnE C elt own tg ifs env) (guardOk xs g) h1.length (xs.drop i) hc = some h2
  refine ⟨W, ⟨xs.length, by simp, Nat.zero_le _, _, _, Rp, xp, ejp, by rw [List.drop_zero]; exact hL⟩, ?_⟩
  rintro i mm Hc ⟨rfl, hi, φc, hc, Rc, Xc, ej, hLc⟩
  have hl1 : φ.length ≤ h1.length := by
    obtain ⟨_, ⟨t, ht⟩, _⟩ := X1
    rw [← R1.len, ht, List.length_append]; omega
  by_cases hlt : i < xs.length
  · right
    rw [List.drop_eq_getElem_cons hlt] at hLc
    simp only [loopC] at hLc
    split at hLc
    · rename_i hok
      obtain ⟨it1, it2⟩ := its φc hc Hc Rc Xc hok
      obtain ⟨go, yl⟩ := it1 i xs[i] (List.getElem?_eq_getElem hlt)
      refine ⟨go, fun H' => W (i + 1) (xs.length - (i + 1)) H', fun H' w => ⟨xs.length - (i + 1), by omega, w⟩, fun x H3 y => ?_⟩
      obtain ⟨R3, X3, r3⟩ := yl x H3 y
      split at hLc
      · cases hLc
      · rename_i h4 hturn
        obtain ⟨e2, ha, hb⟩ := turn_inv hturn
        rcases hb with ⟨_, ht⟩ | ⟨y, h5, hy, _⟩
        · refine ⟨φc, hc, _, .v _, e2, R3, (E.mono (X1.trans (Xc.trans X3))).wipe own, r3, ha, fun σ2 E2 hw => ⟨(hw own ho).trans wipe_tgs, φc, hc, e2, false, h4, R3, E2, ht, fun H4 φ4 R4 X4 => ?_⟩⟩
          refine iteF (A := tE K C elt σ2 H4 _) (B := W (i + 1) (xs.length - (i + 1)) H4) ?_
          exact ⟨rfl, hlt, φ4, h4, R4, Xc.trans (X3.trans X4), cell_j (X3.trans X4) ej, hLc⟩
        · cases hy
      · rename_i yv h4 hturn
        obtain ⟨e2, ha, hb⟩ := turn_inv hturn
        rcases hb with ⟨hy, _⟩ | ⟨y, h5, hy, ht, he⟩
        · cases hy
        · cases hy
          split at hLc
          · rename_i acc hacc
            split at hLc
            · rename_i hsz
              refine ⟨φc, hc, _, .v _, e2, R3, (E.mono (X1.trans (Xc.trans X3))).wipe own, r3, ha, fun σ2 E2 hw => ⟨(hw own ho).trans wipe_tgs, φc, hc, e2, true, h5, R3, E2, ht, fun H4 φ4 R4 X4 => ?_⟩⟩
              refine iteT (A := tE K C elt σ2 H4 _) (B := W (i + 1) (xs.length - (i + 1)) H4) ?_
              refine ⟨φ4, h5, e2, .v yv, h4, R4, E2.mono X4, he, fun v H5 φ5 R5 X5 s5 => ?_⟩
              have ej5 := cell_j (X3.trans (X4.trans X5)) ej
              obtain ⟨ws, q, r, z⟩ := R5.cell _ _ D hacc ej5
              have xx := Ext.put (d := .lst (acc ++ [yv])) (o := .lst (ws ++ [v])) R5 hacc rfl ej5
              have rr := (r.append (.cons s5 .nil)).mono xx.1
              refine ⟨ws, q, by rw [r.length]; exact hsz, rfl, hlt, φ5, _, R5.put (d := .lst (acc ++ [yv])) (o := .lst (ws ++ [v])) hacc rfl ej5 ⟨ws ++ [v], upd_same, rr, by rw [List.length_append]; exact hsz⟩, Xc.trans (X3.trans (X4.trans (X5.trans xx))), ej5, hLc⟩
            · cases hLc
          · cases hLc
    · cases hLc
  · left
    have e : i = xs.length := by omega
    subst e
    rw [List.drop_length] at hLc
    simp only [loopC] at hLc
    split at hLc
    · rename_i hok
      cases hLc
      exact ⟨(its φc _ Hc Rc Xc hok).2, comp_fin Rc (X1.trans Xc) hl1 ej hF k⟩
    · cases hLc
/-- a dict that is walked is not locked yet -/
theorem walk_dict {K : PySem.W.Frag} {i : Nat} {z : Bool} {σ : L2.St} {H : Hp} {φ : List Addr} {h : AH} {env : En} {xs : List PV} {g : Option Nat} {h1 : AH} {d : Addr} {ks : List (Key × V)} (R : HR K φ h H) (E : ER K φ h H env σ) (ev : evI C (.var i z) env h = some (xs, g, h1)) (e1 : σ[i]? = some (some (.ref d))) (e2 : H d = some (.dK ks)) :
    HR K φ h1 H ∧ Ext φ h H φ h1 H ∧ ¬ Mt φ h1 d ∧ evI C (.var i z) env h1 = some (xs, g, h1) := by
  simp only [evI] at ev
  split at ev
  · rename_i s hs
    split at ev
    · rename_i t h0 hr
      obtain ⟨v, e3, R1, X1, s1⟩ := var_core R E hs hr
      rw [e1] at e3
      cases e3
      cases t with
      | v p =>
        simp only [walkOf, Bool.true_or, if_true, Option.map_eq_some_iff] at ev
        obtain ⟨ys, e4, e5⟩ := ev
        cases e5
        refine ⟨R1, X1, ?_, ?_⟩
        · have s1 : VR K (Mt φ h1) H (.ref d) p := s1
          cases s1 with
          | tup ea m hz r => exact m
          | lst ea m hz r => exact m
          | frl ea hz r => cases e4
          | dict ea m hz r => exact m
        · simp only [evI, hs, rdVar_idem hr, walkOf, Bool.true_or, if_true, e4, Option.map_some]
      | o j =>
        simp only [walkOf] at ev
        split at ev
        · rename_i ys hc
          cases ev
          obtain ⟨a, ea, eb⟩ := s1
          cases ea
          obtain ⟨vs, q, _⟩ := R1.cell j _ _ hc eb
          rw [e2] at q
          cases q
        · cases ev
    · cases ev
  · cases ev
theorem lock_hr {K : PySem.W.Frag} {φ : List Addr} {h : AH} {H : Hp} {d : Addr} {ks : List (Key × V)} {od : Obj} (R : HR K φ h H) (ed : H d = some (.dK ks)) (md : ¬ Mt φ h d) : HR K φ h (upd H d (.frz od (.dK ks))) :=
  R.swap (lock_ex ed) fun a o m q => by rw [upd_ne (fun z => by subst z; exact md m)]; exact q
theorem comp_lock {K : PySem.W.Frag} {m : Bool} {elt : Ex} {own : List Nat} {tg : Tg} {it : Itr} {ifs : Ts} {σ : L2.St} {H : Hp} {Q : VK} (ho : ∀ j ∈ tgN tg, j ∈ own) (w : tE K C (.comp m elt own tg it ifs) σ H Q) (lk : ¬ Lkd it σ H) :
    ∃ d ks, H d = some (.dK ks) ∧ ∀ od, tLc (tI K C it) (tG K tg) (tT K C ifs) (tE K C elt) own σ (upd H d (.frz od (.dK ks))) fun v H' => H' d = some (.frz od (.dK ks)) ∧ Q v (upd H' d (.dK ks)) := by
  cases it <;> first | exact absurd True.intro lk | skip
  rename_i i z
  simp only [Lkd, Classical.not_forall, Classical.not_not] at lk
  obtain ⟨d, ks, e1, e2⟩ := lk
  obtain ⟨φ, h, env, sv, h', R, E, ev, k⟩ := w
  obtain ⟨xs, g, h1, h2, hI, hL, hF⟩ := comp_inv ev
  obtain ⟨R1, X1, md, hI2⟩ := walk_dict R E hI e1 e2
  refine ⟨d, ks, e2, fun od => comp_sound (m := m) ho ⟨φ, h1, env, sv, h', lock_hr R1 e2 md, (E.mono X1).swap (lock_ex e2), ?_, ?_⟩ ?_⟩
  · simp only [evE, hI] at ev
    simp only [evE, hI2]
    exact ev
  · intro v H' φ' R' X' s'
    obtain ⟨a1, a2, a3, a4, a5⟩ := unlock_all e2 md R' X'
    exact ⟨a1, k v _ φ' a2 (X1.trans a3) (a4 v sv s')⟩
  · intro d' ks' e3 e4
    rw [e1] at e3
    cases e3
    rw [upd_same] at e4
    cases e4
theorem l_comp {m : Bool} {elt : Ex} {own : List Nat} {tg : Tg} {it : Itr} {ifs : Ts} {el t i : Expr} {fs : List Expr} {sc2 : Scope} {pos : Pos} {ow : List (Str × Nat)} (hc : X.calm = true) (nd : X.N.Nodup) (eo : ow.map (·.2) = own) (ho : ∀ j ∈ tgN tg, j ∈ own) (hi : PI X t i (tI X.K C it)) (ok : BlkOk X.N X.env.scope sc2 ow)
    (hg : ∀ (s : Shared) (H : Hp) (D : Addr) (cl : List (Str × Addr)) (fp : List Addr), PG (X.blk s H sc2 (compEnvC sc2 cl D X.env) fp) t (tG X.K tg)) (ht : ∀ (s : Shared) (H : Hp) (D : Addr) (cl : List (Str × Addr)) (fp : List Addr), PTs (X.blk s H sc2 (compEnvC sc2 cl D X.env) fp) fs (tT X.K C ifs))
    (he : ∀ (s : Shared) (H : Hp) (D : Addr) (cl : List (Str × Addr)) (fp : List Addr), PE (X.blk s H sc2 (compEnvC sc2 cl D X.env) fp) el (tE X.K C elt)) (hp : plainX i = true) : PE X (.ListComp el [⟨t, i, fs, 0⟩] sc2 pos) (tE X.K C (.comp m elt own tg it ifs)) := by
  have rule := pe_lc (pos := pos) hc nd hi ok hg ht he (plain_fold hp)
  rw [eo] at rule
  refine PE.imp (PE.or rule (pe_lock rule)) fun σ H Q w => ?_
  by_cases lk : Lkd it σ H
  · exact .inl (comp_sound ho w lk)
  · obtain ⟨d, ks, e, f⟩ := comp_lock ho w lk
    exact .inr ⟨d, _, e, True.intro, f⟩

/-! ### displays of dicts -/
def prsT (K : PySem.W.Frag) (C : Calls) : Prs → List (TE × TE)
  | .nil => []
  | .cons k v r => (tE K C k, tE K C v) :: prsT K C r
def PRs (K : PySem.W.Frag) (M : Addr → Prop) (H : Hp) : List (V × V) → List (PV × PV) → Prop := Paired fun p q => VR K M H p.1 q.1 ∧ VR K M H p.2 q.2
theorem PRs.mono {K : PySem.W.Frag} {M M' : Addr → Prop} {H H' : Hp} (x : Ex1 M H M' H') : ∀ {ps : List (V × V)} {qs : List (PV × PV)}, PRs K M H ps qs → PRs K M' H' ps qs
  | _, _, .nil => .nil
  | _, _, .cons r t => .cons ⟨r.1.mono x, r.2.mono x⟩ (PRs.mono x t)
theorem pairs_run {K : PySem.W.Frag} {env : En} {σ : L2.St} : ∀ {ks : Prs} {φ : List Addr} {h h' : AH} {H : Hp} {kvs : List (PV × PV)} {Q : List (V × V) → Hp → Prop}, HR K φ h H → ER K φ h H env σ → evD C ks env h = some (kvs, h') →
    (∀ ps H' φ', HR K φ' h' H' → Ext φ h H φ' h' H' → PRs K (Mt φ' h') H' ps kvs → Q ps H') → tPairs (prsT K C ks) σ H Q
  | .nil, φ, h, h', H, kvs, Q, R, E, ev, k => by
    simp only [evD] at ev
    cases ev
    exact k [] H φ R Ext.refl .nil
  | .cons a b r, φ, h, h', H, kvs, Q, R, E, ev, k => by
    simp only [evD] at ev
    split at ev
    · rename_i p h0 hp
      split at ev
      · rename_i x h1 hx
        split at ev
        · cases ev
        · rename_i ys h2 hr
          cases ev
          exact ⟨φ, h, env, _, _, R, E, hp, fun v1 H1 φ1 R1 X1 s1 => ⟨φ1, h0, env, _, _, R1, E.mono X1, hx, fun v2 H2 φ2 R2 X2 s2 => pairs_run R2 (E.mono (X1.trans X2)) hr fun ps H3 φ3 R3 X3 rs =>
            k _ H3 φ3 R3 (X1.trans (X2.trans X3)) (.cons ⟨VR.mono (X2.trans X3).1 s1, VR.mono X3.1 s2⟩ rs)⟩⟩
      · cases ev
    · cases ev
theorem PRs.keys {K : PySem.W.Frag} {M : Addr → Prop} {H : Hp} : ∀ {ps : List (V × V)} {kvs : List (PV × PV)}, PRs K M H ps kvs → (kvs.all fun kv => isKey kv.1) = true → ∃ ks : List (Key × V), ps = ks.map (fun kv => (kV kv.1, kv.2)) ∧ KRs K M H ks kvs
  | _, _, .nil, _ => ⟨[], rfl, .nil⟩
  | _, _, .cons (a := a) (b := b) r t, h => by
    rw [List.all_cons, Bool.and_eq_true] at h
    obtain ⟨ks, rfl, q⟩ := PRs.keys t h.2
    obtain ⟨a1, a2⟩ := a
    obtain ⟨b1, b2⟩ := b
    have e := kV_keyV h.1 r.1
    have e : a1 = kV (keyV b1) := e
    subst e
    exact ⟨(keyV b1, a2) :: ks, rfl, .cons rfl r.1 h.1 rfl r.2 q⟩
theorem l_dnil {m : Bool} {pos : Pos} : PE X (.Dict [] [] pos) (tE X.K C (.dict m .nil)) := by
  refine PE.imp pe_dnewK fun σ H Q ⟨φ, h, env, sv, h', R, E, ev, k⟩ => ?_
  simp only [evE] at ev
  exact new_dicM R .nil (Nat.zero_le _) ev k
theorem l_dict {m : Bool} {a b : Ex} {r : Prs} {keys : List (Option Expr)} {values : List Expr} {pos : Pos} (h : PPs X pos keys values (prsT X.K C (.cons a b r))) (hall : keys.all (·.isSome) = true) (hl : keys.length = values.length) (h0 : keys ≠ [])
    (h15 : keys.length ≤ 15) : PE X (.Dict keys values pos) (tE X.K C (.dict m (.cons a b r))) := by
  refine PE.imp (pe_disp h hall hl h0 h15) fun σ H Q ⟨φ, h, env, sv, h', R, E, ev, k⟩ => ?_
  simp only [evE] at ev
  split at ev
  · cases ev
  · rename_i kvs h1 hD
    split at ev
    · rename_i hk
      rw [Bool.and_eq_true, decide_eq_true_eq] at hk
      intro p n
      have xp := Ext.push R n (.dK []) (.dict [])
      have Rp := R.push n (.dK []) (.dict []) ⟨[], upd_same, .nil, Nat.zero_le _⟩
      have ejp : (φ ++ [p])[h.length]? = some p := by
        rw [List.getElem?_append_right (by rw [R.len]; exact Nat.le_refl _), R.len, Nat.sub_self]; rfl
      refine pairs_run Rp (E.mono xp) hD fun ps H2 φ2 R2 X2 rs => ?_
      obtain ⟨ks, rfl, rk⟩ := rs.keys hk.1
      have ej := cell_j X2 ejp
      unfold finD at ev
      split at ev
      · rename_i hc
        obtain ⟨ks0, q, r0, _⟩ := R2.cell _ _ p hc ej
        cases r0
        refine ⟨q, ks, rfl, by rw [rk.length]; exact hk.2, ?_⟩
        have rm := merge_krs (H := H2) rk (.nil (K := X.K) (M := Mt φ2 h1) (H := H2))
        have lm : (mergeP [] kvs).length ≤ SZ := by
          have h1 := mergeP_len kvs []
          rw [List.length_nil] at h1
          have : SZ = 16777216 := rfl
          omega
        have xx := Ext.put (d := .dict (mergeP [] kvs)) (o := .dK (mergeK [] ks)) R2 hc rfl ej
        have R3 := R2.put (d := .dict (mergeP [] kvs)) hc rfl ej ⟨_, upd_same, rm.mono xx.1, lm⟩
        have X3 := xp.trans (X2.trans xx)
        cases m with
        | true =>
          rw [if_pos rfl] at ev
          cases ev
          refine k _ _ _ (R3.take (h.length + 1)) (X3.take (by have := R.len; omega)) ⟨p, rfl, ?_⟩
          rw [List.getElem?_take, if_pos (by omega)]
          exact ej
        | false =>
          rw [if_neg Bool.false_ne_true] at ev
          cases ev
          have tk : (h1.set h.length (.dict (mergeP [] kvs))).take h.length = h1.take h.length := by
            rw [List.take_set, List.set_eq_of_length_le]
            rw [List.length_take]; omega
          have R4 := R3.take h.length
          have X4 := X3.take (n := h.length) (by have := R.len; omega)
          have m0 : ¬ Mt (φ2.take h.length) ((h1.set h.length (.dict (mergeP [] kvs))).take h.length) p := by
            rintro ⟨i, c, e1, m1, a1⟩
            rw [List.getElem?_take] at e1 a1
            split at e1
            · rename_i hi
              rw [if_pos hi] at a1
              have hlen : h.length < (h1.set h.length (.dict (mergeP [] kvs))).length := by
                rw [List.length_set]; exact (List.getElem?_eq_some_iff.mp hc).1
              have := R3.inj i h.length c (.dict (mergeP [] kvs)) p e1 (by rw [List.getElem?_set_self (by rw [List.length_set] at hlen; exact hlen)]) m1 rfl a1 ej
              omega
            · cases e1
          have rv : VR X.K (Mt (φ2.take h.length) ((h1.set h.length (.dict (mergeP [] kvs))).take h.length)) (upd H2 p (.dK (mergeK [] ks))) (.ref p) (.dict (mergeP [] kvs)) :=
            .dict (.inl upd_same) m0 lm ((rm.mono xx.1).mono ⟨fun _ _ q _ => q, fun _ _ q _ => q, fun _ _ q _ => q, fun _ _ q => q, fun _ q _ => q, fun _ z => .inl (Mt.take z)⟩)
          rw [tk] at R4 X4 rv
          exact k _ _ _ R4 X4 rv
      · cases ev
    · cases ev
end
end Ev

set_option Elab.async false
set_option linter.all false
set_option maxRecDepth 100000
namespace Ev
open PySem PySem.Spec PyProof.Rows L2

section
variable {X : Cx} {C : Calls}
/-- where a statement ends -/
def KF (K : PySem.W.Frag) (φ : List Addr) (h : AH) (H : Hp) (D : Ends) : Fl → Prop
  | .nx e h' => ∀ σ' H' φ', HR K φ' h' H' → Ext φ h H φ' h' H' → ER K φ' h' H' e σ' → D.nx σ' H'
  | .rt sv h' => Kont K φ h H h' sv D.rt
  | .bk e h' => ∀ σ' H' φ', HR K φ' h' H' → Ext φ h H φ' h' H' → ER K φ' h' H' e σ' → D.bk σ' H'
  | .ct e h' => ∀ σ' H' φ', HR K φ' h' H' → Ext φ h H φ' h' H' → ER K φ' h' H' e σ' → D.ct σ' H'
theorem KF.keep {K : PySem.W.Frag} {φ φ2 : List Addr} {h h2 : AH} {H H2 : Hp} {D : Ends} {f : Fl} (k : KF K φ h H D f) (x : Ext φ h H φ2 h2 H2) : KF K φ2 h2 H2 D f := by
  cases f with
  | nx e h' => exact fun σ' H' φ' R X' E => k σ' H' φ' R (x.trans X') E
  | rt v h' => exact Kont.keep k x
  | bk e h' => exact fun σ' H' φ' R X' E => k σ' H' φ' R (x.trans X') E
  | ct e h' => exact fun σ' H' φ' R X' E => k σ' H' φ' R (x.trans X') E
def tS (K : PySem.W.Frag) (C : Calls) (st : Stm) : TS := fun D σ H => ∃ φ h env fl, HR K φ h H ∧ ER K φ h H env σ ∧ evS C st env h = some fl ∧ KF K φ h H D fl
def tSs (K : PySem.W.Frag) (C : Calls) (st : Sts) : TS := fun D σ H => ∃ φ h env fl, HR K φ h H ∧ ER K φ h H env σ ∧ evSs C st env h = some fl ∧ KF K φ h H D fl

/-! ### rows of statements -/
theorem l_snil : PSs X [] (tSs X.K C .nil) := PSs.imp pss_nil fun D σ H ⟨φ, h, env, fl, R, E, ev, k⟩ => by
  simp only [evSs] at ev
  cases ev
  exact k σ H φ R Ext.refl E
theorem l_scons {s : Stm} {ss : Sts} {st : Stmt} {rest : List Stmt} (hs : PS X st (tS X.K C s)) (hr : PSs X rest (tSs X.K C ss)) : PSs X (st :: rest) (tSs X.K C (.cons s ss)) := PSs.imp (pss_cons hs hr) fun D σ H ⟨φ, h, env, fl, R, E, ev, k⟩ => by
  simp only [evSs] at ev
  split at ev
  · cases ev
  · rename_i e' h' he
    exact ⟨φ, h, env, _, R, E, he, fun σ' H' φ' R' X' E' => ⟨φ', h', e', fl, R', E', ev, k.keep X'⟩⟩
  · rename_i f hn he
    cases ev
    refine ⟨φ, h, env, _, R, E, he, ?_⟩
    cases fl with
    | nx e h' => exact absurd rfl (hn _ _)
    | rt v h' => exact k
    | bk e h' => exact k
    | ct e h' => exact k

/-! ### small statements -/
def notComp : Expr → Bool
  | .ListComp .. => false
  | .SetComp .. => false
  | .DictComp .. => false
  | _ => true
theorem sw_not {e : Expr} {t : Option Expr} {l : Nat} {env : Env} (h : notComp e = true) : swapsWith e t l env = pure false := by
  cases e <;> first | rfl | cases h
theorem sw_sub {e a b : Expr} {p : Pos} {l : Nat} {env : Env} : swapsWith e (some (.Subscript a b p)) l env = pure false := by
  cases e <;> rfl
theorem sw_tup {e : Expr} {es : List Expr} {k : Nat} {p : Pos} {l : Nat} {env : Env} : swapsWith e (some (.Tuple es k p)) l env = pure false := by
  cases e <;> rfl
theorem sws_tup {e : Expr} {es : List Expr} {k : Nat} {p : Pos} {l : Nat} {env : Env} : swapsWithSole [.Tuple es k p] e l env = pure false := by cases e <;> rfl
theorem sws_sub {e a b : Expr} {p : Pos} {l : Nat} {env : Env} : swapsWithSole [.Subscript a b p] e l env = pure false := by cases e <;> rfl
def notTup : Expr → Bool
  | .Tuple .. => false
  | _ => true
theorem ss_not {es : List Expr} {k : Nat} {p : Pos} {e : Expr} {env : Env} (h : notTup e = true) : swappedStores [.Tuple es k p] e env = pure none := by
  cases e <;> first | rfl | cases h
theorem l_expr {a : Ex} {e : Expr} {pos : Pos} (ha : PE X e (tE X.K C a)) (hn : notComp e = true) : PS X (.Expr e pos) (tS X.K C (.expr a)) := PS.imp (ps_expr ha (sw_not hn)) fun D σ H ⟨φ, h, env, fl, R, E, ev, k⟩ => by
  simp only [evS, Option.map_eq_some_iff] at ev
  obtain ⟨⟨v, h'⟩, e1, rfl⟩ := ev
  exact ⟨φ, h, env, v, h', R, E, e1, fun v1 H1 φ1 R1 X1 s1 => k σ H1 φ1 R1 X1 (E.mono X1)⟩
theorem l_ret {a : Ex} {e : Expr} {pos : Pos} (ha : PE X e (tE X.K C a)) : PS X (.Return (some e) pos) (tS X.K C (.ret a)) := PS.imp (ps_ret ha) fun D σ H ⟨φ, h, env, fl, R, E, ev, k⟩ => by
  simp only [evS, Option.map_eq_some_iff] at ev
  obtain ⟨⟨v, h'⟩, e1, rfl⟩ := ev
  exact ⟨φ, h, env, v, h', R, E, e1, k⟩
theorem l_brk {pos : Pos} : PS X (.Break pos) (tS X.K C .brk) := PS.imp ps_break fun D σ H ⟨φ, h, env, fl, R, E, ev, k⟩ => by
  simp only [evS] at ev
  cases ev
  exact k σ H φ R Ext.refl E
theorem l_cont {pos : Pos} : PS X (.Continue pos) (tS X.K C .cont) := PS.imp ps_continue fun D σ H ⟨φ, h, env, fl, R, E, ev, k⟩ => by
  simp only [evS] at ev
  cases ev
  exact k σ H φ R Ext.refl E
theorem l_pass {pos : Pos} : PS X (.Pass pos) (tS X.K C .pass) := PS.imp ps_pass fun D σ H ⟨φ, h, env, fl, R, E, ev, k⟩ => by
  simp only [evS] at ev
  cases ev
  exact k σ H φ R Ext.refl E
theorem l_if {c : Ts} {a b : Sts} {t : Expr} {x y : List Stmt} {pos : Pos} (hc : PT X t (tT X.K C c)) (ha : PSs X x (tSs X.K C a)) (hb : PSs X y (tSs X.K C b)) : PS X (.If t x y pos) (tS X.K C (.ifs c a b)) := PS.imp (ps_if hc ha hb) fun D σ H ⟨φ, h, env, fl, R, E, ev, k⟩ => by
  simp only [evS] at ev
  split at ev
  · cases ev
  · rename_i h1 hx
    refine ⟨φ, h, env, _, _, R, E, hx, fun H1 φ1 R1 X1 => ?_⟩
    exact iteT (A := tSs X.K C a D σ H1) (B := tSs X.K C b D σ H1) ⟨φ1, h1, env, fl, R1, E.mono X1, ev, k.keep X1⟩
  · rename_i h1 hx
    refine ⟨φ, h, env, _, _, R, E, hx, fun H1 φ1 R1 X1 => ?_⟩
    exact iteF (A := tSs X.K C a D σ H1) (B := tSs X.K C b D σ H1) ⟨φ1, h1, env, fl, R1, E.mono X1, ev, k.keep X1⟩

/-! ### a name is set -/
theorem asg_nm {i : Nat} {a : Ex} {D : Ends} {σ : L2.St} {H : Hp} {K : PySem.W.Frag} (w : tS K C (.asg (.nm i) a) D σ H) : tE K C a σ H fun x H1 => D.nx (σ.set i (some x)) H1 := by
  obtain ⟨φ, h, env, fl, R, E, ev, k⟩ := w
  simp only [evS] at ev
  split at ev
  · cases ev
  · rename_i x h1 hx
    simp only [asgT, Option.map_some] at ev
    cases ev
    exact ⟨φ, h, env, x, h1, R, E, hx, fun v1 H1 φ1 R1 X1 s1 => k _ H1 φ1 R1 X1 ((E.mono X1).set i s1)⟩
theorem l_set {i : Nat} {a : Ex} {e : Expr} {x : Str} {p pos : Pos} (nd : X.N.Nodup) (hi : X.N[i]? = some x) (hx : Loc X.env.scope x) (hf : X.fn x = true ∨ X.env.scope.names.lookup x = some .local) (ha : PE X e (tE X.K C a)) (hs : swapsWith e (some (.Name x p)) pos.line X.env = pure false) :
    PS X (.Assign [.Name x p] e pos) (tS X.K C (.asg (.nm i) a)) := PS.imp (ps_set nd hi hx ha hs hf) fun D σ H w => asg_nm w
/-- name = [..], the name a local: the list is stored ahead of the block's end -/
theorem l_setc {n : Nat} {m : Bool} {elt : Ex} {own : List Nat} {tg : Tg} {it : Itr} {ifs : Ts} {el t i : Expr} {fs : List Expr} {sc2 : Scope} {y : Str} {py pos spos : Pos} {ow : List (Str × Nat)} (hc : X.calm = true) (nd : X.N.Nodup) (hy : X.N[n]? = some y) (hyl : X.env.scope.names.lookup y = some .local) (hsw : swapsWith (.ListComp el [⟨t, i, fs, 0⟩] sc2 pos) (some (.Name y py)) spos.line X.env = pure true)
    (eo : ow.map (·.2) = own) (ho : ∀ j ∈ tgN tg, j ∈ own) (hi : PI X t i (tI X.K C it)) (ok : BlkOk X.N X.env.scope sc2 ow)
    (hg : ∀ (s : Shared) (H : Hp) (D : Addr) (cl : List (Str × Addr)) (fp : List Addr), PG (X.blk s H sc2 (compEnvC sc2 cl D X.env) fp) t (tG X.K tg)) (ht : ∀ (s : Shared) (H : Hp) (D : Addr) (cl : List (Str × Addr)) (fp : List Addr), PTs (X.blk s H sc2 (compEnvC sc2 cl D X.env) fp) fs (tT X.K C ifs))
    (he : ∀ (s : Shared) (H : Hp) (D : Addr) (cl : List (Str × Addr)) (fp : List Addr), PE (X.blk s H sc2 (compEnvC sc2 cl D X.env) fp) el (tE X.K C elt)) (hp : plainX i = true) : PS X (.Assign [.Name y py] (.ListComp el [⟨t, i, fs, 0⟩] sc2 pos) spos) (tS X.K C (.asg (.nm n) (.comp m elt own tg it ifs))) := by
  have rule := ps_setLc (pos := pos) (py := py) (spos := spos) hc nd hy hyl hsw hi ok hg ht he (plain_fold hp)
  rw [eo] at rule
  have both : PS X (.Assign [.Name y py] (.ListComp el [⟨t, i, fs, 0⟩] sc2 pos) spos) (fun D σ H => tAsg (tLc (tI X.K C it) (tG X.K tg) (tT X.K C ifs) (tE X.K C elt) own) (gName n) D σ H ∨ tLock (tAsg (tLc (tI X.K C it) (tG X.K tg) (tT X.K C ifs) (tE X.K C elt) own) (gName n)) D σ H) :=
    ⟨fun pins s σ H D I w => w.elim (rule.run pins s σ H D I) ((ps_lock rule).run pins s σ H D I)⟩
  refine PS.imp both fun D σ H w => ?_
  have w := asg_nm w
  by_cases lk : Lkd it σ H
  · exact .inl (comp_sound ho w lk)
  · obtain ⟨d, ks, e, f⟩ := comp_lock ho w lk
    exact .inr ⟨d, _, e, True.intro, fun od => f od⟩

/-! ### a, b = a tuple or a list -/
theorem l_unp {is : List Nat} {a : Ex} {es : List Expr} {k : Nat} {e : Expr} {p pos : Pos} (hg : PG X (.Tuple es k p) (tG X.K (.tp is))) (ha : PE X e (tE X.K C a)) (hn : notTup e = true) : PS X (.Assign [.Tuple es k p] e pos) (tS X.K C (.asg (.tp is) a)) :=
  PS.imp (ps_asg ha hg sws_tup (ss_not hn) rfl) fun D σ H ⟨φ, h, env, fl, R, E, ev, k⟩ => by
    simp only [evS] at ev
    split at ev
    · cases ev
    · rename_i x h1 hx
      rw [Option.map_eq_some_iff] at ev
      obtain ⟨e', e1, rfl⟩ := ev
      exact ⟨φ, h, env, x, h1, R, E, hx, fun v1 H1 φ1 R1 X1 s1 => ⟨φ1, h1, env, x, e', R1, E.mono X1, s1, e1, fun σ' E' _ => k σ' H1 φ1 R1 X1 E'⟩⟩

/-! ### a, b = x, y -/
theorem gNames_sv {K : PySem.W.Frag} {φ : List Addr} {h : AH} {H : Hp} {Q : L2.St → Hp → Prop} : ∀ {is : List Nat} {vs : List V} {ps : List SV} {env : En} {σ : L2.St}, SRs K φ h H vs ps → ps.length = is.length → ER K φ h H env σ →
    (∀ σ', ER K φ h H ((is.zip ps).foldl (fun e ip => e.set ip.1 (some ip.2)) env) σ' → Q σ' H) → gNames is vs σ H Q
  | [], vs, ps, env, σ, r, hl, E, k => by
    have : ps = [] := List.eq_nil_of_length_eq_zero hl
    subst this
    cases r
    exact ⟨rfl, k σ E⟩
  | i :: is, vs, ps, env, σ, r, hl, E, k => by
    cases r with
    | nil => cases hl
    | @cons v p vs ps r t =>
      refine ⟨v, vs, rfl, ?_⟩
      show gNames is vs (σ.set i (some v)) H Q
      exact gNames_sv t (by simpa using hl) (E.set i (s := p) r) fun σ' E' => k σ' E'
theorem l_parT {is : List Nat} {es : Exs} {ns vs : List Expr} {k k2 : Nat} {p p2 pos : Pos} (hc : X.calm = true) (hs : PGs X ns (gNames is)) (hn : (assignEach ns X.env).length = is.length) (hst : (assignEach ns X.env).findIdx? (·.1) = none) (ha : PA X vs (tL X.K C es)) (hz : is.length ≤ sizeLine)
    (hw : swappedStores [.Tuple ns k p] (.Tuple vs k2 p2) X.env = pure none) : PS X (.Assign [.Tuple ns k p] (.Tuple vs k2 p2) pos) (tS X.K C (.par is es)) :=
  PS.imp (ps_asg (pe_tup ha) (pg_tup hc hs hn hst) sws_tup hw rfl) fun D σ H ⟨φ, h, env, fl, R, E, ev, k⟩ => by
    simp only [evS] at ev
    split at ev
    · cases ev
    · rename_i ss h1 hx
      split at ev
      · rename_i hl
        cases ev
        refine ⟨φ, h, env, ss, h1, R, E, hx, fun us H1 φ1 R1 X1 s1 => ⟨by rw [Paired.length s1, hl]; exact hz, fun q n => ⟨q, us, rfl, SqT.of upd_same, (Paired.length s1).trans hl, ?_⟩⟩⟩
        have X2 := Ext.new R1 n (.tup us)
        exact gNames_sv (s1.mono X2) hl (E.mono (X1.trans X2)) fun σ' E' => k σ' _ φ1 (R1.new n _) (X1.trans X2) E'
      · cases ev
theorem l_par2 {i j : Nat} {es : Exs} {a b : Expr} {x y : Str} {px py pt pt2 pos : Pos} {kt k2 : Nat} (hc : X.calm = true) (nd : X.N.Nodup) (hi : X.N[i]? = some x) (hj : X.N[j]? = some y) (hij : i ≠ j) (hx : X.env.scope.names.lookup x = some .local) (hy : X.env.scope.names.lookup y = some .local) (ha : PA X [a, b] (tL X.K C es))
    (hw : swappedStores [.Tuple [.Name x px, .Name y py] kt pt] (.Tuple [a, b] k2 pt2) X.env = pure (some [x, y])) : PS X (.Assign [.Tuple [.Name x px, .Name y py] kt pt] (.Tuple [a, b] k2 pt2) pos) (tS X.K C (.par [i, j] es)) :=
  PS.imp (ps_par hc nd hi hj hij hx hy ha hw sws_tup) fun D σ H ⟨φ, h, env, fl, R, E, ev, k⟩ => by
    simp only [evS] at ev
    split at ev
    · cases ev
    · rename_i ss h1 hx
      split at ev
      · rename_i hl
        cases ev
        refine ⟨φ, h, env, ss, h1, R, E, hx, fun us H1 φ1 R1 X1 s1 => ?_⟩
        cases s1 with
        | nil => cases hl
        | cons r1 t =>
          cases t with
          | nil => cases hl
          | cons r2 t =>
            cases t with
            | cons _ _ => simp at hl
            | nil => exact ⟨_, _, rfl, k _ H1 φ1 R1 X1 (((E.mono X1).set i r1).set j r2)⟩
      · cases ev
theorem l_par3 {i j l : Nat} {es : Exs} {a b c : Expr} {x y z : Str} {px py pz pt pt2 pos : Pos} {kt k2 : Nat} (hc : X.calm = true) (nd : X.N.Nodup) (hi : X.N[i]? = some x) (hj : X.N[j]? = some y) (hl : X.N[l]? = some z) (hij : i ≠ j) (hil : i ≠ l) (hjl : j ≠ l) (hx : X.env.scope.names.lookup x = some .local) (hy : X.env.scope.names.lookup y = some .local) (hz : X.env.scope.names.lookup z = some .local) (ha : PA X [a, b, c] (tL X.K C es))
    (hw : swappedStores [.Tuple [.Name x px, .Name y py, .Name z pz] kt pt] (.Tuple [a, b, c] k2 pt2) X.env = pure (some [x, y, z])) : PS X (.Assign [.Tuple [.Name x px, .Name y py, .Name z pz] kt pt] (.Tuple [a, b, c] k2 pt2) pos) (tS X.K C (.par [i, j, l] es)) :=
  PS.imp (ps_par3 hc nd hi hj hl hij hil hjl hx hy hz ha hw sws_tup) fun D σ H ⟨φ, h, env, fl, R, E, ev, k⟩ => by
    simp only [evS] at ev
    split at ev
    · cases ev
    · rename_i ss h1 hx
      split at ev
      · rename_i hl
        cases ev
        refine ⟨φ, h, env, ss, h1, R, E, hx, fun us H1 φ1 R1 X1 s1 => ?_⟩
        cases s1 with
        | nil => cases hl
        | cons r1 t =>
          cases t with
          | nil => cases hl
          | cons r2 t =>
            cases t with
            | nil => cases hl
            | cons r3 t =>
              cases t with
              | cons _ _ => simp at hl
              | nil => exact ⟨_, _, _, rfl, k _ H1 φ1 R1 X1 ((((E.mono X1).set i r1).set j r2).set l r3)⟩
      · cases ev

/-! ### name op= e -/
def ipB : BOp → TIp
  | .add => fun x y H Q => ipI (fun i j => i + j) x y H Q ∨ ∃ i j, x = .str i ∧ y = .str j ∧ i.length + j.length ≤ sizeLine ∧ Q (.str (i ++ j)) H
  | .sub => ipI fun i j => i - j
  | _ => fun _ _ _ _ => False
theorem ip_b : ∀ op, PIp X (opB op) (ipB op)
  | .add => fun pins s σ H x y v u Q I rx ry w => w.elim (ip_add pins s σ H x y v u Q I rx ry) (iop_add_str pins s σ H x y v u Q I rx ry)
  | .sub => ip_sub
  | .mul => fun _ _ _ _ _ _ _ _ _ _ _ _ w => w.elim
  | .fdiv => fun _ _ _ _ _ _ _ _ _ _ _ _ w => w.elim
  | .mod => fun _ _ _ _ _ _ _ _ _ _ _ _ w => w.elim
  | .pow => fun _ _ _ _ _ _ _ _ _ _ _ _ w => w.elim
theorem ipB_sound {K : PySem.W.Frag} {op : BOp} {p q r : PV} {x y : V} {M : Addr → Prop} {H : Hp} {Q : VK} (e : binA op p q = some r) (rx : VR K M H x p) (ry : VR K M H y q) (k : ∀ v, VR K M H v r → Q v H) : ipB op x y H Q := by
  unfold binA at e
  split at e
  · cases e; cases rx; cases ry; exact .inl ⟨_, _, rfl, rfl, k _ (.int _)⟩
  · cases e; cases rx; cases ry; exact ⟨_, _, rfl, rfl, k _ (.int _)⟩
  · split at e
    · rename_i hl
      cases e
      cases rx with
      | str z1 c1 =>
        cases ry with
        | str z2 c2 =>
          refine .inr ⟨_, _, rfl, rfl, by rw [strV_len, strV_len]; exact hl, ?_⟩
          rw [strV_app]
          exact k _ (.str (by rw [List.length_append]; exact hl) fun c hc => (List.mem_append.mp hc).elim (c1 c) (c2 c))
    · cases e
  · cases e
theorem l_aug {i : Nat} {op : BOp} {a : Ex} {e : Expr} {x : Str} {p pos : Pos} (nd : X.N.Nodup) (hi : X.N[i]? = some x) (hx : Loc X.env.scope x) (hf : X.fn x = true ∨ X.env.scope.names.lookup x = some .local) (ha : PE X e (tE X.K C a)) :
    PS X (.AugAssign (.Name x p) (opB op) e pos) (tS X.K C (.aug i op a)) := PS.imp (ps_aug nd hi hx ha (ip_b op) hf) fun D σ H ⟨φ, h, env, fl, R, E, ev, k⟩ => by
  simp only [evS] at ev
  split at ev
  · rename_i q hq
    obtain ⟨v, e1, r⟩ := E.at_ i _ hq
    split at ev
    · rename_i q2 h1 hx
      rw [Option.map_eq_some_iff] at ev
      obtain ⟨z, ez, rfl⟩ := ev
      refine ⟨v, e1, φ, h, env, _, h1, R, E, hx, fun v1 H1 φ1 R1 X1 s1 => ?_⟩
      have r1 : VR X.K (Mt φ1 h1) H1 v q := SR.mono (s := .v q) X1 r
      exact ipB_sound ez r1 s1 fun w rw' => k _ H1 φ1 R1 X1 ((E.mono X1).set i (s := .v z) rw')
    · cases ev
  · cases ev

/-! ### o[k] = e, o[k] op= e -/
theorem l_put {o k a : Ex} {l i e : Expr} {p pos : Pos} (hu : X.A.units + 65 < cLine) (ho : PE X l (tE X.K C o)) (hk : PE X i (tE X.K C k)) (ha : PE X e (tE X.K C a)) (hp : plainX i = true) : PS X (.Assign [.Subscript l i p] e pos) (tS X.K C (.put o k a)) := by
  have r1 := ps_dput (pos := pos) (pos' := p) (by omega : X.A.units + 1 < cLine) ho hk ha sw_sub
  have r2 := ps_asg (pos := pos) ha (pg_sub (pos := p) ho hk set_list (by
    intro v
    cases i <;> first | rfl | cases hp)) sws_sub rfl rfl
  have both : PS X (.Assign [.Subscript l i p] e pos) (fun D σ H => sDPut (tE X.K C o) (tE X.K C k) (tE X.K C a) D σ H ∨ tAsg (tE X.K C a) (gSub (tE X.K C o) (tE X.K C k) rSetL) D σ H) :=
    ⟨fun pins s σ H D I w => w.elim (r1.run pins s σ H D I) (r2.run pins s σ H D I)⟩
  refine PS.imp both fun D σ H ⟨φ, h, env, fl, R, E, ev, kk⟩ => ?_
  simp only [evS] at ev
  split at ev
  · rename_i x h1 hx
    split at ev
    · rename_i j h2 ho
      split at ev
      · rename_i q h3 hk
        split at ev
        · rename_i xs hc
          split at ev
          · rename_i n
            rw [Option.map_eq_some_iff] at ev
            obtain ⟨m, em, rfl⟩ := ev
            refine .inr ⟨φ, h, env, _, h1, R, E, hx, fun v1 H1 φ1 R1 X1 s1 => ⟨φ1, h1, env, _, h2, R1, E.mono X1, ho, fun v2 H2 φ2 R2 X2 s2 => ⟨φ2, h2, env, _, h3, R2, E.mono (X1.trans X2), hk, fun v3 H3 φ3 R3 X3 s3 => ?_⟩⟩⟩
            obtain ⟨ad, rfl, ea⟩ := s2.mono X3
            have s1' : VR X.K (Mt φ3 h3) H3 v1 x := SR.mono (s := .v x) (X2.trans X3) s1
            cases s3
            obtain ⟨vs, q, r, z⟩ := R3.cell j _ ad hc ea
            have xx := Ext.put (d := .lst (xs.set m x)) (o := .lst (vs.set m v1)) R3 hc rfl ea
            have X4 := X1.trans (X2.trans (X3.trans xx))
            exact ⟨ad, vs, n, m, rfl, rfl, q, by rw [r.length]; exact em, kk σ _ φ3 (R3.put hc rfl ea ⟨_, upd_same, (VRs.set s1' m r).mono xx.1, by rw [List.length_set]; exact z⟩) X4 (E.mono X4)⟩
          · cases ev
        · rename_i kvs hc
          split at ev
          · rename_i hq
            rw [Bool.and_eq_true, decide_eq_true_eq] at hq
            cases ev
            refine .inl ⟨φ, h, env, _, h1, R, E, hx, fun v1 H1 φ1 R1 X1 s1 => ⟨φ1, h1, env, _, h2, R1, E.mono X1, ho, fun v2 H2 φ2 R2 X2 s2 => ⟨φ2, h2, env, _, h3, R2, E.mono (X1.trans X2), hk, fun v3 H3 φ3 R3 X3 s3 => ?_⟩⟩⟩
            obtain ⟨ad, rfl, ea⟩ := s2.mono X3
            have s1' : VR X.K (Mt φ3 h3) H3 v1 x := SR.mono (s := .v x) (X2.trans X3) s1
            have s3 : VR X.K (Mt φ3 h3) H3 v3 q := s3
            obtain ⟨ks, q2, r, z⟩ := R3.cell j _ ad hc ea
            have xx := Ext.put (d := .dict (dput kvs q x)) (o := .dK (putK ks (keyV q) v1)) R3 hc rfl ea
            have X4 := X1.trans (X2.trans (X3.trans xx))
            have e3 := kV_keyV hq.1 s3
            subst e3
            have hz := dput_len kvs q x
            exact ⟨ad, _, rfl, DPut.k q2 (by rw [r.length]; exact hq.2), kk σ _ φ3 (R3.put hc rfl ea ⟨_, upd_same, (KRs.put hq.1 s3 s1' r).mono xx.1, by omega⟩) X4 (E.mono X4)⟩
          · cases ev
        · cases ev
      · cases ev
    · cases ev
  · cases ev
def ioB : BOp → V → V → Hp → VK → Prop
  | .add => fun x y H Q => rAdd x y H Q ∨ rAddS x y H Q
  | .sub => rSub
  | _ => fun _ _ _ _ => False
theorem io_b : ∀ op, InOp X (opB op) (ioB op)
  | .add => fun pins s σ H x y v u Q I rx ry w => w.elim (in_add pins s σ H x y v u Q I rx ry) (iop_add_str pins s σ H x y v u Q I rx ry)
  | .sub => in_sub
  | .mul => fun _ _ _ _ _ _ _ _ _ _ _ _ w => w.elim
  | .fdiv => fun _ _ _ _ _ _ _ _ _ _ _ _ w => w.elim
  | .mod => fun _ _ _ _ _ _ _ _ _ _ _ _ w => w.elim
  | .pow => fun _ _ _ _ _ _ _ _ _ _ _ _ w => w.elim
theorem ioB_sound {K : PySem.W.Frag} {op : BOp} {p q r : PV} {x y : V} {M : Addr → Prop} {H : Hp} {Q : VK} (e : binA op p q = some r) (rx : VR K M H x p) (ry : VR K M H y q) (k : ∀ v, VR K M H v r → Q v H) : ioB op x y H Q := by
  have := ipB_sound e rx ry k
  cases op <;> exact this
theorem l_augput {o k a : Ex} {op : BOp} {l i e : Expr} {p pos : Pos} (hu : X.A.units + 65 < cLine) (ho : PE X l (tE X.K C o)) (hk : PE X i (tE X.K C k)) (ha : PE X e (tE X.K C a)) (hp : plainX i = true) : PS X (.AugAssign (.Subscript l i p) (opB op) e pos) (tS X.K C (.augput o k op a)) :=
  PS.imp (ps_daug (by omega : X.A.units + 1 < cLine) ho hk ha (io_b op) (by
    intro ov iv new
    cases i <;> first | rfl | cases hp)) fun D σ H ⟨φ, h, env, fl, R, E, ev, kk⟩ => by
  simp only [evS] at ev
  split at ev
  · rename_i j h1 ho
    split at ev
    · rename_i q h2 hk
      split at ev
      · rename_i kvs hc
        split at ev
        · rename_i hq
          rw [Bool.and_eq_true, decide_eq_true_eq] at hq
          split at ev
          · rename_i old hold
            split at ev
            · rename_i y h3 hx
              split at ev
              · rename_i z hz
                split at ev
                · rename_i kvs' hc'
                  split at ev
                  · rename_i hl
                    rw [decide_eq_true_eq] at hl
                    cases ev
                    refine ⟨φ, h, env, _, h1, R, E, ho, fun v1 H1 φ1 R1 X1 s1 => ⟨φ1, h1, env, _, h2, R1, E.mono X1, hk, fun v2 H2 φ2 R2 X2 s2 => ?_⟩⟩
                    obtain ⟨ad, rfl, ea⟩ := s1.mono X2
                    have s2 : VR X.K (Mt φ2 h2) H2 v2 q := s2
                    obtain ⟨ks, q2, r, _⟩ := R2.cell j _ ad hc ea
                    have g := DGet.at_ (.inl q2) hq.1 s2
                    rcases KRs.look hq.1 r with ⟨n1, n2⟩ | ⟨p', v', n1, n2, rv⟩
                    · rw [n1] at hold; cases hold
                    · rw [n1] at hold
                      cases hold
                      rw [n2] at g
                      refine ⟨ad, v', rfl, g, φ2, h2, env, _, h3, R2, E.mono (X1.trans X2), hx, fun v3 H3 φ3 R3 X3 s3 => ?_⟩
                      refine ioB_sound (M := Mt φ3 h3) hz (rv.mono X3.1) s3 fun w rw' => ?_
                      have ea3 := cell_j X3 ea
                      obtain ⟨ks', q3, r3, z3⟩ := R3.cell j _ ad hc' ea3
                      have xx := Ext.put (d := .dict (dput kvs' q z)) (o := .dK (putK ks' (keyV q) w)) R3 hc' rfl ea3
                      have X4 := X1.trans (X2.trans (X3.trans xx))
                      have s2' := s2.mono X3.1
                      have e3 := kV_keyV hq.1 s2
                      subst e3
                      have hz := dput_len kvs' q z
                      exact ⟨_, DPut.k q3 (by rw [r3.length]; exact hl), kk σ _ φ3 (R3.put hc' rfl ea3 ⟨_, upd_same, (KRs.put hq.1 s2' rw' r3).mono xx.1, by omega⟩) X4 (E.mono X4)⟩
                  · cases ev
                · cases ev
              · cases ev
            · cases ev
          · cases ev
        · cases ev
      · cases ev
    · cases ev
  · cases ev
end
end Ev

set_option Elab.async false
set_option linter.all false
set_option maxRecDepth 100000
namespace Ev
open PySem PySem.Spec PyProof.Rows L2

section
variable {X : Cx} {C : Calls}
/-! ### loops -/
theorem l_whil {c : Ts} {b : Sts} {t : Expr} {body : List Stmt} {pos : Pos} (hp : PassesOwn (model X.prog X.w) X.A X.env X.xe) (hc : PT X t (tT X.K C c)) (hb : PSs X body (tSs X.K C b)) : PS X (.While t body [] pos) (tS X.K C (.whil c b)) := by
  refine PS.imp (ps_while hp hc hb) fun D σ H ⟨φ, h, env, fl, R, E, ev, k⟩ => ?_
  simp only [evS] at ev
  refine ⟨fun m σ1 H1 => ∃ φ1 h1 env1, HR X.K φ1 h1 H1 ∧ ER X.K φ1 h1 H1 env1 σ1 ∧ Ext φ h H φ1 h1 H1 ∧ whileF (evT C c) (evSs C b) m env1 h1 = some fl, ⟨FUEL, φ, h, env, R, E, Ext.refl, ev⟩, ?_⟩
  rintro m σ1 H1 ⟨φ1, h1, env1, R1, E1, X1, ew⟩
  cases m with
  | zero => cases ew
  | succ m =>
    simp only [whileF] at ew
    split at ew
    · cases ew
    · rename_i h2 ht
      cases ew
      refine ⟨φ1, h1, env1, false, h2, R1, E1, ht, fun H2 φ2 R2 X2 => ?_⟩
      exact iteF (k σ1 H2 φ2 R2 (X1.trans X2) (E1.mono X2))
    · rename_i h2 ht
      refine ⟨φ1, h1, env1, true, h2, R1, E1, ht, fun H2 φ2 R2 X2 => ?_⟩
      refine iteT (B := D.nx σ1 H2) ⟨fun σ' H' => ∃ φ' h' e', HR X.K φ' h' H' ∧ ER X.K φ' h' H' e' σ' ∧ Ext φ h H φ' h' H' ∧ whileF (evT C c) (evSs C b) m e' h' = some fl, fun σ' H' w => ⟨m, Nat.lt_succ_self m, w⟩, ?_⟩
      have E2 := E1.mono X2
      have X12 := X1.trans X2
      split at ew
      · cases ew
      · rename_i e' h' hb
        exact ⟨φ2, h2, env1, _, R2, E2, hb, fun σ' H' φ' R' X' E' => ⟨φ', h', e', R', E', X12.trans X', ew⟩⟩
      · rename_i e' h' hb
        exact ⟨φ2, h2, env1, _, R2, E2, hb, fun σ' H' φ' R' X' E' => ⟨φ', h', e', R', E', X12.trans X', ew⟩⟩
      · rename_i e' h' hb
        cases ew
        exact ⟨φ2, h2, env1, _, R2, E2, hb, fun σ' H' φ' R' X' E' => k σ' H' φ' R' (X12.trans X') E'⟩
      · rename_i v h' hb
        cases ew
        exact ⟨φ2, h2, env1, _, R2, E2, hb, Kont.keep k X12⟩

def bodyF (C : Calls) (t : Tg) (b : Sts) (x : PV) (e : En) (h : AH) : Option Fl :=
  match asgT t (.v x) e with
  | none => none
  | some e' => evSs C b e' h
theorem for_inv {t : Tg} {it : Itr} {b : Sts} {env : En} {h : AH} {fl : Fl} (ev : evS C (.for t it b) env h = some fl) : ∃ xs g h1, evI C it env h = some (xs, g, h1) ∧ loopF (bodyF C t b) (guardOk xs g) xs env h1 = some fl := by
  simp only [evS] at ev
  split at ev
  · cases ev
  · rename_i xs g h1 hI
    exact ⟨xs, g, h1, hI, ev⟩
theorem for_sound {K : PySem.W.Frag} {t : Tg} {it : Itr} {b : Sts} {D : Ends} {σ : L2.St} {H : Hp} (w : tS K C (.for t it b) D σ H) (lk : Lkd it σ H) : tFor (tI K C it) (tG K t) (tSs K C b) D σ H := by
  obtain ⟨φ, h, env, fl, R, E, ev, k⟩ := w
  obtain ⟨xs, g, h1, hI, hL⟩ := for_inv ev
  refine ⟨φ, h, env, xs, g, h1, R, E, hI, lk, fun J H1 φ1 R1 X1 its => ?_⟩
  refine ⟨fun i m σc Hc => m = xs.length - i ∧ i ≤ xs.length ∧ ∃ φc hc ec, HR K φc hc Hc ∧ ER K φc hc Hc ec σc ∧ Ext φ1 h1 H1 φc hc Hc ∧ loopF (bodyF C t b) (guardOk xs g) (xs.drop i) ec hc = some fl,
    ⟨xs.length, by simp, Nat.zero_le _, φ1, h1, env, R1, E.mono X1, Ext.refl, by rw [List.drop_zero]; exact hL⟩, ?_⟩
  rintro i mm σc Hc ⟨rfl, hi, φc, hc, ec, Rc, Ec, Xc, hLc⟩
  by_cases hlt : i < xs.length
  · right
    rw [List.drop_eq_getElem_cons hlt] at hLc
    simp only [loopF] at hLc
    split at hLc
    · rename_i hok
      obtain ⟨it1, it2⟩ := its φc hc Hc Rc Xc hok
      obtain ⟨go, yl⟩ := it1 i xs[i] (List.getElem?_eq_getElem hlt)
      refine ⟨go, fun σ' H' => ∃ φ' h' e', HR K φ' h' H' ∧ ER K φ' h' H' e' σ' ∧ Ext φ1 h1 H1 φ' h' H' ∧ loopF (bodyF C t b) (guardOk xs g) (xs.drop (i + 1)) e' h' = some fl, fun σ' H' w => ⟨xs.length - (i + 1), by omega, rfl, hlt, w⟩, fun x H3 y => ?_⟩
      obtain ⟨R3, X3, r3⟩ := yl x H3 y
      have Xc3 := Xc.trans X3
      have fin : ∀ {fb : Fl}, bodyF C t b xs[i] ec hc = some fb → (∀ (D' : Ends) φ2 h2 H2, D' = { D with nx := fun σ' H' => ∃ φ' h' e', HR K φ' h' H' ∧ ER K φ' h' H' e' σ' ∧ Ext φ1 h1 H1 φ' h' H' ∧ loopF (bodyF C t b) (guardOk xs g) (xs.drop (i + 1)) e' h' = some fl, ct := fun σ' H' => ∃ φ' h' e', HR K φ' h' H' ∧ ER K φ' h' H' e' σ' ∧ Ext φ1 h1 H1 φ' h' H' ∧ loopF (bodyF C t b) (guardOk xs g) (xs.drop (i + 1)) e' h' = some fl, bk := D.nx } → Ext φ1 h1 H1 φ2 h2 H2 → KF K φ2 h2 H2 D' fb) →
          tG K t x σc H3 fun σ2 H2 => tSs K C b { D with nx := fun σ' H' => ∃ φ' h' e', HR K φ' h' H' ∧ ER K φ' h' H' e' σ' ∧ Ext φ1 h1 H1 φ' h' H' ∧ loopF (bodyF C t b) (guardOk xs g) (xs.drop (i + 1)) e' h' = some fl, ct := fun σ' H' => ∃ φ' h' e', HR K φ' h' H' ∧ ER K φ' h' H' e' σ' ∧ Ext φ1 h1 H1 φ' h' H' ∧ loopF (bodyF C t b) (guardOk xs g) (xs.drop (i + 1)) e' h' = some fl, bk := D.nx } σ2 H2 := by
        intro fb hb kk
        unfold bodyF at hb
        split at hb
        · cases hb
        · rename_i e' ha
          exact ⟨φc, hc, ec, .v xs[i], e', R3, Ec.mono X3, r3, ha, fun σ2 E2 _ => ⟨φc, hc, e', fb, R3, E2, hb, kk _ _ _ _ rfl Xc3⟩⟩
      split at hLc
      · cases hLc
      · rename_i e' h' hb
        refine fin hb fun D' φ2 h2 H2 eD X2 => ?_
        subst eD
        exact fun σ' H' φ' R' X' E' => ⟨φ', h', e', R', E', X2.trans X', hLc⟩
      · rename_i e' h' hb
        refine fin hb fun D' φ2 h2 H2 eD X2 => ?_
        subst eD
        exact fun σ' H' φ' R' X' E' => ⟨φ', h', e', R', E', X2.trans X', hLc⟩
      · rename_i e' h' hb
        cases hLc
        refine fin hb fun D' φ2 h2 H2 eD X2 => ?_
        subst eD
        exact fun σ' H' φ' R' X' E' => k σ' H' φ' R' (X1.trans (X2.trans X')) E'
      · rename_i v h' hb
        cases hLc
        refine fin hb fun D' φ2 h2 H2 eD X2 => ?_
        subst eD
        exact Kont.keep (Kont.keep k X1) X2
    · cases hLc
  · left
    have e : i = xs.length := by omega
    subst e
    rw [List.drop_length] at hLc
    simp only [loopF] at hLc
    split at hLc
    · rename_i hok
      cases hLc
      exact ⟨(its φc hc Hc Rc Xc hok).2, k σc Hc φc Rc (X1.trans Xc) Ec⟩
    · cases hLc
theorem for_lock {K : PySem.W.Frag} {t : Tg} {it : Itr} {b : Sts} {D : Ends} {σ : L2.St} {H : Hp} (w : tS K C (.for t it b) D σ H) (lk : ¬ Lkd it σ H) : tLock (tFor (tI K C it) (tG K t) (tSs K C b)) D σ H := by
  cases it <;> first | exact absurd True.intro lk | skip
  rename_i i z
  simp only [Lkd, Classical.not_forall, Classical.not_not] at lk
  obtain ⟨d, ks, e1, e2⟩ := lk
  obtain ⟨φ, h, env, fl, R, E, ev, k⟩ := w
  obtain ⟨xs, g, h1, hI, hL⟩ := for_inv ev
  obtain ⟨R1, X1, md, hI2⟩ := walk_dict R E hI e1 e2
  refine ⟨d, _, e2, True.intro, fun od => for_sound ⟨φ, h1, env, fl, lock_hr R1 e2 md, (E.mono X1).swap (lock_ex e2), ?_, ?_⟩ ?_⟩
  · simp only [evS, hI] at ev
    simp only [evS, hI2]
    exact ev
  · cases fl with
    | nx e h' =>
      intro σ' H' φ' R' X' E'
      obtain ⟨a1, a2, a3, a4, a5⟩ := unlock_all e2 md R' X'
      exact ⟨a1, k σ' _ φ' a2 (X1.trans a3) (a5 e σ' E')⟩
    | rt sv h' =>
      intro v H' φ' R' X' s'
      obtain ⟨a1, a2, a3, a4, a5⟩ := unlock_all e2 md R' X'
      exact ⟨a1, k v _ φ' a2 (X1.trans a3) (a4 v sv s')⟩
    | bk e h' =>
      intro σ' H' φ' R' X' E'
      obtain ⟨a1, a2, a3, a4, a5⟩ := unlock_all e2 md R' X'
      exact ⟨a1, k σ' _ φ' a2 (X1.trans a3) (a5 e σ' E')⟩
    | ct e h' =>
      intro σ' H' φ' R' X' E'
      obtain ⟨a1, a2, a3, a4, a5⟩ := unlock_all e2 md R' X'
      exact ⟨a1, k σ' _ φ' a2 (X1.trans a3) (a5 e σ' E')⟩
  · intro d' ks' e3 e4
    rw [e1] at e3
    cases e3
    rw [upd_same] at e4
    cases e4
theorem l_for {t : Tg} {it : Itr} {b : Sts} {tg iter : Expr} {body : List Stmt} {pos : Pos} (hp : PassesOwn (model X.prog X.w) X.A X.env X.xe) (hc : X.calm = true) (hi : PI X tg iter (tI X.K C it)) (hg : PG X tg (tG X.K t)) (hb : PSs X body (tSs X.K C b)) (hx : plainX iter = true) : PS X (.For tg iter body [] pos) (tS X.K C (.for t it b)) := by
  have rule := ps_for (pos := pos) hp hc hi hg hb (plain_fold hx)
  have both : PS X (.For tg iter body [] pos) (fun D σ H => tFor (tI X.K C it) (tG X.K t) (tSs X.K C b) D σ H ∨ tLock (tFor (tI X.K C it) (tG X.K t) (tSs X.K C b)) D σ H) :=
    ⟨fun pins s σ H D I w => w.elim (rule.run pins s σ H D I) ((ps_lock rule).run pins s σ H D I)⟩
  refine PS.imp both fun D σ H w => ?_
  by_cases lk : Lkd it σ H
  · exact .inl (for_sound w lk)
  · exact .inr (for_lock w lk)
end
end Ev

set_option Elab.async false
set_option linter.all false
set_option maxRecDepth 100000
namespace Ev
open PySem PySem.Spec PyProof.Rows L2

/-! ### stores that are exchanged -/
def nameLoc (sc : Scope) : Expr → Bool
  | .Name x _ => match sc.names.lookup x with | some .local => true | _ => false
  | _ => false
def nameCel (sc : Scope) : Expr → Bool
  | .Name x _ => match sc.names.lookup x with | some .cell => true | _ => false
  | _ => false
def swNo (sc : Scope) (ns vs : List Expr) : Bool := !(ns.length == 2 || ns.length == 3) || vs.all (foldedForSure 8) || ns.any (nameCel sc)
def swYes2 (sc : Scope) : List Expr → List Expr → Bool
  | [.Name x px, .Name y py], [a, b] => nameLoc sc (.Name x px) && nameLoc sc (.Name y py) && (py.line == px.line) && decide (x ≠ y) && !([a, b].all (foldedForSure 8)) && !([a, b].all (constantsAlone 8))
  | _, _ => false
def swYes3 (sc : Scope) : List Expr → List Expr → Bool
  | [.Name x px, .Name y py, .Name z pz], [a, b, c] => nameLoc sc (.Name x px) && nameLoc sc (.Name y py) && nameLoc sc (.Name z pz) && (py.line == px.line) && (pz.line == px.line) && decide (x ≠ y) && decide (x ≠ z) && decide (y ≠ z) && !([a, b, c].all (foldedForSure 8)) && !([a, b, c].all (constantsAlone 8))
  | _, _ => false
theorem fm_cel {env : Env} {line : Nat} {es : List Expr} (h : ∃ e ∈ es, ∃ x p, e = .Name x p ∧ env.kindOf x = some .cell) :
    (es.filterMap fun | .Name id pos => if env.kindOf id == some .local && pos.line == line then some id else none | _ => none).length < es.length := by
  induction es with
  | nil => obtain ⟨_, h, _⟩ := h; cases h
  | cons e es ih =>
    obtain ⟨e', hm, x, p, rfl, hk⟩ := h
    rcases List.mem_cons.mp hm with rfl | hm
    · rw [List.filterMap_cons]
      simp only [hk]
      exact Nat.lt_succ_of_le (List.length_filterMap_le _ _)
    · have := ih ⟨_, hm, x, p, rfl, hk⟩
      rw [List.filterMap_cons]
      split
      · exact Nat.lt_succ_of_lt this
      · rw [List.length_cons, List.length_cons]; exact Nat.succ_lt_succ this
theorem ss_no {sc : Scope} {X : Cx} (S : ScOk sc X) {ns vs : List Expr} {k k2 : Nat} {p p2 : Pos} (h : swNo sc ns vs = true) : swappedStores [.Tuple ns k p] (.Tuple vs k2 p2) X.env = pure none := by
  unfold swappedStores
  simp only []
  split
  · rfl
  · rename_i h1
    split
    · rfl
    · split
      · rfl
      · rename_i h3
        split
        · rfl
        · rename_i h4
          exfalso
          unfold swNo at h
          simp only [Bool.or_eq_true] at h
          rcases h with (h | h) | h
          · apply h1; rw [h]; rfl
          · exact h4 h
          · apply h3
            rw [List.any_eq_true] at h
            obtain ⟨e, he, hc⟩ := h
            have : ∃ e ∈ ns, ∃ x p, e = .Name x p ∧ X.env.kindOf x = some .cell := by
              unfold nameCel at hc
              split at hc
              · rename_i x pp
                split at hc
                · rename_i hk; exact ⟨_, he, x, pp, rfl, S.cel x hk⟩
                · cases hc
              · cases hc
            have := fm_cel (line := (ns.head?.map (·.pos.line)).getD 0) this
            rw [Bool.or_eq_true]
            left
            rw [bne_iff_ne]
            exact Nat.ne_of_lt this
theorem loc_of {sc : Scope} {X : Cx} (S : ScOk sc X) {x : Str} {p : Pos} (h : nameLoc sc (.Name x p) = true) : X.env.scope.names.lookup x = some .local := by
  simp only [nameLoc] at h
  split at h
  · rename_i hk; exact S.lcl x hk
  · cases h
theorem ss_yes2 {env : Env} {x y : Str} {px py kt2 pt2 : Pos} {k k2 : Nat} {a b : Expr} (hk : env.scope.kind = .function) (hx : env.scope.names.lookup x = some .local) (hy : env.scope.names.lookup y = some .local) (hxy : x ≠ y) (hl : (py.line == px.line) = true)
    (hf : [a, b].all (foldedForSure 8) = false) (hc : [a, b].all (constantsAlone 8) = false) (pa : plainX a = true) (pb : plainX b = true) : swappedStores [.Tuple [.Name x px, .Name y py] k kt2] (.Tuple [a, b] k2 pt2) env = pure (some [x, y]) := by
  have kx : env.kindOf x = some .local := hx
  have ky : env.kindOf y = some .local := hy
  have hb : env.blockKind = .function := by unfold Env.blockKind; rw [hk]; rfl
  have noS : ∀ e : Expr, plainX e = true → (match e with | .Starred .. => true | _ => false) = false := fun e h => by
    cases e <;> first | rfl | cases h
  have st : ([a, b].any fun | .Starred .. => true | _ => false) = false := by
    rw [List.any_cons, List.any_cons, List.any_nil]
    rw [noS a pa, noS b pb]
    rfl
  have e1 : ([Expr.Name x px, Expr.Name y py].filterMap fun | .Name id pos => if env.kindOf id == some .local && pos.line == px.line then some id else none | _ => none) = [x, y] := by
    simp only [List.filterMap_cons, List.filterMap_nil, kx, ky, hl]
    simp
  have e2 : [x, y].eraseDups = [x, y] := by
    have : (y == x) = false := by rw [beq_eq_false_iff_ne]; exact fun z => hxy z.symm
    simp [List.eraseDups_cons, this]
  unfold swappedStores
  simp only [hb, hf, hc]
  have e3 : (([Expr.Name x px, Expr.Name y py].head?.map (·.pos.line)).getD 0) = px.line := rfl
  simp only [e3]
  generalize hG : List.filterMap _ [Expr.Name x px, Expr.Name y py] = names
  have e4 := hG.symm.trans e1
  subst e4
  refine (if_neg (by simp)).trans ((if_neg fun h => Bool.false_ne_true (st.symm.trans h)).trans ?_)
  refine (if_neg ?_).trans ?_
  · rw [e2]; simp
  · rfl
theorem ss_yes3 {env : Env} {x y z : Str} {px py pz kt2 pt2 : Pos} {k k2 : Nat} {a b c : Expr} (hk : env.scope.kind = .function) (hx : env.scope.names.lookup x = some .local) (hy : env.scope.names.lookup y = some .local) (hz : env.scope.names.lookup z = some .local) (hxy : x ≠ y) (hxz : x ≠ z) (hyz : y ≠ z) (hl : (py.line == px.line) = true) (hl2 : (pz.line == px.line) = true)
    (hf : [a, b, c].all (foldedForSure 8) = false) (hc : [a, b, c].all (constantsAlone 8) = false) (pa : plainX a = true) (pb : plainX b = true) (pc : plainX c = true) : swappedStores [.Tuple [.Name x px, .Name y py, .Name z pz] k kt2] (.Tuple [a, b, c] k2 pt2) env = pure (some [x, y, z]) := by
  have kx : env.kindOf x = some .local := hx
  have ky : env.kindOf y = some .local := hy
  have kz : env.kindOf z = some .local := hz
  have hb : env.blockKind = .function := by unfold Env.blockKind; rw [hk]; rfl
  have noS : ∀ e : Expr, plainX e = true → (match e with | .Starred .. => true | _ => false) = false := fun e h => by
    cases e <;> first | rfl | cases h
  have st : ([a, b, c].any fun | .Starred .. => true | _ => false) = false := by
    rw [List.any_cons, List.any_cons, List.any_cons, List.any_nil]
    rw [noS a pa, noS b pb, noS c pc]
    rfl
  have e1 : ([Expr.Name x px, Expr.Name y py, Expr.Name z pz].filterMap fun | .Name id pos => if env.kindOf id == some .local && pos.line == px.line then some id else none | _ => none) = [x, y, z] := by
    simp only [List.filterMap_cons, List.filterMap_nil, kx, ky, kz, hl, hl2]
    simp
  have e2 : [x, y, z].eraseDups = [x, y, z] := by
    have h1 : (y == x) = false := by rw [beq_eq_false_iff_ne]; exact fun z => hxy z.symm
    have h2 : (z == x) = false := by rw [beq_eq_false_iff_ne]; exact fun z => hxz z.symm
    have h3 : (z == y) = false := by rw [beq_eq_false_iff_ne]; exact fun z => hyz z.symm
    simp [List.eraseDups_cons, h1, h2, h3]
  unfold swappedStores
  simp only [hb, hf, hc]
  have e3 : (([Expr.Name x px, Expr.Name y py, Expr.Name z pz].head?.map (·.pos.line)).getD 0) = px.line := rfl
  simp only [e3]
  generalize hG : List.filterMap _ [Expr.Name x px, Expr.Name y py, Expr.Name z pz] = names
  have e4 := hG.symm.trans e1
  subst e4
  refine (if_neg (by simp)).trans ((if_neg fun h => Bool.false_ne_true (st.symm.trans h)).trans ?_)
  refine (if_neg ?_).trans ?_
  · rw [e2]; simp
  · rfl

/-! ### the statements and their own form -/
section
variable (P : List Fn) (N : List Str)
mutual
def mS (sc : Scope) : Stm → Stmt → Bool
  | .expr a, s => match s with
    | .Expr e _ => mE P N sc a e && notComp e
    | _ => false
  | .asg (.nm i) a, s => match s with
    | .Assign [.Name x _] e _ => decide (N[i]? = some x) && locB sc x && mE P N sc a e
    | _ => false
  | .asg (.tp is) a, s => match s with
    | .Assign [.Tuple es k p] e _ => tgB N sc (.tp is) (.Tuple es k p) && mE P N sc a e && notTup e
    | _ => false
  | .par is es, s => match s with
    | .Assign [.Tuple ns _ _] (.Tuple vs _ _) _ => tgB.go N sc is ns && mL P N sc es vs && decide (is.length ≤ 1000) && (swNo sc ns vs || swYes2 sc ns vs || swYes3 sc ns vs)
    | _ => false
  | .aug i op a, s => match s with
    | .AugAssign (.Name x _) o e _ => decide (N[i]? = some x) && locB sc x && opbB op o && mE P N sc a e
    | _ => false
  | .put o k a, s => match s with
    | .Assign [.Subscript l i _] e _ => mE P N sc o l && mE P N sc k i && plainX i && mE P N sc a e
    | _ => false
  | .augput o k op a, s => match s with
    | .AugAssign (.Subscript l i _) o2 e _ => mE P N sc o l && mE P N sc k i && plainX i && opbB op o2 && mE P N sc a e
    | _ => false
  | .ret a, s => match s with
    | .Return (some e) _ => mE P N sc a e
    | _ => false
  | .ifs c a b, s => match s with
    | .If t x y _ => mT P N sc c t && mSs sc a x && mSs sc b y
    | _ => false
  | .whil c b, s => match s with
    | .While t x [] _ => mT P N sc c t && mSs sc b x
    | _ => false
  | .for t it b, s => match s with
    | .For tg iter x [] _ => mI P N sc it iter && tgB N sc t tg && mSs sc b x
    | _ => false
  | .brk, s => match s with
    | .Break _ => true
    | _ => false
  | .cont, s => match s with
    | .Continue _ => true
    | _ => false
  | .pass, s => match s with
    | .Pass _ => true
    | _ => false
def mSs (sc : Scope) : Sts → List Stmt → Bool
  | .nil, ss => match ss with
    | [] => true
    | _ => false
  | .cons a r, ss => match ss with
    | s :: ss => mS sc a s && mSs sc r ss
    | _ => false
end
end
end Ev

set_option Elab.async false
set_option linter.all false
set_option maxRecDepth 100000
set_option maxHeartbeats 2000000
namespace Ev
open PySem PySem.Spec PyProof.Rows L2

theorem vis_of {sc : Scope} {X : Cx} (S : ScOk sc X) {x : Str} (h : visB sc x = true) : Vis X.env.scope x ∧ (x == ("__debug__" : Str)) = false ∧ (x == ("__classdict__" : Str)) = false := by
  refine ⟨S.vis x h, ?_⟩
  unfold visB at h
  simp only [Bool.and_eq_true, Bool.not_eq_true'] at h
  exact ⟨h.1.2, h.2⟩
theorem gl_of {sc : Scope} {X : Cx} (S : ScOk sc X) {x : Str} (h : glB sc x = true) : Gl X x ∧ (x == ("__debug__" : Str)) = false := by
  refine ⟨S.gl x h, ?_⟩
  unfold glB at h
  simp only [Bool.and_eq_true, Bool.not_eq_true'] at h
  exact h.1.2
theorem mD_sh {P N sc} : ∀ {ks : Prs} {keys : List (Option Expr)} {vals : List Expr}, mD P N sc ks keys vals = true → keys.all (·.isSome) = true ∧ keys.length = vals.length ∧ (keys ≠ [] → ∃ a b r, ks = .cons a b r)
  | .nil, [], [], _ => ⟨rfl, rfl, fun h => absurd rfl h⟩
  | .nil, [], _ :: _, h => by simp [mD] at h
  | .nil, _ :: _, _, h => by simp [mD] at h
  | .cons a b r, [], _, h => by simp [mD] at h
  | .cons a b r, none :: _, _, h => by simp [mD] at h
  | .cons a b r, some _ :: _, [], h => by simp [mD] at h
  | .cons a b r, some k :: ks, v :: vs, h => by
    simp only [mD, Bool.and_eq_true] at h
    obtain ⟨h1, h2, _⟩ := mD_sh h.2
    exact ⟨by rw [List.all_cons, h1]; rfl, by rw [List.length_cons, List.length_cons, h2], fun _ => ⟨a, b, r, rfl⟩⟩
theorem mI_plain {P N sc} {it : Itr} {x : Expr} (h : mI P N sc it x = true) : plainX x = true := by
  cases it with
  | var i z => cases x <;> first | rfl | (simp [mI] at h)
  | ex a => simp only [mI, Bool.and_eq_true] at h; exact h.2
  | rng1 a => cases x <;> first | rfl | (simp [mI] at h)
  | rng2 a b => cases x <;> first | rfl | (simp [mI] at h)
  | rng3 a b c => simp [mI] at h
  | enum a => simp [mI] at h
  | zip a b => simp [mI] at h
theorem blk_conv {N : List Str} {sc sc2 : Scope} {X : Cx} {own : List (Str × Nat)} (S : ScOk sc X) (b : BlkOk N sc sc2 own) : BlkOk N X.env.scope sc2 own := ⟨b.kind, b.uniq, b.ix, fun y hy e => S.fc _ (b.free y hy e), b.own⟩
theorem own_map {N : List Str} (own : List Nat) : (own.map fun j => (N.getD j Str.empty, j)).map (·.2) = own := by
  induction own with
  | nil => rfl
  | cons a r ih => rw [List.map_cons, List.map_cons, ih]
theorem own_tg {tg : Tg} {own : List Nat} (h : (match tg with | .nm j => own.contains j | .tp js => js.all own.contains) = true) : ∀ j ∈ tgN tg, j ∈ own := by
  intro j hj
  cases tg with
  | nm i =>
    have : j = i := by simpa [tgN] using hj
    subst this
    simpa using h
  | tp js =>
    rw [List.all_eq_true] at h
    have := h j hj
    simpa using this

section
variable {P : List Fn} {N : List Str} {n : Nat}
theorem s_blt {X : Cx} {sc : Scope} (G : Gd P N n X) (S : ScOk sc X) {m : Bool} {b : Blt} {es : Exs} {l : Expr} {ls : List Expr} {x : Str} {p pos : Pos} (hx : x = Str.ofString (bltS b)) (hg : glB sc x = true) (hs : PA X (l :: ls) (tL X.K (callN P n) es)) (hp : ∀ e ∈ l :: ls, plainX e = true) (hb : b ≠ .str) :
    PE X (.Call (.Name x p) (l :: ls) [] pos) (tE X.K (callN P n) (.blt m b es)) := by
  have g := (gl_of S hg).1
  have mg := G.blt
  have hc := G.calm
  cases b with
  | len => exact l_b1 hx (by decide) g mg boot_len cr_len rb_len hs hp
  | abs => exact l_b1 hx (by decide) g mg PyProof.Rows.boot_abs call_abs rb_abs hs hp
  | int => exact l_bT hx (by decide) g mg boot_int call_int1 rb_int hs hp
  | min2 => exact l_b1 hx (by decide) g mg boot_min (call_min2 hc) rb_min2 hs hp
  | max2 => exact l_b1 hx (by decide) g mg boot_max (call_max2 hc) rb_max2 hs hp
  | min1 => exact l_b1 hx (by decide) g mg boot_min (cr_min hc) rb_min1 hs hp
  | max1 => exact l_b1 hx (by decide) g mg boot_max (cr_max hc) rb_max1 hs hp
  | sum => exact l_b1 hx (by decide) g mg boot_sum (cr_sum hc) rb_sum hs hp
  | any => exact l_b1 hx (by decide) g mg boot_any (cr_any hc) rb_any hs hp
  | all => exact l_b1 hx (by decide) g mg boot_all (cr_all hc) rb_all hs hp
  | tuple => exact l_bT hx (by decide) g mg boot_tuple call_tuple_of rb_tuple hs hp
  | list => exact l_bT hx (by decide) g mg boot_list call_list_of rb_list hs hp
  | sorted => exact l_b1 hx (by decide) g mg boot_sorted (cr_sort3 hc) rb_sorted hs hp
  | dict => exact l_bT hx (by decide) g mg boot_dict (cr_dict hc) rb_dict hs hp
  | str => exact absurd rfl hb

mutual
theorem sE : ∀ (e : Ex) {X : Cx} {sc : Scope} (G : Gd P N n X) (S : ScOk sc X) {x : Expr} (h : mE P N sc e x = true), PE X x (tE X.K (callN P n) e)
  | .var i z, X, sc, G, S, x, h => by
    simp only [mE] at h
    split at h
    · simp only [Bool.and_eq_true, decide_eq_true_eq] at h
      obtain ⟨h1, h2, h3⟩ := vis_of S h.2
      exact l_var (by rw [G.hN]; exact h.1) h1 h2 h3
    · cases h
  | .lit p, X, sc, G, S, x, h => by
    simp only [mE] at h
    split at h
    · exact l_lit h
    · cases h
  | .glob _ _, X, sc, G, S, x, h => by simp [mE] at h
  | .bin op a b, X, sc, G, S, x, h => by
    simp only [mE] at h
    split at h
    · simp only [Bool.and_eq_true] at h
      obtain rfl := opb_eq h.1.1
      exact l_bin (sE a G S h.1.2) (sE b G S h.2)
    · cases h
  | .neg a, X, sc, G, S, x, h => by
    simp only [mE] at h
    split at h
    · exact l_neg (sE a G S h)
    · cases h
  | .cmp op a b, X, sc, G, S, x, h => by
    simp only [mE] at h
    split at h
    · simp only [Bool.and_eq_true] at h
      obtain ⟨⟨⟨h1, h2⟩, h3⟩, h4⟩ := h
      obtain rfl := opc_eq h1
      exact l_cmp G.units (sE a G S h2) (sE b G S h3) h4
    · cases h
  | .cmp2 op op2 a b c, X, sc, G, S, x, h => by
    simp only [mE] at h
    split at h
    · simp only [Bool.and_eq_true] at h
      obtain ⟨⟨⟨⟨⟨⟨h1, h2⟩, h3⟩, h4⟩, h5⟩, h6⟩, h7⟩ := h
      obtain rfl := opc_eq h1
      obtain rfl := opc_eq h2
      exact l_cmp2 G.units (sE a G S h3) (sE b G S h4) (sE c G S h5) h7
    · cases h
  | .boo isAnd a b, X, sc, G, S, x, h => by
    simp only [mE] at h
    split at h
    · rename_i o l r rs p
      simp only [Bool.and_eq_true] at h
      obtain ⟨⟨h1, h2⟩, h3⟩ := h
      cases rs with
      | nil => exact l_boo h1 (sE a G S h2) (pe_one (sE b G S h3))
      | cons r2 rs => exact l_boo h1 (sE a G S h2) (sE b G S h3)
    · cases h
  | .not a, X, sc, G, S, x, h => by
    simp only [mE] at h
    split at h
    · exact l_not (sE a G S h)
    · cases h
  | .ite c a b, X, sc, G, S, x, h => by
    simp only [mE] at h
    split at h
    · simp only [Bool.and_eq_true] at h
      exact l_ite (sT c G S h.1.1).1 (sE a G S h.1.2) (sE b G S h.2)
    · cases h
  | .tup es, X, sc, G, S, x, h => by
    simp only [mE] at h
    split at h
    · exact l_tup (sL es G S h)
    · cases h
  | .lst m es, X, sc, G, S, x, h => by
    simp only [mE] at h
    split at h
    · exact l_lst (sL es G S h)
    · cases h
  | .dict m ks, X, sc, G, S, x, h => by
    simp only [mE] at h
    split at h
    · split at h
      · exact l_dnil
      · cases h
    · rename_i k kk vv p
      simp only [Bool.and_eq_true, decide_eq_true_eq] at h
      obtain ⟨h1, h2, h3⟩ := mD_sh h.2
      have pps := sD ks G S (pos := p) h.2
      obtain ⟨a, b, r, rfl⟩ := h3 (List.cons_ne_nil _ _)
      exact l_dict pps h1 h2 (List.cons_ne_nil _ _) h.1
    · cases h
  | .idx a i, X, sc, G, S, x, h => by
    simp only [mE] at h
    split at h
    · simp only [Bool.and_eq_true] at h
      exact l_idx G.units (sE a G S h.1.1) (sE i G S h.1.2) h.2
    · cases h
  | .slc a lo hi, X, sc, G, S, x, h => by
    simp only [mE] at h
    split at h
    · simp only [Bool.and_eq_true] at h
      exact l_slc (sE a G S h.1.1) (sO lo G S h.1.2) (sO hi G S h.2)
    · cases h
  | .rev _, X, sc, G, S, x, h => by simp [mE] at h
  | .call f es, X, sc, G, S, x, h => by
    simp only [mE] at h
    split at h
    · rename_i y p ls p2
      simp only [Bool.and_eq_true] at h
      obtain ⟨⟨⟨h1, h2⟩, h3⟩, h4⟩ := h
      split at h1
      · rename_i fn hf
        rw [decide_eq_true_eq] at h1
        obtain ⟨g1, g2⟩ := gl_of S h2
        exact l_call G hf h1 g1 g2 (sL es G S h3) (mL_plain h3) (by
          intro e
          subst e
          cases h4)
      · cases h1
    · cases h
  | .blt m b es, X, sc, G, S, x, h => by
    simp only [mE] at h
    split at h
    · rename_i y p ls p2
      simp only [Bool.and_eq_true, decide_eq_true_eq] at h
      obtain ⟨⟨⟨⟨h1, h2⟩, h3⟩, h4⟩, h5⟩ := h
      have hs := sL es G S h4
      have hp := mL_plain h4
      have hb : b ≠ .str := by
        rintro rfl
        cases h5
      cases ls with
      | nil => cases b <;> cases h3
      | cons l ls => exact s_blt G S h1 h2 hs hp hb
    · cases h
  | .mth m o es, X, sc, G, S, x, h => by
    simp only [mE] at h
    split at h
    · rename_i l y apos ls cpos
      simp only [Bool.and_eq_true, decide_eq_true_eq] at h
      obtain ⟨⟨⟨⟨⟨⟨h1, h2⟩, h3⟩, h4⟩, h5⟩, h6⟩, h7⟩ := h
      subst h1
      have ho := sE o G S h5
      have hp := mL_plain h6
      have one : mthN m = 1 → ∃ e a, ls = [e] ∧ es = .cons a .nil := fun hm => by
        rw [hm] at h2
        match ls, es, h2, h6 with
        | [e], .cons a .nil, _, _ => exact ⟨e, a, rfl, rfl⟩
        | [e], .nil, _, h6 => simp [mL] at h6
        | [e], .cons a (.cons b c), _, h6 => simp [mL] at h6
      have two : mthN m = 2 → ∃ e f a b, ls = [e, f] ∧ es = .cons a (.cons b .nil) := fun hm => by
        rw [hm] at h2
        match ls, es, h2, h6 with
        | [e, f], .cons a (.cons b .nil), _, _ => exact ⟨e, f, a, b, rfl, rfl⟩
        | [e, f], .nil, _, h6 => simp [mL] at h6
        | [e, f], .cons a .nil, _, h6 => simp [mL] at h6
        | [e, f], .cons a (.cons b (.cons c d)), _, h6 => simp [mL] at h6
      have zero : mthN m = 0 → ls = [] ∧ es = .nil := fun hm => by
        rw [hm] at h2
        match ls, es, h2, h6 with
        | [], .nil, _, _ => exact ⟨rfl, rfl⟩
        | [], .cons a b, _, h6 => simp [mL] at h6
      cases m with
      | append =>
        obtain ⟨e, a, rfl, rfl⟩ := one rfl
        simp only [mL, Bool.and_eq_true] at h6
        exact l_chg1 rfl PySem.F.slot_list_append PySem.F.type_list_append mt_append rm_append h3 h4 ho (sE a G S h6.1.1) h6.1.2
      | extend =>
        obtain ⟨e, a, rfl, rfl⟩ := one rfl
        simp only [mL, Bool.and_eq_true] at h6
        exact l_chg1 rfl PySem.F.slot_list_extend PySem.F.type_list_extend mt_extend rm_extend h3 h4 ho (sE a G S h6.1.1) h6.1.2
      | pop =>
        obtain ⟨rfl, rfl⟩ := zero rfl
        exact l_chg0 rfl PySem.F.slot_list_pop PySem.F.type_list_pop mt_pop rm_pop h3 h4 ho
      | popAt =>
        obtain ⟨e, a, rfl, rfl⟩ := one rfl
        simp only [mL, Bool.and_eq_true] at h6
        exact l_chg1 rfl PySem.F.slot_list_pop PySem.F.type_list_pop mt_popAt rm_popAt h3 h4 ho (sE a G S h6.1.1) h6.1.2
      | get1 =>
        obtain ⟨e, a, rfl, rfl⟩ := one rfl
        simp only [mL, Bool.and_eq_true] at h6
        exact l_get1 G.units h3 h4 ho (sE a G S h6.1.1) h6.1.2
      | get2 =>
        obtain ⟨e, f, a, b, rfl, rfl⟩ := two rfl
        simp only [mL, Bool.and_eq_true] at h6
        exact l_get2 G.units h3 h4 ho (sE a G S h6.1.1) (sE b G S h6.2.1.1) h6.1.2 h6.2.1.2
      | lower =>
        obtain ⟨rfl, rfl⟩ := zero rfl
        exact l_lower h3 h4 ho
      | insert => cases h7
      | join => cases h7
      | count => cases h7
      | index => cases h7
    · cases h
  | .isi a t, X, sc, G, S, x, h => by
    simp only [mE] at h
    split at h
    · simp only [Bool.and_eq_true, decide_eq_true_eq] at h
      obtain ⟨⟨⟨⟨⟨h1, h2⟩, h3⟩, h4⟩, h5⟩, h6⟩ := h
      exact l_isi h1 h3 (gl_of S h2).1 (gl_of S h4).1 G.blt (sE a G S h5) h6
    · cases h
  | .comp m elt own tg it ifs, X, sc, G, S, x, h => by
    simp only [mE] at h
    split at h
    · rename_i el t i fs sc2 p
      simp only [Bool.and_eq_true] at h
      obtain ⟨⟨⟨⟨⟨h1, h2⟩, h3⟩, h4⟩, h5⟩, h6⟩ := h
      have b0 := blkOk_by h1
      have S2 : ∀ (s : Shared) (H : Hp) (D : Addr) (cl : List (Str × Addr)) (fp : List Addr), ScOk sc2 (X.blk s H sc2 (compEnvC sc2 cl D X.env) fp) := fun s H D cl fp => S.blk b0.kind s H D cl fp
      have G2 : ∀ (s : Shared) (H : Hp) (D : Addr) (cl : List (Str × Addr)) (fp : List Addr), Gd P N n (X.blk s H sc2 (compEnvC sc2 cl D X.env) fp) := fun s H D cl fp => G.blk s H sc2 _ fp
      refine l_comp G.calm (by rw [G.hN]; exact G.nd) (own_map (N := N) own) (own_tg h6) (sI it G S h2) (by rw [G.hN]; exact blk_conv S b0) (fun s H D cl fp => ?_) (fun s H D cl fp => ?_) (fun s H D cl fp => sE elt (G2 s H D cl fp) (S2 s H D cl fp) h4) (mI_plain h2)
      · exact l_tg (G2 s H D cl fp).calm (S2 s H D cl fp) G.hN G.nd h3
      · cases fs with
        | nil =>
          simp only at h5
          split at h5
          · exact PTs.imp pts_nil fun σ H Q ⟨φ, h, env, b, h', R, E, ev, k⟩ => by
              simp only [evT] at ev
              cases ev
              exact k H φ R Ext.refl
          · cases h5
        | cons c fs =>
          cases fs with
          | nil => exact pts_one (sT ifs (G2 s H D cl fp) (S2 s H D cl fp) h5).1
          | cons c2 fs => cases h5
    · cases h
  | .comp2 .., X, sc, G, S, x, h => by simp [mE] at h
theorem sL : ∀ (es : Exs) {X : Cx} {sc : Scope} (G : Gd P N n X) (S : ScOk sc X) {ls : List Expr} (h : mL P N sc es ls = true), PA X ls (tL X.K (callN P n) es)
  | .nil, X, sc, G, S, ls, h => by
    simp only [mL] at h
    split at h
    · exact l_nil
    · cases h
  | .cons a es, X, sc, G, S, ls, h => by
    simp only [mL] at h
    split at h
    · simp only [Bool.and_eq_true] at h
      exact l_cons (sE a G S h.1.1) h.1.2 (sL es G S h.2)
    · cases h
theorem sO : ∀ (es : Exs) {X : Cx} {sc : Scope} (G : Gd P N n X) (S : ScOk sc X) {o : Option Expr} (h : mO P N sc es o = true), PO X o (tO X.K (callN P n) es)
  | .nil, X, sc, G, S, o, h => by
    simp only [mO] at h
    split at h
    · exact l_o0
    · cases h
  | .cons a .nil, X, sc, G, S, o, h => by
    simp only [mO] at h
    split at h
    · simp only [Bool.and_eq_true] at h
      exact l_o1 (sE a G S h.1)
    · cases h
  | .cons a (.cons b c), X, sc, G, S, o, h => by simp [mO] at h
theorem sD : ∀ (ks : Prs) {X : Cx} {sc : Scope} (G : Gd P N n X) (S : ScOk sc X) {keys : List (Option Expr)} {vals : List Expr} {pos : Pos} (h : mD P N sc ks keys vals = true), PPs X pos keys vals (prsT X.K (callN P n) ks)
  | .nil, X, sc, G, S, keys, vals, pos, h => by
    simp only [mD] at h
    split at h
    · exact pps_nil
    · cases h
  | .cons k v r, X, sc, G, S, keys, vals, pos, h => by
    simp only [mD] at h
    split at h
    · simp only [Bool.and_eq_true] at h
      exact pps_cons (sE k G S h.1.1) (sE v G S h.1.2) (sD r G S h.2)
    · cases h
theorem sT : ∀ (t : Ts) {X : Cx} {sc : Scope} (G : Gd P N n X) (S : ScOk sc X) {x : Expr} (h : mT P N sc t x = true), PT X x (tT X.K (callN P n) t) ∧ ∀ o vs p, x = .BoolOp o vs p → PW X x (tT X.K (callN P n) t)
  | .yes, X, sc, G, S, x, h => by simp [mT] at h
  | .of (.cmp op a b), X, sc, G, S, x, h => by
    simp only [mT, mE, Bool.and_eq_true] at h
    obtain ⟨h, _⟩ := h
    split at h
    · simp only [Bool.and_eq_true] at h
      obtain ⟨⟨⟨h1, h2⟩, h3⟩, h4⟩ := h
      obtain rfl := opc_eq h1
      exact ⟨l_cmpT G.units (sE a G S h2) (sE b G S h3) h4, fun o vs p e => by cases e⟩
    · cases h
  | .of (.cmp2 op op2 a b c), X, sc, G, S, x, h => by
    simp only [mT, mE, Bool.and_eq_true] at h
    obtain ⟨h, _⟩ := h
    split at h
    · simp only [Bool.and_eq_true] at h
      obtain ⟨⟨⟨⟨⟨⟨h1, h2⟩, h3⟩, h4⟩, h5⟩, h6⟩, h7⟩ := h
      obtain rfl := opc_eq h1
      obtain rfl := opc_eq h2
      exact ⟨l_cmp2T G.units (sE a G S h3) (sE b G S h4) (sE c G S h5) h7, fun o vs p e => by cases e⟩
    · cases h
  | .of a, X, sc, G, S, x, h => by
    simp only [mT, Bool.and_eq_true, Bool.or_eq_true] at h
    by_cases hc : isCmp a = true
    · cases a <;> first | (simp [isCmp] at hc; done) | skip
      · rename_i op a b
        simp only [mE] at h
        obtain ⟨h, _⟩ := h
        split at h
        · simp only [Bool.and_eq_true] at h
          obtain ⟨⟨⟨h1, h2⟩, h3⟩, h4⟩ := h
          obtain rfl := opc_eq h1
          exact ⟨l_cmpT G.units (sE a G S h2) (sE b G S h3) h4, fun o vs p e => by cases e⟩
        · cases h
      · rename_i op op2 a b c
        simp only [mE] at h
        obtain ⟨h, _⟩ := h
        split at h
        · simp only [Bool.and_eq_true] at h
          obtain ⟨⟨⟨⟨⟨⟨h1, h2⟩, h3⟩, h4⟩, h5⟩, h6⟩, h7⟩ := h
          obtain rfl := opc_eq h1
          obtain rfl := opc_eq h2
          exact ⟨l_cmp2T G.units (sE a G S h3) (sE b G S h4) (sE c G S h5) h7, fun o vs p e => by cases e⟩
        · cases h
    · have hp : plainT x = true := h.2.resolve_right hc
      exact ⟨l_of (sE a G S h.1) hp, fun o vs p e => by subst e; cases hp⟩
  | .not t, X, sc, G, S, x, h => by
    simp only [mT] at h
    split at h
    · exact ⟨l_notT (sT t G S h).1, fun o vs p e => by cases e⟩
    · cases h
  | .boo isAnd a b, X, sc, G, S, x, h => by
    simp only [mT] at h
    split at h
    · rename_i o l r rs p
      simp only [Bool.and_eq_true] at h
      obtain ⟨⟨h1, h2⟩, h3⟩ := h
      have w : PW X (.BoolOp o (l :: r :: rs) p) (tT X.K (callN P n) (.boo isAnd a b)) := by
        cases rs with
        | nil =>
          refine l_booT1 h1 (sT a G S h2).1 ?_
          cases o with
          | And => exact pw_and1 (sT b G S h3).1
          | Or => exact pw_or1 (sT b G S h3).1
        | cons r2 rs => exact l_booT1 h1 (sT a G S h2).1 ((sT b G S h3).2 _ _ _ rfl)
      exact ⟨w.pt, fun _ _ _ _ => w⟩
    · cases h
theorem sI : ∀ (it : Itr) {X : Cx} {sc : Scope} (G : Gd P N n X) (S : ScOk sc X) {x tg : Expr} (h : mI P N sc it x = true), PI X tg x (tI X.K (callN P n) it)
  | .var i z, X, sc, G, S, x, tg, h => by
    simp only [mI] at h
    split at h
    · simp only [Bool.and_eq_true, decide_eq_true_eq] at h
      obtain ⟨h1, h2, h3⟩ := vis_of S h.2
      exact l_ivar (by rw [G.hN]; exact h.1) h1 h2 h3
    · cases h
  | .ex a, X, sc, G, S, x, tg, h => by
    simp only [mI, Bool.and_eq_true] at h
    exact l_iex (sE a G S h.1)
  | .rng1 a, X, sc, G, S, x, tg, h => by
    simp only [mI] at h
    split at h
    · simp only [Bool.and_eq_true, decide_eq_true_eq] at h
      obtain ⟨⟨⟨h1, h2⟩, h3⟩, h4⟩ := h
      exact l_rng1 h1 (gl_of S h2).1 G.blt (sE a G S h3) h4
    · cases h
  | .rng2 a b, X, sc, G, S, x, tg, h => by
    simp only [mI] at h
    split at h
    · simp only [Bool.and_eq_true, decide_eq_true_eq] at h
      obtain ⟨⟨⟨⟨⟨h1, h2⟩, h3⟩, h4⟩, h5⟩, h6⟩ := h
      exact l_rng2 h1 (gl_of S h2).1 G.blt (sE a G S h3) (sE b G S h5) h4 h6
    · cases h
  | .rng3 a b c, X, sc, G, S, x, tg, h => by simp [mI] at h
  | .enum a, X, sc, G, S, x, tg, h => by simp [mI] at h
  | .zip a b, X, sc, G, S, x, tg, h => by simp [mI] at h
end
end
end Ev

set_option Elab.async false
set_option linter.all false
set_option maxRecDepth 100000
set_option maxHeartbeats 2000000
namespace Ev
open PySem PySem.Spec PyProof.Rows L2

theorem sw_comp {el t i : Expr} {fs : List Expr} {sc sc2 : Scope} {p pos : Pos} {y : Str} {l : Nat} {X : Cx} (S : ScOk sc X) (hl : locB sc y = true) :
    (X.env.scope.names.lookup y = some .local ∧ swapsWith (.ListComp el [⟨t, i, fs, 0⟩] sc2 pos) (some (.Name y p)) l X.env = pure true) ∨ swapsWith (.ListComp el [⟨t, i, fs, 0⟩] sc2 pos) (some (.Name y p)) l X.env = pure false := by
  unfold locB at hl
  have hb : X.env.blockKind = .function := by unfold Env.blockKind; rw [S.kind]; rfl
  cases hk : sc.names.lookup y with
  | none => rw [hk] at hl; cases hl
  | some k =>
    rw [hk] at hl
    cases k <;> first | cases hl | skip
    · have h1 := S.lcl y hk
      have ky : X.env.kindOf y = some .local := h1
      by_cases hc : (p.line == pos.line) = true ∧ (sc2.names.any fun (n, k) => n == y && (k == .local || k == .cell)) = false
      · exact .inl ⟨h1, sw_true S.kind h1 hc.1 hc.2⟩
      · right
        unfold swapsWith
        simp only [hb, ky, Expr.pos]
        by_cases h2 : (p.line == pos.line) = true
        · have h3 : (sc2.names.any fun (n, k) => n == y && (k == .local || k == .cell)) = true := by
            rw [← Bool.not_eq_false]
            exact fun z => hc ⟨h2, z⟩
          rw [h2]
          show pure (_ && !(sc2.names.any fun (n, k) => n == y && (k == .local || k == .cell))) = pure false
          rw [h3]
          simp
        · have h2 : (p.line == pos.line) = false := by simpa using h2
          rw [h2]
          simp
    · right
      have ky : X.env.kindOf y = some .cell := S.cel y hk
      unfold swapsWith
      simp only [hb, ky]
      rfl
section
variable {P : List Fn} {N : List Str} {n : Nat}
theorem mE_comp {sc : Scope} {a : Ex} {x : Expr} (h : mE P N sc a x = true) (hn : notComp x = false) : ∃ m elt own tg it ifs el t i fs sc2 p, a = .comp m elt own tg it ifs ∧ x = .ListComp el [⟨t, i, fs, 0⟩] sc2 p := by
  cases a <;> simp only [mE] at h <;> first
    | (split at h <;> first | (cases hn; done) | (cases h; done) | skip)
    | (cases h; done)
    | skip
  all_goals first
    | exact ⟨_, _, _, _, _, _, _, _, _, _, _, _, rfl, rfl⟩
    | skip
theorem s_asg {X : Cx} {sc : Scope} (G : Gd P N n X) (S : ScOk sc X) {i : Nat} {a : Ex} {y : Str} {p pos : Pos} {e : Expr} (h1 : N[i]? = some y) (h2 : locB sc y = true) (h3 : mE P N sc a e = true) : PS X (.Assign [.Name y p] e pos) (tS X.K (callN P n) (.asg (.nm i) a)) := by
  obtain ⟨l1, l2⟩ := S.loc y h2
  have nd : X.N.Nodup := by rw [G.hN]; exact G.nd
  have hy : X.N[i]? = some y := by rw [G.hN]; exact h1
  cases hn : notComp e with
  | true => exact l_set nd hy l1 l2 (sE a G S h3) (sw_not hn)
  | false =>
    obtain ⟨m, elt, own, tg, it, ifs, el, t, ii, fs, sc2, pp, rfl, rfl⟩ := mE_comp h3 hn
    rcases sw_comp (el := el) (t := t) (i := ii) (fs := fs) (sc2 := sc2) (p := p) (pos := pp) (l := pos.line) S h2 with ⟨hl, hsw⟩ | hsw
    · simp only [mE, Bool.and_eq_true] at h3
      obtain ⟨⟨⟨⟨⟨h1, h2⟩, h3⟩, h4⟩, h5⟩, h6⟩ := h3
      have b0 := blkOk_by h1
      have S2 : ∀ (s : Shared) (H : Hp) (D : Addr) (cl : List (Str × Addr)) (fp : List Addr), ScOk sc2 (X.blk s H sc2 (compEnvC sc2 cl D X.env) fp) := fun s H D cl fp => S.blk b0.kind s H D cl fp
      have G2 : ∀ (s : Shared) (H : Hp) (D : Addr) (cl : List (Str × Addr)) (fp : List Addr), Gd P N n (X.blk s H sc2 (compEnvC sc2 cl D X.env) fp) := fun s H D cl fp => G.blk s H sc2 _ fp
      refine l_setc G.calm nd hy hl hsw (own_map (N := N) own) (own_tg h6) (sI it G S h2) (by rw [G.hN]; exact blk_conv S b0) (fun s H D cl fp => ?_) (fun s H D cl fp => ?_) (fun s H D cl fp => sE elt (G2 s H D cl fp) (S2 s H D cl fp) h4) (mI_plain h2)
      · exact l_tg (G2 s H D cl fp).calm (S2 s H D cl fp) G.hN G.nd h3
      · cases fs with
        | nil =>
          simp only at h5
          split at h5
          · exact PTs.imp pts_nil fun σ H Q ⟨φ, h, env, b, h', R, E, ev, k⟩ => by
              simp only [evT] at ev
              cases ev
              exact k H φ R Ext.refl
          · cases h5
        | cons c fs =>
          cases fs with
          | nil => exact pts_one (sT ifs (G2 s H D cl fp) (S2 s H D cl fp) h5).1
          | cons c2 fs => cases h5
    · exact l_set nd hy l1 l2 (sE _ G S h3) hsw
theorem go_two {sc : Scope} {is : List Nat} {x y : Str} {px py : Pos} (h : tgB.go N sc is [.Name x px, .Name y py] = true) : ∃ i j, is = [i, j] ∧ N[i]? = some x ∧ N[j]? = some y := by
  match is, h with
  | [i, j], h =>
    simp only [tgB.go, Bool.and_eq_true, decide_eq_true_eq] at h
    exact ⟨i, j, rfl, h.1.1, h.2.1.1⟩
  | [], h => simp [tgB.go] at h
  | [_], h => simp [tgB.go] at h
  | _ :: _ :: _ :: _, h => simp [tgB.go] at h
theorem go_three {sc : Scope} {is : List Nat} {x y z : Str} {px py pz : Pos} (h : tgB.go N sc is [.Name x px, .Name y py, .Name z pz] = true) : ∃ i j l, is = [i, j, l] ∧ N[i]? = some x ∧ N[j]? = some y ∧ N[l]? = some z := by
  match is, h with
  | [i, j, l], h =>
    simp only [tgB.go, Bool.and_eq_true, decide_eq_true_eq] at h
    exact ⟨i, j, l, rfl, h.1.1, h.2.1.1, h.2.2.1.1⟩
  | [], h => simp [tgB.go] at h
  | [_], h => simp [tgB.go] at h
  | [_, _], h => simp [tgB.go] at h
  | _ :: _ :: _ :: _ :: _, h => simp [tgB.go] at h
theorem s_par {X : Cx} {sc : Scope} (G : Gd P N n X) (S : ScOk sc X) {is : List Nat} {es : Exs} {ns vs : List Expr} {k k2 : Nat} {p p2 pos : Pos} (h1 : tgB.go N sc is ns = true) (h2 : mL P N sc es vs = true) (h3 : is.length ≤ 1000) (h4 : (swNo sc ns vs || swYes2 sc ns vs || swYes3 sc ns vs) = true) :
    PS X (.Assign [.Tuple ns k p] (.Tuple vs k2 p2) pos) (tS X.K (callN P n) (.par is es)) := by
  have nd : X.N.Nodup := by rw [G.hN]; exact G.nd
  have hs := sL es G S h2
  have hp := mL_plain h2
  simp only [Bool.or_eq_true] at h4
  rcases h4 with (h4 | h4) | h4
  · obtain ⟨a, b, c⟩ := names_ok S G.hN G.nd h1
    exact l_parT G.calm a b c hs (by rw [sizeLine_eq]; omega) (ss_no S h4)
  · unfold swYes2 at h4
    split at h4
    · rename_i x px y py a b
      simp only [Bool.and_eq_true, decide_eq_true_eq, Bool.not_eq_true'] at h4
      obtain ⟨⟨⟨⟨⟨q1, q2⟩, q3⟩, q4⟩, q5⟩, q6⟩ := h4
      obtain ⟨i, j, rfl, n1, n2⟩ := go_two h1
      have lx := loc_of S q1
      have ly := loc_of S q2
      exact l_par2 G.calm nd (by rw [G.hN]; exact n1) (by rw [G.hN]; exact n2) (by rintro rfl; rw [n1] at n2; exact q4 (Option.some.inj n2)) lx ly hs (ss_yes2 S.kind lx ly q4 q3 q5 q6 (hp a (by simp)) (hp b (by simp)))
    · cases h4
  · unfold swYes3 at h4
    split at h4
    · rename_i x px y py z pz a b c
      simp only [Bool.and_eq_true, decide_eq_true_eq, Bool.not_eq_true'] at h4
      obtain ⟨⟨⟨⟨⟨⟨⟨⟨⟨q1, q2⟩, q3⟩, q4⟩, q5⟩, q6⟩, q7⟩, q8⟩, q9⟩, q10⟩ := h4
      obtain ⟨i, j, l, rfl, n1, n2, n3⟩ := go_three h1
      have lx := loc_of S q1
      have ly := loc_of S q2
      have lz := loc_of S q3
      exact l_par3 G.calm nd (by rw [G.hN]; exact n1) (by rw [G.hN]; exact n2) (by rw [G.hN]; exact n3) (by rintro rfl; rw [n1] at n2; exact q6 (Option.some.inj n2)) (by rintro rfl; rw [n1] at n3; exact q7 (Option.some.inj n3)) (by rintro rfl; rw [n2] at n3; exact q8 (Option.some.inj n3)) lx ly lz hs
        (ss_yes3 S.kind lx ly lz q6 q7 q8 q4 q5 q9 q10 (hp a (by simp)) (hp b (by simp)) (hp c (by simp)))
    · cases h4
mutual
theorem sS : ∀ (s : Stm) {X : Cx} {sc : Scope} (G : Gd P N n X) (S : ScOk sc X) {x : Stmt} (h : mS P N sc s x = true), PS X x (tS X.K (callN P n) s)
  | .expr a, X, sc, G, S, x, h => by
    simp only [mS] at h
    split at h
    · simp only [Bool.and_eq_true] at h
      exact l_expr (sE a G S h.1) h.2
    · cases h
  | .asg (.nm i) a, X, sc, G, S, x, h => by
    simp only [mS] at h
    split at h
    · simp only [Bool.and_eq_true, decide_eq_true_eq] at h
      exact s_asg G S h.1.1 h.1.2 h.2
    · cases h
  | .asg (.tp is) a, X, sc, G, S, x, h => by
    simp only [mS] at h
    split at h
    · simp only [Bool.and_eq_true] at h
      exact l_unp (l_tg G.calm S G.hN G.nd h.1.1) (sE a G S h.1.2) h.2
    · cases h
  | .par is es, X, sc, G, S, x, h => by
    simp only [mS] at h
    split at h
    · rename_i ns k p vs k2 p2 pos
      rw [Bool.and_eq_true] at h
      obtain ⟨h, h4⟩ := h
      simp only [Bool.and_eq_true, decide_eq_true_eq] at h
      exact s_par G S h.1.1 h.1.2 h.2 h4
    · cases h
  | .aug i op a, X, sc, G, S, x, h => by
    simp only [mS] at h
    split at h
    · simp only [Bool.and_eq_true, decide_eq_true_eq] at h
      obtain ⟨⟨⟨h1, h2⟩, h3⟩, h4⟩ := h
      obtain ⟨l1, l2⟩ := S.loc _ h2
      obtain rfl := opb_eq h3
      exact l_aug (by rw [G.hN]; exact G.nd) (by rw [G.hN]; exact h1) l1 l2 (sE a G S h4)
    · cases h
  | .put o k a, X, sc, G, S, x, h => by
    simp only [mS] at h
    split at h
    · simp only [Bool.and_eq_true] at h
      obtain ⟨⟨⟨h1, h2⟩, h3⟩, h4⟩ := h
      exact l_put G.units (sE o G S h1) (sE k G S h2) (sE a G S h4) h3
    · cases h
  | .augput o k op a, X, sc, G, S, x, h => by
    simp only [mS] at h
    split at h
    · simp only [Bool.and_eq_true] at h
      obtain ⟨⟨⟨⟨h1, h2⟩, h3⟩, h4⟩, h5⟩ := h
      obtain rfl := opb_eq h4
      exact l_augput G.units (sE o G S h1) (sE k G S h2) (sE a G S h5) h3
    · cases h
  | .ret a, X, sc, G, S, x, h => by
    simp only [mS] at h
    split at h
    · exact l_ret (sE a G S h)
    · cases h
  | .ifs c a b, X, sc, G, S, x, h => by
    simp only [mS] at h
    split at h
    · simp only [Bool.and_eq_true] at h
      exact l_if (sT c G S h.1.1).1 (sSs a G S h.1.2) (sSs b G S h.2)
    · cases h
  | .whil c b, X, sc, G, S, x, h => by
    simp only [mS] at h
    split at h
    · simp only [Bool.and_eq_true] at h
      exact l_whil G.pass (sT c G S h.1).1 (sSs b G S h.2)
    · cases h
  | .for t it b, X, sc, G, S, x, h => by
    simp only [mS] at h
    split at h
    · simp only [Bool.and_eq_true] at h
      exact l_for G.pass G.calm (sI it G S h.1.1) (l_tg G.calm S G.hN G.nd h.1.2) (sSs b G S h.2) (mI_plain h.1.1)
    · cases h
  | .brk, X, sc, G, S, x, h => by
    simp only [mS] at h
    split at h
    · exact l_brk
    · cases h
  | .cont, X, sc, G, S, x, h => by
    simp only [mS] at h
    split at h
    · exact l_cont
    · cases h
  | .pass, X, sc, G, S, x, h => by
    simp only [mS] at h
    split at h
    · exact l_pass
    · cases h
theorem sSs : ∀ (ss : Sts) {X : Cx} {sc : Scope} (G : Gd P N n X) (S : ScOk sc X) {xs : List Stmt} (h : mSs P N sc ss xs = true), PSs X xs (tSs X.K (callN P n) ss)
  | .nil, X, sc, G, S, xs, h => by
    simp only [mSs] at h
    split at h
    · exact l_snil
    · cases h
  | .cons s ss, X, sc, G, S, xs, h => by
    simp only [mSs] at h
    split at h
    · simp only [Bool.and_eq_true] at h
      exact l_scons (sS s G S h.1) (sSs ss G S h.2)
    · cases h
end
end
end Ev

set_option Elab.async false
set_option linter.all false
set_option maxRecDepth 100000
namespace Ev
open PySem PySem.Spec PyProof.Rows L2

/-- a def and its own form are the same -/
def scopeB (N ps : List Str) (sc : Scope) : Bool :=
  (match sc.kind with | .function => true | _ => false) && !sc.isCoroutine && !sc.isGenerator && decide N.Nodup && decide (N.take ps.length = ps) &&
    (ps.all fun x => match sc.names.lookup x with | some .local => true | some .cell => true | _ => false) &&
    (sc.names.all fun y => match y.2 with | .free => false | _ => true)
def okB (P : List Fn) (fn : Fn) (st : Stmt) : Bool := scopeB (fn.N.map strV) (fn.ps.map strV) (defScope st) && mSs P (fn.N.map strV) (defScope st) fn.body (defBody st) && decide (fn.ps.length ≤ fn.N.length)
theorem scope_of {N ps : List Str} {sc : Scope} (h : scopeB N ps sc = true) : FnScope N ps sc := by
  unfold scopeB at h
  simp only [Bool.and_eq_true, Bool.not_eq_true', decide_eq_true_eq, List.all_eq_true] at h
  obtain ⟨⟨⟨⟨⟨⟨h1, h2⟩, h3⟩, h4⟩, h5⟩, h6⟩, h7⟩ := h
  refine ⟨?_, h2, h3, h4, h5, fun x hx => ?_, fun y hy e => ?_⟩
  · split at h1
    · assumption
    · cases h1
  · have := h6 x hx
    split at this
    · exact .inl (by assumption)
    · exact .inr (by assumption)
    · cases this
  · have := h7 y hy
    rw [e] at this
    cases this
section
variable {P : Program} {w : World} {K : PySem.W.Frag} {mg : Str → Option Value} {base : Heap}
theorem er_start {φ : List Addr} {h : AH} {H : Hp} {fn : Fn} {vs : List V} {ss : List SV} (r : SRs K φ h H vs ss) : ER K φ h H (startE fn ss) (start (fn.N.map strV) vs) := by
  have hl := Paired.length r
  refine ⟨by simp [startE, L2.start, hl], fun i s e => ?_⟩
  unfold startE at e
  unfold L2.start
  by_cases hi : i < ss.length
  · rw [List.getElem?_append_left (by simpa using hi), List.getElem?_map, Option.map_eq_some_iff] at e
    obtain ⟨t, e1, e2⟩ := e
    cases e2
    obtain ⟨v, e3, q⟩ := paired_getR r e1
    refine ⟨v, ?_, q⟩
    rw [List.getElem?_append_left (by rw [List.length_map, hl]; exact hi), List.getElem?_map, e3]
    rfl
  · rw [List.getElem?_append_right (by simpa using hi)] at e
    rw [List.getElem?_replicate] at e
    split at e
    · cases e
    · cases e
where
  paired_getR {φ : List Addr} {h : AH} {H : Hp} : ∀ {vs : List V} {ss : List SV} {i : Nat} {s : SV}, SRs K φ h H vs ss → ss[i]? = some s → ∃ v, vs[i]? = some v ∧ SR K φ h H v s
    | _, _, _, _, .nil, e => by simp at e
    | _, _, 0, _, .cons q _, e => by simp at e; subst e; exact ⟨_, rfl, q⟩
    | _, _, i + 1, _, .cons _ t, e => by
      obtain ⟨v, h1, h2⟩ := paired_getR (i := i) t (by simpa using e)
      exact ⟨v, by simpa using h1, h2⟩
theorem retn_sound {φ φ' : List Addr} {h h' h2 : AH} {H H' : Hp} {sv sv2 : SV} {v : V} {Q : VK} (R : HR K φ h H) (R' : HR K φ' h' H') (X' : Ext φ h H φ' h' H') (s : SR K φ' h' H' v sv) (e : retn h.length h' sv = some (sv2, h2)) (k : Kont K φ h H h2 sv2 Q) : Q v H' := by
  cases sv with
  | v p =>
    cases e
    exact k v H' _ (R'.take _) (X'.take (by rw [R.len]; exact Nat.le_refl _)) (VR.take s)
  | o i =>
    obtain ⟨a, rfl, ea⟩ := s
    simp only [retn] at e
    split at e
    · rename_i hi
      cases e
      refine k _ H' _ (R'.take _) (X'.take (by rw [R.len]; exact Nat.le_refl _)) ⟨a, rfl, ?_⟩
      rw [List.getElem?_take, if_pos hi]; exact ea
    · split at e
      · rename_i hi
        cases e
        refine k _ H' _ (R'.take _) (X'.take (by rw [R.len]; omega)) ⟨a, rfl, ?_⟩
        rw [List.getElem?_take, if_pos (by omega)]; exact ea
      · cases e
/-- the def of the form fn, as it stands behind the top -/
def DefIn (Ps : List Fn) (K : PySem.W.Frag) (mg : Str → Option Value) (fn : Fn) : Prop :=
  ∃ st f fd, Fun K (strV fn.name) (strV fn.name) st f fd ∧ mg (strV fn.name) = some (.ref f) ∧ Binds K fd (fn.ps.map strV) [] ∧ okB Ps fn st = true
theorem fn_all {Ps : List Fn} (hb : ∀ x ∈ bltNames, mg (Str.ofString x) = none) (hD : ∀ (i : Nat) (fn : Fn), Ps[i]? = some fn → ∃ st f fd, Fun K (strV fn.name) (strV fn.name) st f fd ∧ mg (strV fn.name) = some (.ref f) ∧ Binds K fd (fn.ps.map strV) [] ∧ okB Ps fn st = true) :
    ∀ (n i : Nat) (fn : Fn) (st : Stmt) (f : Addr) (fd : FuncData), Ps[i]? = some fn → Fun K (strV fn.name) (strV fn.name) st f fd → okB Ps fn st = true → FnOk P w K mg base CX0 n f fd (fn.ps.map strV) (spN K Ps n i)
  | 0, i, fn, st, f, fd, hi, F, ok => by
    have no : ∀ vs H Q E, ¬ spN K Ps 0 i vs H Q E := fun vs H Q E h => by
      obtain ⟨φ, h, ss, sv, h', fn', _, _, _, _, e, _⟩ := h
      cases e
    exact ⟨fun vs H Q E h => absurd h (no vs H Q E), fun A outer s H args us vs Q E _ _ _ _ h => absurd h (no vs H Q E)⟩
  | n + 1, i, fn, st, f, fd, hi, F, ok => by
    have ih := fn_all hb hD n
    unfold okB at ok
    simp only [Bool.and_eq_true, decide_eq_true_eq] at ok
    obtain ⟨⟨ok1, ok2⟩, ok3⟩ := ok
    have S := scope_of ok1
    refine F.ok S (fun vs H Q E h => ?_) (fun cdv A outer s H vs Q E hr h => ?_)
    · obtain ⟨φ, h, ss, sv, h', fn', hf, hl, _⟩ := h
      rw [hi] at hf
      cases hf
      rw [List.length_map]
      exact hl
    · obtain ⟨φ, h, ss, sv, h', fn', hf, hl, R, rs, ev, k⟩ := h
      rw [hi] at hf
      cases hf
      let X := (cxOf CX0 P w K mg base (fn.N.map strV) (strV fn.name) (defScope st) f cdv A outer s H E).nox
      have G : Gd Ps (fn.N.map strV) n X := by
        refine ⟨rfl, S.nd, rfl, hr, rfl, fun j fj hj => ?_, hb⟩
        obtain ⟨stj, a, fdj, Fj, mj, bj, oj⟩ := hD j fj hj
        exact ⟨a, fdj, mj, Fj.kp, bj, ih j fj stj a fdj hj Fj oj⟩
      have Sc : ScOk (defScope st) X := by
        refine ⟨fun x hx => ?_, fun x hx => ?_, fun x hx => ?_, fun x hx => hx, fun x hx => hx, fun x hx => hx, S.kind⟩
        · unfold visB at hx
          simp only [Bool.and_eq_true] at hx
          have h1 := hx.1.1
          split at h1
          · exact .inl (by assumption)
          · exact .inr (.inl (by assumption))
          · exact .inr (.inr (by assumption))
          · cases h1
        · unfold glB at hx
          simp only [Bool.and_eq_true] at hx
          have h1 := hx.1.1
          split at h1
          · assumption
          · cases h1
        · unfold locB at hx
          split at hx
          · exact ⟨.inl (by assumption), .inl rfl⟩
          · exact ⟨.inr (by assumption), .inl rfl⟩
          · cases hx
      refine ⟨_, sSs fn.body G Sc ok2, ?_⟩
      unfold callN at ev
      rw [hi] at ev
      simp only at ev
      split at ev
      · rename_i hlen
        split at ev
        · rename_i e' h2 hb2
          exact ⟨φ, h, _, _, R, er_start rs, hb2, fun σ' H' φ' R' X' E' => retn_sound R R' X' (sv := .v .non) (VR.non) ev k⟩
        · rename_i v h2 hb2
          exact ⟨φ, h, _, _, R, er_start rs, hb2, fun v' H' φ' R' X' s' => retn_sound R R' X' s' ev k⟩
        · cases ev
      · cases ev
/-- what the law promises -/
def spLaw (K : PySem.W.Frag) : Sp := fun vs H Q _ => ∃ (a : Addr) (ns : List Int), vs = [.ref a] ∧ SqL K H a (ns.map V.int) ∧ ns.length ≤ 63 ∧ ∀ H', Q (.bl true) H'
theorem law_of {Ps : List Fn} {n i : Nat} {fn : Fn} {st : Stmt} {f : Addr} {fd : FuncData} (hb : ∀ x ∈ bltNames, mg (Str.ofString x) = none) (hD : ∀ (i : Nat) (fn : Fn), Ps[i]? = some fn → DefIn Ps K mg fn)
    (hi : Ps[i]? = some fn) (F : Fun K (strV fn.name) (strV fn.name) st f fd) (ok : okB Ps fn st = true) (hp : fn.ps.length = 1)
    (pure : ∀ ns : List Int, ns.length ≤ 63 → callN Ps n i [.v (.frl (ns.map .int))] [] = some (.v (.bl true), [])) : FnOk P w K mg base CX0 n f fd (fn.ps.map strV) (spLaw K) := by
  refine FnOk.imp (fn_all hb hD n i fn st f fd hi F ok) fun vs H Q E h => ?_
  obtain ⟨a, ns, rfl, hS, hl, q⟩ := h
  have m0 : ¬ Mt [] [] a := by
    rintro ⟨j, c, e, _⟩
    simp at e
  have R : HR K [] [] H := ⟨rfl, fun i c a e _ => by simp at e, fun i j c d a e _ => by simp at e⟩
  have vs0 : ∀ ns : List Int, VRs K (Mt [] []) H (ns.map V.int) (ns.map PV.int) := fun ns => ints_vs ns
  have vr : VR K (Mt [] []) H (.ref a) (.frl (ns.map .int)) := by
    refine .frl ?_ (by rw [List.length_map]; show _ ≤ 16777216; omega) (vs0 ns)
    rcases hS with hS | hS
    · exact .inl ⟨hS, m0⟩
    · exact .inr fun H' => .inr hS
  refine ⟨[], [], [.v (.frl (ns.map .int))], .v (.bl true), [], fn, hi, hp.symm, R, .cons vr .nil, pure ns hl, fun v H' φ' R' X' r => ?_⟩
  have r : VR K (Mt φ' []) H' v (.bl true) := r
  cases r
  exact q H'
end
end Ev

set_option Elab.async false
set_option linter.all false
set_option maxRecDepth 100000
/-! laws in plain Lean: helps for running defs -/
namespace Ev
theorem beqI (a b : Int) : (a == b) = decide (a = b) := by
  by_cases h : a = b
  · subst h; simp
  · simp [h]
theorem beqS (a b : List Nat) : (a == b) = decide (a = b) := by
  by_cases h : a = b
  · subst h; simp
  · simp [h]
theorem atI_nat {α : Type} (xs : List α) (j : Nat) (x : α) (h : xs[j]? = some x) : atI xs (j : Int) = some x := by
  unfold atI ixN
  have hj := (List.getElem?_eq_some_iff.mp h).1
  rw [if_pos (by omega), if_pos (by omega)]
  simpa using h
theorem atI_0 {α : Type} (x : α) (xs : List α) : atI (x :: xs) 0 = some x := atI_nat (x :: xs) 0 x rfl
theorem atI_1 {α : Type} (x y : α) (xs : List α) : atI (x :: y :: xs) 1 = some y := atI_nat (x :: y :: xs) 1 y rfl
theorem atI_2 {α : Type} (x y z : α) (xs : List α) : atI (x :: y :: z :: xs) 2 = some z := atI_nat (x :: y :: z :: xs) 2 z rfl
theorem cut_le {α : Type} (xs : List α) (lo hi : Option Int) : (cut xs lo hi).length ≤ xs.length := by
  unfold cut
  rw [List.length_take, List.length_drop]
  omega
/-! ### the same twice -/
mutual
def nodes : PV → Nat
  | .tup xs => nodess xs + 1
  | .dict kvs => nodesd kvs + 1
  | _ => 1
def nodess : List PV → Nat
  | [] => 0
  | x :: xs => nodes x + nodess xs
def nodesd : List (PV × PV) → Nat
  | [] => 0
  | (_, x) :: xs => nodes x + nodesd xs
end
mutual
theorem eqv_self : ∀ {p : PV}, plainD p = true → eqv p p = true
  | .non, _ => by simp [eqv]
  | .bl _, _ => by simp [eqv]
  | .int _, _ => by simp [eqv]
  | .str _, _ => by simp [eqv]
  | .tup xs, h => by
    simp only [plainD] at h
    simp only [eqv]
    exact eqvs_self h
  | .lst xs, h => by
    simp only [plainD] at h
    simp only [eqv]
    exact eqvs_self h
  | .frl _, h => by simp [plainD] at h
  | .dict _, h => by simp [plainD] at h
theorem eqvs_self : ∀ {p : List PV}, plainDs p = true → eqvs p p = true
  | [], _ => by simp [eqvs]
  | x :: xs, h => by
    simp only [plainDs, Bool.and_eq_true] at h
    simp only [eqvs, eqv_self h.1, eqvs_self h.2, Bool.and_self]
end
/-! ### the laws' own helpers -/
def L__law_draws_0 : Sts := (.cons (.asg (.nm 3) (.bin .mod (.blt false .int (.cons (.bin .add (.bin .add (.bin .mul (.var 3 false) (.lit (.int 16807))) (.var 4 false)) (.lit (.int 1))) .nil)) (.lit (.int 65537))))
  (.cons (.expr (.mth .append (.var 2 false) (.cons (.bin .mod (.blt false .int (.cons (.var 3 false) .nil)) (.lit (.int 997))) .nil)))
  .nil))
def L__law_draws_2 : Sts := (.cons (.ifs (.of (.cmp .gt (.var 6 false) (.lit (.int 0)))) (.cons (.expr (.mth .append (.var 2 false) (.cons (.bin .mod (.blt false .int (.cons (.var 6 false) .nil)) (.lit (.int 997))) .nil)))
    (.cons (.asg (.nm 6) (.bin .fdiv (.var 6 false) (.lit (.int 997))))
    .nil)) .nil)
  .nil)
def L__law_draws_1 : Sts := (.cons (.asg (.nm 5) (.blt false .abs (.cons (.blt false .int (.cons (.idx (.var 0 false) (.var 4 false)) .nil)) .nil)))
  (.cons (.asg (.nm 3) (.bin .mod (.blt false .int (.cons (.bin .add (.bin .add (.bin .mul (.var 3 false) (.lit (.int 48271))) (.bin .mod (.var 5 false) (.lit (.int 1000003)))) (.var 4 false)) .nil)) (.lit (.int 65537))))
  (.cons (.asg (.nm 6) (.lit (.int 0)))
  (.cons (.ifs (.of (.cmp .ge (.var 5 false) (.bin .pow (.lit (.int 10)) (.lit (.int 18))))) (.cons (.asg (.nm 6) (.var 5 false))
    .nil) (.cons (.expr (.mth .append (.var 2 false) (.cons (.bin .mod (.blt false .int (.cons (.var 5 false) .nil)) (.lit (.int 997))) .nil)))
    (.cons (.expr (.mth .append (.var 2 false) (.cons (.bin .mod (.bin .mod (.blt false .int (.cons (.bin .add (.bin .mul (.var 3 false) (.lit (.int 69621))) (.lit (.int 5))) .nil)) (.lit (.int 65521))) (.lit (.int 997))) .nil)))
    .nil)))
  (.cons (.for (.nm 7) (.rng1 (.lit (.int 60))) L__law_draws_2)
  .nil)))))
def f__law_draws : Fn := ⟨[95,108,97,119,95,100,114,97,119,115], [[115,99,114,105,112,116], [109,97,110,121]], [[115,99,114,105,112,116], [109,97,110,121], [100,114,97,119,115], [109,105,120,101,100], [107], [99,101,108,108], [114,101,115,116], [116,117,114,110]],
  (.cons (.asg (.nm 2) (.lst true .nil))
  (.cons (.asg (.nm 3) (.lit (.int 7)))
  (.cons (.for (.nm 4) (.rng1 (.blt false .len (.cons (.var 0 false) .nil))) L__law_draws_1)
  (.cons (.for (.nm 4) (.rng1 (.var 1 false)) L__law_draws_0)
  (.cons (.ret (.slc (.var 2 true) .nil (.cons (.var 1 false) .nil)))
  .nil)))))⟩
def f__law_next : Fn := ⟨[95,108,97,119,95,110,101,120,116], [[119], [109,97,110,121]], [[119], [109,97,110,121]],
  (.cons (.augput (.var 0 false) (.lit (.str [97,116])) .add (.lit (.int 1)))
  (.cons (.ifs (.of (.cmp .gt (.idx (.var 0 false) (.lit (.str [97,116]))) (.blt false .len (.cons (.idx (.var 0 false) (.lit (.str [100,114,97,119,115]))) .nil)))) (.cons (.ret (.lit (.int 0)))
    .nil) .nil)
  (.cons (.ret (.bin .mod (.blt false .int (.cons (.idx (.idx (.var 0 false) (.lit (.str [100,114,97,119,115]))) (.bin .sub (.idx (.var 0 false) (.lit (.str [97,116]))) (.lit (.int 1)))) .nil)) (.var 1 false)))
  .nil)))⟩
def L__law_same_0 : Sts := (.cons (.asg (.tp [3, 4]) (.mth .pop (.var 2 false) .nil))
  (.cons (.ifs (.of (.isi (.var 4 false) .dict)) (.cons (.ifs (.boo false (.not (.of (.isi (.var 3 false) .dict))) (.boo false (.of (.cmp .ne (.blt false .len (.cons (.var 3 false) .nil)) (.blt false .len (.cons (.var 4 false) .nil)))) (.of (.cmp .ne (.comp false (.var 5 false) [5] (.nm 5) (.var 4 false) (.of (.cmp .notIn (.var 5 false) (.var 3 false)))) (.lst false .nil))))) (.cons (.ret (.lit (.bl false)))
      .nil) .nil)
    (.cons (.expr (.mth .extend (.var 2 false) (.cons (.comp false (.tup (.cons (.idx (.var 3 false) (.var 5 false)) (.cons (.idx (.var 4 false) (.var 5 false)) .nil))) [5] (.nm 5) (.var 4 false) .yes) .nil)))
    .nil)) (.cons (.ifs (.of (.isi (.var 4 false) .tuple)) (.cons (.ifs (.boo false (.not (.of (.isi (.var 3 false) .tuple))) (.of (.cmp .ne (.blt false .len (.cons (.var 3 false) .nil)) (.blt false .len (.cons (.var 4 false) .nil))))) (.cons (.ret (.lit (.bl false)))
        .nil) .nil)
      (.cons (.expr (.mth .extend (.var 2 false) (.cons (.comp false (.tup (.cons (.idx (.var 3 false) (.var 6 false)) (.cons (.idx (.var 4 false) (.var 6 false)) .nil))) [6] (.nm 6) (.rng1 (.blt false .len (.cons (.var 4 false) .nil))) .yes) .nil)))
      .nil)) (.cons (.ifs (.boo false (.of (.cmp .ne (.isi (.var 3 false) .bool) (.isi (.var 4 false) .bool))) (.boo false (.of (.cmp .ne (.isi (.var 3 false) .int) (.isi (.var 4 false) .int))) (.boo false (.of (.cmp .ne (.isi (.var 3 false) .str) (.isi (.var 4 false) .str))) (.of (.cmp .ne (.var 3 false) (.var 4 false)))))) (.cons (.ret (.lit (.bl false)))
        .nil) .nil)
      .nil))
    .nil))
  .nil))
def f__law_same : Fn := ⟨[95,108,97,119,95,115,97,109,101], [[115,101,101,110], [100,117,101]], [[115,101,101,110], [100,117,101], [119,97,105,116,105,110,103], [111,110,101], [111,116,104,101,114], [107,101,121], [107]],
  (.cons (.asg (.nm 2) (.lst true (.cons (.tup (.cons (.var 0 false) (.cons (.var 1 false) .nil))) .nil)))
  (.cons (.whil (.of (.cmp .ne (.var 2 false) (.lst false .nil))) L__law_same_0)
  (.cons (.ret (.lit (.bl true)))
  .nil)))⟩
/-! ### lists at the end of the heap -/
theorem at_end (h : AH) (c : Cell) : (h ++ [c])[h.length]? = some c := by simp
theorem set_end (h : AH) (c d : Cell) : (h ++ [c]).set h.length d = h ++ [d] := by
  rw [List.set_append_right _ _ (Nat.le_refl _)]; simp
theorem take_end (h : AH) (c : Cell) : (h ++ [c]).take h.length = h := by simp
theorem take_end1 (h : AH) (c : Cell) : (h ++ [c]).take (h.length + 1) = h ++ [c] := by
  rw [List.take_of_length_le]; simp
/-! ### loops by invariants -/
theorem loopF_inv {f : PV → En → AH → Option Fl} {ok : AH → Bool} (I : Nat → En → AH → Prop) : ∀ (xs : List PV) (i : Nat) (e : En) (h : AH), I i e h → (∀ j e h, I j e h → ok h = true) →
    (∀ j x e h, xs[j]? = some x → I (i + j) e h → ∃ e' h', f x e h = some (.nx e' h') ∧ I (i + j + 1) e' h') → ∃ e' h', loopF f ok xs e h = some (.nx e' h') ∧ I (i + xs.length) e' h'
  | [], i, e, h, hi, hok, st => ⟨e, h, by simp [loopF, hok i e h hi], hi⟩
  | x :: xs, i, e, h, hi, hok, st => by
    obtain ⟨e', h', e1, h1⟩ := st 0 x e h rfl hi
    obtain ⟨e2, h2, e3, h3⟩ := loopF_inv I xs (i + 1) e' h' h1 hok fun j y e h hy hj => by
      have := st (j + 1) y e h (by simpa using hy) (by rw [show i + (j + 1) = i + 1 + j by omega]; exact hj)
      rw [show i + (j + 1) + 1 = i + 1 + j + 1 by omega] at this
      exact this
    refine ⟨e2, h2, ?_, ?_⟩
    · simp only [loopF, hok i e h hi, if_true, e1]; exact e3
    · rw [List.length_cons, show i + (xs.length + 1) = i + 1 + xs.length by omega]; exact h3
theorem rngs_get {lo : Int} {n j : Nat} {x : PV} (h : (rngs lo n)[j]? = some x) : j < n ∧ x = .int (lo + j) := by
  have len : (rngs lo n).length = n := by simp [rngs]
  have hj := (List.getElem?_eq_some_iff.mp h).1
  rw [len] at hj
  refine ⟨hj, ?_⟩
  unfold rngs at h
  rw [List.getElem?_map, List.getElem?_range hj] at h
  exact (Option.some.inj h).symm
theorem rngs_len (lo : Int) (n : Nat) : (rngs lo n).length = n := by simp [rngs]
end Ev

set_option Elab.async false
set_option linter.all false
set_option maxRecDepth 100000
namespace Ev
section
variable {C : Calls}
theorem seq {s : Stm} {ss : Sts} {e e1 : En} {h h1 : AH} (hs : evS C s e h = some (.nx e1 h1)) : evSs C (.cons s ss) e h = evSs C ss e1 h1 := by
  simp only [evSs, hs]
theorem seqR {s : Stm} {ss : Sts} {e : En} {h h1 : AH} {v : SV} (hs : evS C s e h = some (.rt v h1)) : evSs C (.cons s ss) e h = some (.rt v h1) := by
  simp only [evSs, hs]
theorem seqN {e : En} {h : AH} : evSs C .nil e h = some (.nx e h) := by simp only [evSs]
theorem runF_ret {fn : Fn} {args : List SV} {h h' : AH} {sv : SV} {r : SV × AH} (hl : args.length = fn.ps.length) (hb : evSs C fn.body (startE fn args) h = some (.rt sv h')) (hr : retn h.length h' sv = some r) : runF C fn args h = some r := by
  simp only [runF, hl, if_true, hb, hr]
theorem for_run {t : Tg} {it : Itr} {b : Sts} {e : En} {h h1 : AH} {xs : List PV} {g : Option Nat} (I : Nat → En → AH → Prop) (hI : evI C it e h = some (xs, g, h1)) (h0 : I 0 e h1) (hok : ∀ j e h, I j e h → guardOk xs g h = true)
    (st : ∀ j x e h, xs[j]? = some x → I j e h → ∃ e1 e' h', asgT t (.v x) e = some e1 ∧ evSs C b e1 h = some (.nx e' h') ∧ I (j + 1) e' h') : ∃ e' h', evS C (.for t it b) e h = some (.nx e' h') ∧ I xs.length e' h' := by
  obtain ⟨e', h', e1, h2⟩ := loopF_inv (f := fun x e h => match asgT t (.v x) e with | none => none | some e' => evSs C b e' h) (ok := guardOk xs g) I xs 0 e h1 h0 hok (fun j x e h hx hi => by
    rw [Nat.zero_add] at hi
    obtain ⟨e1, e', h', q1, q2, q3⟩ := st j x e h hx hi
    exact ⟨e', h', by simp only [q1, q2], by rw [Nat.zero_add]; exact q3⟩)
  refine ⟨e', h', ?_, by rw [Nat.zero_add] at h2; exact h2⟩
  simp only [evS, hI]
  exact e1
theorem ints_get (ns : List Int) (j : Nat) (hj : j < ns.length) : atI (ns.map PV.int) (j : Int) = some (.int ns[j]) := by
  unfold atI ixN
  have h1 : (0 : Int) ≤ j := by omega
  have h2 : (j : Int) < ((ns.map PV.int).length : Int) := by rw [List.length_map]; omega
  rw [if_pos h1, if_pos h2]
  simp [hj]
theorem ints_snoc (ds : List Int) (i : Int) : ds.map PV.int ++ [PV.int i] = (ds ++ [i]).map PV.int := by simp
theorem mod_small (a : Int) : 0 ≤ a % 65537 ∧ a % 65537 < 65537 := by omega
theorem mulOk_small {a b : Int} (h0 : 0 ≤ a) (h1 : a < 65537) : mulOk a b = true := by
  unfold mulOk
  rw [Bool.or_eq_true]
  left
  rw [Bool.and_eq_true, decide_eq_true_eq, decide_eq_true_eq]
  omega
theorem ints_cut (ds : List Int) (lo hi : Option Int) : cut (ds.map PV.int) lo hi = (cut ds lo hi).map PV.int := by
  unfold cut
  rw [List.length_map, List.map_take, List.map_drop]

/-! ### drawing -/
/-- the place of a def's names while numbers are drawn -/
def drE (S m : PV) (j : Nat) (mixed : Int) (a b c d : Option SV) : En := [some (.v S), some (.v m), some (.o j), some (.v (.int mixed)), a, b, c, d]
def drI (S m : PV) (h : AH) (q w : Nat) (j : Nat) (e : En) (hp : AH) : Prop := ∃ a b c d mixed ds, e = drE S m h.length mixed a b c d ∧ hp = h ++ [.lst ((ds : List Int).map .int)] ∧ 0 ≤ mixed ∧ mixed < 65537 ∧ ds.length ≤ q + w * j
def drR (S m : PV) (h : AH) (q : Nat) (mixed : Int) (a b : Option SV) (j : Nat) (e : En) (hp : AH) : Prop := ∃ r d ds, e = drE S m h.length mixed a b (some (.v (.int r))) d ∧ hp = h ++ [.lst ((ds : List Int).map .int)] ∧ ds.length ≤ q + j
theorem dr_rest (S m : PV) (h : AH) (q : Nat) (hq : q ≤ 100000) (mixed : Int) (a b : Option SV) (r : Int) (d : Option SV) (ds : List Int) (hd : ds.length ≤ q) :
    ∃ r' d' ds', evS C (.for (.nm 7) (.rng1 (.lit (.int 60))) L__law_draws_2) (drE S m h.length mixed a b (some (.v (.int r))) d) (h ++ [.lst (ds.map .int)]) = some (.nx (drE S m h.length mixed a b (some (.v (.int r'))) d') (h ++ [.lst ((ds' : List Int).map .int)])) ∧ ds'.length ≤ q + 60 := by
  obtain ⟨e', h', e1, r', d', ds', rfl, rfl, hl⟩ := for_run (C := C) (t := .nm 7) (it := .rng1 (.lit (.int 60))) (b := L__law_draws_2) (e := drE S m h.length mixed a b (some (.v (.int r))) d) (h := h ++ [.lst (ds.map .int)]) (h1 := h ++ [.lst (ds.map .int)]) (xs := rngs 0 60) (g := none)
    (drR S m h q mixed a b) (by simp [evI, evE, smallR]) ⟨r, d, ds, rfl, rfl, hd⟩ (fun j e hp _ => rfl) (fun j x e hp hx ⟨r, d, ds, e1, e2, b3⟩ => by
      obtain ⟨hj, rfl⟩ := rngs_get hx
      subst e1 e2
      have z : ds.length < SZ := by show _ < 16777216; omega
      by_cases hr : 0 < r
      · refine ⟨_, _, _, rfl, ?_, r / 997, some (.v (.int (0 + (j : Int)))), ds ++ [r % 997], rfl, rfl, by rw [List.length_append]; simp; omega⟩
        simp [L__law_draws_2, drE, runF, startE, evSs, evS, evE, evL, evT, evI, evD, asgT, rdVar, peek, part, sliceP, binP, binA, cmpP, truP, bltE, blt1, blt2, lenP, mkR, mkL, mkD, retn, pvs, SV.pv, wipeE, walkOf, itemsP, notD, idxP, isKey, keyEq, dlook, dhas, dput, dictEq, okDict, mthE, mthC, mthP, mthT, argsM, isLst, changes, isiTy, smallR, finL, finD, tupP, listP, dicP, onL, inP, isP, isNon, eqP, okD, plainD, plainDs, dep, deps, eqv, eqvs, beqI, beqS, atI_0, atI_1, atI_2, hr, z, at_end, set_end]
      · refine ⟨_, _, _, rfl, ?_, r, some (.v (.int (0 + (j : Int)))), ds, rfl, rfl, by omega⟩
        simp [L__law_draws_2, drE, runF, startE, evSs, evS, evE, evL, evT, evI, evD, asgT, rdVar, peek, part, sliceP, binP, binA, cmpP, truP, bltE, blt1, blt2, lenP, mkR, mkL, mkD, retn, pvs, SV.pv, wipeE, walkOf, itemsP, notD, idxP, isKey, keyEq, dlook, dhas, dput, dictEq, okDict, mthE, mthC, mthP, mthT, argsM, isLst, changes, isiTy, smallR, finL, finD, tupP, listP, dicP, onL, inP, isP, isNon, eqP, okD, plainD, plainDs, dep, deps, eqv, eqvs, beqI, beqS, atI_0, atI_1, atI_2, hr])
  rw [rngs_len] at hl
  exact ⟨r', d', ds', e1, hl⟩
theorem dr_one (ns : List Int) (m : PV) (h : AH) (q : Nat) (hq : q ≤ 10000) (hn : ns.length ≤ 63) : 
    ∀ j x e hp, (rngs 0 ns.length)[j]? = some x → drI (.frl (ns.map .int)) m h q 62 j e hp → ∃ e1 e' h', asgT (.nm 4) (.v x) e = some e1 ∧ evSs C L__law_draws_1 e1 hp = some (.nx e' h') ∧ drI (.frl (ns.map .int)) m h q 62 (j + 1) e' h' := by
  intro j x e hp hx ⟨a, b, c, d, mixed, ds, e1, e2, b1, b2, b3⟩
  obtain ⟨hj, rfl⟩ := rngs_get hx
  subst e1 e2
  have g := ints_get ns j hj
  have mk : mulOk mixed 48271 = true := mulOk_small b1 b2
  let cell : Int := if ns[j] < 0 then -ns[j] else ns[j]
  let mx : Int := (mixed * 48271 + cell % 1000003 + j) % 65537
  have hm := mod_small (mixed * 48271 + cell % 1000003 + j)
  have mk2 : mulOk mx 69621 = true := mulOk_small hm.1 hm.2
  have z0 : ds.length < SZ := by show _ < 16777216; omega
  have z1 : ds.length + 1 < SZ := by show _ < 16777216; omega
  have s1 : evS C (.asg (.nm 5) (.blt false .abs (.cons (.blt false .int (.cons (.idx (.var 0 false) (.var 4 false)) .nil)) .nil))) (drE (.frl (ns.map .int)) m h.length mixed (some (.v (.int (0 + (j : Int))))) b c d) (h ++ [.lst (ds.map .int)]) = some (.nx (drE (.frl (ns.map .int)) m h.length mixed (some (.v (.int (0 + (j : Int))))) (some (.v (.int cell))) c d) (h ++ [.lst (ds.map .int)])) := by
    simp [drE, runF, startE, evSs, evS, evE, evL, evT, evI, evD, asgT, rdVar, peek, part, sliceP, binP, binA, cmpP, truP, bltE, blt1, blt2, lenP, mkR, mkL, mkD, retn, pvs, SV.pv, wipeE, walkOf, itemsP, notD, idxP, isKey, keyEq, dlook, dhas, dput, dictEq, okDict, mthE, mthC, mthP, mthT, argsM, isLst, changes, isiTy, smallR, finL, finD, tupP, listP, dicP, onL, inP, isP, isNon, eqP, okD, plainD, plainDs, dep, deps, eqv, eqvs, beqI, beqS, atI_0, atI_1, atI_2, g, cell]
  have s2 : evS C (.asg (.nm 3) (.bin .mod (.blt false .int (.cons (.bin .add (.bin .add (.bin .mul (.var 3 false) (.lit (.int 48271))) (.bin .mod (.var 5 false) (.lit (.int 1000003)))) (.var 4 false)) .nil)) (.lit (.int 65537)))) (drE (.frl (ns.map .int)) m h.length mixed (some (.v (.int (0 + (j : Int))))) (some (.v (.int cell))) c d) (h ++ [.lst (ds.map .int)]) = some (.nx (drE (.frl (ns.map .int)) m h.length mx (some (.v (.int (0 + (j : Int))))) (some (.v (.int cell))) c d) (h ++ [.lst (ds.map .int)])) := by
    simp [drE, runF, startE, evSs, evS, evE, evL, evT, evI, evD, asgT, rdVar, peek, part, sliceP, binP, binA, cmpP, truP, bltE, blt1, blt2, lenP, mkR, mkL, mkD, retn, pvs, SV.pv, wipeE, walkOf, itemsP, notD, idxP, isKey, keyEq, dlook, dhas, dput, dictEq, okDict, mthE, mthC, mthP, mthT, argsM, isLst, changes, isiTy, smallR, finL, finD, tupP, listP, dicP, onL, inP, isP, isNon, eqP, okD, plainD, plainDs, dep, deps, eqv, eqvs, beqI, beqS, atI_0, atI_1, atI_2, mk, mx]
  have s3 : evS C (.asg (.nm 6) (.lit (.int 0))) (drE (.frl (ns.map .int)) m h.length mx (some (.v (.int (0 + (j : Int))))) (some (.v (.int cell))) c d) (h ++ [.lst (ds.map .int)]) = some (.nx (drE (.frl (ns.map .int)) m h.length mx (some (.v (.int (0 + (j : Int))))) (some (.v (.int cell))) (some (.v (.int 0))) d) (h ++ [.lst (ds.map .int)])) := by
    simp [drE, runF, startE, evSs, evS, evE, evL, evT, evI, evD, asgT, rdVar, peek, part, sliceP, binP, binA, cmpP, truP, bltE, blt1, blt2, lenP, mkR, mkL, mkD, retn, pvs, SV.pv, wipeE, walkOf, itemsP, notD, idxP, isKey, keyEq, dlook, dhas, dput, dictEq, okDict, mthE, mthC, mthP, mthT, argsM, isLst, changes, isiTy, smallR, finL, finD, tupP, listP, dicP, onL, inP, isP, isNon, eqP, okD, plainD, plainDs, dep, deps, eqv, eqvs, beqI, beqS, atI_0, atI_1, atI_2]
  have s4 : ∃ r ds', evS C (.ifs (.of (.cmp .ge (.var 5 false) (.bin .pow (.lit (.int 10)) (.lit (.int 18))))) (.cons (.asg (.nm 6) (.var 5 false))
      .nil) (.cons (.expr (.mth .append (.var 2 false) (.cons (.bin .mod (.blt false .int (.cons (.var 5 false) .nil)) (.lit (.int 997))) .nil)))
      (.cons (.expr (.mth .append (.var 2 false) (.cons (.bin .mod (.bin .mod (.blt false .int (.cons (.bin .add (.bin .mul (.var 3 false) (.lit (.int 69621))) (.lit (.int 5))) .nil)) (.lit (.int 65521))) (.lit (.int 997))) .nil)))
      .nil))) (drE (.frl (ns.map .int)) m h.length mx (some (.v (.int (0 + (j : Int))))) (some (.v (.int cell))) (some (.v (.int 0))) d) (h ++ [.lst (ds.map .int)]) = some (.nx (drE (.frl (ns.map .int)) m h.length mx (some (.v (.int (0 + (j : Int))))) (some (.v (.int cell))) (some (.v (.int r))) d) (h ++ [.lst ((ds' : List Int).map .int)])) ∧ ds'.length ≤ ds.length + 2 := by
    by_cases hc : (1000000000000000000 : Int) ≤ cell
    · exact ⟨cell, ds, by simp [drE, runF, startE, evSs, evS, evE, evL, evT, evI, evD, asgT, rdVar, peek, part, sliceP, binP, binA, cmpP, truP, bltE, blt1, blt2, lenP, mkR, mkL, mkD, retn, pvs, SV.pv, wipeE, walkOf, itemsP, notD, idxP, isKey, keyEq, dlook, dhas, dput, dictEq, okDict, mthE, mthC, mthP, mthT, argsM, isLst, changes, isiTy, smallR, finL, finD, tupP, listP, dicP, onL, inP, isP, isNon, eqP, okD, plainD, plainDs, dep, deps, eqv, eqvs, beqI, beqS, atI_0, atI_1, atI_2, hc], by omega⟩
    · exact ⟨0, ds ++ [cell % 997, (mx * 69621 + 5) % 65521 % 997], by simp [drE, runF, startE, evSs, evS, evE, evL, evT, evI, evD, asgT, rdVar, peek, part, sliceP, binP, binA, cmpP, truP, bltE, blt1, blt2, lenP, mkR, mkL, mkD, retn, pvs, SV.pv, wipeE, walkOf, itemsP, notD, idxP, isKey, keyEq, dlook, dhas, dput, dictEq, okDict, mthE, mthC, mthP, mthT, argsM, isLst, changes, isiTy, smallR, finL, finD, tupP, listP, dicP, onL, inP, isP, isNon, eqP, okD, plainD, plainDs, dep, deps, eqv, eqvs, beqI, beqS, atI_0, atI_1, atI_2, hc, z0, z1, mk2, at_end, set_end], by simp⟩
  obtain ⟨r, ds', s4, hl⟩ := s4
  obtain ⟨r', d', ds2, s5, hl2⟩ := dr_rest (C := C) (.frl (ns.map .int)) m h (q + 62 * j + 2) (by omega) mx (some (.v (.int (0 + (j : Int))))) (some (.v (.int cell))) r d ds' (by omega)
  exact ⟨_, _, _, rfl, (seq s1).trans ((seq s2).trans ((seq s3).trans ((seq s4).trans ((seq s5).trans seqN)))), _, _, _, d', mx, ds2, rfl, rfl, hm.1, hm.2, by omega⟩
theorem dr_more (S m : PV) (h : AH) (q n : Nat) (hq : q ≤ 10000) (hn : n ≤ 2000) :
    ∀ j x e hp, (rngs 0 n)[j]? = some x → drI S m h q 1 j e hp → ∃ e1 e' h', asgT (.nm 4) (.v x) e = some e1 ∧ evSs C L__law_draws_0 e1 hp = some (.nx e' h') ∧ drI S m h q 1 (j + 1) e' h' := by
  intro j x e hp hx ⟨a, b, c, d, mixed, ds, e1, e2, b1, b2, b3⟩
  obtain ⟨hj, rfl⟩ := rngs_get hx
  subst e1 e2
  have mk : mulOk mixed 16807 = true := mulOk_small b1 b2
  have hm := mod_small (mixed * 16807 + (0 + (j : Int)) + 1)
  have z0 : ds.length < SZ := by show _ < 16777216; omega
  refine ⟨_, _, _, rfl, ?_, some (.v (.int (0 + (j : Int)))), b, c, d, (mixed * 16807 + (0 + (j : Int)) + 1) % 65537, ds ++ [(mixed * 16807 + (0 + (j : Int)) + 1) % 65537 % 997], rfl, rfl, hm.1, hm.2, by rw [List.length_append]; simp; omega⟩
  simp [L__law_draws_0, drE, runF, startE, evSs, evS, evE, evL, evT, evI, evD, asgT, rdVar, peek, part, sliceP, binP, binA, cmpP, truP, bltE, blt1, blt2, lenP, mkR, mkL, mkD, retn, pvs, SV.pv, wipeE, walkOf, itemsP, notD, idxP, isKey, keyEq, dlook, dhas, dput, dictEq, okDict, mthE, mthC, mthP, mthT, argsM, isLst, changes, isiTy, smallR, finL, finD, tupP, listP, dicP, onL, inP, isP, isNon, eqP, okD, plainD, plainDs, dep, deps, eqv, eqvs, beqI, beqS, atI_0, atI_1, atI_2, mk, z0, at_end, set_end]
theorem draws_ok (ns : List Int) (hn : ns.length ≤ 63) (m : Int) (h0 : 0 ≤ m) (hm : m ≤ 2000) (h : AH) : ∃ ds : List Int, runF C f__law_draws [.v (.frl (ns.map .int)), .v (.int m)] h = some (.v (.lst (ds.map .int)), h) := by
  let S : PV := .frl (ns.map .int)
  obtain ⟨e1, h1, s3, a, b, c, d, mixed, ds, rfl, rfl, b1, b2, b3⟩ := for_run (C := C) (t := .nm 4) (it := .rng1 (.blt false .len (.cons (.var 0 false) .nil))) (b := L__law_draws_1) (e := drE S (.int m) h.length 7 none none none none) (h := h ++ [.lst []]) (h1 := h ++ [.lst []]) (xs := rngs 0 ns.length) (g := none) (drI S (.int m) h 0 62)
    (by simp [runF, startE, evSs, evS, evE, evL, evT, evI, evD, asgT, rdVar, peek, part, sliceP, binP, binA, cmpP, truP, bltE, blt1, blt2, lenP, mkR, mkL, mkD, retn, pvs, SV.pv, wipeE, walkOf, itemsP, notD, idxP, isKey, keyEq, dlook, dhas, dput, dictEq, okDict, mthE, mthC, mthP, mthT, argsM, isLst, changes, isiTy, smallR, finL, finD, tupP, listP, dicP, onL, inP, isP, isNon, eqP, okD, plainD, plainDs, dep, deps, eqv, eqvs, beqI, beqS, atI_0, atI_1, atI_2, drE, S]; omega) ⟨none, none, none, none, 7, [], rfl, rfl, by omega, by omega, by simp⟩ (fun j e hp _ => rfl) (dr_one ns (.int m) h 0 (by omega) hn)
  rw [rngs_len] at b3
  obtain ⟨e2, h2, s4, a2, b2', c2, d2, mixed2, ds2, rfl, rfl, c1, c2', c3⟩ := for_run (C := C) (t := .nm 4) (it := .rng1 (.var 1 false)) (b := L__law_draws_0) (e := drE S (.int m) h.length mixed a b c d) (h := h ++ [.lst (ds.map .int)]) (h1 := h ++ [.lst (ds.map .int)]) (xs := rngs 0 m.toNat) (g := none) (drI S (.int m) h (0 + 62 * ns.length) 1)
    (by simp [runF, startE, evSs, evS, evE, evL, evT, evI, evD, asgT, rdVar, peek, part, sliceP, binP, binA, cmpP, truP, bltE, blt1, blt2, lenP, mkR, mkL, mkD, retn, pvs, SV.pv, wipeE, walkOf, itemsP, notD, idxP, isKey, keyEq, dlook, dhas, dput, dictEq, okDict, mthE, mthC, mthP, mthT, argsM, isLst, changes, isiTy, smallR, finL, finD, tupP, listP, dicP, onL, inP, isP, isNon, eqP, okD, plainD, plainDs, dep, deps, eqv, eqvs, beqI, beqS, atI_0, atI_1, atI_2, drE, S]; omega) ⟨a, b, c, d, mixed, ds, rfl, rfl, b1, b2, by omega⟩ (fun j e hp _ => rfl) (dr_more S (.int m) h (0 + 62 * ns.length) m.toNat (by omega) (by omega))
  have q0 : evS C (.asg (.nm 2) (.lst true .nil)) [some (.v S), some (.v (.int m)), none, none, none, none, none, none] h = some (.nx [some (.v S), some (.v (.int m)), some (.o h.length), none, none, none, none, none] (h ++ [.lst []])) := by
    simp [runF, startE, evSs, evS, evE, evL, evT, evI, evD, asgT, rdVar, peek, part, sliceP, binP, binA, cmpP, truP, bltE, blt1, blt2, lenP, mkR, mkL, mkD, retn, pvs, SV.pv, wipeE, walkOf, itemsP, notD, idxP, isKey, keyEq, dlook, dhas, dput, dictEq, okDict, mthE, mthC, mthP, mthT, argsM, isLst, changes, isiTy, smallR, finL, finD, tupP, listP, dicP, onL, inP, isP, isNon, eqP, okD, plainD, plainDs, dep, deps, eqv, eqvs, beqI, beqS, atI_0, atI_1, atI_2]
  have q1 : evS C (.asg (.nm 3) (.lit (.int 7))) [some (.v S), some (.v (.int m)), some (.o h.length), none, none, none, none, none] (h ++ [.lst []]) = some (.nx (drE S (.int m) h.length 7 none none none none) (h ++ [.lst []])) := by
    simp [runF, startE, evSs, evS, evE, evL, evT, evI, evD, asgT, rdVar, peek, part, sliceP, binP, binA, cmpP, truP, bltE, blt1, blt2, lenP, mkR, mkL, mkD, retn, pvs, SV.pv, wipeE, walkOf, itemsP, notD, idxP, isKey, keyEq, dlook, dhas, dput, dictEq, okDict, mthE, mthC, mthP, mthT, argsM, isLst, changes, isiTy, smallR, finL, finD, tupP, listP, dicP, onL, inP, isP, isNon, eqP, okD, plainD, plainDs, dep, deps, eqv, eqvs, beqI, beqS, atI_0, atI_1, atI_2, drE]
  have q2 : evS C (.ret (.slc (.var 2 true) .nil (.cons (.var 1 false) .nil))) (drE S (.int m) h.length mixed2 a2 b2' c2 d2) (h ++ [.lst (ds2.map .int)]) = some (.rt (.v (.lst ((cut ds2 none (some m)).map .int))) (h ++ [.frz (.lst (ds2.map .int))])) := by
    simp [runF, startE, evSs, evS, evE, evL, evT, evI, evD, asgT, rdVar, peek, part, sliceP, binP, binA, cmpP, truP, bltE, blt1, blt2, lenP, mkR, mkL, mkD, retn, pvs, SV.pv, wipeE, walkOf, itemsP, notD, idxP, isKey, keyEq, dlook, dhas, dput, dictEq, okDict, mthE, mthC, mthP, mthT, argsM, isLst, changes, isiTy, smallR, finL, finD, tupP, listP, dicP, onL, inP, isP, isNon, eqP, okD, plainD, plainDs, dep, deps, eqv, eqvs, beqI, beqS, atI_0, atI_1, atI_2, drE, at_end, set_end, ints_cut]
  have hb : evSs C f__law_draws.body [some (.v S), some (.v (.int m)), none, none, none, none, none, none] h = some (.rt (.v (.lst ((cut ds2 none (some m)).map .int))) (h ++ [.frz (.lst (ds2.map .int))])) := by
    show evSs C (.cons _ (.cons _ (.cons _ (.cons _ (.cons _ .nil))))) _ _ = _
    rw [seq q0, seq q1, seq s3, seq s4, seqR q2]
  exact ⟨cut ds2 none (some m), runF_ret rfl hb (by simp [runF, startE, evSs, evS, evE, evL, evT, evI, evD, asgT, rdVar, peek, part, sliceP, binP, binA, cmpP, truP, bltE, blt1, blt2, lenP, mkR, mkL, mkD, retn, pvs, SV.pv, wipeE, walkOf, itemsP, notD, idxP, isKey, keyEq, dlook, dhas, dput, dictEq, okDict, mthE, mthC, mthP, mthT, argsM, isLst, changes, isiTy, smallR, finL, finD, tupP, listP, dicP, onL, inP, isP, isNon, eqP, okD, plainD, plainDs, dep, deps, eqv, eqvs, beqI, beqS, atI_0, atI_1, atI_2])⟩
end
end Ev

set_option Elab.async false
set_option linter.all false
set_option maxRecDepth 100000
namespace Ev
mutual
theorem same_eq' : ∀ {p q : PV}, same p q = true → p = q
  | .non, q, h => by cases q <;> simp_all [same]
  | .bl a, q, h => by cases q <;> simp_all [same]
  | .int a, q, h => by cases q <;> simp_all [same]
  | .str a, q, h => by cases q <;> simp_all [same]
  | .tup xs, q, h => by
    cases q with
    | tup ys => rw [sames_eq' (p := xs) (q := ys) (by simpa [same] using h)]
    | _ => simp [same] at h
  | .lst xs, q, h => by
    cases q with
    | lst ys => rw [sames_eq' (p := xs) (q := ys) (by simpa [same] using h)]
    | _ => simp [same] at h
  | .frl xs, q, h => by
    cases q with
    | frl ys => rw [sames_eq' (p := xs) (q := ys) (by simpa [same] using h)]
    | _ => simp [same] at h
  | .dict xs, q, h => by
    cases q with
    | dict ys => rw [samed_eq' (p := xs) (q := ys) (by simpa [same] using h)]
    | _ => simp [same] at h
theorem sames_eq' : ∀ {p q : List PV}, sames p q = true → p = q
  | [], [], _ => rfl
  | [], _ :: _, h => by simp [sames] at h
  | _ :: _, [], h => by simp [sames] at h
  | x :: xs, y :: ys, h => by
    simp only [sames, Bool.and_eq_true] at h
    rw [same_eq' h.1, sames_eq' h.2]
theorem samed_eq' : ∀ {p q : List (PV × PV)}, samed p q = true → p = q
  | [], [], _ => rfl
  | [], _ :: _, h => by simp [samed] at h
  | _ :: _, [], h => by simp [samed] at h
  | (k, x) :: xs, (k', y) :: ys, h => by
    simp only [samed, Bool.and_eq_true] at h
    rw [same_eq' h.1.1, same_eq' h.1.2, samed_eq' h.2]
end

section
variable {C : Calls}
/-! ### the next number -/
def Wc (ds : List Int) (k : Nat) : Cell := .dict [(.str [100,114,97,119,115], .lst (ds.map .int)), (.str [97,116], .int k)]
def nx (ds : List Int) (k : Nat) (m : Int) : Int := if h : k < ds.length then ds[k] % m else 0
theorem nx_lo (ds : List Int) (k : Nat) {m : Int} (hm : 0 < m) : 0 ≤ nx ds k m := by
  unfold nx
  split
  · exact Int.emod_nonneg _ (by omega)
  · omega
theorem nx_hi (ds : List Int) (k : Nat) {m : Int} (hm : 0 < m) : nx ds k m < m := by
  unfold nx
  split
  · exact Int.emod_lt_of_pos _ hm
  · exact hm
theorem next_ok (ds : List Int) (k : Nat) (m : Int) (hm : 0 < m) (hr : AH) : runF C f__law_next [.o 0, .v (.int m)] (Wc ds k :: hr) = some (.v (.int (nx ds k m)), Wc ds (k + 1) :: hr) := by
  have z : (2 : Nat) < SZ := by decide
  have e1 : ((k : Int) + 1) = ((k + 1 : Nat) : Int) := by omega
  by_cases hk : k < ds.length
  · have h1 : ¬ ((ds.length : Int) < (k : Int) + 1) := by omega
    have g := ints_get ds k hk
    have e2 : (k : Int) + 1 - 1 = k := by omega
    have e3 : ds.map PV.int ≠ [] := by
      intro h
      have := congrArg List.length h
      simp at this
      rw [this] at hk
      simp at hk
    simp [runF, startE, evSs, evS, evE, evL, evT, evI, evD, asgT, rdVar, peek, part, sliceP, binP, binA, cmpP, truP, bltE, blt1, blt2, lenP, mkR, mkL, mkD, retn, pvs, SV.pv, wipeE, walkOf, itemsP, notD, idxP, isKey, keyEq, dlook, dhas, dput, dictEq, okDict, mthE, mthC, mthP, mthT, argsM, isLst, changes, isiTy, smallR, finL, finD, tupP, listP, dicP, onL, inP, isP, isNon, eqP, okD, plainD, plainDs, dep, deps, eqv, eqvs, beqI, beqS, atI_0, atI_1, atI_2, f__law_next, Wc, z, h1, g, e2, hm, nx, hk]
  · have h1 : ((ds.length : Int) < (k : Int) + 1) := by omega
    simp [runF, startE, evSs, evS, evE, evL, evT, evI, evD, asgT, rdVar, peek, part, sliceP, binP, binA, cmpP, truP, bltE, blt1, blt2, lenP, mkR, mkL, mkD, retn, pvs, SV.pv, wipeE, walkOf, itemsP, notD, idxP, isKey, keyEq, dlook, dhas, dput, dictEq, okDict, mthE, mthC, mthP, mthT, argsM, isLst, changes, isiTy, smallR, finL, finD, tupP, listP, dicP, onL, inP, isP, isNon, eqP, okD, plainD, plainDs, dep, deps, eqv, eqvs, beqI, beqS, atI_0, atI_1, atI_2, f__law_next, Wc, z, h1, nx, hk]
/-! ### comprehensions -/
theorem loopC_run {f : PV → AH → Option (Option PV × AH)} {ok : AH → Bool} (T : PV → Option PV) (h : AH) : ∀ (xs : List PV) (acc : List PV), (∀ acc, ok (h ++ [.lst acc]) = true) → (∀ x ∈ xs, ∀ acc, f x (h ++ [.lst acc]) = some (T x, h ++ [.lst acc])) → acc.length + xs.length ≤ SZ →
    loopC f ok h.length xs (h ++ [.lst acc]) = some (h ++ [.lst (acc ++ xs.filterMap T)])
  | [], acc, hok, hf, hl => by simp [loopC, hok]
  | x :: xs, acc, hok, hf, hl => by
    rw [List.length_cons] at hl
    simp only [loopC, hok, if_true, hf x List.mem_cons_self]
    cases hT : T x with
    | none =>
      simp only [List.filterMap_cons, hT]
      exact loopC_run T h xs acc hok (fun y hy => hf y (List.mem_cons_of_mem _ hy)) (by omega)
    | some y =>
      have z : acc.length < SZ := by omega
      simp only [at_end, z, if_true, set_end]
      rw [loopC_run T h xs (acc ++ [y]) hok (fun y hy => hf y (List.mem_cons_of_mem _ hy)) (by rw [List.length_append]; simp; omega)]
      simp [List.filterMap_cons, hT]
theorem comp_ev {elt : Ex} {own : List Nat} {tg : Tg} {it : Itr} {ifs : Ts} {e : En} {h : AH} {xs : List PV} {g : Option Nat} (T : PV → Option PV) (hI : evI C it e h = some (xs, g, h)) (hz : xs.length ≤ SZ) (hok : ∀ acc, guardOk xs g (h ++ [.lst acc]) = true)
    (st : ∀ x ∈ xs, ∀ acc, ∃ e2, asgT tg (.v x) (wipeE e own) = some e2 ∧ ((T x = none ∧ evT C ifs e2 (h ++ [.lst acc]) = some (false, h ++ [.lst acc])) ∨ ∃ y, T x = some y ∧ evT C ifs e2 (h ++ [.lst acc]) = some (true, h ++ [.lst acc]) ∧ evE C elt e2 (h ++ [.lst acc]) = some (.v y, h ++ [.lst acc]))) :
    evE C (.comp false elt own tg it ifs) e h = some (.v (.lst (xs.filterMap T)), h) := by
  simp only [evE, hI]
  rw [loopC_run T h xs [] hok ?_ (by simpa using hz)]
  · simp [finL]
  · intro x hx acc
    obtain ⟨e2, h1, h2⟩ := st x hx acc
    rcases h2 with ⟨h2, h3⟩ | ⟨y, h2, h3, h4⟩
    · simp only [h1, h3, h2]
    · simp only [h1, h3, h4, h2]
/-! ### the same, part by part -/
mutual
def sok : PV → Bool
  | .tup xs => soks xs
  | .dict kvs => sokd kvs && kvs.all fun kv => match dlook kvs kv.1 with | some y => same y kv.2 | none => false
  | .frl _ => false
  | p => okD p
def soks : List PV → Bool
  | [] => true
  | x :: xs => sok x && soks xs
def sokd : List (PV × PV) → Bool
  | [] => true
  | (k, x) :: xs => isKey k && sok x && sokd xs
end
def prT (p : PV) : PV := .tup [p, p]
def saE (S D : PV) (j : Nat) (a b c d : Option SV) : En := [some (.v S), some (.v D), some (.o j), a, b, c, d]
theorem nodess_len : ∀ xs : List PV, xs.length ≤ nodess xs
  | [] => by simp [nodess]
  | x :: xs => by
    have := nodess_len xs
    have h1 : 1 ≤ nodes x := by cases x <;> simp [nodes]
    rw [nodess, List.length_cons]
    omega
theorem nodess_app : ∀ xs ys : List PV, nodess (xs ++ ys) = nodess xs + nodess ys
  | [], ys => by simp [nodess]
  | x :: xs, ys => by rw [List.cons_append, nodess, nodess, nodess_app xs ys]; omega
theorem soks_app : ∀ xs ys : List PV, soks (xs ++ ys) = (soks xs && soks ys)
  | [], ys => by simp [soks]
  | x :: xs, ys => by rw [List.cons_append, soks, soks, soks_app xs ys, Bool.and_assoc]
theorem sokd_vals : ∀ {kvs : List (PV × PV)}, sokd kvs = true → soks (kvs.map (·.2)) = true ∧ nodess (kvs.map (·.2)) = nodesd kvs ∧ ∀ kv ∈ kvs, isKey kv.1 = true
  | [], _ => by simp [soks, nodess, nodesd]
  | (k, x) :: xs, h => by
    simp only [sokd, Bool.and_eq_true] at h
    obtain ⟨h1, h2, h3⟩ := sokd_vals h.2
    refine ⟨by simp [soks, h.1.2]; simpa using h1, by simp [nodess, nodesd]; simpa using h2, fun kv hkv => ?_⟩
    rcases List.mem_cons.mp hkv with rfl | hkv
    · exact h.1.1
    · exact h3 kv hkv
theorem leaf_okD {p : PV} (h : sok p = true) (ht : ∀ xs, p ≠ .tup xs) (hd : ∀ xs, p ≠ .dict xs) : okD p = true := by
  cases p with
  | tup xs => exact absurd rfl (ht xs)
  | dict xs => exact absurd rfl (hd xs)
  | frl xs => simp [sok] at h
  | _ => simpa [sok] using h
theorem okD_eqP {p : PV} (h : okD p = true) : eqP p p = some true := by
  have hp : plainD p = true := by unfold okD at h; rw [Bool.and_eq_true] at h; exact h.1
  have e := eqv_self hp
  cases p <;> simp_all [eqP, plainD]
end
end Ev

set_option Elab.async false
set_option linter.all false
set_option maxRecDepth 100000
namespace Ev
section
variable {C : Calls}
theorem lastI {α : Type} (xs : List α) (x : α) : (xs ++ [x])[(xs ++ [x]).length - 1]? = some x := by simp
theorem sa_pop (S D : PV) (h : AH) (a b c d : Option SV) (st : List PV) (p : PV) : evS C (.asg (.tp [3, 4]) (.mth .pop (.var 2 false) .nil)) (saE S D h.length a b c d) (h ++ [.lst ((st ++ [p]).map prT)]) =
    some (.nx (saE S D h.length (some (.v p)) (some (.v p)) c d) (h ++ [.lst (st.map prT)])) := by
  have e : (st ++ [p]).map prT = st.map prT ++ [.tup [p, p]] := by simp [prT]
  rw [e]
  simp [runF, startE, evSs, evS, evE, evL, evT, evI, evD, asgT, rdVar, peek, part, sliceP, binP, binA, cmpP, truP, bltE, blt1, blt2, lenP, mkR, mkL, mkD, retn, pvs, SV.pv, wipeE, walkOf, itemsP, notD, idxP, isKey, keyEq, dlook, dhas, dput, dictEq, okDict, mthE, mthC, mthP, mthT, argsM, isLst, changes, isiTy, smallR, finL, finD, tupP, listP, dicP, onL, inP, isP, isNon, eqP, okD, plainD, plainDs, dep, deps, eqv, eqvs, beqI, beqS, atI_0, atI_1, atI_2, saE]
def isTup : PV → Bool
  | .tup _ => true
  | _ => false
def isDic : PV → Bool
  | .dict _ => true
  | _ => false
theorem isi_t (p : PV) : isiTy p .tuple = isTup p := by cases p <;> rfl
theorem isi_d (p : PV) : isiTy p .dict = isDic p := by cases p <;> rfl
theorem sa_leaf (S D : PV) (h : AH) (c d : Option SV) (xs : List PV) (p : PV) (hp : okD p = true) : evS C (.ifs (.boo false (.of (.cmp .ne (.isi (.var 3 false) .bool) (.isi (.var 4 false) .bool))) (.boo false (.of (.cmp .ne (.isi (.var 3 false) .int) (.isi (.var 4 false) .int))) (.boo false (.of (.cmp .ne (.isi (.var 3 false) .str) (.isi (.var 4 false) .str))) (.of (.cmp .ne (.var 3 false) (.var 4 false)))))) (.cons (.ret (.lit (.bl false)))
          .nil) .nil) (saE S D h.length (some (.v p)) (some (.v p)) c d) (h ++ [.lst xs]) = some (.nx (saE S D h.length (some (.v p)) (some (.v p)) c d) (h ++ [.lst xs])) := by
  have e := okD_eqP hp
  have eb : ∀ b : Bool, eqP (.bl b) (.bl b) = some true := fun b => okD_eqP (by cases b <;> rfl)
  simp [evS, evT, evE, evSs, saE, rdVar, peek, cmpP, eb, e, truP]
theorem tup_at (xs : List PV) (j : Nat) (x : PV) (h : xs[j]? = some x) : atI xs (j : Int) = some x := by
  unfold atI ixN
  have hj := (List.getElem?_eq_some_iff.mp h).1
  rw [if_pos (by omega), if_pos (by omega)]
  simpa using h
theorem mapIdx_eq (xs : List PV) (T : PV → Option PV) (hT : ∀ (j : Nat) x, xs[j]? = some x → T (.int j) = some (prT x)) : (rngs 0 xs.length).filterMap T = xs.map prT := by
  unfold rngs
  have : ∀ (ys : List PV) (k : Nat), (∀ (j : Nat) x, ys[j]? = some x → T (.int ((k + j : Nat) : Int)) = some (prT x)) → ((List.range' k ys.length).map fun (i : Nat) => PV.int ((i : Nat) : Int)).filterMap T = ys.map prT := by
    intro ys
    induction ys with
    | nil => intro k _; rfl
    | cons y ys ih =>
      intro k hk
      rw [List.length_cons, List.range'_succ, List.map_cons]
      have h0 := hk 0 y rfl
      rw [Nat.add_zero] at h0
      rw [List.filterMap_cons, h0, List.map_cons]
      simp only
      rw [ih (k + 1) fun j x hj => by
        have := hk (j + 1) x (by simpa using hj)
        rw [show k + (j + 1) = k + 1 + j by omega] at this
        exact this]
  have h := this xs 0 (fun j x hj => by rw [Nat.zero_add]; exact hT j x hj)
  rw [List.range_eq_range']
  simp only [Int.zero_add]
  exact h
theorem ext_ev {o a : Ex} {e : En} {h : AH} {j : Nat} {xs ys : List PV} (ho : evE C o e h = some (.o j, h)) (hj : h[j]? = some (.lst xs)) (ha : evE C a e h = some (.v (.lst ys), h)) (hz : xs.length + ys.length ≤ SZ) :
    evS C (.expr (.mth .extend o (.cons a .nil))) e h = some (.nx e (h.set j (.lst (xs ++ ys)))) := by
  simp only [evS, evE, evL, ho, ha, changes, if_true, hj, isLst, mthE, argsM, peek, Option.map_some, mthC, hz]
theorem ne_nil {a : Ex} {e : En} {h : AH} {ys : List PV} (ha : evE C a e h = some (.v (.lst ys), h)) : evT C (.of (.cmp .ne a (.lst false .nil))) e h = some (!ys.isEmpty, h) := by
  simp only [evT, evE, evL, ha, pvs, mkL]
  cases ys with
  | nil => simp [peek, cmpP, eqP, okD, plainD, plainDs, dep, deps, eqv, eqvs, truP, SZ]
  | cons y ys => simp [peek, cmpP, eqP, truP, SZ]
theorem boo_f {a b : Ts} {e : En} {h : AH} (ha : evT C a e h = some (false, h)) : evT C (.boo false a b) e h = evT C b e h := by
  simp only [evT, ha]; rfl
theorem sa_tup (S D : PV) (h : AH) (c d : Option SV) (st : List PV) (xs : List PV) (hl : st.length + xs.length ≤ 1000000) : evS C (.expr (.mth .extend (.var 2 false) (.cons (.comp false (.tup (.cons (.idx (.var 3 false) (.var 6 false)) (.cons (.idx (.var 4 false) (.var 6 false)) .nil))) [6] (.nm 6) (.rng1 (.blt false .len (.cons (.var 4 false) .nil))) .yes) .nil)))
    (saE S D h.length (some (.v (.tup xs))) (some (.v (.tup xs))) c d) (h ++ [.lst (st.map prT)]) = some (.nx (saE S D h.length (some (.v (.tup xs))) (some (.v (.tup xs))) c d) (h ++ [.lst ((st ++ xs).map prT)])) := by
  have z : xs.length ≤ SZ := by show _ ≤ 16777216; omega
  have sm : smallR (xs.length : Int) = true := by unfold smallR; simp; omega
  have hz : st.length + xs.length ≤ SZ := by show _ ≤ 16777216; omega
  let T : PV → Option PV := fun x => match x with | .int i => (atI xs i).map prT | _ => none
  have comp := comp_ev (C := C) (elt := .tup (.cons (.idx (.var 3 false) (.var 6 false)) (.cons (.idx (.var 4 false) (.var 6 false)) .nil))) (own := [6]) (tg := .nm 6) (it := .rng1 (.blt false .len (.cons (.var 4 false) .nil))) (ifs := .yes) (e := saE S D h.length (some (.v (.tup xs))) (some (.v (.tup xs))) c d) (h := h ++ [.lst (st.map prT)]) (xs := rngs 0 xs.length) (g := none) T
    (by simp [evI, evE, evL, saE, rdVar, bltE, peek, blt1, lenP, mkR, sm]) (by rw [rngs_len]; exact z) (fun acc => rfl) (fun x hx acc => by
      obtain ⟨j, hj⟩ := List.getElem?_of_mem hx
      obtain ⟨h1, rfl⟩ := rngs_get hj
      have g := tup_at xs j xs[j] (List.getElem?_eq_getElem h1)
      refine ⟨_, rfl, .inr ⟨prT xs[j], by simp [T, g], by simp [evT], ?_⟩⟩
      simp [runF, startE, evSs, evS, evE, evL, evT, evI, evD, asgT, rdVar, peek, part, sliceP, binP, binA, cmpP, truP, bltE, blt1, blt2, lenP, mkR, mkL, mkD, retn, pvs, SV.pv, wipeE, walkOf, itemsP, notD, idxP, isKey, keyEq, dlook, dhas, dput, dictEq, okDict, mthE, mthC, mthP, mthT, argsM, isLst, changes, isiTy, smallR, finL, finD, tupP, listP, dicP, onL, inP, isP, isNon, eqP, okD, plainD, plainDs, dep, deps, eqv, eqvs, beqI, beqS, atI_0, atI_1, atI_2, saE, g, prT, SZ])
  have hm : (rngs 0 xs.length).filterMap T = xs.map prT := mapIdx_eq xs T fun j x hj => by simp [T, tup_at xs j x hj]
  rw [hm] at comp
  have r := ext_ev (o := .var 2 false) (by simp [evE, saE, rdVar]) (at_end h _) comp (by simpa using hz)
  rw [set_end, ← List.map_append] at r
  exact r
theorem sa_dic (S D : PV) (h : AH) (c d : Option SV) (st : List PV) (kvs : List (PV × PV)) (hl : st.length + kvs.length ≤ 1000000) (hk : ∀ kv ∈ kvs, isKey kv.1 = true) (hd : ∀ kv ∈ kvs, dlook kvs kv.1 = some kv.2) : evS C (.expr (.mth .extend (.var 2 false) (.cons (.comp false (.tup (.cons (.idx (.var 3 false) (.var 5 false)) (.cons (.idx (.var 4 false) (.var 5 false)) .nil))) [5] (.nm 5) (.var 4 false) .yes) .nil)))
    (saE S D h.length (some (.v (.dict kvs))) (some (.v (.dict kvs))) c d) (h ++ [.lst (st.map prT)]) = some (.nx (saE S D h.length (some (.v (.dict kvs))) (some (.v (.dict kvs))) c d) (h ++ [.lst ((st ++ kvs.map (·.2)).map prT)])) := by
  have z : kvs.length ≤ SZ := by show _ ≤ 16777216; omega
  have hz : st.length + kvs.length ≤ SZ := by show _ ≤ 16777216; omega
  let T : PV → Option PV := fun x => (dlook kvs x).map prT
  have comp := comp_ev (C := C) (elt := .tup (.cons (.idx (.var 3 false) (.var 5 false)) (.cons (.idx (.var 4 false) (.var 5 false)) .nil))) (own := [5]) (tg := .nm 5) (it := .var 4 false) (ifs := .yes) (e := saE S D h.length (some (.v (.dict kvs))) (some (.v (.dict kvs))) c d) (h := h ++ [.lst (st.map prT)]) (xs := kvs.map (·.1)) (g := none) T
    (by simp [evI, saE, rdVar, walkOf, itemsP]) (by rw [List.length_map]; exact z) (fun acc => rfl) (fun x hx acc => by
      obtain ⟨kv, hkv, rfl⟩ := List.mem_map.mp hx
      have g := hd kv hkv
      have k := hk kv hkv
      refine ⟨_, rfl, .inr ⟨prT kv.2, by simp [T, g], by simp [evT], ?_⟩⟩
      simp [evE, evL, wipeE, saE, rdVar, peek, idxP, k, g, pvs, prT, SZ])
  have hm : (kvs.map (·.1)).filterMap T = (kvs.map (·.2)).map prT := by
    rw [List.filterMap_map, List.map_map]
    have : ∀ l : List (PV × PV), (∀ kv ∈ l, dlook kvs kv.1 = some kv.2) → l.filterMap (T ∘ fun x => x.1) = l.map (prT ∘ fun x => x.2) := by
      intro l
      induction l with
      | nil => intro _; rfl
      | cons a l ih =>
        intro q
        have g := q a List.mem_cons_self
        rw [List.filterMap_cons]
        simp only [Function.comp_apply, T, g, Option.map_some]
        rw [List.map_cons, ← ih fun kv hkv => q kv (List.mem_cons_of_mem _ hkv)]
        rfl
    exact this kvs hd
  rw [hm] at comp
  have r := ext_ev (o := .var 2 false) (by simp [evE, saE, rdVar]) (at_end h _) comp (by simpa using hz)
  rw [set_end, ← List.map_append] at r
  exact r
theorem sa_body (S D : PV) (h : AH) (a b c d : Option SV) (st : List PV) (p : PV) (hp : sok p = true) (hn : nodess (st ++ [p]) ≤ 100000) :
    ∃ a' b' ps, evSs C L__law_same_0 (saE S D h.length a b c d) (h ++ [.lst ((st ++ [p]).map prT)]) = some (.nx (saE S D h.length a' b' c d) (h ++ [.lst ((st ++ ps).map prT)])) ∧ soks ps = true ∧ nodess ps < nodes p := by
  rw [nodess_app] at hn
  have hst := nodess_len st
  show ∃ a' b' ps, evSs C (.cons _ (.cons _ .nil)) _ _ = _ ∧ _
  rw [seq (sa_pop S D h a b c d st p)]
  by_cases hd : isDic p = true
  · cases p <;> first | (simp [isDic] at hd; done) | skip
    rename_i kvs
    simp only [sok, Bool.and_eq_true] at hp
    obtain ⟨v1, v2, v3⟩ := sokd_vals hp.1
    have lk : ∀ kv ∈ kvs, dlook kvs kv.1 = some kv.2 := fun kv hkv => by
      have := (List.all_eq_true.mp hp.2) kv hkv
      split at this
      · rename_i y hy
        rw [hy, same_eq' this]
      · cases this
    have hlen : kvs.length ≤ nodess (kvs.map (·.2)) := by
      have := nodess_len (kvs.map (·.2))
      rwa [List.length_map] at this
    have hl : st.length + kvs.length ≤ 1000000 := by
      have : nodess [PV.dict kvs] = nodesd kvs + 1 := by simp [nodess, nodes]
      rw [v2] at hlen
      omega
    have cmp := comp_ev (C := C) (elt := .var 5 false) (own := [5]) (tg := .nm 5) (it := .var 4 false) (ifs := .of (.cmp .notIn (.var 5 false) (.var 3 false))) (e := saE S D h.length (some (.v (.dict kvs))) (some (.v (.dict kvs))) c d) (h := h ++ [.lst (st.map prT)]) (xs := kvs.map (·.1)) (g := none) (fun _ => none)
      (by simp [evI, saE, rdVar, walkOf, itemsP]) (by rw [List.length_map]; show _ ≤ 16777216; omega) (fun acc => rfl) (fun x hx acc => by
        obtain ⟨kv, hkv, rfl⟩ := List.mem_map.mp hx
        have g := lk kv hkv
        have k := v3 kv hkv
        refine ⟨_, rfl, .inl ⟨rfl, ?_⟩⟩
        simp [evT, evE, wipeE, saE, rdVar, peek, cmpP, inP, k, dhas, g, truP])
    rw [show (kvs.map (·.1)).filterMap (fun _ : PV => (none : Option PV)) = [] by simp] at cmp
    refine ⟨some (.v (.dict kvs)), some (.v (.dict kvs)), kvs.map (·.2), ?_, v1, by rw [v2]; simp [nodes]⟩
    refine (seq (e1 := saE S D h.length (some (.v (.dict kvs))) (some (.v (.dict kvs))) c d) (h1 := h ++ [.lst ((st ++ kvs.map (·.2)).map prT)]) ?_).trans seqN
    have t1 : evT C (.of (.isi (.var 4 false) .dict)) (saE S D h.length (some (.v (.dict kvs))) (some (.v (.dict kvs))) c d) (h ++ [.lst (st.map prT)]) = some (true, h ++ [.lst (st.map prT)]) := by
      simp [evT, evE, saE, rdVar, peek, isiTy, truP]
    simp only [evS, t1]
    refine (seq (e1 := saE S D h.length (some (.v (.dict kvs))) (some (.v (.dict kvs))) c d) (h1 := h ++ [.lst (st.map prT)]) ?_).trans ((seq (sa_dic S D h c d st kvs hl v3 lk)).trans seqN)
    have t3 : evT C (.not (.of (.isi (.var 3 false) .dict))) (saE S D h.length (some (.v (.dict kvs))) (some (.v (.dict kvs))) c d) (h ++ [.lst (st.map prT)]) = some (false, h ++ [.lst (st.map prT)]) := by
      simp [evT, evE, saE, rdVar, peek, isiTy, truP]
    have t4 : evT C (.of (.cmp .ne (.blt false .len (.cons (.var 3 false) .nil)) (.blt false .len (.cons (.var 4 false) .nil)))) (saE S D h.length (some (.v (.dict kvs))) (some (.v (.dict kvs))) c d) (h ++ [.lst (st.map prT)]) = some (false, h ++ [.lst (st.map prT)]) := by
      simp [evT, evE, evL, saE, rdVar, peek, truP, bltE, blt1, lenP, mkR, cmpP, eqP, okD, plainD, dep, eqv, beqI]
    have t5 := ne_nil cmp
    simp only [evS, boo_f t3, boo_f t4, t5, List.isEmpty_nil, Bool.not_true]
    rfl
  · have hd' : isDic p = false := by simpa using hd
    have t1 : evT C (.of (.isi (.var 4 false) .dict)) (saE S D h.length (some (.v p)) (some (.v p)) c d) (h ++ [.lst (st.map prT)]) = some (false, h ++ [.lst (st.map prT)]) := by
      simp [evT, evE, saE, rdVar, peek, isi_d, hd', truP]
    by_cases ht : isTup p = true
    · cases p <;> first | (simp [isTup] at ht; done) | skip
      rename_i xs
      have hs : soks xs = true := by simpa [sok] using hp
      have hlen := nodess_len xs
      have hl : st.length + xs.length ≤ 1000000 := by
        have : nodess [PV.tup xs] = nodess xs + 1 := by simp [nodess, nodes]
        omega
      have t2 : evT C (.of (.isi (.var 4 false) .tuple)) (saE S D h.length (some (.v (.tup xs))) (some (.v (.tup xs))) c d) (h ++ [.lst (st.map prT)]) = some (true, h ++ [.lst (st.map prT)]) := by
        simp [evT, evE, saE, rdVar, peek, isiTy, truP]
      refine ⟨some (.v (.tup xs)), some (.v (.tup xs)), xs, ?_, hs, by simp [nodes]⟩
      refine (seq (e1 := saE S D h.length (some (.v (.tup xs))) (some (.v (.tup xs))) c d) (h1 := h ++ [.lst ((st ++ xs).map prT)]) ?_).trans seqN
      simp only [evS, t1]
      refine (seq (e1 := saE S D h.length (some (.v (.tup xs))) (some (.v (.tup xs))) c d) (h1 := h ++ [.lst ((st ++ xs).map prT)]) ?_).trans seqN
      simp only [evS, t2]
      refine (seq (e1 := saE S D h.length (some (.v (.tup xs))) (some (.v (.tup xs))) c d) (h1 := h ++ [.lst (st.map prT)]) ?_).trans ((seq (sa_tup S D h c d st xs hl)).trans seqN)
      have t3 : evT C (.not (.of (.isi (.var 3 false) .tuple))) (saE S D h.length (some (.v (.tup xs))) (some (.v (.tup xs))) c d) (h ++ [.lst (st.map prT)]) = some (false, h ++ [.lst (st.map prT)]) := by
        simp [evT, evE, saE, rdVar, peek, isiTy, truP]
      have t4 : evT C (.of (.cmp .ne (.blt false .len (.cons (.var 3 false) .nil)) (.blt false .len (.cons (.var 4 false) .nil)))) (saE S D h.length (some (.v (.tup xs))) (some (.v (.tup xs))) c d) (h ++ [.lst (st.map prT)]) = some (false, h ++ [.lst (st.map prT)]) := by
        simp [evT, evE, evL, saE, rdVar, peek, truP, bltE, blt1, lenP, mkR, cmpP, eqP, okD, plainD, dep, eqv, beqI]
      simp only [evS, boo_f t3, t4]
      rfl
    · have ht' : isTup p = false := by simpa using ht
      have t2 : evT C (.of (.isi (.var 4 false) .tuple)) (saE S D h.length (some (.v p)) (some (.v p)) c d) (h ++ [.lst (st.map prT)]) = some (false, h ++ [.lst (st.map prT)]) := by
        simp [evT, evE, saE, rdVar, peek, isi_t, ht', truP]
      have ok := leaf_okD hp (by rintro xs rfl; cases ht') (by rintro xs rfl; cases hd')
      refine ⟨some (.v p), some (.v p), [], ?_, rfl, by cases p <;> simp [nodes, nodess]⟩
      rw [List.append_nil]
      refine (seq (e1 := saE S D h.length (some (.v p)) (some (.v p)) c d) (h1 := h ++ [.lst (st.map prT)]) ?_).trans seqN
      simp only [evS, t1]
      refine (seq (e1 := saE S D h.length (some (.v p)) (some (.v p)) c d) (h1 := h ++ [.lst (st.map prT)]) ?_).trans seqN
      simp only [evS, t2]
      exact (seq (sa_leaf S D h c d _ p ok)).trans seqN
end
end Ev

set_option Elab.async false
set_option linter.all false
set_option maxRecDepth 100000
namespace Ev
section
variable {C : Calls}
theorem sa_loop (S D : PV) (h : AH) (c d : Option SV) : ∀ (n : Nat) (st : List PV) (a b : Option SV), soks st = true → nodess st ≤ 100000 → nodess st < n →
    ∃ a' b', whileF (evT C (.of (.cmp .ne (.var 2 false) (.lst false .nil)))) (evSs C L__law_same_0) n (saE S D h.length a b c d) (h ++ [.lst (st.map prT)]) = some (.nx (saE S D h.length a' b' c d) (h ++ [.lst []]))
  | 0, st, a, b, _, _, hn => by omega
  | n + 1, st, a, b, hs, hm, hn => by
    have t : ∀ xs : List PV, evT C (.of (.cmp .ne (.var 2 false) (.lst false .nil))) (saE S D h.length a b c d) (h ++ [.lst xs]) = some (!xs.isEmpty, h ++ [.lst xs]) := fun xs => by
      cases xs with
      | nil => simp [evT, evE, evL, saE, rdVar, pvs, mkL, peek, cmpP, eqP, okD, plainD, plainDs, dep, deps, eqv, eqvs, truP, SZ]
      | cons y ys => simp [evT, evE, evL, saE, rdVar, pvs, mkL, peek, cmpP, eqP, truP, SZ]
    rcases List.eq_nil_or_concat st with rfl | ⟨st', p, rfl⟩
    · refine ⟨a, b, ?_⟩
      simp only [List.map_nil, whileF, t]
      rfl
    · have hs2 := hs
      rw [List.concat_eq_append] at *
      rw [soks_app, Bool.and_eq_true] at hs2
      have hp : sok p = true := by simpa [soks] using hs2.2
      obtain ⟨a', b', ps, e1, h1, h2⟩ := sa_body (C := C) S D h a b c d st' p hp hm
      have hn' : nodess (st' ++ ps) < n := by
        rw [nodess_app] at *
        have : nodess [p] = nodes p := by simp [nodess]
        omega
      have hm' : nodess (st' ++ ps) ≤ 100000 := by
        rw [nodess_app] at *
        have : nodess [p] = nodes p := by simp [nodess]
        omega
      obtain ⟨a2, b2, e2⟩ := sa_loop S D h c d n (st' ++ ps) a' b' (by rw [soks_app, hs2.1, h1]; rfl) hm' hn'
      refine ⟨a2, b2, ?_⟩
      have ne : (!((st' ++ [p]).map prT).isEmpty) = true := by simp
      simp only [whileF, t, ne, e1]
      exact e2
theorem same_ok (p : PV) (hp : sok p = true) (hn : nodes p < 100000) (h : AH) : runF C f__law_same [.v p, .v p] h = some (.v (.bl true), h) := by
  obtain ⟨a', b', e1⟩ := sa_loop (C := C) p p h none none FUEL [p] none none (by simpa [soks] using hp) (by simp [nodess]; omega) (by simp [nodess]; exact hn)
  have q0 : evS C (.asg (.nm 2) (.lst true (.cons (.tup (.cons (.var 0 false) (.cons (.var 1 false) .nil))) .nil))) [some (.v p), some (.v p), none, none, none, none, none] h = some (.nx (saE p p h.length none none none none) (h ++ [.lst ([p].map prT)])) := by
    simp [evS, evE, evL, rdVar, pvs, mkL, asgT, saE, prT, SZ]
  have q1 : evS C (.whil (.of (.cmp .ne (.var 2 false) (.lst false .nil))) L__law_same_0) (saE p p h.length none none none none) (h ++ [.lst ([p].map prT)]) = some (.nx (saE p p h.length a' b' none none) (h ++ [.lst []])) := by
    simp only [evS]
    exact e1
  have q2 : evS C (.ret (.lit (.bl true))) (saE p p h.length a' b' none none) (h ++ [.lst []]) = some (.rt (.v (.bl true)) (h ++ [.lst []])) := by
    simp [evS, evE]
  have hb : evSs C f__law_same.body [some (.v p), some (.v p), none, none, none, none, none] h = some (.rt (.v (.bl true)) (h ++ [.lst []])) := by
    show evSs C (.cons _ (.cons _ (.cons _ .nil))) _ _ = _
    rw [seq q0, seq q1, seqR q2]
  exact runF_ret rfl hb (by simp [retn])
end
end Ev

set_option linter.all false
namespace Ev
def f_is_number : Fn := ⟨[105,115,95,110,117,109,98,101,114], [[116,104,105,110,103]], [[116,104,105,110,103]],
  (.cons (.ret (.boo true (.isi (.var 0 false) .int) (.not (.isi (.var 0 false) .bool))))
  .nil)⟩
def f_is_from : Fn := ⟨[105,115,95,102,114,111,109], [[116,104,105,110,103], [108,101,97,115,116]], [[116,104,105,110,103], [108,101,97,115,116]],
  (.cons (.ret (.boo true (.call 0 (.cons (.var 0 false) .nil)) (.cmp .ge (.var 0 false) (.var 1 false))))
  .nil)⟩
def f_is_tuple_of : Fn := ⟨[105,115,95,116,117,112,108,101,95,111,102], [[116,104,105,110,103], [109,97,110,121]], [[116,104,105,110,103], [109,97,110,121]],
  (.cons (.ret (.boo true (.isi (.var 0 false) .tuple) (.cmp .eq (.blt false .len (.cons (.var 0 false) .nil)) (.var 1 false))))
  .nil)⟩
def f_is_edit : Fn := ⟨[105,115,95,101,100,105,116], [[116,101,120,116], [116,104,105,110,103]], [[116,101,120,116], [116,104,105,110,103]],
  (.cons (.ifs (.boo false (.not (.of (.call 2 (.cons (.var 1 false) (.cons (.lit (.int 3)) .nil))))) (.boo false (.not (.of (.call 1 (.cons (.idx (.var 1 false) (.lit (.int 0))) (.cons (.lit (.int 0)) .nil))))) (.not (.of (.call 1 (.cons (.idx (.var 1 false) (.lit (.int 1))) (.cons (.lit (.int 0)) .nil))))))) (.cons (.ret (.lit (.bl false)))
    .nil) .nil)
  (.cons (.ret (.boo true (.isi (.idx (.var 1 false) (.lit (.int 2))) .str) (.cmp .le (.bin .add (.idx (.var 1 false) (.lit (.int 0))) (.idx (.var 1 false) (.lit (.int 1)))) (.blt false .len (.cons (.var 0 false) .nil)))))
  .nil))⟩
def f_edited : Fn := ⟨[101,100,105,116,101,100], [[116,101,120,116], [101,100,105,116]], [[116,101,120,116], [101,100,105,116], [97,116], [103,111,110,101], [109,111,114,101]],
  (.cons (.asg (.tp [2, 3, 4]) (.var 1 false))
  (.cons (.ret (.bin .add (.bin .add (.slc (.var 0 false) .nil (.cons (.var 2 false) .nil)) (.var 4 false)) (.slc (.var 0 false) (.cons (.bin .add (.var 2 false) (.var 3 false)) .nil) .nil)))
  .nil))⟩
def f_carried_place : Fn := ⟨[99,97,114,114,105,101,100,95,112,108,97,99,101], [[112,108,97,99,101], [101,100,105,116], [105,115,95,102,114,111,109,95,112,108,97,99,101]], [[112,108,97,99,101], [101,100,105,116], [105,115,95,102,114,111,109,95,112,108,97,99,101], [97,116], [103,111,110,101], [109,111,114,101]],
  (.cons (.asg (.tp [3, 4, 5]) (.var 1 false))
  (.cons (.ifs (.of (.cmp .le (.var 0 false) (.var 3 false))) (.cons (.ret (.var 0 false))
    .nil) .nil)
  (.cons (.ifs (.of (.cmp .ge (.var 0 false) (.bin .add (.var 3 false) (.var 4 false)))) (.cons (.ret (.bin .sub (.bin .add (.var 0 false) (.blt false .len (.cons (.var 5 false) .nil))) (.var 4 false)))
    .nil) .nil)
  (.cons (.ret (.ite (.of (.var 2 false)) (.bin .add (.var 3 false) (.blt false .len (.cons (.var 5 false) .nil))) (.var 3 false)))
  .nil))))⟩
def f_carried_note : Fn := ⟨[99,97,114,114,105,101,100,95,110,111,116,101], [[110,111,116,101], [101,100,105,116]], [[110,111,116,101], [101,100,105,116], [102,105,114,115,116], [108,97,115,116], [97,116], [95], [109,111,114,101], [98,101,103,105,110], [101,110,100]],
  (.cons (.asg (.tp [2, 3]) (.var 0 false))
  (.cons (.asg (.tp [4, 5, 6]) (.var 1 false))
  (.cons (.asg (.nm 7) (.call 5 (.cons (.var 2 false) (.cons (.var 1 false) (.cons (.lit (.bl true)) .nil)))))
  (.cons (.ifs (.boo true (.of (.cmp .eq (.var 2 false) (.var 4 false))) (.of (.cmp .gt (.var 3 false) (.var 4 false)))) (.cons (.asg (.nm 7) (.bin .add (.var 4 false) (.blt false .len (.cons (.var 6 false) .nil))))
    .nil) .nil)
  (.cons (.asg (.nm 8) (.call 5 (.cons (.var 3 false) (.cons (.var 1 false) (.cons (.lit (.bl false)) .nil)))))
  (.cons (.ret (.tup (.cons (.blt false .min2 (.cons (.var 7 false) (.cons (.var 8 false) .nil))) (.cons (.var 8 false) .nil))))
  .nil))))))⟩
def f_carried : Fn := ⟨[99,97,114,114,105,101,100], [[110,111,116,101,115], [101,100,105,116]], [[110,111,116,101,115], [101,100,105,116], [110,97,109,101]],
  (.cons (.ret (.blt false .dict (.cons (.comp false (.tup (.cons (.var 2 false) (.cons (.call 6 (.cons (.idx (.var 0 false) (.var 2 false)) (.cons (.var 1 false) .nil))) .nil))) [2] (.nm 2) (.ex (.blt false .sorted (.cons (.var 0 false) .nil))) .yes) .nil)))
  .nil)⟩
def L_carried_all_0 : Sts := (.cons (.asg (.nm 0) (.call 7 (.cons (.var 0 false) (.cons (.var 2 false) .nil))))
  .nil)
def f_carried_all : Fn := ⟨[99,97,114,114,105,101,100,95,97,108,108], [[110,111,116,101,115], [101,100,105,116,115]], [[110,111,116,101,115], [101,100,105,116,115], [101,100,105,116], [110,97,109,101]],
  (.cons (.for (.nm 2) (.var 1 false) L_carried_all_0)
  (.cons (.ret (.blt false .dict (.cons (.comp false (.tup (.cons (.var 3 false) (.cons (.idx (.var 0 false) (.var 3 false)) .nil))) [3] (.nm 3) (.ex (.blt false .sorted (.cons (.var 0 false) .nil))) .yes) .nil)))
  .nil))⟩
def L_all_edits_0 : Sts := (.cons (.ifs (.not (.of (.call 3 (.cons (.var 0 false) (.cons (.idx (.var 1 false) (.var 2 false)) .nil))))) (.cons (.ret (.tup (.cons (.lit .non) (.cons (.var 2 false) .nil))))
    .nil) .nil)
  (.cons (.asg (.nm 0) (.call 4 (.cons (.var 0 false) (.cons (.idx (.var 1 false) (.var 2 false)) .nil))))
  .nil))
def f_all_edits : Fn := ⟨[97,108,108,95,101,100,105,116,115], [[116,101,120,116], [101,100,105,116,115]], [[116,101,120,116], [101,100,105,116,115], [107]],
  (.cons (.for (.nm 2) (.rng1 (.blt false .len (.cons (.var 1 false) .nil))) L_all_edits_0)
  (.cons (.ret (.tup (.cons (.var 0 false) (.cons (.lit .non) .nil))))
  .nil))⟩
def f_noted : Fn := ⟨[110,111,116,101,100], [[116,101,120,116], [110,111,116,101,115], [110,97,109,101]], [[116,101,120,116], [110,111,116,101,115], [110,97,109,101], [102,105,114,115,116], [108,97,115,116]],
  (.cons (.asg (.tp [3, 4]) (.idx (.var 1 false) (.var 2 false)))
  (.cons (.ret (.slc (.var 0 false) (.cons (.var 3 false) .nil) (.cons (.var 4 false) .nil)))
  .nil))⟩
def f_lost_notes : Fn := ⟨[108,111,115,116,95,110,111,116,101,115], [[116,101,120,116], [110,111,116,101,115], [101,100,105,116]], [[116,101,120,116], [110,111,116,101,115], [101,100,105,116], [108,97,116,101,114], [110,101,119], [110,97,109,101]],
  (.cons (.par [3, 4] (.cons (.call 7 (.cons (.var 1 false) (.cons (.var 2 false) .nil))) (.cons (.call 4 (.cons (.var 0 false) (.cons (.var 2 false) .nil))) .nil)))
  (.cons (.ret (.blt false .tuple (.cons (.comp false (.var 5 false) [5] (.nm 5) (.ex (.blt false .sorted (.cons (.var 1 false) .nil))) (.boo true (.of (.cmp .ne (.call 10 (.cons (.var 0 false) (.cons (.var 1 false) (.cons (.var 5 false) .nil)))) (.lit (.str [])))) (.of (.cmp .eq (.call 10 (.cons (.var 4 false) (.cons (.var 3 false) (.cons (.var 5 false) .nil)))) (.lit (.str [])))))) .nil)))
  .nil))⟩
def L_edit_between_0 : Sts := (.cons (.aug 3 .add (.lit (.int 1)))
  .nil)
def L_edit_between_1 : Sts := (.cons (.aug 2 .add (.lit (.int 1)))
  .nil)
def f_edit_between : Fn := ⟨[101,100,105,116,95,98,101,116,119,101,101,110], [[111,108,100], [110,101,119]], [[111,108,100], [110,101,119], [97,116], [115,97,109,101]],
  (.cons (.ifs (.of (.cmp .eq (.var 0 false) (.var 1 false))) (.cons (.ret (.lit .non))
    .nil) .nil)
  (.cons (.asg (.nm 2) (.lit (.int 0)))
  (.cons (.whil (.boo true (.of (.cmp .lt (.var 2 false) (.blt false .min2 (.cons (.blt false .len (.cons (.var 0 false) .nil)) (.cons (.blt false .len (.cons (.var 1 false) .nil)) .nil))))) (.of (.cmp .eq (.idx (.var 0 false) (.var 2 false)) (.idx (.var 1 false) (.var 2 false))))) L_edit_between_1)
  (.cons (.asg (.nm 3) (.lit (.int 0)))
  (.cons (.whil (.boo true (.of (.cmp .lt (.var 3 false) (.bin .sub (.blt false .min2 (.cons (.blt false .len (.cons (.var 0 false) .nil)) (.cons (.blt false .len (.cons (.var 1 false) .nil)) .nil))) (.var 2 false)))) (.of (.cmp .eq (.idx (.var 0 false) (.bin .sub (.bin .sub (.blt false .len (.cons (.var 0 false) .nil)) (.var 3 false)) (.lit (.int 1)))) (.idx (.var 1 false) (.bin .sub (.bin .sub (.blt false .len (.cons (.var 1 false) .nil)) (.var 3 false)) (.lit (.int 1))))))) L_edit_between_0)
  (.cons (.ret (.tup (.cons (.var 2 false) (.cons (.bin .sub (.bin .sub (.blt false .len (.cons (.var 0 false) .nil)) (.var 2 false)) (.var 3 false)) (.cons (.slc (.var 1 false) (.cons (.var 2 false) .nil) (.cons (.bin .sub (.blt false .len (.cons (.var 1 false) .nil)) (.var 3 false)) .nil)) .nil)))))
  .nil))))))⟩
def f_turned_edit : Fn := ⟨[116,117,114,110,101,100,95,101,100,105,116], [[116,101,120,116], [101,100,105,116]], [[116,101,120,116], [101,100,105,116], [97,116], [103,111,110,101], [109,111,114,101]],
  (.cons (.asg (.tp [2, 3, 4]) (.var 1 false))
  (.cons (.ret (.tup (.cons (.var 2 false) (.cons (.blt false .len (.cons (.var 4 false) .nil)) (.cons (.slc (.var 0 false) (.cons (.var 2 false) .nil) (.cons (.bin .add (.var 2 false) (.var 3 false)) .nil)) .nil)))))
  .nil))⟩
def f_meet_edits : Fn := ⟨[109,101,101,116,95,101,100,105,116,115], [[111,110,101], [111,116,104,101,114]], [[111,110,101], [111,116,104,101,114], [102,105,114,115,116], [115,101,99,111,110,100]],
  (.cons (.asg (.tp [2, 3]) (.blt false .sorted (.cons (.lst false (.cons (.slc (.var 0 false) .nil (.cons (.lit (.int 2)) .nil)) (.cons (.slc (.var 1 false) .nil (.cons (.lit (.int 2)) .nil)) .nil))) .nil)))
  (.cons (.ret (.boo false (.cmp .eq (.idx (.var 2 false) (.lit (.int 0))) (.idx (.var 3 false) (.lit (.int 0)))) (.cmp .lt (.idx (.var 3 false) (.lit (.int 0))) (.bin .add (.idx (.var 2 false) (.lit (.int 0))) (.idx (.var 2 false) (.lit (.int 1)))))))
  .nil))⟩
def f_moved_edit : Fn := ⟨[109,111,118,101,100,95,101,100,105,116], [[101,100,105,116], [111,116,104,101,114]], [[101,100,105,116], [111,116,104,101,114]],
  (.cons (.ifs (.of (.cmp .lt (.idx (.var 1 false) (.lit (.int 0))) (.idx (.var 0 false) (.lit (.int 0))))) (.cons (.ret (.bin .add (.tup (.cons (.bin .sub (.bin .add (.idx (.var 0 false) (.lit (.int 0))) (.blt false .len (.cons (.idx (.var 1 false) (.lit (.int 2))) .nil))) (.idx (.var 1 false) (.lit (.int 1)))) .nil)) (.slc (.var 0 false) (.cons (.lit (.int 1)) .nil) .nil)))
    .nil) .nil)
  (.cons (.ret (.var 0 false))
  .nil))⟩
def f_both_edits : Fn := ⟨[98,111,116,104,95,101,100,105,116,115], [[116,101,120,116], [111,110,101], [111,116,104,101,114]], [[116,101,120,116], [111,110,101], [111,116,104,101,114]],
  (.cons (.ifs (.of (.call 14 (.cons (.var 1 false) (.cons (.var 2 false) .nil)))) (.cons (.ret (.lit .non))
    .nil) .nil)
  (.cons (.ret (.call 4 (.cons (.call 4 (.cons (.var 0 false) (.cons (.var 1 false) .nil))) (.cons (.call 15 (.cons (.var 2 false) (.cons (.var 1 false) .nil))) .nil))))
  .nil))⟩
def f__law_pick : Fn := ⟨[95,108,97,119,95,112,105,99,107], [[119], [114,111,119,115]], [[119], [114,111,119,115]],
  (.cons (.ret (.idx (.var 1 false) (.call 18 (.cons (.var 0 false) (.cons (.blt false .len (.cons (.var 1 false) .nil)) .nil)))))
  .nil)⟩
def f__law_set : Fn := ⟨[95,108,97,119,95,115,101,116], [[116,101,120,116], [101,100,105,116]], [[116,101,120,116], [101,100,105,116], [97,116], [97,119,97,121], [109,111,114,101]],
  (.cons (.asg (.tp [2, 3, 4]) (.var 1 false))
  (.cons (.ret (.bin .add (.bin .add (.slc (.var 0 false) .nil (.cons (.var 2 false) .nil)) (.var 4 false)) (.slc (.var 0 false) (.cons (.bin .add (.var 2 false) (.var 3 false)) .nil) .nil)))
  .nil))⟩
def S__law_rest_0 : Stm := .par [8, 9, 10, 11] (.cons (.bin .mul (.lit (.str [119,101,32])) (.call 18 (.cons (.var 0 false) (.cons (.lit (.int 3)) .nil)))) (.cons (.bin .mul (.lit (.str [32,103,111])) (.call 18 (.cons (.var 0 false) (.cons (.lit (.int 3)) .nil)))) (.cons (.bin .mul (.lit (.str [108])) (.call 18 (.cons (.var 0 false) (.cons (.lit (.int 4)) .nil)))) (.cons (.bin .mul (.lit (.str [114])) (.call 18 (.cons (.var 0 false) (.cons (.lit (.int 4)) .nil)))) .nil))))
def S__law_rest_1 : Stm := .ifs (.not (.of (.call 20 (.cons (.call 12 (.cons (.bin .add (.bin .add (.var 8 false) (.var 10 false)) (.var 9 false)) (.cons (.bin .add (.bin .add (.var 8 false) (.var 11 false)) (.var 9 false)) .nil))) (.cons (.ite (.of (.cmp .ne (.var 10 false) (.var 11 false))) (.tup (.cons (.blt false .len (.cons (.var 8 false) .nil)) (.cons (.blt false .len (.cons (.var 10 false) .nil)) (.cons (.var 11 false) .nil)))) (.lit .non)) .nil))))) (.cons (.ret (.lit (.bl false)))
    .nil) .nil
def S__law_rest_2 : Stm := .par [12, 13] (.cons (.call 18 (.cons (.var 0 false) (.cons (.lit (.int 5)) .nil))) (.cons (.bin .add (.lit (.int 1)) (.call 18 (.cons (.var 0 false) (.cons (.lit (.int 4)) .nil)))) .nil))
def S__law_rest_3 : Stm := .ifs (.boo false (.not (.of (.call 20 (.cons (.call 12 (.cons (.bin .mul (.lit (.str [97])) (.var 12 false)) (.cons (.bin .mul (.lit (.str [97])) (.bin .add (.var 12 false) (.var 13 false))) .nil))) (.cons (.tup (.cons (.var 12 false) (.cons (.lit (.int 0)) (.cons (.bin .mul (.lit (.str [97])) (.var 13 false)) .nil)))) .nil))))) (.not (.of (.call 20 (.cons (.call 12 (.cons (.bin .mul (.lit (.str [97])) (.bin .add (.var 12 false) (.var 13 false))) (.cons (.bin .mul (.lit (.str [97])) (.var 12 false)) .nil))) (.cons (.tup (.cons (.var 12 false) (.cons (.var 13 false) (.cons (.lit (.str [])) .nil)))) .nil)))))) (.cons (.ret (.lit (.bl false)))
    .nil) .nil
def S__law_rest_4 : Stm := .ifs (.boo true (.of (.cmp .ne (.var 10 false) (.var 11 false))) (.of (.cmp .ne (.call 4 (.cons (.bin .add (.bin .add (.var 8 false) (.var 10 false)) (.var 9 false)) (.cons (.call 12 (.cons (.bin .add (.bin .add (.var 8 false) (.var 10 false)) (.var 9 false)) (.cons (.bin .add (.bin .add (.var 8 false) (.var 11 false)) (.var 9 false)) .nil))) .nil))) (.bin .add (.bin .add (.var 8 false) (.var 11 false)) (.var 9 false))))) (.cons (.ret (.lit (.bl false)))
    .nil) .nil
def S__law_rest_5 : Stm := .asg (.nm 14) (.tup (.cons (.tup (.cons (.lit (.int 0)) (.cons (.lit (.int 0)) (.cons (.lit (.str [120])) .nil)))) (.cons (.tup (.cons (.bin .add (.var 6 false) (.lit (.int 1))) (.cons (.lit (.int 0)) (.cons (.lit (.str [121])) .nil)))) (.cons (.tup (.cons (.lit (.int 0)) (.cons (.bin .add (.var 6 false) (.lit (.int 2))) (.cons (.lit (.str [122])) .nil)))) .nil))))
def S__law_rest_6 : Stm := .ifs (.boo false (.not (.of (.call 20 (.cons (.call 9 (.cons (.var 7 false) (.cons (.var 14 false) .nil))) (.cons (.tup (.cons (.lit (.str [122])) (.cons (.lit .non) .nil))) .nil))))) (.boo false (.not (.of (.call 20 (.cons (.call 9 (.cons (.var 7 false) (.cons (.bin .add (.var 14 false) (.tup (.cons (.tup (.cons (.lit (.int 3)) (.cons (.lit (.int 0)) (.cons (.lit (.str [113])) .nil)))) .nil))) .nil))) (.cons (.tup (.cons (.lit .non) (.cons (.lit (.int 3)) .nil))) .nil))))) (.not (.of (.call 20 (.cons (.call 9 (.cons (.var 7 false) (.cons (.tup .nil) .nil))) (.cons (.tup (.cons (.var 7 false) (.cons (.lit .non) .nil))) .nil))))))) (.cons (.ret (.lit (.bl false)))
    .nil) .nil
def S__law_rest_7 : Stm := .ifs (.not (.of (.call 20 (.cons (.call 9 (.cons (.var 7 false) (.cons (.tup (.cons (.tup (.cons (.bin .add (.var 6 false) (.lit (.int 1))) (.cons (.lit (.int 0)) (.cons (.lit (.str [])) .nil)))) .nil)) .nil))) (.cons (.tup (.cons (.lit .non) (.cons (.lit (.int 0)) .nil))) .nil))))) (.cons (.ret (.lit (.bl false)))
    .nil) .nil
def S__law_rest_8 : Stm := .ifs (.boo false (.not (.of (.call 20 (.cons (.call 8 (.cons (.dict false (.cons (.lit (.str [97,108,108])) (.tup (.cons (.lit (.int 0)) (.cons (.var 6 false) .nil))) .nil)) (.cons (.tup (.cons (.tup (.cons (.lit (.int 0)) (.cons (.lit (.int 0)) (.cons (.lit (.str [120])) .nil)))) .nil)) .nil))) (.cons (.dict false (.cons (.lit (.str [97,108,108])) (.tup (.cons (.lit (.int 1)) (.cons (.bin .add (.var 6 false) (.lit (.int 1))) .nil))) .nil)) .nil))))) (.not (.of (.call 20 (.cons (.call 8 (.cons (.dict false (.cons (.lit (.str [97,108,108])) (.tup (.cons (.lit (.int 0)) (.cons (.var 6 false) .nil))) .nil)) (.cons (.tup (.cons (.tup (.cons (.var 6 false) (.cons (.lit (.int 0)) (.cons (.lit (.str [120])) .nil)))) (.cons (.tup (.cons (.lit (.int 0)) (.cons (.lit (.int 0)) (.cons (.lit (.str [121])) .nil)))) .nil))) .nil))) (.cons (.dict false (.cons (.lit (.str [97,108,108])) (.tup (.cons (.lit (.int 1)) (.cons (.bin .add (.var 6 false) (.lit (.int 1))) .nil))) .nil)) .nil)))))) (.cons (.ret (.lit (.bl false)))
    .nil) .nil
def S__law_rest_9 : Stm := .ifs (.of (.cmp .ne (.call 8 (.cons (.dict false (.cons (.lit (.str [97,108,108])) (.tup (.cons (.lit (.int 0)) (.cons (.var 6 false) .nil))) .nil)) (.cons (.tup .nil) .nil))) (.dict false (.cons (.lit (.str [97,108,108])) (.tup (.cons (.lit (.int 0)) (.cons (.var 6 false) .nil))) .nil)))) (.cons (.ret (.lit (.bl false)))
    .nil) .nil
def S__law_rest_10 : Stm := .asg (.nm 15) (.bin .add (.bin .add (.bin .add (.var 1 false) (.var 2 false)) (.lit (.int 1))) (.call 18 (.cons (.var 0 false) (.cons (.bin .sub (.bin .sub (.bin .sub (.var 6 false) (.var 1 false)) (.var 2 false)) (.lit (.int 1))) .nil))))
def S__law_rest_11 : Stm := .asg (.nm 16) (.tup (.cons (.var 15 false) (.cons (.call 18 (.cons (.var 0 false) (.cons (.bin .add (.bin .sub (.var 6 false) (.var 15 false)) (.lit (.int 1))) .nil))) (.cons (.bin .mul (.lit (.str [113])) (.call 18 (.cons (.var 0 false) (.cons (.lit (.int 3)) .nil)))) .nil))))
def S__law_rest_12 : Stm := .asg (.nm 17) (.bin .add (.bin .add (.bin .add (.bin .add (.slc (.var 7 false) .nil (.cons (.var 1 false) .nil)) (.var 5 false)) (.slc (.var 7 false) (.cons (.bin .add (.var 1 false) (.var 2 false)) .nil) (.cons (.var 15 false) .nil))) (.idx (.var 16 false) (.lit (.int 2)))) (.slc (.var 7 false) (.cons (.bin .add (.var 15 false) (.idx (.var 16 false) (.lit (.int 1)))) .nil) .nil))
def S__law_rest_13 : Stm := .ifs (.boo false (.of (.cmp .isNot (.call 14 (.cons (.var 3 false) (.cons (.var 16 false) .nil))) (.lit (.bl false)))) (.boo false (.not (.of (.call 20 (.cons (.call 16 (.cons (.var 7 false) (.cons (.var 3 false) (.cons (.var 16 false) .nil)))) (.cons (.var 17 false) .nil))))) (.not (.of (.call 20 (.cons (.call 16 (.cons (.var 7 false) (.cons (.var 16 false) (.cons (.var 3 false) .nil)))) (.cons (.var 17 false) .nil))))))) (.cons (.ret (.lit (.bl false)))
      .nil) .nil
def S__law_rest_14 : Stm := .ifs (.boo false (.not (.of (.call 20 (.cons (.call 15 (.cons (.var 16 false) (.cons (.var 3 false) .nil))) (.cons (.bin .add (.tup (.cons (.bin .add (.var 15 false) (.var 4 false)) .nil)) (.slc (.var 16 false) (.cons (.lit (.int 1)) .nil) .nil)) .nil))))) (.not (.of (.call 20 (.cons (.call 15 (.cons (.var 3 false) (.cons (.var 16 false) .nil))) (.cons (.var 3 false) .nil)))))) (.cons (.ret (.lit (.bl false)))
      .nil) .nil
def S__law_rest_15 : Stm := .ifs (.boo false (.not (.of (.call 20 (.cons (.call 4 (.cons (.call 4 (.cons (.var 7 false) (.cons (.var 3 false) .nil))) (.cons (.call 15 (.cons (.var 16 false) (.cons (.var 3 false) .nil))) .nil))) (.cons (.var 17 false) .nil))))) (.not (.of (.call 20 (.cons (.call 4 (.cons (.call 4 (.cons (.var 7 false) (.cons (.var 16 false) .nil))) (.cons (.call 15 (.cons (.var 3 false) (.cons (.var 16 false) .nil))) .nil))) (.cons (.var 17 false) .nil)))))) (.cons (.ret (.lit (.bl false)))
      .nil) .nil
def S__law_rest_16 : Stm := .ifs (.of (.cmp .lt (.bin .add (.bin .add (.var 1 false) (.var 2 false)) (.lit (.int 1))) (.var 6 false))) (.cons S__law_rest_10 (.cons S__law_rest_11 (.cons S__law_rest_12 (.cons S__law_rest_13 (.cons S__law_rest_14 (.cons S__law_rest_15 .nil)))))) .nil
def S__law_rest_17 : Stm := .ifs (.boo false (.boo true (.of (.cmp .gt (.var 2 false) (.lit (.int 0)))) (.boo false (.of (.cmp .isNot (.call 14 (.cons (.var 3 false) (.cons (.tup (.cons (.var 1 false) (.cons (.lit (.int 1)) (.cons (.lit (.str [])) .nil)))) .nil))) (.lit (.bl true)))) (.of (.cmp .isNot (.call 16 (.cons (.var 7 false) (.cons (.var 3 false) (.cons (.var 3 false) .nil)))) (.lit .non))))) (.of (.cmp .isNot (.call 14 (.cons (.tup (.cons (.var 1 false) (.cons (.lit (.int 0)) (.cons (.lit (.str [120])) .nil)))) (.cons (.tup (.cons (.var 1 false) (.cons (.lit (.int 0)) (.cons (.lit (.str [121])) .nil)))) .nil))) (.lit (.bl true))))) (.cons (.ret (.lit (.bl false)))
    .nil) .nil
def S__law_rest_18 : Stm := .ifs (.of (.cmp .isNot (.call 3 (.cons (.var 7 false) (.cons (.call 19 (.cons (.var 0 false) (.cons (.lst false (.cons (.tup (.cons (.bin .add (.var 6 false) (.lit (.int 1))) (.cons (.lit (.int 0)) (.cons (.lit (.str [])) .nil)))) (.cons (.tup (.cons (.lit (.int 0)) (.cons (.bin .add (.var 6 false) (.lit (.int 1))) (.cons (.lit (.str [])) .nil)))) (.cons (.tup (.cons (.neg (.lit (.int 1))) (.cons (.lit (.int 0)) (.cons (.lit (.str [])) .nil)))) (.cons (.tup (.cons (.lit (.int 0)) (.cons (.lit (.int 0)) .nil))) (.cons (.lst false (.cons (.lit (.int 0)) (.cons (.lit (.int 0)) (.cons (.lit (.str [])) .nil)))) (.cons (.tup (.cons (.lit (.int 0)) (.cons (.lit (.int 0)) (.cons (.lit (.int 5)) .nil)))) (.cons (.tup (.cons (.lit (.bl true)) (.cons (.lit (.int 0)) (.cons (.lit (.str [])) .nil)))) .nil)))))))) .nil))) .nil))) (.lit (.bl false)))) (.cons (.ret (.lit (.bl false)))
    .nil) .nil
def S__law_rest_19 : Stm := .ret (.lit (.bl true))
def f__law_rest : Fn := ⟨[95,108,97,119,95,114,101,115,116], [[119], [97,116], [97,119,97,121], [101,100,105,116], [103,114,111,119,110], [109,111,114,101], [110], [116,101,120,116]], [[119], [97,116], [97,119,97,121], [101,100,105,116], [103,114,111,119,110], [109,111,114,101], [110], [116,101,120,116], [97,104,101,97,100], [104,105,110,100], [111,110,101], [111,116,104,101,114], [115,97,109,101], [101,120,116,114,97], [101,100,105,116,115,95,114,111,119], [112,108,97,99,101], [115,101,99,111,110,100], [98,111,116,104]],
  (.cons S__law_rest_0 (.cons S__law_rest_1 (.cons S__law_rest_2 (.cons S__law_rest_3 (.cons S__law_rest_4 (.cons S__law_rest_5 (.cons S__law_rest_6 (.cons S__law_rest_7 (.cons S__law_rest_8 (.cons S__law_rest_9 (.cons S__law_rest_16 (.cons S__law_rest_17 (.cons S__law_rest_18 (.cons S__law_rest_19 .nil))))))))))))))⟩
def S_law_0 : Stm := .asg (.nm 1) (.dict true (.cons (.lit (.str [100,114,97,119,115])) (.call 17 (.cons (.var 0 false) (.cons (.lit (.int 900)) .nil))) (.cons (.lit (.str [97,116])) (.lit (.int 0)) .nil)))
def S_law_1 : Stm := .asg (.nm 3) (.bin .add (.lit (.int 1)) (.call 18 (.cons (.var 1 false) (.cons (.lit (.int 10)) .nil))))
def S_law_2 : Stm := .asg (.nm 4) (.slc (.lit (.str [97,98,99,100,101,102,103,104,105,106])) .nil (.cons (.var 3 false) .nil))
def S_law_3 : Stm := .asg (.nm 5) (.call 18 (.cons (.var 1 false) (.cons (.bin .add (.var 3 false) (.lit (.int 1))) .nil)))
def S_law_4 : Stm := .par [6, 7] (.cons (.call 18 (.cons (.var 1 false) (.cons (.bin .add (.bin .sub (.var 3 false) (.var 5 false)) (.lit (.int 1))) .nil))) (.cons (.bin .mul (.mth .lower (.slc (.lit (.str [88,89,90])) .nil (.cons (.call 18 (.cons (.var 1 false) (.cons (.lit (.int 4)) .nil))) .nil)) .nil) (.lit (.int 2))) .nil))
def S_law_5 : Stm := .asg (.nm 8) (.tup (.cons (.var 5 false) (.cons (.var 6 false) (.cons (.var 7 false) .nil))))
def S_law_6 : Stm := .asg (.nm 9) (.call 21 (.cons (.var 4 false) (.cons (.var 8 false) .nil)))
def S_law_7 : Stm := .asg (.nm 10) (.bin .sub (.blt false .len (.cons (.var 7 false) .nil)) (.var 6 false))
def S_law_8 : Stm := .ifs (.boo false (.of (.cmp .isNot (.call 3 (.cons (.var 4 false) (.cons (.var 8 false) .nil))) (.lit (.bl true)))) (.boo false (.not (.of (.call 20 (.cons (.call 4 (.cons (.var 4 false) (.cons (.var 8 false) .nil))) (.cons (.var 9 false) .nil))))) (.not (.of (.call 20 (.cons (.call 4 (.cons (.var 9 false) (.cons (.call 13 (.cons (.var 4 false) (.cons (.var 8 false) .nil))) .nil))) (.cons (.var 4 false) .nil))))))) (.cons (.ret (.lit (.bl false)))
    .nil) .nil
def S_law_9 : Stm := .ifs (.not (.of (.call 20 (.cons (.call 13 (.cons (.var 4 false) (.cons (.var 8 false) .nil))) (.cons (.tup (.cons (.var 5 false) (.cons (.blt false .len (.cons (.var 7 false) .nil)) (.cons (.slc (.var 4 false) (.cons (.var 5 false) .nil) (.cons (.bin .add (.var 5 false) (.var 6 false)) .nil)) .nil)))) .nil))))) (.cons (.ret (.lit (.bl false)))
    .nil) .nil
def S_law_10 : Stm := .asg (.nm 11) (.call 18 (.cons (.var 1 false) (.cons (.bin .add (.var 5 false) (.lit (.int 1))) .nil)))
def S_law_11 : Stm := .asg (.nm 12) (.bin .add (.bin .add (.var 5 false) (.var 6 false)) (.call 18 (.cons (.var 1 false) (.cons (.bin .add (.bin .sub (.bin .sub (.var 3 false) (.var 5 false)) (.var 6 false)) (.lit (.int 1))) .nil))))
def S_law_12 : Stm := .asg (.nm 13) (.call 7 (.cons (.dict false (.cons (.lit (.str [97,104,101,97,100])) (.tup (.cons (.lit (.int 0)) (.cons (.blt false .max2 (.cons (.lit (.int 0)) (.cons (.bin .sub (.var 5 false) (.lit (.int 1))) .nil))) .nil))) (.cons (.lit (.str [98,101,104,105,110,100])) (.tup (.cons (.var 12 false) (.cons (.var 3 false) .nil))) .nil))) (.cons (.var 8 false) .nil)))
def S_law_13 : Stm := .ifs (.boo false (.boo true (.of (.cmp .gt (.var 5 false) (.lit (.int 0)))) (.of (.cmp .ne (.idx (.var 13 false) (.lit (.str [97,104,101,97,100]))) (.tup (.cons (.lit (.int 0)) (.cons (.bin .sub (.var 5 false) (.lit (.int 1))) .nil)))))) (.boo true (.of (.cmp .gt (.var 12 false) (.bin .add (.var 5 false) (.var 6 false)))) (.not (.of (.call 20 (.cons (.idx (.var 13 false) (.lit (.str [98,101,104,105,110,100]))) (.cons (.tup (.cons (.bin .add (.var 12 false) (.var 10 false)) (.cons (.bin .add (.var 3 false) (.var 10 false)) .nil))) .nil))))))) (.cons (.ret (.lit (.bl false)))
    .nil) .nil
def S_law_14 : Stm := .ifs (.boo true (.of (.cmp .lt (.var 11 false) (.var 5 false))) (.of (.cmp .gt (.var 12 false) (.bin .add (.var 5 false) (.var 6 false))))) (.cons (.asg (.nm 14) (.idx (.call 7 (.cons (.dict false (.cons (.lit (.str [97,114,111,117,110,100])) (.tup (.cons (.var 11 false) (.cons (.var 12 false) .nil))) .nil)) (.cons (.var 8 false) .nil))) (.lit (.str [97,114,111,117,110,100]))))
    (.cons (.ifs (.boo false (.not (.of (.call 20 (.cons (.var 14 false) (.cons (.tup (.cons (.var 11 false) (.cons (.bin .add (.var 12 false) (.var 10 false)) .nil))) .nil))))) (.not (.of (.call 20 (.cons (.call 10 (.cons (.var 9 false) (.cons (.dict false (.cons (.lit (.str [97,114,111,117,110,100])) (.var 14 false) .nil)) (.cons (.lit (.str [97,114,111,117,110,100])) .nil)))) (.cons (.call 21 (.cons (.slc (.var 4 false) (.cons (.var 11 false) .nil) (.cons (.var 12 false) .nil)) (.cons (.tup (.cons (.bin .sub (.var 5 false) (.var 11 false)) (.cons (.var 6 false) (.cons (.var 7 false) .nil)))) .nil))) .nil)))))) (.cons (.ret (.lit (.bl false)))
      .nil) .nil)
    .nil)) .nil
def S_law_15 : Stm := .asg (.nm 15) (.idx (.call 7 (.cons (.dict false (.cons (.lit (.str [105,116])) (.tup (.cons (.var 5 false) (.cons (.bin .add (.var 5 false) (.var 6 false)) .nil))) .nil)) (.cons (.var 8 false) .nil))) (.lit (.str [105,116])))
def S_law_16 : Stm := .ifs (.boo false (.of (.cmp .ne (.idx (.var 15 false) (.lit (.int 0))) (.idx (.var 15 false) (.lit (.int 1))))) (.not (.of (.call 20 (.cons (.call 11 (.cons (.var 4 false) (.cons (.dict false (.cons (.lit (.str [105,116])) (.tup (.cons (.var 5 false) (.cons (.bin .add (.var 5 false) (.var 6 false)) .nil))) (.cons (.lit (.str [97,108,108])) (.tup (.cons (.lit (.int 0)) (.cons (.var 3 false) .nil))) .nil))) (.cons (.var 8 false) .nil)))) (.cons (.ite (.of (.cmp .lt (.var 6 false) (.var 3 false))) (.tup (.cons (.lit (.str [105,116])) .nil)) (.tup (.cons (.lit (.str [97,108,108])) (.cons (.lit (.str [105,116])) .nil)))) .nil)))))) (.cons (.ret (.lit (.bl false)))
      .nil) .nil
def S_law_17 : Stm := .ifs (.not (.of (.call 20 (.cons (.call 11 (.cons (.var 4 false) (.cons (.dict false (.cons (.lit (.str [105,116])) (.tup (.cons (.var 5 false) (.cons (.bin .add (.var 5 false) (.var 6 false)) .nil))) .nil)) (.cons (.var 8 false) .nil)))) (.cons (.tup (.cons (.lit (.str [105,116])) .nil)) .nil))))) (.cons (.ret (.lit (.bl false)))
      .nil) .nil
def S_law_18 : Stm := .ifs (.of (.cmp .gt (.var 6 false) (.lit (.int 0)))) (.cons S_law_15 (.cons S_law_16 (.cons S_law_17 .nil))) .nil
def S_law_19 : Stm := .ifs (.boo false (.of (.cmp .ne (.call 11 (.cons (.var 4 false) (.cons (.dict false (.cons (.lit (.str [110,111,110,101])) (.tup (.cons (.var 5 false) (.cons (.var 5 false) .nil))) .nil)) (.cons (.var 8 false) .nil)))) (.tup .nil))) (.boo false (.of (.cmp .ne (.call 10 (.cons (.var 4 false) (.cons (.dict false (.cons (.lit (.str [97,114,111,117,110,100])) (.tup (.cons (.var 11 false) (.cons (.var 12 false) .nil))) .nil)) (.cons (.lit (.str [97,114,111,117,110,100])) .nil)))) (.slc (.var 4 false) (.cons (.var 11 false) .nil) (.cons (.var 12 false) .nil)))) (.of (.cmp .ne (.call 7 (.cons (.dict false .nil) (.cons (.var 8 false) .nil))) (.dict false .nil))))) (.cons (.ret (.lit (.bl false)))
    .nil) .nil
def S_law_20 : Stm := .ifs (.of (.cmp .isNot (.call 22 (.cons (.var 1 false) (.cons (.var 5 false) (.cons (.var 6 false) (.cons (.var 8 false) (.cons (.var 10 false) (.cons (.var 7 false) (.cons (.var 3 false) (.cons (.var 4 false) .nil))))))))) (.lit (.bl true)))) (.cons (.ret (.lit (.bl false)))
    .nil) .nil
def L_law_0 : Sts := (.cons S_law_1 (.cons S_law_2 (.cons S_law_3 (.cons S_law_4 (.cons S_law_5 (.cons S_law_6 (.cons S_law_7 (.cons S_law_8 (.cons S_law_9 (.cons S_law_10 (.cons S_law_11 (.cons S_law_12 (.cons S_law_13 (.cons S_law_14 (.cons S_law_18 (.cons S_law_19 (.cons S_law_20 .nil)))))))))))))))))
def S_law_21 : Stm := .for (.nm 2) (.rng1 (.lit (.int 3))) L_law_0
def S_law_22 : Stm := .ret (.lit (.bl true))
def f_law : Fn := ⟨[108,97,119], [[115,99,114,105,112,116]], [[115,99,114,105,112,116], [119], [116,117,114,110], [110], [116,101,120,116], [97,116], [97,119,97,121], [109,111,114,101], [101,100,105,116], [110,111,119], [103,114,111,119,110], [102,105,114,115,116], [108,97,115,116], [116,111,108,100], [119,105,100,101], [103,111,110,101,95,110,111,116,101]],
  (.cons S_law_0 (.cons S_law_21 (.cons S_law_22 .nil)))⟩
def prog : List Fn := [f_is_number, f_is_from, f_is_tuple_of, f_is_edit, f_edited, f_carried_place, f_carried_note, f_carried, f_carried_all, f_all_edits, f_noted, f_lost_notes, f_edit_between, f_turned_edit, f_meet_edits, f_moved_edit, f_both_edits, f__law_draws, f__law_next, f__law_pick, f__law_same, f__law_set, f__law_rest, f_law]
theorem u_is_number (n : Nat) (args : List SV) (h : AH) : callN prog (n + 1) 0 args h = runF (callN prog n) f_is_number args h := rfl
theorem u_is_from (n : Nat) (args : List SV) (h : AH) : callN prog (n + 1) 1 args h = runF (callN prog n) f_is_from args h := rfl
theorem u_is_tuple_of (n : Nat) (args : List SV) (h : AH) : callN prog (n + 1) 2 args h = runF (callN prog n) f_is_tuple_of args h := rfl
theorem u_is_edit (n : Nat) (args : List SV) (h : AH) : callN prog (n + 1) 3 args h = runF (callN prog n) f_is_edit args h := rfl
theorem u_edited (n : Nat) (args : List SV) (h : AH) : callN prog (n + 1) 4 args h = runF (callN prog n) f_edited args h := rfl
theorem u_carried_place (n : Nat) (args : List SV) (h : AH) : callN prog (n + 1) 5 args h = runF (callN prog n) f_carried_place args h := rfl
theorem u_carried_note (n : Nat) (args : List SV) (h : AH) : callN prog (n + 1) 6 args h = runF (callN prog n) f_carried_note args h := rfl
theorem u_carried (n : Nat) (args : List SV) (h : AH) : callN prog (n + 1) 7 args h = runF (callN prog n) f_carried args h := rfl
theorem u_carried_all (n : Nat) (args : List SV) (h : AH) : callN prog (n + 1) 8 args h = runF (callN prog n) f_carried_all args h := rfl
theorem u_all_edits (n : Nat) (args : List SV) (h : AH) : callN prog (n + 1) 9 args h = runF (callN prog n) f_all_edits args h := rfl
theorem u_noted (n : Nat) (args : List SV) (h : AH) : callN prog (n + 1) 10 args h = runF (callN prog n) f_noted args h := rfl
theorem u_lost_notes (n : Nat) (args : List SV) (h : AH) : callN prog (n + 1) 11 args h = runF (callN prog n) f_lost_notes args h := rfl
theorem u_edit_between (n : Nat) (args : List SV) (h : AH) : callN prog (n + 1) 12 args h = runF (callN prog n) f_edit_between args h := rfl
theorem u_turned_edit (n : Nat) (args : List SV) (h : AH) : callN prog (n + 1) 13 args h = runF (callN prog n) f_turned_edit args h := rfl
theorem u_meet_edits (n : Nat) (args : List SV) (h : AH) : callN prog (n + 1) 14 args h = runF (callN prog n) f_meet_edits args h := rfl
theorem u_moved_edit (n : Nat) (args : List SV) (h : AH) : callN prog (n + 1) 15 args h = runF (callN prog n) f_moved_edit args h := rfl
theorem u_both_edits (n : Nat) (args : List SV) (h : AH) : callN prog (n + 1) 16 args h = runF (callN prog n) f_both_edits args h := rfl
theorem u__law_draws (n : Nat) (args : List SV) (h : AH) : callN prog (n + 1) 17 args h = runF (callN prog n) f__law_draws args h := rfl
theorem u__law_next (n : Nat) (args : List SV) (h : AH) : callN prog (n + 1) 18 args h = runF (callN prog n) f__law_next args h := rfl
theorem u__law_pick (n : Nat) (args : List SV) (h : AH) : callN prog (n + 1) 19 args h = runF (callN prog n) f__law_pick args h := rfl
theorem u__law_same (n : Nat) (args : List SV) (h : AH) : callN prog (n + 1) 20 args h = runF (callN prog n) f__law_same args h := rfl
theorem u__law_set (n : Nat) (args : List SV) (h : AH) : callN prog (n + 1) 21 args h = runF (callN prog n) f__law_set args h := rfl
theorem u__law_rest (n : Nat) (args : List SV) (h : AH) : callN prog (n + 1) 22 args h = runF (callN prog n) f__law_rest args h := rfl
theorem u_law (n : Nat) (args : List SV) (h : AH) : callN prog (n + 1) 23 args h = runF (callN prog n) f_law args h := rfl
end Ev

set_option Elab.async false
set_option linter.all false
set_option maxRecDepth 100000
set_option maxHeartbeats 1000000
namespace Ev
theorem cut_to {α : Type} (s : List α) (a : Nat) : cut s none (some (a : Int)) = s.take a := by
  unfold cut sIx
  simp only [Nat.sub_zero, List.drop_zero]
  rw [if_neg (by omega)]
  simp [List.take_eq_take_iff]
theorem cut_from {α : Type} (s : List α) (a : Nat) : cut s (some (a : Int)) none = s.drop a := by
  unfold cut sIx
  simp only
  rw [if_neg (by omega)]
  simp only [Int.toNat_natCast]
  rw [List.take_of_length_le (by rw [List.length_drop]; exact Nat.le_refl _)]
  by_cases h : a ≤ s.length
  · rw [Nat.min_eq_left h]
  · rw [Nat.min_eq_right (by omega), List.drop_eq_nil_of_le (by omega), List.drop_eq_nil_of_le (by omega)]
theorem cut_mid {α : Type} (s : List α) (a b : Nat) : cut s (some (a : Int)) (some (b : Int)) = (s.drop a).take (b - a) := by
  unfold cut sIx
  simp only
  rw [if_neg (by omega), if_neg (by omega)]
  simp only [Int.toNat_natCast]
  by_cases h : a ≤ s.length
  · rw [Nat.min_eq_left h]
    rw [List.take_eq_take_iff, List.length_drop]
    omega
  · have h' : min a s.length = s.length := by omega
    rw [h', List.drop_eq_nil_of_le (by omega), List.drop_eq_nil_of_le (by omega)]
    simp
theorem cut_add {α : Type} (s : List α) (a b : Nat) : cut s (some ((a : Int) + (b : Int))) none = s.drop (a + b) := by
  rw [← Int.natCast_add]; exact cut_from s (a + b)
theorem cut_part {α : Type} (s : List α) (a b : Nat) : cut s (some (a : Int)) (some ((a : Int) + (b : Int))) = (s.drop a).take b := by
  rw [← Int.natCast_add, cut_mid, show a + b - a = b by omega]
def ed (s : List Nat) (a g : Nat) (m : List Nat) : List Nat := s.take a ++ m ++ s.drop (a + g)
abbrev eP (a g : Nat) (m : List Nat) : PV := .tup [.int a, .int g, .str m]
theorem is_edit_ok (n : Nat) (s m : List Nat) (a g : Nat) (h : AH) : callN prog (n + 3) 3 [.v (.str s), .v (eP a g m)] h = some (.v (.bl (decide (a + g ≤ s.length))), h) := by
  rw [u_is_edit]
  have e : decide ((a : Int) + (g : Int) ≤ (s.length : Int)) = decide (a + g ≤ s.length) := by
    rw [decide_eq_decide]; omega
  simp [runF, startE, evSs, evS, evE, evL, evT, evI, evD, asgT, rdVar, peek, part, sliceP, binP, binA, cmpP, truP, bltE, blt1, blt2, lenP, mkR, mkL, mkD, retn, pvs, SV.pv, wipeE, walkOf, itemsP, notD, idxP, isKey, keyEq, dlook, dhas, dput, dictEq, okDict, mthE, mthC, mthP, mthT, argsM, isLst, changes, isiTy, smallR, finL, finD, tupP, listP, dicP, onL, inP, isP, isNon, eqP, okD, plainD, plainDs, dep, deps, eqv, eqvs, beqI, beqS, atI_0, atI_1, atI_2, f_is_edit, f_is_tuple_of, f_is_from, f_is_number, u_is_tuple_of, u_is_from, u_is_number, eP, e]
theorem edited_ok (n : Nat) (s m : List Nat) (a g : Nat) (h : AH) (hs : s.length ≤ 1000) (hm : m.length ≤ 1000) : callN prog (n + 1) 4 [.v (.str s), .v (eP a g m)] h = some (.v (.str (ed s a g m)), h) := by
  rw [u_edited]
  have h3 : min a s.length + m.length ≤ SZ := by show _ ≤ 16777216; omega
  have h4 : min a s.length + m.length + (s.length - (a + g)) ≤ SZ := by show _ ≤ 16777216; omega
  simp [runF, startE, evSs, evS, evE, evL, evT, evI, evD, asgT, rdVar, peek, part, sliceP, binP, binA, cmpP, truP, bltE, blt1, blt2, lenP, mkR, mkL, mkD, retn, pvs, SV.pv, wipeE, walkOf, itemsP, notD, idxP, isKey, keyEq, dlook, dhas, dput, dictEq, okDict, mthE, mthC, mthP, mthT, argsM, isLst, changes, isiTy, smallR, finL, finD, tupP, listP, dicP, onL, inP, isP, isNon, eqP, okD, plainD, plainDs, dep, deps, eqv, eqvs, beqI, beqS, atI_0, atI_1, atI_2, f_edited, eP, cut_to, cut_add, h3, h4, ed, List.append_assoc]
theorem set_ok (n : Nat) (s m : List Nat) (a g : Nat) (h : AH) (hs : s.length ≤ 1000) (hm : m.length ≤ 1000) : callN prog (n + 1) 21 [.v (.str s), .v (eP a g m)] h = some (.v (.str (ed s a g m)), h) := by
  rw [u__law_set]
  have h3 : min a s.length + m.length ≤ SZ := by show _ ≤ 16777216; omega
  have h4 : min a s.length + m.length + (s.length - (a + g)) ≤ SZ := by show _ ≤ 16777216; omega
  simp [runF, startE, evSs, evS, evE, evL, evT, evI, evD, asgT, rdVar, peek, part, sliceP, binP, binA, cmpP, truP, bltE, blt1, blt2, lenP, mkR, mkL, mkD, retn, pvs, SV.pv, wipeE, walkOf, itemsP, notD, idxP, isKey, keyEq, dlook, dhas, dput, dictEq, okDict, mthE, mthC, mthP, mthT, argsM, isLst, changes, isiTy, smallR, finL, finD, tupP, listP, dicP, onL, inP, isP, isNon, eqP, okD, plainD, plainDs, dep, deps, eqv, eqvs, beqI, beqS, atI_0, atI_1, atI_2, f__law_set, eP, cut_to, cut_add, h3, h4, ed, List.append_assoc]
theorem turned_ok (n : Nat) (s m : List Nat) (a g : Nat) (h : AH) : callN prog (n + 1) 13 [.v (.str s), .v (eP a g m)] h = some (.v (eP a m.length ((s.drop a).take g)), h) := by
  rw [u_turned_edit]
  simp [runF, startE, evSs, evS, evE, evL, evT, evI, evD, asgT, rdVar, peek, part, sliceP, binP, binA, cmpP, truP, bltE, blt1, blt2, lenP, mkR, mkL, mkD, retn, pvs, SV.pv, wipeE, walkOf, itemsP, notD, idxP, isKey, keyEq, dlook, dhas, dput, dictEq, okDict, mthE, mthC, mthP, mthT, argsM, isLst, changes, isiTy, smallR, finL, finD, tupP, listP, dicP, onL, inP, isP, isNon, eqP, okD, plainD, plainDs, dep, deps, eqv, eqvs, beqI, beqS, atI_0, atI_1, atI_2, f_turned_edit, eP, cut_part, SZ]
theorem noted_ok (n : Nat) (s : List Nat) (kvs : List (PV × PV)) (k : List Nat) (f l : Nat) (h : AH) (hk : dlook kvs (.str k) = some (.tup [.int f, .int l])) : callN prog (n + 1) 10 [.v (.str s), .v (.dict kvs), .v (.str k)] h = some (.v (.str ((s.drop f).take (l - f))), h) := by
  rw [u_noted]
  have hk' : dlook kvs (.str k) = some (.tup [.int f, .int l]) := hk
  simp only [runF, f_noted, startE]
  simp [evSs, evS, evE, evL, asgT, rdVar, peek, part, sliceP, retn, idxP, isKey, hk', cut_mid]
def pl (p a g : Nat) (m : List Nat) (fr : Bool) : Nat := if p ≤ a then p else if a + g ≤ p then p + m.length - g else if fr then a + m.length else a
theorem place_ok (n : Nat) (p a g : Nat) (m : List Nat) (fr : Bool) (h : AH) : callN prog (n + 1) 5 [.v (.int p), .v (eP a g m), .v (.bl fr)] h = some (.v (.int ((pl p a g m fr : Nat) : Int)), h) := by
  rw [u_carried_place]
  unfold pl
  by_cases h1 : p ≤ a
  · have h1' : (p : Int) ≤ (a : Int) := by omega
    simp [runF, startE, evSs, evS, evE, evL, evT, evI, evD, asgT, rdVar, peek, part, sliceP, binP, binA, cmpP, truP, bltE, blt1, blt2, lenP, mkR, mkL, mkD, retn, pvs, SV.pv, wipeE, walkOf, itemsP, notD, idxP, isKey, keyEq, dlook, dhas, dput, dictEq, okDict, mthE, mthC, mthP, mthT, argsM, isLst, changes, isiTy, smallR, finL, finD, tupP, listP, dicP, onL, inP, isP, isNon, eqP, okD, plainD, plainDs, dep, deps, eqv, eqvs, beqI, beqS, atI_0, atI_1, atI_2, f_carried_place, eP, h1]
  · have h1' : ¬ (p : Int) ≤ (a : Int) := by omega
    by_cases h2 : a + g ≤ p
    · have h2' : (a : Int) + (g : Int) ≤ (p : Int) := by omega
      have h3 : (p : Int) + (m.length : Int) - (g : Int) = ((p + m.length - g : Nat) : Int) := by omega
      simp [runF, startE, evSs, evS, evE, evL, evT, evI, evD, asgT, rdVar, peek, part, sliceP, binP, binA, cmpP, truP, bltE, blt1, blt2, lenP, mkR, mkL, mkD, retn, pvs, SV.pv, wipeE, walkOf, itemsP, notD, idxP, isKey, keyEq, dlook, dhas, dput, dictEq, okDict, mthE, mthC, mthP, mthT, argsM, isLst, changes, isiTy, smallR, finL, finD, tupP, listP, dicP, onL, inP, isP, isNon, eqP, okD, plainD, plainDs, dep, deps, eqv, eqvs, beqI, beqS, atI_0, atI_1, atI_2, f_carried_place, eP, h1, h2, h2', h3]
    · have h2' : ¬ (a : Int) + (g : Int) ≤ (p : Int) := by omega
      cases fr <;> simp [runF, startE, evSs, evS, evE, evL, evT, evI, evD, asgT, rdVar, peek, part, sliceP, binP, binA, cmpP, truP, bltE, blt1, blt2, lenP, mkR, mkL, mkD, retn, pvs, SV.pv, wipeE, walkOf, itemsP, notD, idxP, isKey, keyEq, dlook, dhas, dput, dictEq, okDict, mthE, mthC, mthP, mthT, argsM, isLst, changes, isiTy, smallR, finL, finD, tupP, listP, dicP, onL, inP, isP, isNon, eqP, okD, plainD, plainDs, dep, deps, eqv, eqvs, beqI, beqS, atI_0, atI_1, atI_2, f_carried_place, eP, h1, h2, h2']
def cnB (f l a g : Nat) (m : List Nat) : Nat := if f = a ∧ a < l then a + m.length else pl f a g m true
def cn (f l a g : Nat) (m : List Nat) : Nat × Nat := (min (cnB f l a g m) (pl l a g m false), pl l a g m false)
abbrev nP (p : Nat × Nat) : PV := .tup [.int p.1, .int p.2]
theorem note_ok (n : Nat) (f l a g : Nat) (m : List Nat) (h : AH) : callN prog (n + 2) 6 [.v (.tup [.int f, .int l]), .v (eP a g m)] h = some (.v (nP (cn f l a g m)), h) := by
  rw [u_carried_note]
  have mi : ∀ x y : Nat, (if y < x then (y : Int) else (x : Int)) = ((min x y : Nat) : Int) := fun x y => by
    by_cases hxy : y < x
    · rw [if_pos hxy, Nat.min_eq_right (by omega)]
    · rw [if_neg hxy, Nat.min_eq_left (by omega)]
  by_cases h1 : f = a
  · by_cases h2 : a < l
    · have mi1 := mi (a + m.length) (pl l a g m false)
      rw [Int.natCast_add] at mi1
      have e : ∀ x y z : Nat, ((x : Int) < (y : Int) + (z : Int)) = (x < y + z) := fun x y z => by rw [eq_iff_iff]; omega
      subst h1
      simp [runF, startE, evSs, evS, evE, evL, evT, evI, evD, asgT, rdVar, peek, part, sliceP, binP, binA, cmpP, truP, bltE, blt1, blt2, lenP, mkR, mkL, mkD, retn, pvs, SV.pv, wipeE, walkOf, itemsP, notD, idxP, isKey, keyEq, dlook, dhas, dput, dictEq, okDict, mthE, mthC, mthP, mthT, argsM, isLst, changes, isiTy, smallR, finL, finD, tupP, listP, dicP, onL, inP, isP, isNon, eqP, okD, plainD, plainDs, dep, deps, eqv, eqvs, beqI, beqS, atI_0, atI_1, atI_2, f_carried_note, place_ok, SZ, h2, cn, cnB, nP]
      simp only [e]
      exact mi1
    · subst h1
      simp [runF, startE, evSs, evS, evE, evL, evT, evI, evD, asgT, rdVar, peek, part, sliceP, binP, binA, cmpP, truP, bltE, blt1, blt2, lenP, mkR, mkL, mkD, retn, pvs, SV.pv, wipeE, walkOf, itemsP, notD, idxP, isKey, keyEq, dlook, dhas, dput, dictEq, okDict, mthE, mthC, mthP, mthT, argsM, isLst, changes, isiTy, smallR, finL, finD, tupP, listP, dicP, onL, inP, isP, isNon, eqP, okD, plainD, plainDs, dep, deps, eqv, eqvs, beqI, beqS, atI_0, atI_1, atI_2, f_carried_note, place_ok, SZ, h2, cn, cnB, nP]
      exact mi _ _
  · have h1' : ¬ (f : Int) = (a : Int) := by omega
    simp [runF, startE, evSs, evS, evE, evL, evT, evI, evD, asgT, rdVar, peek, part, sliceP, binP, binA, cmpP, truP, bltE, blt1, blt2, lenP, mkR, mkL, mkD, retn, pvs, SV.pv, wipeE, walkOf, itemsP, notD, idxP, isKey, keyEq, dlook, dhas, dput, dictEq, okDict, mthE, mthC, mthP, mthT, argsM, isLst, changes, isiTy, smallR, finL, finD, tupP, listP, dicP, onL, inP, isP, isNon, eqP, okD, plainD, plainDs, dep, deps, eqv, eqvs, beqI, beqS, atI_0, atI_1, atI_2, f_carried_note, place_ok, SZ, h1, h1', cn, cnB, nP]
    exact mi _ _
end Ev

set_option Elab.async false
set_option linter.all false
set_option maxRecDepth 100000
set_option maxHeartbeats 1000000
namespace Ev
theorem carried1 (n : Nat) (k : List Nat) (f l a g : Nat) (m : List Nat) (h : AH) : callN prog (n + 3) 7 [.v (.dict [(.str k, .tup [.int f, .int l])]), .v (eP a g m)] h = some (.v (.dict [(.str k, nP (cn f l a g m))]), h) := by
  rw [u_carried]
  simp [runF, startE, evSs, evS, evE, evL, evT, evI, evD, asgT, rdVar, peek, part, sliceP, binP, binA, cmpP, truP, bltE, blt1, blt2, lenP, mkR, mkL, mkD, retn, pvs, SV.pv, wipeE, walkOf, itemsP, notD, idxP, isKey, keyEq, dlook, dhas, dput, dictEq, okDict, mthE, mthC, mthP, mthT, argsM, isLst, changes, isiTy, smallR, finL, finD, tupP, listP, dicP, onL, inP, isP, isNon, eqP, okD, plainD, plainDs, dep, deps, eqv, eqvs, beqI, beqS, atI_0, atI_1, atI_2, f_carried, loopC, at_end, set_end, guardOk, sortP, strsOf, isort, insR, note_ok, pairsOf, mergeP, SZ]
theorem carried2 (n : Nat) (k1 k2 : List Nat) (h12 : k1 < k2) (f l f2 l2 a g : Nat) (m : List Nat) (h : AH) : callN prog (n + 3) 7 [.v (.dict [(.str k1, .tup [.int f, .int l]), (.str k2, .tup [.int f2, .int l2])]), .v (eP a g m)] h = some (.v (.dict [(.str k1, nP (cn f l a g m)), (.str k2, nP (cn f2 l2 a g m))]), h) := by
  rw [u_carried]
  have h21 : ¬ k2 < k1 := List.lt_asymm h12
  have ne : ¬ k1 = k2 := by rintro rfl; exact h21 h12
  have ne' : ¬ k2 = k1 := fun e => ne e.symm
  simp [runF, startE, evSs, evS, evE, evL, evT, evI, evD, asgT, rdVar, peek, part, sliceP, binP, binA, cmpP, truP, bltE, blt1, blt2, lenP, mkR, mkL, mkD, retn, pvs, SV.pv, wipeE, walkOf, itemsP, notD, idxP, isKey, keyEq, dlook, dhas, dput, dictEq, okDict, mthE, mthC, mthP, mthT, argsM, isLst, changes, isiTy, smallR, finL, finD, tupP, listP, dicP, onL, inP, isP, isNon, eqP, okD, plainD, plainDs, dep, deps, eqv, eqvs, beqI, beqS, atI_0, atI_1, atI_2, f_carried, loopC, at_end, set_end, guardOk, sortP, strsOf, isort, insR, note_ok, pairsOf, mergeP, SZ, h12, h21, ne, ne']
theorem carried2r (n : Nat) (k1 k2 : List Nat) (h21 : k2 < k1) (f l f2 l2 a g : Nat) (m : List Nat) (h : AH) : callN prog (n + 3) 7 [.v (.dict [(.str k1, .tup [.int f, .int l]), (.str k2, .tup [.int f2, .int l2])]), .v (eP a g m)] h = some (.v (.dict [(.str k2, nP (cn f2 l2 a g m)), (.str k1, nP (cn f l a g m))]), h) := by
  rw [u_carried]
  have h12 : ¬ k1 < k2 := List.lt_asymm h21
  have ne : ¬ k1 = k2 := by rintro rfl; exact h12 h21
  have ne' : ¬ k2 = k1 := fun e => ne e.symm
  simp [runF, startE, evSs, evS, evE, evL, evT, evI, evD, asgT, rdVar, peek, part, sliceP, binP, binA, cmpP, truP, bltE, blt1, blt2, lenP, mkR, mkL, mkD, retn, pvs, SV.pv, wipeE, walkOf, itemsP, notD, idxP, isKey, keyEq, dlook, dhas, dput, dictEq, okDict, mthE, mthC, mthP, mthT, argsM, isLst, changes, isiTy, smallR, finL, finD, tupP, listP, dicP, onL, inP, isP, isNon, eqP, okD, plainD, plainDs, dep, deps, eqv, eqvs, beqI, beqS, atI_0, atI_1, atI_2, f_carried, loopC, at_end, set_end, guardOk, sortP, strsOf, isort, insR, note_ok, pairsOf, mergeP, SZ, h12, h21, ne, ne']
theorem carried0 (n : Nat) (a g : Nat) (m : List Nat) (h : AH) : callN prog (n + 3) 7 [.v (.dict []), .v (eP a g m)] h = some (.v (.dict []), h) := by
  rw [u_carried]
  simp [runF, startE, evSs, evS, evE, evL, evT, evI, evD, asgT, rdVar, peek, part, sliceP, binP, binA, cmpP, truP, bltE, blt1, blt2, lenP, mkR, mkL, mkD, retn, pvs, SV.pv, wipeE, walkOf, itemsP, notD, idxP, isKey, keyEq, dlook, dhas, dput, dictEq, okDict, mthE, mthC, mthP, mthT, argsM, isLst, changes, isiTy, smallR, finL, finD, tupP, listP, dicP, onL, inP, isP, isNon, eqP, okD, plainD, plainDs, dep, deps, eqv, eqvs, beqI, beqS, atI_0, atI_1, atI_2, f_carried, loopC, at_end, set_end, guardOk, sortP, strsOf, isort, insR, note_ok, pairsOf, mergeP, SZ]
end Ev

set_option Elab.async false
set_option linter.all false
set_option maxRecDepth 100000
set_option maxHeartbeats 1000000
namespace Ev
theorem wh_cnt {T : En → AH → Option (Bool × AH)} {B : En → AH → Option Fl} (E : Nat → En) (K : Nat) (h : AH) (hT : ∀ i, i < K → T (E i) h = some (true, h)) (hB : ∀ i, i < K → B (E i) h = some (.nx (E (i + 1)) h)) (hF : T (E K) h = some (false, h)) :
    ∀ (n i : Nat), i ≤ K → K - i < n → whileF T B n (E i) h = some (.nx (E K) h)
  | 0, i, _, hn => by omega
  | n + 1, i, hi, hn => by
    by_cases hk : i = K
    · subst hk
      simp only [whileF, hF]
    · have hlt : i < K := by omega
      simp only [whileF, hT i hlt, hB i hlt]
      exact wh_cnt E K h hT hB hF n (i + 1) (by omega) (by omega)
def lcp : List Nat → List Nat → Nat
  | x :: xs, y :: ys => if x = y then lcp xs ys + 1 else 0
  | _, _ => 0
theorem lcp_le : ∀ (xs ys : List Nat), lcp xs ys ≤ xs.length ∧ lcp xs ys ≤ ys.length
  | [], ys => by simp [lcp]
  | x :: xs, [] => by simp [lcp]
  | x :: xs, y :: ys => by
    have := lcp_le xs ys
    unfold lcp
    split <;> simp <;> omega
theorem lcp_get : ∀ (xs ys : List Nat) (i : Nat), i < lcp xs ys → ∃ x, xs[i]? = some x ∧ ys[i]? = some x
  | [], ys, i, h => by simp [lcp] at h
  | x :: xs, [], i, h => by simp [lcp] at h
  | x :: xs, y :: ys, i, h => by
    unfold lcp at h
    split at h
    · rename_i e
      subst e
      cases i with
      | zero => exact ⟨x, rfl, rfl⟩
      | succ i =>
        obtain ⟨z, h1, h2⟩ := lcp_get xs ys i (by omega)
        exact ⟨z, by simpa using h1, by simpa using h2⟩
    · omega
theorem lcp_end : ∀ (xs ys : List Nat), lcp xs ys < xs.length → lcp xs ys < ys.length → ∃ x y, xs[lcp xs ys]? = some x ∧ ys[lcp xs ys]? = some y ∧ x ≠ y
  | [], ys, h, _ => by simp [lcp] at h
  | x :: xs, [], _, h => by simp [lcp] at h
  | x :: xs, y :: ys, h, h2 => by
    unfold lcp at h h2 ⊢
    split at h
    · rename_i e
      rw [if_pos e] at h2 ⊢
      obtain ⟨a, b, h3, h4, h5⟩ := lcp_end xs ys (by simpa using h) (by simpa using h2)
      exact ⟨a, b, by simpa using h3, by simpa using h4, h5⟩
    · rename_i e
      rw [if_neg e]
      exact ⟨x, y, rfl, rfl, e⟩
end Ev

set_option Elab.async false
set_option linter.all false
set_option maxRecDepth 100000
set_option maxHeartbeats 1000000
namespace Ev
theorem min_if (x y : Nat) : (if y < x then (y : Int) else (x : Int)) = ((min x y : Nat) : Int) := by
  by_cases hxy : y < x
  · rw [if_pos hxy, Nat.min_eq_right (by omega)]
  · rw [if_neg hxy, Nat.min_eq_left (by omega)]
theorem beqN (a b : Nat) : (a == b) = decide (a = b) := by
  by_cases h : a = b
  · subst h; simp
  · simp [h]
def sfx (xs ys : List Nat) : Nat := min (lcp xs.reverse ys.reverse) (min xs.length ys.length - lcp xs ys)
theorem rev_get (xs : List Nat) (i : Nat) (h : i < xs.length) : xs.reverse[i]? = xs[xs.length - i - 1]? := by
  rw [List.getElem?_reverse h]
  congr 1
  omega
section
variable {C : Calls}
def c1 : Ts := .boo true (.of (.cmp .lt (.var 2 false) (.blt false .min2 (.cons (.blt false .len (.cons (.var 0 false) .nil)) (.cons (.blt false .len (.cons (.var 1 false) .nil)) .nil))))) (.of (.cmp .eq (.idx (.var 0 false) (.var 2 false)) (.idx (.var 1 false) (.var 2 false))))
def c2 : Ts := .boo true (.of (.cmp .lt (.var 3 false) (.bin .sub (.blt false .min2 (.cons (.blt false .len (.cons (.var 0 false) .nil)) (.cons (.blt false .len (.cons (.var 1 false) .nil)) .nil))) (.var 2 false)))) (.of (.cmp .eq (.idx (.var 0 false) (.bin .sub (.bin .sub (.blt false .len (.cons (.var 0 false) .nil)) (.var 3 false)) (.lit (.int 1)))) (.idx (.var 1 false) (.bin .sub (.bin .sub (.blt false .len (.cons (.var 1 false) .nil)) (.var 3 false)) (.lit (.int 1))))))
def E1 (o w : List Nat) (i : Nat) : En := [some (.v (.str o)), some (.v (.str w)), some (.v (.int i)), none]
def E2 (o w : List Nat) (a i : Nat) : En := [some (.v (.str o)), some (.v (.str w)), some (.v (.int a)), some (.v (.int i))]
theorem c1_no (o w : List Nat) (i : Nat) (hi : ¬ i < min o.length w.length) (h : AH) : evT C c1 (E1 o w i) h = some (false, h) := by
  simp [runF, startE, evSs, evS, evE, evL, evT, evI, evD, asgT, rdVar, peek, part, sliceP, binP, binA, cmpP, truP, bltE, blt1, blt2, lenP, mkR, mkL, mkD, retn, pvs, SV.pv, wipeE, walkOf, itemsP, notD, idxP, isKey, keyEq, dlook, dhas, dput, dictEq, okDict, mthE, mthC, mthP, mthT, argsM, isLst, changes, isiTy, smallR, finL, finD, tupP, listP, dicP, onL, inP, isP, isNon, eqP, okD, plainD, plainDs, dep, deps, eqv, eqvs, beqI, beqS, atI_0, atI_1, atI_2, c1, E1, min_if, hi]
theorem c1_at (o w : List Nat) (i x y : Nat) (hi : i < min o.length w.length) (h1 : o[i]? = some x) (h2 : w[i]? = some y) (h : AH) : evT C c1 (E1 o w i) h = some (decide (x = y), h) := by
  have g1 := atI_nat o i x h1
  have g2 := atI_nat w i y h2
  have hi' : i < o.length ∧ i < w.length := by omega
  simp [runF, startE, evSs, evS, evE, evL, evT, evI, evD, asgT, rdVar, peek, part, sliceP, binP, binA, cmpP, truP, bltE, blt1, blt2, lenP, mkR, mkL, mkD, retn, pvs, SV.pv, wipeE, walkOf, itemsP, notD, idxP, isKey, keyEq, dlook, dhas, dput, dictEq, okDict, mthE, mthC, mthP, mthT, argsM, isLst, changes, isiTy, smallR, finL, finD, tupP, listP, dicP, onL, inP, isP, isNon, eqP, okD, plainD, plainDs, dep, deps, eqv, eqvs, beqI, beqS, atI_0, atI_1, atI_2, c1, E1, min_if, hi, g1, g2, beqN]
theorem c2_no (o w : List Nat) (a i : Nat) (ha : a ≤ min o.length w.length) (hi : ¬ i < min o.length w.length - a) (h : AH) : evT C c2 (E2 o w a i) h = some (false, h) := by
  have e : ¬ (i : Int) < ((min o.length w.length : Nat) : Int) - (a : Int) := by omega
  have t : evT C (.of (.cmp .lt (.var 3 false) (.bin .sub (.blt false .min2 (.cons (.blt false .len (.cons (.var 0 false) .nil)) (.cons (.blt false .len (.cons (.var 1 false) .nil)) .nil))) (.var 2 false)))) (E2 o w a i) h = some (false, h) := by
    simp only [evT, evE, evL, E2, List.getElem?_cons_succ, List.getElem?_cons_zero, rdVar, bltE, peek, blt1, lenP, mkR, blt2, binP, cmpP, truP, Option.map_some, if_false, Bool.false_eq_true]
    rw [show (if (w.length : Int) < (o.length : Int) then (w.length : Int) else (o.length : Int)) = ((min o.length w.length : Nat) : Int) by
      rw [← min_if]; simp]
    simp [e]
  simp only [c2, evT] at *
  rw [t]
  rfl
theorem c2_at (o w : List Nat) (a i x y : Nat) (hi : i < min o.length w.length - a) (h1 : o[o.length - i - 1]? = some x) (h2 : w[w.length - i - 1]? = some y) (h : AH) : evT C c2 (E2 o w a i) h = some (decide (x = y), h) := by
  have g1 := atI_nat o _ x h1
  have g2 := atI_nat w _ y h2
  have e1 : ((o.length - i - 1 : Nat) : Int) = (o.length : Int) - (i : Int) - 1 := by omega
  have e2 : ((w.length - i - 1 : Nat) : Int) = (w.length : Int) - (i : Int) - 1 := by omega
  rw [e1] at g1
  rw [e2] at g2
  have e : (i : Int) < ((min o.length w.length : Nat) : Int) - (a : Int) := by omega
  have t : evT C (.of (.cmp .lt (.var 3 false) (.bin .sub (.blt false .min2 (.cons (.blt false .len (.cons (.var 0 false) .nil)) (.cons (.blt false .len (.cons (.var 1 false) .nil)) .nil))) (.var 2 false)))) (E2 o w a i) h = some (true, h) := by
    simp only [evT, evE, evL, E2, List.getElem?_cons_succ, List.getElem?_cons_zero, rdVar, bltE, peek, blt1, lenP, mkR, blt2, binP, cmpP, truP, Option.map_some, if_false, Bool.false_eq_true]
    rw [show (if (w.length : Int) < (o.length : Int) then (w.length : Int) else (o.length : Int)) = ((min o.length w.length : Nat) : Int) by
      rw [← min_if]; simp]
    simp [e]
  have t2 : evT C (.of (.cmp .eq (.idx (.var 0 false) (.bin .sub (.bin .sub (.blt false .len (.cons (.var 0 false) .nil)) (.var 3 false)) (.lit (.int 1)))) (.idx (.var 1 false) (.bin .sub (.bin .sub (.blt false .len (.cons (.var 1 false) .nil)) (.var 3 false)) (.lit (.int 1)))))) (E2 o w a i) h = some (decide (x = y), h) := by
    simp [runF, startE, evSs, evS, evE, evL, evT, evI, evD, asgT, rdVar, peek, part, sliceP, binP, binA, cmpP, truP, bltE, blt1, blt2, lenP, mkR, mkL, mkD, retn, pvs, SV.pv, wipeE, walkOf, itemsP, notD, idxP, isKey, keyEq, dlook, dhas, dput, dictEq, okDict, mthE, mthC, mthP, mthT, argsM, isLst, changes, isiTy, smallR, finL, finD, tupP, listP, dicP, onL, inP, isP, isNon, eqP, okD, plainD, plainDs, dep, deps, eqv, eqvs, beqI, beqS, atI_0, atI_1, atI_2, E2, g1, g2, beqN]
  simp only [c2, evT] at *
  rw [t]
  exact t2
theorem eb_run (o w : List Nat) (h : AH) (hne : o ≠ w) (hl : o.length + w.length ≤ 1000) : runF C f_edit_between [.v (.str o), .v (.str w)] h = some (.v (eP (lcp o w) (o.length - lcp o w - sfx o w) ((w.drop (lcp o w)).take (w.length - sfx o w - lcp o w))), h) := by
  have l1 := lcp_le o w
  have l2 := lcp_le o.reverse w.reverse
  rw [List.length_reverse, List.length_reverse] at l2
  have s1 : sfx o w ≤ min o.length w.length - lcp o w := Nat.min_le_right _ _
  have s2 : sfx o w ≤ lcp o.reverse w.reverse := Nat.min_le_left _ _
  have q0 : evS C (.ifs (.of (.cmp .eq (.var 0 false) (.var 1 false))) (.cons (.ret (.lit .non)) .nil) .nil) [some (.v (.str o)), some (.v (.str w)), none, none] h = some (.nx [some (.v (.str o)), some (.v (.str w)), none, none] h) := by
    simp [runF, startE, evSs, evS, evE, evL, evT, evI, evD, asgT, rdVar, peek, part, sliceP, binP, binA, cmpP, truP, bltE, blt1, blt2, lenP, mkR, mkL, mkD, retn, pvs, SV.pv, wipeE, walkOf, itemsP, notD, idxP, isKey, keyEq, dlook, dhas, dput, dictEq, okDict, mthE, mthC, mthP, mthT, argsM, isLst, changes, isiTy, smallR, finL, finD, tupP, listP, dicP, onL, inP, isP, isNon, eqP, okD, plainD, plainDs, dep, deps, eqv, eqvs, beqI, beqS, atI_0, atI_1, atI_2, hne]
  have q1 : evS C (.asg (.nm 2) (.lit (.int 0))) [some (.v (.str o)), some (.v (.str w)), none, none] h = some (.nx (E1 o w 0) h) := by
    simp [runF, startE, evSs, evS, evE, evL, evT, evI, evD, asgT, rdVar, peek, part, sliceP, binP, binA, cmpP, truP, bltE, blt1, blt2, lenP, mkR, mkL, mkD, retn, pvs, SV.pv, wipeE, walkOf, itemsP, notD, idxP, isKey, keyEq, dlook, dhas, dput, dictEq, okDict, mthE, mthC, mthP, mthT, argsM, isLst, changes, isiTy, smallR, finL, finD, tupP, listP, dicP, onL, inP, isP, isNon, eqP, okD, plainD, plainDs, dep, deps, eqv, eqvs, beqI, beqS, atI_0, atI_1, atI_2, E1]
  have q2 : evS C (.whil c1 L_edit_between_1) (E1 o w 0) h = some (.nx (E1 o w (lcp o w)) h) := by
    simp only [evS]
    refine wh_cnt (E1 o w) (lcp o w) h (fun i hi => ?_) (fun i hi => ?_) ?_ FUEL 0 (Nat.zero_le _) (by show _ < 100000; omega)
    · obtain ⟨x, h1, h2⟩ := lcp_get o w i hi
      rw [c1_at o w i x x (by omega) h1 h2]
      simp
    · simp [L_edit_between_1, runF, startE, evSs, evS, evE, evL, evT, evI, evD, asgT, rdVar, peek, part, sliceP, binP, binA, cmpP, truP, bltE, blt1, blt2, lenP, mkR, mkL, mkD, retn, pvs, SV.pv, wipeE, walkOf, itemsP, notD, idxP, isKey, keyEq, dlook, dhas, dput, dictEq, okDict, mthE, mthC, mthP, mthT, argsM, isLst, changes, isiTy, smallR, finL, finD, tupP, listP, dicP, onL, inP, isP, isNon, eqP, okD, plainD, plainDs, dep, deps, eqv, eqvs, beqI, beqS, atI_0, atI_1, atI_2, E1]
    · by_cases hc : lcp o w < min o.length w.length
      · obtain ⟨x, y, h1, h2, h3⟩ := lcp_end o w (by omega) (by omega)
        rw [c1_at o w _ x y hc h1 h2, decide_eq_false h3]
      · exact c1_no o w _ hc h
  have q3 : evS C (.asg (.nm 3) (.lit (.int 0))) (E1 o w (lcp o w)) h = some (.nx (E2 o w (lcp o w) 0) h) := by
    simp [runF, startE, evSs, evS, evE, evL, evT, evI, evD, asgT, rdVar, peek, part, sliceP, binP, binA, cmpP, truP, bltE, blt1, blt2, lenP, mkR, mkL, mkD, retn, pvs, SV.pv, wipeE, walkOf, itemsP, notD, idxP, isKey, keyEq, dlook, dhas, dput, dictEq, okDict, mthE, mthC, mthP, mthT, argsM, isLst, changes, isiTy, smallR, finL, finD, tupP, listP, dicP, onL, inP, isP, isNon, eqP, okD, plainD, plainDs, dep, deps, eqv, eqvs, beqI, beqS, atI_0, atI_1, atI_2, E1, E2]
  have q4 : evS C (.whil c2 L_edit_between_0) (E2 o w (lcp o w) 0) h = some (.nx (E2 o w (lcp o w) (sfx o w)) h) := by
    simp only [evS]
    refine wh_cnt (E2 o w (lcp o w)) (sfx o w) h (fun i hi => ?_) (fun i hi => ?_) ?_ FUEL 0 (Nat.zero_le _) (by show _ < 100000; omega)
    · obtain ⟨x, h1, h2⟩ := lcp_get o.reverse w.reverse i (by omega)
      rw [rev_get o i (by omega)] at h1
      rw [rev_get w i (by omega)] at h2
      rw [c2_at o w _ i x x (by omega) h1 h2]
      simp
    · simp [L_edit_between_0, runF, startE, evSs, evS, evE, evL, evT, evI, evD, asgT, rdVar, peek, part, sliceP, binP, binA, cmpP, truP, bltE, blt1, blt2, lenP, mkR, mkL, mkD, retn, pvs, SV.pv, wipeE, walkOf, itemsP, notD, idxP, isKey, keyEq, dlook, dhas, dput, dictEq, okDict, mthE, mthC, mthP, mthT, argsM, isLst, changes, isiTy, smallR, finL, finD, tupP, listP, dicP, onL, inP, isP, isNon, eqP, okD, plainD, plainDs, dep, deps, eqv, eqvs, beqI, beqS, atI_0, atI_1, atI_2, E2]
    · by_cases hc : sfx o w < min o.length w.length - lcp o w
      · have e : sfx o w = lcp o.reverse w.reverse := by unfold sfx at *; omega
        obtain ⟨x, y, h1, h2, h3⟩ := lcp_end o.reverse w.reverse (by rw [List.length_reverse]; omega) (by rw [List.length_reverse]; omega)
        rw [← e] at h1 h2
        rw [rev_get o _ (by omega)] at h1
        rw [rev_get w _ (by omega)] at h2
        rw [c2_at o w _ _ x y hc h1 h2, decide_eq_false h3]
      · exact c2_no o w _ _ (by omega) hc h
  have e1 : (o.length : Int) - ((lcp o w : Nat) : Int) - ((sfx o w : Nat) : Int) = ((o.length - lcp o w - sfx o w : Nat) : Int) := by omega
  have e2 : (w.length : Int) - ((sfx o w : Nat) : Int) = ((w.length - sfx o w : Nat) : Int) := by omega
  have q5 : evS C (.ret (.tup (.cons (.var 2 false) (.cons (.bin .sub (.bin .sub (.blt false .len (.cons (.var 0 false) .nil)) (.var 2 false)) (.var 3 false)) (.cons (.slc (.var 1 false) (.cons (.var 2 false) .nil) (.cons (.bin .sub (.blt false .len (.cons (.var 1 false) .nil)) (.var 3 false)) .nil)) .nil))))) (E2 o w (lcp o w) (sfx o w)) h = some (.rt (.v (eP (lcp o w) (o.length - lcp o w - sfx o w) ((w.drop (lcp o w)).take (w.length - sfx o w - lcp o w)))) h) := by
    simp only [evS, evE, evL, E2, List.getElem?_cons_succ, List.getElem?_cons_zero, rdVar, bltE, peek, blt1, lenP, mkR, binP, Option.map_some, if_false, Bool.false_eq_true, part, sliceP, e1, e2, cut_mid, pvs]
    simp [SZ]
  have hb : evSs C f_edit_between.body [some (.v (.str o)), some (.v (.str w)), none, none] h = some (.rt (.v (eP (lcp o w) (o.length - lcp o w - sfx o w) ((w.drop (lcp o w)).take (w.length - sfx o w - lcp o w)))) h) := by
    show evSs C (.cons _ (.cons _ (.cons (.whil c1 _) (.cons _ (.cons (.whil c2 _) (.cons _ .nil)))))) _ _ = _
    rw [seq q0, seq q1, seq q2, seq q3, seq q4, seqR q5]
  exact runF_ret rfl hb (by simp [retn])
theorem eb_same (o : List Nat) (h : AH) : runF C f_edit_between [.v (.str o), .v (.str o)] h = some (.v .non, h) := by
  simp [runF, startE, evSs, evS, evE, evL, evT, evI, evD, asgT, rdVar, peek, part, sliceP, binP, binA, cmpP, truP, bltE, blt1, blt2, lenP, mkR, mkL, mkD, retn, pvs, SV.pv, wipeE, walkOf, itemsP, notD, idxP, isKey, keyEq, dlook, dhas, dput, dictEq, okDict, mthE, mthC, mthP, mthT, argsM, isLst, changes, isiTy, smallR, finL, finD, tupP, listP, dicP, onL, inP, isP, isNon, eqP, okD, plainD, plainDs, dep, deps, eqv, eqvs, beqI, beqS, atI_0, atI_1, atI_2, f_edit_between]
end
end Ev

set_option Elab.async false
set_option linter.all false
set_option maxRecDepth 100000
set_option maxHeartbeats 1000000
namespace Ev
def sl (s : List Nat) (f l : Nat) : List Nat := (s.drop f).take (l - f)
def lostB (s : List Nat) (f l a g : Nat) (m : List Nat) : Bool := !(sl s f l).isEmpty && (sl (ed s a g m) (cn f l a g m).1 (cn f l a g m).2).isEmpty
theorem noted_one (n : Nat) (s k : List Nat) (f l : Nat) (h : AH) : callN prog (n + 1) 10 [.v (.str s), .v (.dict [(.str k, .tup [.int f, .int l])]), .v (.str k)] h = some (.v (.str (sl s f l)), h) :=
  noted_ok n s _ k f l h (by simp [dlook, keyEq])
theorem noted_fst (n : Nat) (s k k2 : List Nat) (f l : Nat) (y : PV) (h : AH) : callN prog (n + 1) 10 [.v (.str s), .v (.dict [(.str k, .tup [.int f, .int l]), (.str k2, y)]), .v (.str k)] h = some (.v (.str (sl s f l)), h) :=
  noted_ok n s _ k f l h (by simp [dlook, keyEq])
theorem noted_snd (n : Nat) (s k k2 : List Nat) (f l : Nat) (y : PV) (h : AH) (hk : k2 ≠ k) : callN prog (n + 1) 10 [.v (.str s), .v (.dict [(.str k2, y), (.str k, .tup [.int f, .int l])]), .v (.str k)] h = some (.v (.str (sl s f l)), h) :=
  noted_ok n s _ k f l h (by simp [dlook, keyEq, hk])
theorem lost1 (n : Nat) (s k : List Nat) (f l a g : Nat) (m : List Nat) (h : AH) (hs : s.length ≤ 1000) (hm : m.length ≤ 1000) :
    callN prog (n + 4) 11 [.v (.str s), .v (.dict [(.str k, .tup [.int f, .int l])]), .v (eP a g m)] h = some (.v (.tup (if lostB s f l a g m then [.str k] else [])), h) := by
  rw [u_lost_notes]
  have e1 := edited_ok (n + 2) s m a g
  have e2 := carried1 n k f l a g m
  have e3 := noted_one (n + 2) s k f l
  have e4 := noted_one (n + 2) (ed s a g m) k (cn f l a g m).1 (cn f l a g m).2
  by_cases h1 : (sl s f l).isEmpty = true
  · simp [runF, startE, evSs, evS, evE, evL, evT, evI, evD, asgT, rdVar, peek, part, sliceP, binP, binA, cmpP, truP, bltE, blt1, blt2, lenP, mkR, mkL, mkD, retn, pvs, SV.pv, wipeE, walkOf, itemsP, notD, idxP, isKey, keyEq, dlook, dhas, dput, dictEq, okDict, mthE, mthC, mthP, mthT, argsM, isLst, changes, isiTy, smallR, finL, finD, tupP, listP, dicP, onL, inP, isP, isNon, eqP, okD, plainD, plainDs, dep, deps, eqv, eqvs, beqI, beqS, atI_0, atI_1, atI_2, f_lost_notes, loopC, at_end, set_end, guardOk, sortP, strsOf, isort, insR, SZ, e1, e2, e3, e4, hs, hm, lostB, h1]
  · by_cases h2 : (sl (ed s a g m) (cn f l a g m).1 (cn f l a g m).2).isEmpty = true
    · simp [runF, startE, evSs, evS, evE, evL, evT, evI, evD, asgT, rdVar, peek, part, sliceP, binP, binA, cmpP, truP, bltE, blt1, blt2, lenP, mkR, mkL, mkD, retn, pvs, SV.pv, wipeE, walkOf, itemsP, notD, idxP, isKey, keyEq, dlook, dhas, dput, dictEq, okDict, mthE, mthC, mthP, mthT, argsM, isLst, changes, isiTy, smallR, finL, finD, tupP, listP, dicP, onL, inP, isP, isNon, eqP, okD, plainD, plainDs, dep, deps, eqv, eqvs, beqI, beqS, atI_0, atI_1, atI_2, f_lost_notes, loopC, at_end, set_end, guardOk, sortP, strsOf, isort, insR, SZ, e1, e2, e3, e4, hs, hm, lostB, h1, h2]
    · simp [runF, startE, evSs, evS, evE, evL, evT, evI, evD, asgT, rdVar, peek, part, sliceP, binP, binA, cmpP, truP, bltE, blt1, blt2, lenP, mkR, mkL, mkD, retn, pvs, SV.pv, wipeE, walkOf, itemsP, notD, idxP, isKey, keyEq, dlook, dhas, dput, dictEq, okDict, mthE, mthC, mthP, mthT, argsM, isLst, changes, isiTy, smallR, finL, finD, tupP, listP, dicP, onL, inP, isP, isNon, eqP, okD, plainD, plainDs, dep, deps, eqv, eqvs, beqI, beqS, atI_0, atI_1, atI_2, f_lost_notes, loopC, at_end, set_end, guardOk, sortP, strsOf, isort, insR, SZ, e1, e2, e3, e4, hs, hm, lostB, h1, h2]
theorem lost2r (n : Nat) (s k1 k2 : List Nat) (h21 : k2 < k1) (f l f2 l2 a g : Nat) (m : List Nat) (h : AH) (hs : s.length ≤ 1000) (hm : m.length ≤ 1000) :
    callN prog (n + 4) 11 [.v (.str s), .v (.dict [(.str k1, .tup [.int f, .int l]), (.str k2, .tup [.int f2, .int l2])]), .v (eP a g m)] h =
      some (.v (.tup ((if lostB s f2 l2 a g m then [.str k2] else []) ++ (if lostB s f l a g m then [.str k1] else []))), h) := by
  rw [u_lost_notes]
  have h12 : ¬ k1 < k2 := List.lt_asymm h21
  have ne : ¬ k1 = k2 := by rintro rfl; exact h12 h21
  have ne' : ¬ k2 = k1 := fun e => ne e.symm
  have e1 := edited_ok (n + 2) s m a g
  have e2 := carried2r n k1 k2 h21 f l f2 l2 a g m
  have e3 := noted_fst (n + 2) s k1 k2 f l (.tup [.int f2, .int l2])
  have e4 := noted_snd (n + 2) s k2 k1 f2 l2 (.tup [.int f, .int l])
  have e5 := noted_fst (n + 2) (ed s a g m) k2 k1 (cn f2 l2 a g m).1 (cn f2 l2 a g m).2 (nP (cn f l a g m))
  have e6 := noted_snd (n + 2) (ed s a g m) k1 k2 (cn f l a g m).1 (cn f l a g m).2 (nP (cn f2 l2 a g m))
  have w1 : ∀ b : Bool, (if b then [PV.str k2] else []) = (if b then [PV.str k2] else []) := fun _ => rfl
  by_cases h1 : (sl s f l).isEmpty = true <;> by_cases h2 : (sl (ed s a g m) (cn f l a g m).1 (cn f l a g m).2).isEmpty = true <;> by_cases h3 : (sl s f2 l2).isEmpty = true <;> by_cases h4 : (sl (ed s a g m) (cn f2 l2 a g m).1 (cn f2 l2 a g m).2).isEmpty = true <;>
    simp [runF, startE, evSs, evS, evE, evL, evT, evI, evD, asgT, rdVar, peek, part, sliceP, binP, binA, cmpP, truP, bltE, blt1, blt2, lenP, mkR, mkL, mkD, retn, pvs, SV.pv, wipeE, walkOf, itemsP, notD, idxP, isKey, keyEq, dlook, dhas, dput, dictEq, okDict, mthE, mthC, mthP, mthT, argsM, isLst, changes, isiTy, smallR, finL, finD, tupP, listP, dicP, onL, inP, isP, isNon, eqP, okD, plainD, plainDs, dep, deps, eqv, eqvs, beqI, beqS, atI_0, atI_1, atI_2, f_lost_notes, loopC, at_end, set_end, guardOk, sortP, strsOf, isort, insR, SZ, e1, e2, e3, e4, e5, e6, hs, hm, lostB, h1, h2, h3, h4, h12, h21, ne, ne']
theorem meet_lt (n : Nat) (a g p q : Nat) (m r : List Nat) (hap : a < p) (h : AH) : callN prog (n + 1) 14 [.v (eP a g m), .v (eP p q r)] h = some (.v (.bl (decide (p < a + g))), h) := by
  rw [u_meet_edits]
  have c1 : cut [PV.int a, PV.int g, PV.str m] none (some 2) = [.int a, .int g] := cut_to _ 2
  have c2 : cut [PV.int p, PV.int q, PV.str r] none (some 2) = [.int p, .int q] := cut_to _ 2
  have l1 : ¬ (p : Int) < a := by omega
  have l2 : ¬ (a : Int) = p := by omega
  have l3 : ¬ (p : Int) = a := by omega
  have e : decide ((p : Int) < (a : Int) + (g : Int)) = decide (p < a + g) := by rw [decide_eq_decide]; omega
  simp [runF, startE, evSs, evS, evE, evL, evT, evI, evD, asgT, rdVar, peek, part, sliceP, binP, binA, cmpP, truP, bltE, blt1, blt2, lenP, mkR, mkL, mkD, retn, pvs, SV.pv, wipeE, walkOf, itemsP, notD, idxP, isKey, keyEq, dlook, dhas, dput, dictEq, okDict, mthE, mthC, mthP, mthT, argsM, isLst, changes, isiTy, smallR, finL, finD, tupP, listP, dicP, onL, inP, isP, isNon, eqP, okD, plainD, plainDs, dep, deps, eqv, eqvs, beqI, beqS, atI_0, atI_1, atI_2, f_meet_edits, c1, c2, sortP, sortL, intsOf, strsOf, prsOf, isort, insR, lexI, SZ, l1, l2, l3, e]
theorem meet_gt (n : Nat) (a g p q : Nat) (m r : List Nat) (hap : a < p) (h : AH) : callN prog (n + 1) 14 [.v (eP p q r), .v (eP a g m)] h = some (.v (.bl (decide (p < a + g))), h) := by
  rw [u_meet_edits]
  have c1 : cut [PV.int a, PV.int g, PV.str m] none (some 2) = [.int a, .int g] := cut_to _ 2
  have c2 : cut [PV.int p, PV.int q, PV.str r] none (some 2) = [.int p, .int q] := cut_to _ 2
  have l1 : (a : Int) < p := by omega
  have l2 : ¬ (a : Int) = p := by omega
  have l3 : ¬ (p : Int) = a := by omega
  have e : decide ((p : Int) < (a : Int) + (g : Int)) = decide (p < a + g) := by rw [decide_eq_decide]; omega
  simp [runF, startE, evSs, evS, evE, evL, evT, evI, evD, asgT, rdVar, peek, part, sliceP, binP, binA, cmpP, truP, bltE, blt1, blt2, lenP, mkR, mkL, mkD, retn, pvs, SV.pv, wipeE, walkOf, itemsP, notD, idxP, isKey, keyEq, dlook, dhas, dput, dictEq, okDict, mthE, mthC, mthP, mthT, argsM, isLst, changes, isiTy, smallR, finL, finD, tupP, listP, dicP, onL, inP, isP, isNon, eqP, okD, plainD, plainDs, dep, deps, eqv, eqvs, beqI, beqS, atI_0, atI_1, atI_2, f_meet_edits, c1, c2, sortP, sortL, intsOf, strsOf, prsOf, isort, insR, lexI, SZ, l1, l2, l3, e]
theorem meet_eq (n : Nat) (a g q : Nat) (m r : List Nat) (h : AH) : callN prog (n + 1) 14 [.v (eP a g m), .v (eP a q r)] h = some (.v (.bl true), h) := by
  rw [u_meet_edits]
  have c1 : cut [PV.int a, PV.int g, PV.str m] none (some 2) = [.int a, .int g] := cut_to _ 2
  have c2 : cut [PV.int a, PV.int q, PV.str r] none (some 2) = [.int a, .int q] := cut_to _ 2
  by_cases l1 : (q : Int) < g
  · simp [runF, startE, evSs, evS, evE, evL, evT, evI, evD, asgT, rdVar, peek, part, sliceP, binP, binA, cmpP, truP, bltE, blt1, blt2, lenP, mkR, mkL, mkD, retn, pvs, SV.pv, wipeE, walkOf, itemsP, notD, idxP, isKey, keyEq, dlook, dhas, dput, dictEq, okDict, mthE, mthC, mthP, mthT, argsM, isLst, changes, isiTy, smallR, finL, finD, tupP, listP, dicP, onL, inP, isP, isNon, eqP, okD, plainD, plainDs, dep, deps, eqv, eqvs, beqI, beqS, atI_0, atI_1, atI_2, f_meet_edits, c1, c2, sortP, sortL, intsOf, strsOf, prsOf, isort, insR, lexI, SZ, l1]
  · simp [runF, startE, evSs, evS, evE, evL, evT, evI, evD, asgT, rdVar, peek, part, sliceP, binP, binA, cmpP, truP, bltE, blt1, blt2, lenP, mkR, mkL, mkD, retn, pvs, SV.pv, wipeE, walkOf, itemsP, notD, idxP, isKey, keyEq, dlook, dhas, dput, dictEq, okDict, mthE, mthC, mthP, mthT, argsM, isLst, changes, isiTy, smallR, finL, finD, tupP, listP, dicP, onL, inP, isP, isNon, eqP, okD, plainD, plainDs, dep, deps, eqv, eqvs, beqI, beqS, atI_0, atI_1, atI_2, f_meet_edits, c1, c2, sortP, sortL, intsOf, strsOf, prsOf, isort, insR, lexI, SZ, l1]
theorem moved_gt (n : Nat) (a g p q : Nat) (m r : List Nat) (hap : a < p) (hg : g ≤ p + m.length) (h : AH) : callN prog (n + 1) 15 [.v (eP p q r), .v (eP a g m)] h = some (.v (eP (p + m.length - g) q r), h) := by
  rw [u_moved_edit]
  have e : (p : Int) + (m.length : Int) - (g : Int) = ((p + m.length - g : Nat) : Int) := by omega
  have c1 : cut [PV.int p, PV.int q, PV.str r] (some 1) none = [.int q, .str r] := cut_from _ 1
  have l1 : (a : Int) < p := by omega
  simp [runF, startE, evSs, evS, evE, evL, evT, evI, evD, asgT, rdVar, peek, part, sliceP, binP, binA, cmpP, truP, bltE, blt1, blt2, lenP, mkR, mkL, mkD, retn, pvs, SV.pv, wipeE, walkOf, itemsP, notD, idxP, isKey, keyEq, dlook, dhas, dput, dictEq, okDict, mthE, mthC, mthP, mthT, argsM, isLst, changes, isiTy, smallR, finL, finD, tupP, listP, dicP, onL, inP, isP, isNon, eqP, okD, plainD, plainDs, dep, deps, eqv, eqvs, beqI, beqS, atI_0, atI_1, atI_2, f_moved_edit, e, c1, SZ, l1, hap]
theorem moved_le (n : Nat) (a g p q : Nat) (m r : List Nat) (hap : a ≤ p) (h : AH) : callN prog (n + 1) 15 [.v (eP a g m), .v (eP p q r)] h = some (.v (eP a g m), h) := by
  rw [u_moved_edit]
  have l1 : ¬ p < a := by omega
  simp [runF, startE, evSs, evS, evE, evL, evT, evI, evD, asgT, rdVar, peek, part, sliceP, binP, binA, cmpP, truP, bltE, blt1, blt2, lenP, mkR, mkL, mkD, retn, pvs, SV.pv, wipeE, walkOf, itemsP, notD, idxP, isKey, keyEq, dlook, dhas, dput, dictEq, okDict, mthE, mthC, mthP, mthT, argsM, isLst, changes, isiTy, smallR, finL, finD, tupP, listP, dicP, onL, inP, isP, isNon, eqP, okD, plainD, plainDs, dep, deps, eqv, eqvs, beqI, beqS, atI_0, atI_1, atI_2, f_moved_edit, l1]
end Ev

set_option Elab.async false
set_option linter.all false
set_option maxRecDepth 100000
set_option maxHeartbeats 1000000
namespace Ev
theorem both_lt (n : Nat) (s m r : List Nat) (a g p q : Nat) (hap : a + g < p) (hs : s.length ≤ 500) (hm : m.length ≤ 200) (hr : r.length ≤ 200) (h : AH) : callN prog (n + 2) 16 [.v (.str s), .v (eP a g m), .v (eP p q r)] h = some (.v (.str (ed (ed s a g m) (p + m.length - g) q r)), h) := by
  rw [u_both_edits]
  have e1 := meet_lt n a g p q m r (by omega)
  have e2 := edited_ok n s m a g h (by omega) (by omega)
  have e3 := moved_gt n a g p q m r (by omega) (by omega)
  have hl : (ed s a g m).length ≤ 1000 := by
    unfold ed
    simp only [List.length_append, List.length_take, List.length_drop]
    omega
  have e4 := edited_ok n (ed s a g m) r (p + m.length - g) q h hl (by omega)
  have hx : ¬ p < a + g := by omega
  simp [runF, startE, evSs, evS, evE, evL, evT, evI, evD, asgT, rdVar, peek, part, sliceP, binP, binA, cmpP, truP, bltE, blt1, blt2, lenP, mkR, mkL, mkD, retn, pvs, SV.pv, wipeE, walkOf, itemsP, notD, idxP, isKey, keyEq, dlook, dhas, dput, dictEq, okDict, mthE, mthC, mthP, mthT, argsM, isLst, changes, isiTy, smallR, finL, finD, tupP, listP, dicP, onL, inP, isP, isNon, eqP, okD, plainD, plainDs, dep, deps, eqv, eqvs, beqI, beqS, atI_0, atI_1, atI_2, f_both_edits, e1, e2, e3, e4, hx]
theorem both_gt (n : Nat) (s m r : List Nat) (a g p q : Nat) (hap : a + g < p) (hs : s.length ≤ 500) (hm : m.length ≤ 200) (hr : r.length ≤ 200) (h : AH) : callN prog (n + 2) 16 [.v (.str s), .v (eP p q r), .v (eP a g m)] h = some (.v (.str (ed (ed s p q r) a g m)), h) := by
  rw [u_both_edits]
  have e1 := meet_gt n a g p q m r (by omega)
  have e2 := edited_ok n s r p q h (by omega) (by omega)
  have e3 := moved_le n a g p q m r (by omega)
  have hl : (ed s p q r).length ≤ 1000 := by
    unfold ed
    simp only [List.length_append, List.length_take, List.length_drop]
    omega
  have e4 := edited_ok n (ed s p q r) m a g h hl (by omega)
  have hx : ¬ p < a + g := by omega
  simp [runF, startE, evSs, evS, evE, evL, evT, evI, evD, asgT, rdVar, peek, part, sliceP, binP, binA, cmpP, truP, bltE, blt1, blt2, lenP, mkR, mkL, mkD, retn, pvs, SV.pv, wipeE, walkOf, itemsP, notD, idxP, isKey, keyEq, dlook, dhas, dput, dictEq, okDict, mthE, mthC, mthP, mthT, argsM, isLst, changes, isiTy, smallR, finL, finD, tupP, listP, dicP, onL, inP, isP, isNon, eqP, okD, plainD, plainDs, dep, deps, eqv, eqvs, beqI, beqS, atI_0, atI_1, atI_2, f_both_edits, e1, e2, e3, e4, hx]
theorem both_eq (n : Nat) (s m : List Nat) (a g : Nat) (h : AH) : callN prog (n + 2) 16 [.v (.str s), .v (eP a g m), .v (eP a g m)] h = some (.v .non, h) := by
  rw [u_both_edits]
  have e1 := meet_eq n a g g m m
  simp [runF, startE, evSs, evS, evE, evL, evT, evI, evD, asgT, rdVar, peek, part, sliceP, binP, binA, cmpP, truP, bltE, blt1, blt2, lenP, mkR, mkL, mkD, retn, pvs, SV.pv, wipeE, walkOf, itemsP, notD, idxP, isKey, keyEq, dlook, dhas, dput, dictEq, okDict, mthE, mthC, mthP, mthT, argsM, isLst, changes, isiTy, smallR, finL, finD, tupP, listP, dicP, onL, inP, isP, isNon, eqP, okD, plainD, plainDs, dep, deps, eqv, eqvs, beqI, beqS, atI_0, atI_1, atI_2, f_both_edits, e1]
/-! ### texts -/
theorem ed_back (s m : List Nat) (a g : Nat) (h : a + g ≤ s.length) : ed (ed s a g m) a m.length ((s.drop a).take g) = s := by
  unfold ed
  have l1 : (s.take a).length = a := by rw [List.length_take]; omega
  rw [List.append_assoc (s.take a) m, List.take_left' l1]
  rw [show a + m.length = (s.take a ++ m).length by rw [List.length_append, l1], ← List.append_assoc, List.drop_left]
  rw [List.append_assoc, ← List.drop_drop, List.take_append_drop, List.take_append_drop]
theorem split5 (s : List Nat) (a g p q : Nat) (h1 : a + g ≤ p) (h2 : p + q ≤ s.length) : ∃ A G M Q R : List Nat, s = A ++ (G ++ (M ++ (Q ++ R))) ∧ A.length = a ∧ G.length = g ∧ M.length = p - (a + g) ∧ Q.length = q := by
  refine ⟨s.take a, (s.drop a).take g, (s.drop (a + g)).take (p - (a + g)), (s.drop p).take q, s.drop (p + q), ?_, ?_, ?_, ?_, ?_⟩
  · have e1 : s.drop p = (s.drop (a + g)).drop (p - (a + g)) := by rw [List.drop_drop]; congr 1; omega
    have e2 : s.drop (p + q) = (s.drop p).drop q := by rw [List.drop_drop]
    have e3 : s.drop (a + g) = (s.drop a).drop g := by rw [List.drop_drop]
    rw [e2, List.take_append_drop, e1, List.take_append_drop, e3, List.take_append_drop, List.take_append_drop]
  all_goals (simp only [List.length_take, List.length_drop]; omega)
def bothT (s m r : List Nat) (a g p q : Nat) : List Nat := s.take a ++ m ++ (s.drop (a + g)).take (p - (a + g)) ++ r ++ s.drop (p + q)
theorem both_t1 (s m r : List Nat) (a g p q : Nat) (h1 : a + g ≤ p) (h2 : p + q ≤ s.length) : ed (ed s a g m) (p + m.length - g) q r = bothT s m r a g p q := by
  obtain ⟨A, G, M, Q, R, rfl, rfl, rfl, hM, rfl⟩ := split5 s a g p q h1 h2
  unfold ed bothT
  have d1 : (A ++ (G ++ (M ++ (Q ++ R)))).drop (A.length + G.length) = M ++ (Q ++ R) := by
    rw [← List.append_assoc, List.drop_left' (by rw [List.length_append])]
  have d2 : (A ++ (G ++ (M ++ (Q ++ R)))).drop (p + Q.length) = R := by
    rw [show A ++ (G ++ (M ++ (Q ++ R))) = (A ++ G ++ M ++ Q) ++ R by simp, List.drop_left' (by simp only [List.length_append]; omega)]
  rw [d1, d2, List.take_left, ← hM, List.take_left]
  have d3 : (A ++ m ++ (M ++ (Q ++ R))).take (p + m.length - G.length) = A ++ m ++ M := by
    rw [← List.append_assoc, List.take_left' (by simp only [List.length_append]; omega)]
  have d4 : (A ++ m ++ (M ++ (Q ++ R))).drop (p + m.length - G.length + Q.length) = R := by
    rw [show A ++ m ++ (M ++ (Q ++ R)) = (A ++ m ++ M ++ Q) ++ R by simp, List.drop_left' (by simp only [List.length_append]; omega)]
  rw [d3, d4]
theorem both_t2 (s m r : List Nat) (a g p q : Nat) (h1 : a + g ≤ p) (h2 : p + q ≤ s.length) : ed (ed s p q r) a g m = bothT s m r a g p q := by
  obtain ⟨A, G, M, Q, R, rfl, rfl, rfl, hM, rfl⟩ := split5 s a g p q h1 h2
  unfold ed bothT
  have d1 : (A ++ (G ++ (M ++ (Q ++ R)))).drop (A.length + G.length) = M ++ (Q ++ R) := by
    rw [← List.append_assoc, List.drop_left' (by rw [List.length_append])]
  have d2 : (A ++ (G ++ (M ++ (Q ++ R)))).drop (p + Q.length) = R := by
    rw [show A ++ (G ++ (M ++ (Q ++ R))) = (A ++ G ++ M ++ Q) ++ R by simp, List.drop_left' (by simp only [List.length_append]; omega)]
  have d3 : (A ++ (G ++ (M ++ (Q ++ R)))).take p = A ++ G ++ M := by
    rw [show A ++ (G ++ (M ++ (Q ++ R))) = (A ++ G ++ M) ++ (Q ++ R) by simp, List.take_left' (by simp only [List.length_append]; omega)]
  rw [d1, d2, d3, List.take_left, ← hM, List.take_left]
  have d4 : (A ++ G ++ M ++ r ++ R).take A.length = A := by
    rw [show A ++ G ++ M ++ r ++ R = A ++ (G ++ M ++ r ++ R) by simp, List.take_left]
  have d5 : (A ++ G ++ M ++ r ++ R).drop (A.length + G.length) = M ++ r ++ R := by
    rw [show A ++ G ++ M ++ r ++ R = (A ++ G) ++ (M ++ r ++ R) by simp, List.drop_left' (by rw [List.length_append])]
  rw [d4, d5]
  simp
end Ev

set_option Elab.async false
set_option linter.all false
set_option maxRecDepth 100000
set_option maxHeartbeats 1000000
namespace Ev
theorem nx41 (n : Nat) (ds : List Int) (k : Nat) (m : Int) (hr : AH) (hm : 0 < m) : callN prog (n + 1) 18 [.o 0, .v (.int m)] (Wc ds k :: hr) = some (.v (.int (nx ds k m)), Wc ds (k + 1) :: hr) := by
  rw [u__law_next]; exact next_ok ds k m hm hr
theorem sm41 (n : Nat) (p : PV) (h : AH) (hp : sok p = true) (hn : nodes p < 100000) : callN prog (n + 1) 20 [.v p, .v p] h = some (.v (.bl true), h) := by
  rw [u__law_same]; exact same_ok p hp hn h
/-- a drawn number, as a natural one -/
theorem nxN (ds : List Int) (k : Nat) (m : Int) (hm : 0 < m) : ∃ v : Nat, nx ds k m = (v : Int) ∧ (v : Int) < m := by
  have h1 := nx_lo ds k hm
  have h2 := nx_hi ds k hm
  exact ⟨(nx ds k m).toNat, by omega, by omega⟩
/-- the place of the names of the law's rest -/
def rE (a g n : Nat) (s m : List Nat) (ah hi on ot sa ex er pl' se bo : Option SV) : En := [some (.o 0), some (.v (.int a)), some (.v (.int g)), some (.v (eP a g m)), some (.v (.int ((m.length : Int) - (g : Int)))), some (.v (.str m)), some (.v (.int n)), some (.v (.str s)), ah, hi, on, ot, sa, ex, er, pl', se, bo]
theorem rp (x : List Nat) (k : Nat) : rep x (k : Int).toNat = rep x k := by simp
theorem rep_length {α : Type} (xs : List α) (k : Nat) : (rep xs k).length = k * xs.length := by
  unfold rep
  induction k with
  | zero => simp
  | succ k ih => rw [List.replicate_succ, List.flatten_cons, List.length_append, ih, Nat.succ_mul, Nat.add_comm]
theorem rep_le {α : Type} (xs : List α) (k : Nat) : (rep xs k).length ≤ k * xs.length := by rw [rep_length]; exact Nat.le_refl _
variable {N : Nat}
theorem mulS (op : Unit) (x : List Nat) (k : Nat) (hx : x.length ≤ 1000) (hk : k ≤ 1000) : binP .mul (.str x) (.int (k : Int)) = some (.str (rep x k)) := by
  have h1 : (-1000 : Int) ≤ (k : Int) := by omega
  have h2 : (k : Int) ≤ 1000 := by omega
  simp [binP, h1, h2, hx]
theorem r0 (ds : List Int) (k : Nat) (a g n : Nat) (s m : List Nat) (x1 x2 x3 x4 sa ex er pl' se bo : Option SV) : ∃ b c d e : Nat, b < 3 ∧ c < 3 ∧ d < 4 ∧ e < 4 ∧
    evS (callN prog (N + 8)) S__law_rest_0 (rE a g n s m x1 x2 x3 x4 sa ex er pl' se bo) [Wc ds k] = some (.nx (rE a g n s m (some (.v (.str (rep [119,101,32] b)))) (some (.v (.str (rep [32,103,111] c)))) (some (.v (.str (rep [108] d)))) (some (.v (.str (rep [114] e)))) sa ex er pl' se bo) [Wc ds (k + 4)]) := by
  obtain ⟨b, hb, hb2⟩ := nxN ds k 3 (by omega)
  obtain ⟨c, hc, hc2⟩ := nxN ds (k + 1) 3 (by omega)
  obtain ⟨d, hd, hd2⟩ := nxN ds (k + 1 + 1) 4 (by omega)
  obtain ⟨e, he, he2⟩ := nxN ds (k + 1 + 1 + 1) 4 (by omega)
  refine ⟨b, c, d, e, by omega, by omega, by omega, by omega, ?_⟩
  have m1 := mulS () [119,101,32] b (by simp) (by omega)
  have m2 := mulS () [32,103,111] c (by simp) (by omega)
  have m3 := mulS () [108] d (by simp) (by omega)
  have m4 := mulS () [114] e (by simp) (by omega)
  have w : ∀ z, rdVar false [Wc ds z] (.o 0) = some (.o 0, [Wc ds z]) := fun z => rfl
  simp [S__law_rest_0, rE, evS, evL, evE, w, nx41, hb, hc, hd, he, peek, m1, m2, m3, m4]
theorem sok_eP (a g : Nat) (m : List Nat) : sok (eP a g m) = true ∧ nodes (eP a g m) < 100000 := by
  constructor
  · simp [sok, soks, okD, plainD, dep]
  · simp [nodes, nodess]
theorem r1 (a g n : Nat) (s m : List Nat) (P H O T : List Nat) (hP : P.length ≤ 100) (hH : H.length ≤ 100) (hO : O.length ≤ 100) (hT : T.length ≤ 100) (hE : O ≠ T → ∀ (C : Calls) h, runF C f_edit_between [.v (.str (P ++ (O ++ H))), .v (.str (P ++ (T ++ H)))] h = some (.v (eP P.length O.length T), h)) (sa ex er pl' se bo : Option SV) (h : AH) :
    evS (callN prog (N + 8)) S__law_rest_1 (rE a g n s m (some (.v (.str P))) (some (.v (.str H))) (some (.v (.str O))) (some (.v (.str T))) sa ex er pl' se bo) h = some (.nx (rE a g n s m (some (.v (.str P))) (some (.v (.str H))) (some (.v (.str O))) (some (.v (.str T))) sa ex er pl' se bo) h) := by
  have z1 : P.length + O.length ≤ SZ := by show _ ≤ 16777216; omega
  have z2 : P.length + O.length + H.length ≤ SZ := by show _ ≤ 16777216; omega
  have z3 : P.length + T.length ≤ SZ := by show _ ≤ 16777216; omega
  have z4 : P.length + T.length + H.length ≤ SZ := by show _ ≤ 16777216; omega
  by_cases he : O = T
  · subst he
    have q : callN prog (N + 8) 12 [.v (.str (P ++ (O ++ H))), .v (.str (P ++ (O ++ H)))] h = some (.v .non, h) := (u_edit_between (N + 7) _ h).trans (eb_same (P ++ (O ++ H)) h)
    have q2 := sm41 (N + 7) .non h (by simp [sok, okD, plainD, dep]) (by simp [nodes])
    simp [S__law_rest_1, rE, evSs, evS, evE, evL, evT, evI, evD, asgT, rdVar, peek, part, sliceP, binP, binA, cmpP, truP, bltE, blt1, blt2, lenP, mkR, mkL, mkD, retn, pvs, SV.pv, wipeE, walkOf, itemsP, notD, idxP, isKey, keyEq, dlook, dhas, dput, dictEq, okDict, mthE, mthC, mthP, mthT, argsM, isLst, changes, isiTy, smallR, finL, finD, tupP, listP, dicP, onL, inP, isP, isNon, eqP, okD, plainD, plainDs, dep, deps, eqv, eqvs, beqI, beqS, atI_0, atI_1, atI_2, z1, z2, q, q2]
  · have q : callN prog (N + 8) 12 [.v (.str (P ++ (O ++ H))), .v (.str (P ++ (T ++ H)))] h = some (.v (eP P.length O.length T), h) := (u_edit_between (N + 7) _ h).trans (hE he _ h)
    have q2 := sm41 (N + 7) (eP P.length O.length T) h (sok_eP _ _ _).1 (sok_eP _ _ _).2
    have sz : (3 : Nat) ≤ SZ := by decide
    simp [S__law_rest_1, rE, evSs, evS, evE, evL, evT, evI, evD, asgT, rdVar, peek, part, sliceP, binP, binA, cmpP, truP, bltE, blt1, blt2, lenP, mkR, mkL, mkD, retn, pvs, SV.pv, wipeE, walkOf, itemsP, notD, idxP, isKey, keyEq, dlook, dhas, dput, dictEq, okDict, mthE, mthC, mthP, mthT, argsM, isLst, changes, isiTy, smallR, finL, finD, tupP, listP, dicP, onL, inP, isP, isNon, eqP, okD, plainD, plainDs, dep, deps, eqv, eqvs, beqI, beqS, atI_0, atI_1, atI_2, z1, z2, z3, z4, q, he, sz, q2]
theorem r2 (ds : List Int) (k : Nat) (a g n : Nat) (s m : List Nat) (ah hi on ot sa ex er pl' se bo : Option SV) : ∃ p x : Nat, p < 5 ∧ 1 ≤ x ∧ x < 5 ∧
    evS (callN prog (N + 8)) S__law_rest_2 (rE a g n s m ah hi on ot sa ex er pl' se bo) [Wc ds k] = some (.nx (rE a g n s m ah hi on ot (some (.v (.int (p : Int)))) (some (.v (.int (x : Int)))) er pl' se bo) [Wc ds (k + 2)]) := by
  obtain ⟨b, hb, hb2⟩ := nxN ds k 5 (by omega)
  obtain ⟨c, hc, hc2⟩ := nxN ds (k + 1) 4 (by omega)
  refine ⟨b, 1 + c, by omega, by omega, by omega, ?_⟩
  have w : ∀ z, rdVar false [Wc ds z] (.o 0) = some (.o 0, [Wc ds z]) := fun z => rfl
  simp [S__law_rest_2, rE, evS, evL, evE, w, nx41, hb, hc, peek, binP]
theorem mulA (p x : Nat) (h : p + x ≤ 1000) : binP .mul (.str [97]) (.int ((p : Int) + (x : Int))) = some (.str (rep [97] (p + x))) := by
  rw [← Int.natCast_add]
  exact mulS () [97] (p + x) (by simp) h
theorem r3 (a g n : Nat) (s m : List Nat) (ah hi on ot : Option SV) (p x : Nat) (hp : p < 5) (hx : x < 5) (er pl' se bo : Option SV) (h : AH)
    (h1 : ∀ (C : Calls) h, runF C f_edit_between [.v (.str (rep [97] p)), .v (.str (rep [97] (p + x)))] h = some (.v (.tup [.int (p : Int), .int 0, .str (rep [97] x)]), h)) (h2 : ∀ (C : Calls) h, runF C f_edit_between [.v (.str (rep [97] (p + x))), .v (.str (rep [97] p))] h = some (.v (.tup [.int (p : Int), .int (x : Int), .str []]), h)) :
    evS (callN prog (N + 8)) S__law_rest_3 (rE a g n s m ah hi on ot (some (.v (.int (p : Int)))) (some (.v (.int (x : Int)))) er pl' se bo) h = some (.nx (rE a g n s m ah hi on ot (some (.v (.int (p : Int)))) (some (.v (.int (x : Int)))) er pl' se bo) h) := by
  have m1 := mulS () [97] p (by simp) (by omega)
  have m2 := mulS () [97] x (by simp) (by omega)
  have m3 := mulA p x (by omega)
  have q1 : callN prog (N + 8) 12 [.v (.str (rep [97] p)), .v (.str (rep [97] (p + x)))] h = _ := (u_edit_between (N + 7) _ h).trans (h1 _ h)
  have q2 : callN prog (N + 8) 12 [.v (.str (rep [97] (p + x))), .v (.str (rep [97] p))] h = _ := (u_edit_between (N + 7) _ h).trans (h2 _ h)
  have e1 := sm41 (N + 7) (.tup [.int (p : Int), .int 0, .str (rep [97] x)]) h (by simp [sok, soks, okD, plainD, dep]) (by simp [nodes, nodess])
  have e2 := sm41 (N + 7) (.tup [.int (p : Int), .int (x : Int), .str []]) h (by simp [sok, soks, okD, plainD, dep]) (by simp [nodes, nodess])
  have sz : (3 : Nat) ≤ SZ := by decide
  have b0 : ∀ i j : Int, binP .add (.int i) (.int j) = some (.int (i + j)) := fun _ _ => rfl
  simp [S__law_rest_3, rE, evS, evSs, evT, evE, evL, rdVar, peek, m1, m2, m3, b0, q1, q2, e1, e2, pvs, sz, truP]
theorem r4 (a g n : Nat) (s m : List Nat) (P H O T : List Nat) (hP : P.length ≤ 100) (hH : H.length ≤ 100) (hO : O.length ≤ 100) (hT : T.length ≤ 100) (hE : O ≠ T → ∀ (C : Calls) h, runF C f_edit_between [.v (.str (P ++ (O ++ H))), .v (.str (P ++ (T ++ H)))] h = some (.v (eP P.length O.length T), h)) (sa ex er pl' se bo : Option SV) (h : AH) :
    evS (callN prog (N + 8)) S__law_rest_4 (rE a g n s m (some (.v (.str P))) (some (.v (.str H))) (some (.v (.str O))) (some (.v (.str T))) sa ex er pl' se bo) h = some (.nx (rE a g n s m (some (.v (.str P))) (some (.v (.str H))) (some (.v (.str O))) (some (.v (.str T))) sa ex er pl' se bo) h) := by
  have z1 : P.length + O.length ≤ SZ := by show _ ≤ 16777216; omega
  have z2 : P.length + O.length + H.length ≤ SZ := by show _ ≤ 16777216; omega
  have z3 : P.length + T.length ≤ SZ := by show _ ≤ 16777216; omega
  have z4 : P.length + T.length + H.length ≤ SZ := by show _ ≤ 16777216; omega
  by_cases he : O = T
  · simp [S__law_rest_4, rE, evSs, evS, evE, evL, evT, evI, evD, asgT, rdVar, peek, part, sliceP, binP, binA, cmpP, truP, bltE, blt1, blt2, lenP, mkR, mkL, mkD, retn, pvs, SV.pv, wipeE, walkOf, itemsP, notD, idxP, isKey, keyEq, dlook, dhas, dput, dictEq, okDict, mthE, mthC, mthP, mthT, argsM, isLst, changes, isiTy, smallR, finL, finD, tupP, listP, dicP, onL, inP, isP, isNon, eqP, okD, plainD, plainDs, dep, deps, eqv, eqvs, beqI, beqS, atI_0, atI_1, atI_2, he]
  · have q : callN prog (N + 8) 12 [.v (.str (P ++ (O ++ H))), .v (.str (P ++ (T ++ H)))] h = some (.v (eP P.length O.length T), h) := (u_edit_between (N + 7) _ h).trans (hE he _ h)
    have q2 := edited_ok (N + 7) (P ++ (O ++ H)) T P.length O.length h (by simp only [List.length_append]; omega) (by omega)
    have q3 : ed (P ++ (O ++ H)) P.length O.length T = P ++ (T ++ H) := by
      unfold ed
      rw [List.take_left, show P ++ (O ++ H) = (P ++ O) ++ H by simp, List.drop_left' (by rw [List.length_append])]
      simp
    rw [q3] at q2
    simp [S__law_rest_4, rE, evSs, evS, evE, evL, evT, evI, evD, asgT, rdVar, peek, part, sliceP, binP, binA, cmpP, truP, bltE, blt1, blt2, lenP, mkR, mkL, mkD, retn, pvs, SV.pv, wipeE, walkOf, itemsP, notD, idxP, isKey, keyEq, dlook, dhas, dput, dictEq, okDict, mthE, mthC, mthP, mthT, argsM, isLst, changes, isiTy, smallR, finL, finD, tupP, listP, dicP, onL, inP, isP, isNon, eqP, okD, plainD, plainDs, dep, deps, eqv, eqvs, beqI, beqS, atI_0, atI_1, atI_2, z1, z2, z3, z4, q, he, q2]
/-! the facts of the drawn texts -/
theorem fact1 : ∀ b c : Fin 3, ∀ d e : Fin 4, rep [108] d.val ≠ rep [114] e.val → rep [119,101,32] b.val ++ (rep [108] d.val ++ rep [32,103,111] c.val) ≠ rep [119,101,32] b.val ++ (rep [114] e.val ++ rep [32,103,111] c.val) ∧
    lcp (rep [119,101,32] b.val ++ (rep [108] d.val ++ rep [32,103,111] c.val)) (rep [119,101,32] b.val ++ (rep [114] e.val ++ rep [32,103,111] c.val)) = (rep [119,101,32] b.val).length ∧
    sfx (rep [119,101,32] b.val ++ (rep [108] d.val ++ rep [32,103,111] c.val)) (rep [119,101,32] b.val ++ (rep [114] e.val ++ rep [32,103,111] c.val)) = (rep [32,103,111] c.val).length := by decide +kernel
theorem fact2 : ∀ p x : Fin 5, 1 ≤ x.val → rep [97] p.val ≠ rep [97] (p.val + x.val) ∧ lcp (rep [97] p.val) (rep [97] (p.val + x.val)) = p.val ∧ sfx (rep [97] p.val) (rep [97] (p.val + x.val)) = 0 ∧ (rep [97] p.val).length = p.val ∧ ((rep [97] (p.val + x.val)).drop p.val).take ((rep [97] (p.val + x.val)).length - 0 - p.val) = rep [97] x.val ∧
    lcp (rep [97] (p.val + x.val)) (rep [97] p.val) = p.val ∧ sfx (rep [97] (p.val + x.val)) (rep [97] p.val) = 0 ∧ (rep [97] (p.val + x.val)).length = p.val + x.val := by decide +kernel
theorem eb1 (b c d e : Nat) (hb : b < 3) (hc : c < 3) (hd : d < 4) (he : e < 4) (hne : rep [108] d ≠ rep [114] e) (C : Calls) (h : AH) :
    runF C f_edit_between [.v (.str (rep [119,101,32] b ++ (rep [108] d ++ rep [32,103,111] c))), .v (.str (rep [119,101,32] b ++ (rep [114] e ++ rep [32,103,111] c)))] h = some (.v (eP (rep [119,101,32] b).length (rep [108] d).length (rep [114] e)), h) := by
  obtain ⟨f1, f2, f3⟩ := fact1 ⟨b, hb⟩ ⟨c, hc⟩ ⟨d, hd⟩ ⟨e, he⟩ hne
  simp only at f1 f2 f3
  have l1 := rep_le [119,101,32] b
  rw [eb_run _ _ h f1 (by simp only [List.length_append, rep_length]; simp; omega), f2, f3]
  congr 3
  simp only [List.length_append]
  rw [List.drop_left, show ((rep [119,101,32] b).length + ((rep [114] e).length + (rep [32,103,111] c).length)) - (rep [32,103,111] c).length - (rep [119,101,32] b).length = (rep [114] e).length by omega, List.take_left,
    show ((rep [119,101,32] b).length + ((rep [108] d).length + (rep [32,103,111] c).length)) - (rep [119,101,32] b).length - (rep [32,103,111] c).length = (rep [108] d).length by omega]
end Ev

set_option Elab.async false
set_option linter.all false
set_option maxRecDepth 100000
set_option maxHeartbeats 1000000
namespace Ev
variable {N : Nat}
theorem eb2 (p x : Nat) (hp : p < 5) (hx : x < 5) (h1 : 1 ≤ x) (C : Calls) (h : AH) : runF C f_edit_between [.v (.str (rep [97] p)), .v (.str (rep [97] (p + x)))] h = some (.v (.tup [.int (p : Int), .int 0, .str (rep [97] x)]), h) := by
  obtain ⟨f1, f2, f3, f4, f5, f6, f7, f8⟩ := fact2 ⟨p, hp⟩ ⟨x, hx⟩ h1
  simp only at f1 f2 f3 f4 f5 f6 f7 f8
  rw [eb_run _ _ h f1 (by rw [f4, f8]; omega), f2, f3, f4, f5]
  congr 4
  simp
theorem eb3 (p x : Nat) (hp : p < 5) (hx : x < 5) (h1 : 1 ≤ x) (C : Calls) (h : AH) : runF C f_edit_between [.v (.str (rep [97] (p + x))), .v (.str (rep [97] p))] h = some (.v (.tup [.int (p : Int), .int (x : Int), .str []]), h) := by
  obtain ⟨f1, f2, f3, f4, f5, f6, f7, f8⟩ := fact2 ⟨p, hp⟩ ⟨x, hx⟩ h1
  simp only at f1 f2 f3 f4 f5 f6 f7 f8
  rw [eb_run _ _ h (fun e => f1 e.symm) (by rw [f4, f8]; omega), f6, f7, f4, f8]
  rw [show p + x - p - 0 = x by omega, show p - 0 - p = 0 by omega, List.take_zero]
def erP (n : Nat) : PV := .tup [.tup [.int 0, .int 0, .str [120]], .tup [.int ((n : Int) + 1), .int 0, .str [121]], .tup [.int 0, .int ((n : Int) + 2), .str [122]]]
theorem r5 (a g n : Nat) (s m : List Nat) (ah hi on ot sa ex er pl' se bo : Option SV) (h : AH) :
    evS (callN prog (N + 8)) S__law_rest_5 (rE a g n s m ah hi on ot sa ex er pl' se bo) h = some (.nx (rE a g n s m ah hi on ot sa ex (some (.v (erP n))) pl' se bo) h) := by
  have sz : (3 : Nat) ≤ SZ := by decide
  simp [S__law_rest_5, erP, rE, evS, evL, evE, rdVar, peek, binP, pvs, sz, asgT]
/-! ### all edits -/
theorem lp_cons {f : PV → En → AH → Option Fl} {ok : AH → Bool} {x : PV} {xs : List PV} {e e' : En} {h h' : AH} (hok : ok h = true) (hf : f x e h = some (.nx e' h')) : loopF f ok (x :: xs) e h = loopF f ok xs e' h' := by
  simp only [loopF, hok, if_true, hf]
theorem lp_ret {f : PV → En → AH → Option Fl} {ok : AH → Bool} {x : PV} {xs : List PV} {e : En} {h h' : AH} {v : SV} (hok : ok h = true) (hf : f x e h = some (.rt v h')) : loopF f ok (x :: xs) e h = some (.rt v h') := by
  simp only [loopF, hok, if_true, hf]
def aeE (s : List Nat) (es : List PV) (k : Option SV) : En := [some (.v (.str s)), some (.v (.tup es)), k]
def stepF (C : Calls) (t : Tg) (b : Sts) (x : PV) (e : En) (h : AH) : Option Fl :=
  match asgT t (.v x) e with
  | none => none
  | some e' => evSs C b e' h
theorem for_eq {C : Calls} {t : Tg} {it : Itr} {b : Sts} {e : En} {h h1 : AH} {xs : List PV} {g : Option Nat} (hI : evI C it e h = some (xs, g, h1)) : evS C (.for t it b) e h = loopF (stepF C t b) (guardOk xs g) xs e h1 := by
  simp only [evS, hI]
  rfl
theorem small1000 (n : Nat) (h : n ≤ 1000) : smallR (n : Int) = true := by unfold smallR; simp; omega
def aeF (C : Calls) : PV → En → AH → Option Fl := stepF C (.nm 2) L_all_edits_0
theorem ae_yes (n : Nat) (s : List Nat) (es : List PV) (k : Option SV) (j : Int) (a g : Nat) (m : List Nat) (hat : atI es j = some (eP a g m)) (hl : a + g ≤ s.length) (hs : s.length ≤ 1000) (hm : m.length ≤ 1000) (h : AH) : aeF (callN prog (n + 3)) (.int j) (aeE s es k) h = some (.nx (aeE (ed s a g m) es (some (.v (.int j)))) h) := by
  have q1 := is_edit_ok n s m a g h
  have q2 := edited_ok (n + 2) s m a g h hs hm
  simp [aeF, stepF, aeE, asgT, L_all_edits_0, evSs, evS, evT, evE, evL, rdVar, peek, idxP, hat, q1, q2, hl, truP]
theorem ae_no (n : Nat) (s : List Nat) (es : List PV) (k : Option SV) (j : Int) (a g : Nat) (m : List Nat) (hat : atI es j = some (eP a g m)) (hl : ¬ a + g ≤ s.length) (h : AH) : aeF (callN prog (n + 3)) (.int j) (aeE s es k) h = some (.rt (.v (.tup [.non, .int j])) h) := by
  have q1 := is_edit_ok n s m a g h
  have sz : (2 : Nat) ≤ SZ := by decide
  simp [aeF, stepF, aeE, asgT, L_all_edits_0, evSs, evS, evT, evE, evL, rdVar, peek, idxP, hat, q1, hl, truP, pvs, sz]
theorem ae_for (n : Nat) (s : List Nat) (es : List PV) (k : Option SV) (hl : es.length ≤ 1000) (h : AH) : evS (callN prog (n + 3)) (.for (.nm 2) (.rng1 (.blt false .len (.cons (.var 1 false) .nil))) L_all_edits_0) (aeE s es k) h = loopF (aeF (callN prog (n + 3))) (guardOk (rngs 0 es.length) none) (rngs 0 es.length) (aeE s es k) h := by
  have sm := small1000 es.length hl
  have e1 : evI (callN prog (n + 3)) (.rng1 (.blt false .len (.cons (.var 1 false) .nil))) (aeE s es k) h = some (rngs 0 es.length, none, h) := by
    simp only [evI, evE, evL, aeE, List.getElem?_cons_succ, List.getElem?_cons_zero, rdVar, bltE, peek, blt1, lenP, mkR, if_false, Bool.false_eq_true, sm, if_true, Int.toNat_natCast]
  rw [for_eq e1, aeF]
theorem ae_nx (n : Nat) (s t : List Nat) (es : List PV) (hl : es.length ≤ 1000) (k : Option SV) (h : AH) (hx : loopF (aeF (callN prog (n + 3))) (guardOk (rngs 0 es.length) none) (rngs 0 es.length) (aeE s es none) h = some (.nx (aeE t es k) h)) : callN prog (n + 4) 9 [.v (.str s), .v (.tup es)] h = some (.v (.tup [.str t, .non]), h) := by
  rw [u_all_edits]
  have sz : (2 : Nat) ≤ SZ := by decide
  have q0 := (ae_for n s es none hl h).trans hx
  have q1 : evS (callN prog (n + 3)) (.ret (.tup (.cons (.var 0 false) (.cons (.lit .non) .nil)))) (aeE t es k) h = some (.rt (.v (.tup [.str t, .non])) h) := by
    simp [aeE, evS, evE, evL, rdVar, pvs, sz]
  have hb : evSs (callN prog (n + 3)) f_all_edits.body (aeE s es none) h = some (.rt (.v (.tup [.str t, .non])) h) := by
    show evSs _ (.cons _ (.cons _ .nil)) _ _ = _
    rw [seq q0, seqR q1]
  exact runF_ret rfl hb (by simp [retn])
theorem ae_rt (n : Nat) (s : List Nat) (es : List PV) (v : PV) (hl : es.length ≤ 1000) (h : AH) (hx : loopF (aeF (callN prog (n + 3))) (guardOk (rngs 0 es.length) none) (rngs 0 es.length) (aeE s es none) h = some (.rt (.v v) h)) : callN prog (n + 4) 9 [.v (.str s), .v (.tup es)] h = some (.v v, h) := by
  rw [u_all_edits]
  have q0 := (ae_for n s es none hl h).trans hx
  have hb : evSs (callN prog (n + 3)) f_all_edits.body (aeE s es none) h = some (.rt (.v v) h) := by
    show evSs _ (.cons _ (.cons _ .nil)) _ _ = _
    rw [seqR q0]
  exact runF_ret rfl hb (by simp [retn])
theorem ed_len (s m : List Nat) (a g : Nat) (h : a + g ≤ s.length) : (ed s a g m).length = s.length - g + m.length := by
  unfold ed
  simp only [List.length_append, List.length_take, List.length_drop]
  omega
theorem ed_all (s m : List Nat) (g : Nat) (h : s.length ≤ g) : ed s 0 g m = m := by
  unfold ed
  rw [List.take_zero, List.drop_eq_nil_of_le (by omega)]
  simp
theorem atI_3 {α : Type} (x y z w : α) (xs : List α) : atI (x :: y :: z :: w :: xs) 3 = some w := atI_nat (x :: y :: z :: w :: xs) 3 w rfl
theorem ae_three (n : Nat) (s : List Nat) (hs : s.length ≤ 100) (h : AH) : callN prog (n + 4) 9 [.v (.str s), .v (.tup [eP 0 0 [120], eP (s.length + 1) 0 [121], eP 0 (s.length + 2) [122]])] h = some (.v (.tup [.str [122], .non]), h) := by
  have l1 : (ed s 0 0 [120]).length = s.length + 1 := by rw [ed_len _ _ _ _ (by omega)]; simp
  have l2 : (ed (ed s 0 0 [120]) (s.length + 1) 0 [121]).length = s.length + 2 := by rw [ed_len _ _ _ _ (by omega), l1]; simp
  have l3 : ed (ed (ed s 0 0 [120]) (s.length + 1) 0 [121]) 0 (s.length + 2) [122] = [122] := by
    exact ed_all _ _ _ (by omega)
  refine ae_nx n s [122] _ (by simp) (some (.v (.int 2))) h ?_
  show loopF _ _ [.int 0, .int 1, .int 2] _ _ = _
  rw [lp_cons rfl (ae_yes n s _ none 0 0 0 [120] (atI_0 _ _) (by omega) (by omega) (by simp) h), lp_cons rfl (ae_yes n _ _ _ 1 (s.length + 1) 0 [121] (atI_1 _ _ _) (by omega) (by omega) (by simp) h), lp_cons rfl (ae_yes n _ _ _ 2 0 (s.length + 2) [122] (atI_2 _ _ _ _) (by omega) (by omega) (by simp) h), l3]
  rfl
theorem ae_four (n : Nat) (s : List Nat) (hs : s.length ≤ 100) (h : AH) : callN prog (n + 4) 9 [.v (.str s), .v (.tup [eP 0 0 [120], eP (s.length + 1) 0 [121], eP 0 (s.length + 2) [122], eP 3 0 [113]])] h = some (.v (.tup [.non, .int 3]), h) := by
  have l1 : (ed s 0 0 [120]).length = s.length + 1 := by rw [ed_len _ _ _ _ (by omega)]; simp
  have l2 : (ed (ed s 0 0 [120]) (s.length + 1) 0 [121]).length = s.length + 2 := by rw [ed_len _ _ _ _ (by omega), l1]; simp
  have l3 : ed (ed (ed s 0 0 [120]) (s.length + 1) 0 [121]) 0 (s.length + 2) [122] = [122] := by
    exact ed_all _ _ _ (by omega)
  refine ae_rt n s _ _ (by simp) h ?_
  show loopF _ _ [.int 0, .int 1, .int 2, .int 3] _ _ = _
  rw [lp_cons rfl (ae_yes n s _ none 0 0 0 [120] (atI_0 _ _) (by omega) (by omega) (by simp) h), lp_cons rfl (ae_yes n _ _ _ 1 (s.length + 1) 0 [121] (atI_1 _ _ _) (by omega) (by omega) (by simp) h), lp_cons rfl (ae_yes n _ _ _ 2 0 (s.length + 2) [122] (atI_2 _ _ _ _) (by omega) (by omega) (by simp) h), l3,
    lp_ret rfl (ae_no n _ _ _ 3 3 0 [113] (atI_3 _ _ _ _ _) (by simp) h)]
theorem ae_nil (n : Nat) (s : List Nat) (h : AH) : callN prog (n + 4) 9 [.v (.str s), .v (.tup [])] h = some (.v (.tup [.str s, .non]), h) :=
  ae_nx n s s [] (by simp) none h rfl
theorem ae_one (n : Nat) (s : List Nat) (h : AH) : callN prog (n + 4) 9 [.v (.str s), .v (.tup [eP (s.length + 1) 0 []])] h = some (.v (.tup [.non, .int 0]), h) := by
  refine ae_rt n s _ _ (by simp) h ?_
  show loopF _ _ [.int 0] _ _ = _
  rw [lp_ret rfl (ae_no n s _ none 0 (s.length + 1) 0 [] (atI_0 _ _) (by omega) h)]
end Ev

set_option Elab.async false
set_option linter.all false
set_option maxRecDepth 100000
set_option maxHeartbeats 1000000
namespace Ev
variable {N : Nat}
def kAll : List Nat := [97,108,108]
def dAll (f l : Nat) : PV := .dict [(.str kAll, .tup [.int f, .int l])]
def caE (d : PV) (es : List PV) (x y : Option SV) : En := [some (.v d), some (.v (.tup es)), x, y]
theorem ca_step (n : Nat) (f l a g : Nat) (m : List Nat) (es : List PV) (x : Option SV) (h : AH) : stepF (callN prog (n + 3)) (.nm 2) L_carried_all_0 (eP a g m) (caE (dAll f l) es x none) h = some (.nx (caE (dAll (cn f l a g m).1 (cn f l a g m).2) es (some (.v (eP a g m))) none) h) := by
  have q := carried1 n kAll f l a g m h
  simp [stepF, caE, asgT, L_carried_all_0, evSs, evS, evE, evL, rdVar, dAll, q]
theorem ca_end (n : Nat) (f l f2 l2 : Nat) (es : List PV) (x : Option SV) (h : AH) (hx : loopF (stepF (callN prog (n + 3)) (.nm 2) L_carried_all_0) (guardOk es none) es (caE (dAll f l) es none none) h = some (.nx (caE (dAll f2 l2) es x none) h)) :
    callN prog (n + 4) 8 [.v (dAll f l), .v (.tup es)] h = some (.v (dAll f2 l2), h) := by
  rw [u_carried_all]
  have e1 : evI (callN prog (n + 3)) (.var 1 false) (caE (dAll f l) es none none) h = some (es, none, h) := by
    simp [evI, caE, rdVar, walkOf, itemsP, notD]
  have q0 := (for_eq (t := .nm 2) (b := L_carried_all_0) e1).trans hx
  have q1 : evS (callN prog (n + 3)) (.ret (.blt false .dict (.cons (.comp false (.tup (.cons (.var 3 false) (.cons (.idx (.var 0 false) (.var 3 false)) .nil))) [3] (.nm 3) (.ex (.blt false .sorted (.cons (.var 0 false) .nil))) .yes) .nil))) (caE (dAll f2 l2) es x none) h = some (.rt (.v (dAll f2 l2)) h) := by
    simp [evSs, evS, evE, evL, evT, evI, evD, asgT, rdVar, peek, part, sliceP, binP, binA, cmpP, truP, bltE, blt1, blt2, lenP, mkR, mkL, mkD, retn, pvs, SV.pv, wipeE, walkOf, itemsP, notD, idxP, isKey, keyEq, dlook, dhas, dput, dictEq, okDict, mthE, mthC, mthP, mthT, argsM, isLst, changes, isiTy, smallR, finL, finD, tupP, listP, dicP, onL, inP, isP, isNon, eqP, okD, plainD, plainDs, dep, deps, eqv, eqvs, beqI, beqS, atI_0, atI_1, atI_2, caE, dAll, loopC, at_end, set_end, guardOk, sortP, strsOf, isort, insR, pairsOf, mergeP, SZ]
  have hb : evSs (callN prog (n + 3)) f_carried_all.body (caE (dAll f l) es none none) h = some (.rt (.v (dAll f2 l2)) h) := by
    show evSs _ (.cons _ (.cons _ .nil)) _ _ = _
    rw [seq q0, seqR q1]
  exact runF_ret rfl hb (by simp [retn])
theorem cn_a (n : Nat) (hn : 1 ≤ n) (c : Nat) : cn 0 n 0 0 [c] = (1, n + 1) := by
  have h1 : ¬ n ≤ 0 := by omega
  have h2 : 0 < n := by omega
  simp [cn, cnB, pl, h1, h2]
theorem cn_b (n : Nat) (hn : 1 ≤ n) (c : Nat) : cn 0 n n 0 [c] = (0, n) := by
  have h1 : ¬ 0 = n := by omega
  simp [cn, cnB, pl, h1]
theorem ca_1 (n l : Nat) (hl : 1 ≤ l) (h : AH) : callN prog (n + 4) 8 [.v (dAll 0 l), .v (.tup [eP 0 0 [120]])] h = some (.v (dAll 1 (l + 1)), h) := by
  refine ca_end n 0 l 1 (l + 1) _ (some (.v (eP 0 0 [120]))) h ?_
  have q := ca_step n 0 l 0 0 [120] [eP 0 0 [120]] none h
  rw [cn_a l hl] at q
  rw [lp_cons rfl q]
  rfl
theorem ca_2 (n l : Nat) (hl : 1 ≤ l) (h : AH) : callN prog (n + 4) 8 [.v (dAll 0 l), .v (.tup [eP l 0 [120], eP 0 0 [121]])] h = some (.v (dAll 1 (l + 1)), h) := by
  refine ca_end n 0 l 1 (l + 1) _ (some (.v (eP 0 0 [121]))) h ?_
  have q := ca_step n 0 l l 0 [120] [eP l 0 [120], eP 0 0 [121]] none h
  rw [cn_b l hl] at q
  have q2 := ca_step n 0 l 0 0 [121] [eP l 0 [120], eP 0 0 [121]] (some (.v (eP l 0 [120]))) h
  rw [cn_a l hl] at q2
  rw [lp_cons rfl q, lp_cons rfl q2]
  rfl
theorem ca_0 (n l : Nat) (h : AH) : callN prog (n + 4) 8 [.v (dAll 0 l), .v (.tup [])] h = some (.v (dAll 0 l), h) :=
  ca_end n 0 l 0 l [] none h rfl
/-! ### the rest of the law, on -/
section
variable (a g n : Nat) (s m : List Nat) (hn : s.length = n) (h1 : 1 ≤ n) (h10 : n ≤ 10) (ah hi on ot sa ex er pl' se bo : Option SV) (h : AH)
theorem r6 (hn : s.length = n) (h10 : n ≤ 10) : evS (callN prog (N + 8)) S__law_rest_6 (rE a g n s m ah hi on ot sa ex (some (.v (erP n))) pl' se bo) h = some (.nx (rE a g n s m ah hi on ot sa ex (some (.v (erP n))) pl' se bo) h) := by
  subst hn
  have q1 := ae_three (N + 4) s (by omega) h
  have q2 := ae_four (N + 4) s (by omega) h
  have q3 := ae_nil (N + 4) s h
  have t1 := sm41 (N + 7) (.tup [.str [122], .non]) h (by simp [sok, soks, okD, plainD, dep]) (by simp [nodes, nodess])
  have t2 := sm41 (N + 7) (.tup [.non, .int 3]) h (by simp [sok, soks, okD, plainD, dep]) (by simp [nodes, nodess])
  have t3 := sm41 (N + 7) (.tup [.str s, .non]) h (by simp [sok, soks, okD, plainD, dep]) (by simp [nodes, nodess])
  have sz : (3 : Nat) ≤ SZ := by decide
  have sz2 : (2 : Nat) ≤ SZ := by decide
  have sz4 : (4 : Nat) ≤ SZ := by decide
  have sz1 : (1 : Nat) ≤ SZ := by decide
  simp only [Int.natCast_add, Int.natCast_zero, Int.natCast_one, Int.cast_ofNat_Int, eP] at q1 q2
  simp [S__law_rest_6, rE, erP, evS, evSs, evT, evE, evL, rdVar, peek, binP, pvs, truP, sz, sz2, sz4, sz1, q1, q2, q3, t1, t2, t3]
theorem r7 (hn : s.length = n) : evS (callN prog (N + 8)) S__law_rest_7 (rE a g n s m ah hi on ot sa ex er pl' se bo) h = some (.nx (rE a g n s m ah hi on ot sa ex er pl' se bo) h) := by
  subst hn
  have q1 := ae_one (N + 4) s h
  have t1 := sm41 (N + 7) (.tup [.non, .int 0]) h (by simp [sok, soks, okD, plainD, dep]) (by simp [nodes, nodess])
  have sz : (3 : Nat) ≤ SZ := by decide
  have sz2 : (2 : Nat) ≤ SZ := by decide
  have sz1 : (1 : Nat) ≤ SZ := by decide
  simp only [Int.natCast_add, Int.natCast_zero, Int.natCast_one, Int.cast_ofNat_Int, eP] at q1
  simp [S__law_rest_7, rE, evS, evSs, evT, evE, evL, rdVar, peek, binP, pvs, truP, sz, sz2, sz1, q1, t1]
theorem sok_dAll (f l : Nat) : sok (dAll f l) = true ∧ nodes (dAll f l) < 100000 := by
  constructor
  · simp [dAll, sok, sokd, soks, isKey, okD, plainD, dep, dlook, keyEq, same, sames]
  · simp [dAll, nodes, nodesd, nodess]
theorem r8 (h1 : 1 ≤ n) : evS (callN prog (N + 8)) S__law_rest_8 (rE a g n s m ah hi on ot sa ex er pl' se bo) h = some (.nx (rE a g n s m ah hi on ot sa ex er pl' se bo) h) := by
  have q1 := ca_1 (N + 4) n h1 h
  have q2 := ca_2 (N + 4) n h1 h
  have t1 := sm41 (N + 7) (dAll 1 (n + 1)) h (sok_dAll _ _).1 (sok_dAll _ _).2
  have sz : (3 : Nat) ≤ SZ := by decide
  have sz2 : (2 : Nat) ≤ SZ := by decide
  have sz1 : (1 : Nat) ≤ SZ := by decide
  simp only [Int.natCast_add, Int.natCast_zero, Int.natCast_one, Int.cast_ofNat_Int, eP, dAll, kAll] at q1 q2 t1
  simp [S__law_rest_8, rE, evS, evSs, evT, evE, evL, evD, rdVar, peek, binP, pvs, truP, sz, sz2, sz1, q1, q2, t1, isKey, mergeP, finD, mkD, dput]
theorem r9 : evS (callN prog (N + 8)) S__law_rest_9 (rE a g n s m ah hi on ot sa ex er pl' se bo) h = some (.nx (rE a g n s m ah hi on ot sa ex er pl' se bo) h) := by
  have q1 := ca_0 (N + 4) n h
  have sz2 : (2 : Nat) ≤ SZ := by decide
  have sz1 : (0 : Nat) ≤ SZ := by decide
  simp only [Int.natCast_add, Int.natCast_zero, Int.natCast_one, Int.cast_ofNat_Int, eP, dAll, kAll] at q1
  simp [S__law_rest_9, rE, evS, evSs, evT, evE, evL, evD, rdVar, peek, binP, pvs, truP, sz2, sz1, q1, isKey, mergeP, finD, mkD, dput, cmpP, eqP, okDict, okD, plainD, plainDs, dep, deps, dictEq, dlook, keyEq, eqv, eqvs]
theorem r17 (ha : a + g ≤ s.length) : evS (callN prog (N + 8)) S__law_rest_17 (rE a g n s m ah hi on ot sa ex er pl' se bo) h = some (.nx (rE a g n s m ah hi on ot sa ex er pl' se bo) h) := by
  have q1 := meet_eq (N + 7) a g 1 m [] h
  have q2 := both_eq (N + 6) s m a g h
  have q3 := meet_eq (N + 7) a 0 0 [120] [121] h
  have sz3 : (3 : Nat) ≤ SZ := by decide
  simp only [Int.natCast_add, Int.natCast_zero, Int.natCast_one, Int.cast_ofNat_Int, eP] at q1 q2 q3
  by_cases hg : 0 < g
  · have hg' : (0 : Int) < (g : Int) := by omega
    simp [S__law_rest_17, rE, evS, evSs, evT, evE, evL, rdVar, peek, pvs, truP, sz3, q1, q2, q3, cmpP, isP, isNon, hg]
  · have hg' : ¬ (0 : Int) < (g : Int) := by omega
    simp [S__law_rest_17, rE, evS, evSs, evT, evE, evL, rdVar, peek, pvs, truP, sz3, q1, q2, q3, cmpP, isP, isNon, hg]
end
/-! ### two edits apart -/
section
variable (a g n : Nat) (s m : List Nat) (ah hi on ot sa ex er : Option SV)
theorem rep_q (x : Nat) (hx : x ≤ 1000) : binP .mul (.str [113]) (.int (x : Int)) = some (.str (rep [113] x)) := mulS () [113] x (by simp) hx
theorem r10 (ds : List Int) (k : Nat) (h1 : a + g + 1 < n) (pl' se bo : Option SV) : ∃ p : Nat, a + g < p ∧ p < n ∧
    evS (callN prog (N + 8)) S__law_rest_10 (rE a g n s m ah hi on ot sa ex er pl' se bo) [Wc ds k] = some (.nx (rE a g n s m ah hi on ot sa ex er (some (.v (.int (p : Int)))) se bo) [Wc ds (k + 1)]) := by
  have hp : 0 < (n : Int) - (a : Int) - (g : Int) - 1 := by omega
  obtain ⟨b, hb, hb2⟩ := nxN ds k ((n : Int) - (a : Int) - (g : Int) - 1) hp
  refine ⟨a + g + 1 + b, by omega, by omega, ?_⟩
  have w : ∀ z, rdVar false [Wc ds z] (.o 0) = some (.o 0, [Wc ds z]) := fun z => rfl
  have w2 : ∀ z p, rdVar false [Wc ds z] (.v p) = some (.v p, [Wc ds z]) := fun z p => rfl
  have q := nx41 (N + 7) ds k ((n : Int) - (a : Int) - (g : Int) - 1) [] hp
  rw [hb] at q
  simp [S__law_rest_10, rE, evS, evL, evE, w, w2, q, peek, binP, asgT]
theorem r11 (ds : List Int) (k : Nat) (p : Nat) (hp : p < n) (se bo : Option SV) : ∃ q x : Nat, p + q ≤ n ∧ x < 3 ∧
    evS (callN prog (N + 8)) S__law_rest_11 (rE a g n s m ah hi on ot sa ex er (some (.v (.int (p : Int)))) se bo) [Wc ds k] = some (.nx (rE a g n s m ah hi on ot sa ex er (some (.v (.int (p : Int)))) (some (.v (eP p q (rep [113] x)))) bo) [Wc ds (k + 2)]) := by
  have hq : 0 < (n : Int) - (p : Int) + 1 := by omega
  obtain ⟨b, hb, hb2⟩ := nxN ds k ((n : Int) - (p : Int) + 1) hq
  obtain ⟨c, hc, hc2⟩ := nxN ds (k + 1) 3 (by omega)
  refine ⟨b, c, by omega, by omega, ?_⟩
  have w : ∀ z, rdVar false [Wc ds z] (.o 0) = some (.o 0, [Wc ds z]) := fun z => rfl
  have w2 : ∀ z p, rdVar false [Wc ds z] (.v p) = some (.v p, [Wc ds z]) := fun z p => rfl
  have m1 := rep_q c (by omega)
  have sz3 : (3 : Nat) ≤ SZ := by decide
  have b0 : ∀ i j : Int, binP .add (.int i) (.int j) = some (.int (i + j)) := fun _ _ => rfl
  have b1 : ∀ i j : Int, binP .sub (.int i) (.int j) = some (.int (i - j)) := fun _ _ => rfl
  simp [S__law_rest_11, rE, evS, evL, evE, w, w2, nx41, hb, hc, peek, b0, b1, m1, hq, asgT, pvs, sz3]
theorem cut_mid2 (x : List Nat) (a g p : Nat) : cut x (some ((a : Int) + (g : Int))) (some (p : Int)) = (x.drop (a + g)).take (p - (a + g)) := by
  rw [← Int.natCast_add, cut_mid]
theorem r12 (p q : Nat) (r : List Nat) (hs : s.length ≤ 100) (hm : m.length ≤ 100) (hr : r.length ≤ 100) (bo : Option SV) (h : AH) :
    evS (callN prog (N + 8)) S__law_rest_12 (rE a g n s m ah hi on ot sa ex er (some (.v (.int (p : Int)))) (some (.v (eP p q r))) bo) h = some (.nx (rE a g n s m ah hi on ot sa ex er (some (.v (.int (p : Int)))) (some (.v (eP p q r))) (some (.v (.str (bothT s m r a g p q))))) h) := by
  have l1 : (s.take a).length ≤ 100 := by rw [List.length_take]; omega
  have l2 : ((s.drop (a + g)).take (p - (a + g))).length ≤ 100 := by rw [List.length_take, List.length_drop]; omega
  have l3 : (s.drop (p + q)).length ≤ 100 := by rw [List.length_drop]; omega
  have sum : ∀ x y : List Nat, x.length + y.length ≤ 1000 → binP .add (.str x) (.str y) = some (.str (x ++ y)) := fun x y h => by
    have : x.length + y.length ≤ SZ := by show _ ≤ 16777216; omega
    simp [binP, this]
  have s1 := sum (s.take a) m (by omega)
  have s2 := sum (s.take a ++ m) ((s.drop (a + g)).take (p - (a + g))) (by simp only [List.length_append]; omega)
  have s3 := sum (s.take a ++ m ++ (s.drop (a + g)).take (p - (a + g))) r (by simp only [List.length_append]; omega)
  have s4 := sum (s.take a ++ m ++ (s.drop (a + g)).take (p - (a + g)) ++ r) (s.drop (p + q)) (by simp only [List.length_append]; omega)
  have b0 : ∀ i j : Int, binP .add (.int i) (.int j) = some (.int (i + j)) := fun _ _ => rfl
  simp only [S__law_rest_12, rE, evS, evL, evE, rdVar, List.getElem?_cons_succ, List.getElem?_cons_zero, peek, part, sliceP, cut_to, cut_mid2, cut_add, Option.map_some, idxP, atI_1, atI_2, b0, s1, s2, s3, s4, asgT]
  rfl
theorem sok_str (x : List Nat) : sok (.str x) = true ∧ nodes (.str x) < 100000 := by
  constructor
  · simp [sok, okD, plainD, dep]
  · simp [nodes]
theorem r13 (p q : Nat) (r : List Nat) (hap : a + g < p) (hpq : p + q ≤ s.length) (hs : s.length ≤ 100) (hm : m.length ≤ 100) (hr : r.length ≤ 100) (h : AH) :
    evS (callN prog (N + 8)) S__law_rest_13 (rE a g n s m ah hi on ot sa ex er (some (.v (.int (p : Int)))) (some (.v (eP p q r))) (some (.v (.str (bothT s m r a g p q))))) h = some (.nx (rE a g n s m ah hi on ot sa ex er (some (.v (.int (p : Int)))) (some (.v (eP p q r))) (some (.v (.str (bothT s m r a g p q))))) h) := by
  have q1 := meet_lt (N + 7) a g p q m r (by omega) h
  have q2 := both_lt (N + 6) s m r a g p q hap (by omega) (by omega) (by omega) h
  have q3 := both_gt (N + 6) s m r a g p q hap (by omega) (by omega) (by omega) h
  rw [both_t1 s m r a g p q (by omega) hpq] at q2
  rw [both_t2 s m r a g p q (by omega) hpq] at q3
  have t1 := sm41 (N + 7) (.str (bothT s m r a g p q)) h (sok_str _).1 (sok_str _).2
  have hx : ¬ p < a + g := by omega
  simp [S__law_rest_13, rE, evS, evSs, evT, evE, evL, rdVar, peek, truP, q1, q2, q3, t1, hx, cmpP, isP]
theorem r14 (p q : Nat) (r : List Nat) (hap : a + g < p) (h : AH) (bo : Option SV) :
    evS (callN prog (N + 8)) S__law_rest_14 (rE a g n s m ah hi on ot sa ex er (some (.v (.int (p : Int)))) (some (.v (eP p q r))) bo) h = some (.nx (rE a g n s m ah hi on ot sa ex er (some (.v (.int (p : Int)))) (some (.v (eP p q r))) bo) h) := by
  have q1 := moved_gt (N + 7) a g p q m r (by omega) (by omega) h
  have q2 := moved_le (N + 7) a g p q m r (by omega) h
  have t1 := sm41 (N + 7) (eP (p + m.length - g) q r) h (sok_eP _ _ _).1 (sok_eP _ _ _).2
  have t2 := sm41 (N + 7) (eP a g m) h (sok_eP _ _ _).1 (sok_eP _ _ _).2
  have c1 : cut [PV.int p, PV.int q, PV.str r] (some 1) none = [.int q, .str r] := cut_from _ 1
  have e : (p : Int) + ((m.length : Int) - (g : Int)) = ((p + m.length - g : Nat) : Int) := by omega
  have sz3 : (3 : Nat) ≤ SZ := by decide
  have sz1 : (1 : Nat) ≤ SZ := by decide
  simp [S__law_rest_14, rE, evS, evSs, evT, evE, evL, rdVar, peek, truP, q1, q2, t1, t2, binP, pvs, part, sliceP, c1, e, sz3, sz1]
theorem r15 (p q : Nat) (r : List Nat) (hap : a + g < p) (hpq : p + q ≤ s.length) (hs : s.length ≤ 100) (hm : m.length ≤ 100) (hr : r.length ≤ 100) (h : AH) :
    evS (callN prog (N + 8)) S__law_rest_15 (rE a g n s m ah hi on ot sa ex er (some (.v (.int (p : Int)))) (some (.v (eP p q r))) (some (.v (.str (bothT s m r a g p q))))) h = some (.nx (rE a g n s m ah hi on ot sa ex er (some (.v (.int (p : Int)))) (some (.v (eP p q r))) (some (.v (.str (bothT s m r a g p q))))) h) := by
  have q1 := moved_gt (N + 7) a g p q m r (by omega) (by omega) h
  have q2 := moved_le (N + 7) a g p q m r (by omega) h
  have e1 := edited_ok (N + 7) s m a g h (by omega) (by omega)
  have e2 := edited_ok (N + 7) s r p q h (by omega) (by omega)
  have e3 := edited_ok (N + 7) (ed s a g m) r (p + m.length - g) q h (by rw [ed_len _ _ _ _ (by omega)]; omega) (by omega)
  have e4 := edited_ok (N + 7) (ed s p q r) m a g h (by rw [ed_len _ _ _ _ (by omega)]; omega) (by omega)
  rw [both_t1 s m r a g p q (by omega) hpq] at e3
  rw [both_t2 s m r a g p q (by omega) hpq] at e4
  have t1 := sm41 (N + 7) (.str (bothT s m r a g p q)) h (sok_str _).1 (sok_str _).2
  simp [S__law_rest_15, rE, evS, evSs, evT, evE, evL, rdVar, peek, truP, q1, q2, e1, e2, e3, e4, t1]
theorem r16 (ds : List Int) (k : Nat) (hn : s.length = n) (h10 : n ≤ 10) (hm : m.length ≤ 100) (pl' se bo : Option SV) : ∃ k' pl2 se2 bo2, evS (callN prog (N + 8)) S__law_rest_16 (rE a g n s m ah hi on ot sa ex er pl' se bo) [Wc ds k] = some (.nx (rE a g n s m ah hi on ot sa ex er pl2 se2 bo2) [Wc ds k']) := by
  by_cases hl : a + g + 1 < n
  · have t : evT (callN prog (N + 8)) (.of (.cmp .lt (.bin .add (.bin .add (.var 1 false) (.var 2 false)) (.lit (.int 1))) (.var 6 false))) (rE a g n s m ah hi on ot sa ex er pl' se bo) [Wc ds k] = some (true, [Wc ds k]) := by
      have e : (a : Int) + (g : Int) + 1 < (n : Int) := by omega
      simp [evT, evE, rE, rdVar, peek, binP, cmpP, truP, e]
    obtain ⟨p, hp1, hp2, s10⟩ := r10 (N := N) a g n s m ah hi on ot sa ex er ds k hl pl' se bo
    obtain ⟨q, x, hq, hx, s11⟩ := r11 (N := N) a g n s m ah hi on ot sa ex er ds (k + 1) p hp2 se bo
    have hr : (rep [113] x).length ≤ 100 := by rw [rep_length]; simp; omega
    have s12 := r12 (N := N) a g n s m ah hi on ot sa ex er p q (rep [113] x) (by omega) hm hr bo [Wc ds (k + 1 + 2)]
    have s13 := r13 (N := N) a g n s m ah hi on ot sa ex er p q (rep [113] x) hp1 (by omega) (by omega) hm hr [Wc ds (k + 1 + 2)]
    have s14 := r14 (N := N) a g n s m ah hi on ot sa ex er p q (rep [113] x) hp1 [Wc ds (k + 1 + 2)] (some (.v (.str (bothT s m (rep [113] x) a g p q))))
    have s15 := r15 (N := N) a g n s m ah hi on ot sa ex er p q (rep [113] x) hp1 (by omega) (by omega) hm hr [Wc ds (k + 1 + 2)]
    refine ⟨k + 1 + 2, some (.v (.int (p : Int))), some (.v (eP p q (rep [113] x))), some (.v (.str (bothT s m (rep [113] x) a g p q))), ?_⟩
    rw [S__law_rest_16]
    simp only [evS, t]
    rw [seq s10, seq s11, seq s12, seq s13, seq s14, seq s15, seqN]
  · have t : evT (callN prog (N + 8)) (.of (.cmp .lt (.bin .add (.bin .add (.var 1 false) (.var 2 false)) (.lit (.int 1))) (.var 6 false))) (rE a g n s m ah hi on ot sa ex er pl' se bo) [Wc ds k] = some (false, [Wc ds k]) := by
      have e : ¬ (a : Int) + (g : Int) + 1 < (n : Int) := by omega
      simp [evT, evE, rE, rdVar, peek, binP, cmpP, truP, e]
    refine ⟨k, pl', se, bo, ?_⟩
    rw [S__law_rest_16]
    simp only [evS, t, seqN]
def badL (n : Nat) : List PV := [.tup [.int ((n : Int) + 1), .int 0, .str []], .tup [.int 0, .int ((n : Int) + 1), .str []], .tup [.int (-1), .int 0, .str []], .tup [.int 0, .int 0], .lst [.int 0, .int 0, .str []], .tup [.int 0, .int 0, .int 5], .tup [.bl true, .int 0, .str []]]
theorem bad_ok (M : Nat) (hn : s.length = n) (h : AH) : ∀ x ∈ badL n, callN prog (M + 3) 3 [.v (.str s), .v x] h = some (.v (.bl false), h) := by
  subst hn
  intro x hx
  simp only [badL, List.mem_cons, List.not_mem_nil, or_false] at hx
  rcases hx with rfl | rfl | rfl | rfl | rfl | rfl | rfl
  · have q := is_edit_ok M s [] (s.length + 1) 0 h
    rw [decide_eq_false (by omega)] at q
    exact q
  · have q := is_edit_ok M s [] 0 (s.length + 1) h
    rw [decide_eq_false (by omega)] at q
    exact q
  all_goals
    rw [u_is_edit]
    simp [runF, startE, evSs, evS, evE, evL, evT, evI, evD, asgT, rdVar, peek, part, sliceP, binP, binA, cmpP, truP, bltE, blt1, blt2, lenP, mkR, mkL, mkD, retn, pvs, SV.pv, wipeE, walkOf, itemsP, notD, idxP, isKey, keyEq, dlook, dhas, dput, dictEq, okDict, mthE, mthC, mthP, mthT, argsM, isLst, changes, isiTy, smallR, finL, finD, tupP, listP, dicP, onL, inP, isP, isNon, eqP, okD, plainD, plainDs, dep, deps, eqv, eqvs, beqI, beqS, atI_0, atI_1, atI_2, f_is_edit, f_is_tuple_of, f_is_from, f_is_number, u_is_tuple_of, u_is_from, u_is_number]
theorem pick41 (M : Nat) (ds : List Int) (k : Nat) (xs : List PV) (hx : 0 < xs.length) : ∃ x ∈ xs, callN prog (M + 2) 19 [.o 0, .v (.lst xs)] [Wc ds k] = some (.v x, [Wc ds (k + 1)]) := by
  obtain ⟨v, hv, hv2⟩ := nxN ds k (xs.length : Int) (by omega)
  have hlt : v < xs.length := by omega
  have g := atI_nat xs v xs[v] (List.getElem?_eq_getElem hlt)
  refine ⟨xs[v], List.getElem_mem hlt, ?_⟩
  rw [u__law_pick]
  have w : ∀ z, rdVar false [Wc ds z] (.o 0) = some (.o 0, [Wc ds z]) := fun z => rfl
  have w2 : ∀ z p, rdVar false [Wc ds z] (.v p) = some (.v p, [Wc ds z]) := fun z p => rfl
  have q := nx41 M ds k (xs.length : Int) [] (by omega)
  rw [hv] at q
  simp [f__law_pick, runF, startE, evSs, evS, evE, evL, w, w2, bltE, peek, blt1, lenP, mkR, q, idxP, g, retn]
theorem r18 (ds : List Int) (k : Nat) (hn : s.length = n) (pl' se bo : Option SV) : evS (callN prog (N + 8)) S__law_rest_18 (rE a g n s m ah hi on ot sa ex er pl' se bo) [Wc ds k] = some (.nx (rE a g n s m ah hi on ot sa ex er pl' se bo) [Wc ds (k + 1)]) := by
  obtain ⟨x, hx, q⟩ := pick41 (N + 6) ds k (badL n) (by simp [badL])
  have q2 := bad_ok n s (N + 5) hn [Wc ds (k + 1)] x hx
  have w : ∀ z, rdVar false [Wc ds z] (.o 0) = some (.o 0, [Wc ds z]) := fun z => rfl
  have w2 : ∀ z p, rdVar false [Wc ds z] (.v p) = some (.v p, [Wc ds z]) := fun z p => rfl
  have sz7 : (7 : Nat) ≤ SZ := by decide
  have sz3 : (3 : Nat) ≤ SZ := by decide
  have sz2 : (2 : Nat) ≤ SZ := by decide
  unfold badL at q
  simp [S__law_rest_18, rE, evS, evSs, evT, evE, evL, w, w2, peek, binP, pvs, mkL, sz7, sz3, sz2, q, q2, cmpP, isP, truP]
/-- the rest of the law holds -/
theorem rest_ok (ds : List Int) (k : Nat) (hn : s.length = n) (h1 : 1 ≤ n) (h10 : n ≤ 10) (ha : a + g ≤ n) (hm : m.length ≤ 100) : ∃ k', callN prog (N + 9) 22 [.o 0, .v (.int a), .v (.int g), .v (eP a g m), .v (.int ((m.length : Int) - (g : Int))), .v (.str m), .v (.int n), .v (.str s)] [Wc ds k] = some (.v (.bl true), [Wc ds k']) := by
  obtain ⟨b, c, d, e, hb, hc, hd, he, s0⟩ := r0 (N := N) ds k a g n s m none none none none none none none none none none
  have lb : (rep [119,101,32] b).length ≤ 100 := by rw [rep_length]; simp; omega
  have lc : (rep [32,103,111] c).length ≤ 100 := by rw [rep_length]; simp; omega
  have ld : (rep [108] d).length ≤ 100 := by rw [rep_length]; simp; omega
  have le : (rep [114] e).length ≤ 100 := by rw [rep_length]; simp; omega
  have hE := fun hne C h => eb1 b c d e hb hc hd he hne C h
  have s1 := r1 (N := N) a g n s m (rep [119,101,32] b) (rep [32,103,111] c) (rep [108] d) (rep [114] e) lb lc ld le hE none none none none none none [Wc ds (k + 4)]
  obtain ⟨p, x, hp, hx1, hx, s2⟩ := r2 (N := N) ds (k + 4) a g n s m (some (.v (.str (rep [119,101,32] b)))) (some (.v (.str (rep [32,103,111] c)))) (some (.v (.str (rep [108] d)))) (some (.v (.str (rep [114] e)))) none none none none none none
  have s3 := r3 (N := N) a g n s m (some (.v (.str (rep [119,101,32] b)))) (some (.v (.str (rep [32,103,111] c)))) (some (.v (.str (rep [108] d)))) (some (.v (.str (rep [114] e)))) p x hp hx none none none none [Wc ds (k + 4 + 2)] (fun C h => eb2 p x hp hx hx1 C h) (fun C h => eb3 p x hp hx hx1 C h)
  have s4 := r4 (N := N) a g n s m (rep [119,101,32] b) (rep [32,103,111] c) (rep [108] d) (rep [114] e) lb lc ld le hE (some (.v (.int (p : Int)))) (some (.v (.int (x : Int)))) none none none none [Wc ds (k + 4 + 2)]
  have s5 := r5 (N := N) a g n s m (some (.v (.str (rep [119,101,32] b)))) (some (.v (.str (rep [32,103,111] c)))) (some (.v (.str (rep [108] d)))) (some (.v (.str (rep [114] e)))) (some (.v (.int (p : Int)))) (some (.v (.int (x : Int)))) none none none none [Wc ds (k + 4 + 2)]
  have s6 := r6 (N := N) a g n s m (some (.v (.str (rep [119,101,32] b)))) (some (.v (.str (rep [32,103,111] c)))) (some (.v (.str (rep [108] d)))) (some (.v (.str (rep [114] e)))) (some (.v (.int (p : Int)))) (some (.v (.int (x : Int)))) none none none [Wc ds (k + 4 + 2)] hn h10
  have s7 := r7 (N := N) a g n s m (some (.v (.str (rep [119,101,32] b)))) (some (.v (.str (rep [32,103,111] c)))) (some (.v (.str (rep [108] d)))) (some (.v (.str (rep [114] e)))) (some (.v (.int (p : Int)))) (some (.v (.int (x : Int)))) (some (.v (erP n))) none none none [Wc ds (k + 4 + 2)] hn
  have s8 := r8 (N := N) a g n s m (some (.v (.str (rep [119,101,32] b)))) (some (.v (.str (rep [32,103,111] c)))) (some (.v (.str (rep [108] d)))) (some (.v (.str (rep [114] e)))) (some (.v (.int (p : Int)))) (some (.v (.int (x : Int)))) (some (.v (erP n))) none none none [Wc ds (k + 4 + 2)] h1
  have s9 := r9 (N := N) a g n s m (some (.v (.str (rep [119,101,32] b)))) (some (.v (.str (rep [32,103,111] c)))) (some (.v (.str (rep [108] d)))) (some (.v (.str (rep [114] e)))) (some (.v (.int (p : Int)))) (some (.v (.int (x : Int)))) (some (.v (erP n))) none none none [Wc ds (k + 4 + 2)]
  obtain ⟨k', pl2, se2, bo2, s16⟩ := r16 (N := N) a g n s m (some (.v (.str (rep [119,101,32] b)))) (some (.v (.str (rep [32,103,111] c)))) (some (.v (.str (rep [108] d)))) (some (.v (.str (rep [114] e)))) (some (.v (.int (p : Int)))) (some (.v (.int (x : Int)))) (some (.v (erP n))) ds (k + 4 + 2) hn h10 hm none none none
  have s17 := r17 (N := N) a g n s m (some (.v (.str (rep [119,101,32] b)))) (some (.v (.str (rep [32,103,111] c)))) (some (.v (.str (rep [108] d)))) (some (.v (.str (rep [114] e)))) (some (.v (.int (p : Int)))) (some (.v (.int (x : Int)))) (some (.v (erP n))) pl2 se2 bo2 [Wc ds k'] (by omega)
  have s18 := r18 (N := N) a g n s m (some (.v (.str (rep [119,101,32] b)))) (some (.v (.str (rep [32,103,111] c)))) (some (.v (.str (rep [108] d)))) (some (.v (.str (rep [114] e)))) (some (.v (.int (p : Int)))) (some (.v (.int (x : Int)))) (some (.v (erP n))) ds k' hn pl2 se2 bo2
  refine ⟨k' + 1, ?_⟩
  rw [u__law_rest]
  have s19 : ∀ E, evS (callN prog (N + 8)) S__law_rest_19 E [Wc ds (k' + 1)] = some (.rt (.v (.bl true)) [Wc ds (k' + 1)]) := fun E => by simp [S__law_rest_19, evS, evE]
  have hb : evSs (callN prog (N + 8)) f__law_rest.body (rE a g n s m none none none none none none none none none none) [Wc ds k] = some (.rt (.v (.bl true)) [Wc ds (k' + 1)]) := by
    show evSs _ (.cons S__law_rest_0 (.cons S__law_rest_1 (.cons S__law_rest_2 (.cons S__law_rest_3 (.cons S__law_rest_4 (.cons S__law_rest_5 (.cons S__law_rest_6 (.cons S__law_rest_7 (.cons S__law_rest_8 (.cons S__law_rest_9 (.cons S__law_rest_16 (.cons S__law_rest_17 (.cons S__law_rest_18 (.cons S__law_rest_19 .nil)))))))))))))) _ _ = _
    rw [seq s0, seq s1, seq s2, seq s3, seq s4, seq s5, seq s6, seq s7, seq s8, seq s9, seq s16, seq s17, seq s18, seqR (s19 _)]
  exact runF_ret rfl hb (by simp [retn])
end
end Ev

set_option Elab.async false
set_option linter.all false
set_option maxRecDepth 100000
set_option maxHeartbeats 1000000
namespace Ev
variable {N : Nat}
def lE (x0 x2 x3 x4 x5 x6 x7 x8 x9 x10 x11 x12 x13 x14 x15 : Option SV) : En := [x0, some (.o 0), x2, x3, x4, x5, x6, x7, x8, x9, x10, x11, x12, x13, x14, x15]
abbrev iS (i : Int) : Option SV := some (.v (.int i))
abbrev zS (s : List Nat) : Option SV := some (.v (.str s))
theorem w41 (ds : List Int) (z : Nat) : rdVar false [Wc ds z] (.o 0) = some (.o 0, [Wc ds z]) := rfl
theorem w42 (h : AH) (p : PV) : rdVar false h (.v p) = some (.v p, h) := rfl
theorem bAdd (i j : Int) : binP .add (.int i) (.int j) = some (.int (i + j)) := rfl
theorem bSub (i j : Int) : binP .sub (.int i) (.int j) = some (.int (i - j)) := rfl
theorem b1 (ds : List Int) (k : Nat) (x0 x2 x3 x4 x5 x6 x7 x8 x9 x10 x11 x12 x13 x14 x15 : Option SV) : ∃ n : Nat, 1 ≤ n ∧ n ≤ 10 ∧ evS (callN prog (N + 10)) S_law_1 (lE x0 x2 x3 x4 x5 x6 x7 x8 x9 x10 x11 x12 x13 x14 x15) [Wc ds k] = some (.nx (lE x0 x2 (iS n) x4 x5 x6 x7 x8 x9 x10 x11 x12 x13 x14 x15) [Wc ds (k + 1)]) := by
  obtain ⟨b, hb, hb2⟩ := nxN ds k 10 (by omega)
  refine ⟨1 + b, by omega, by omega, ?_⟩
  simp [S_law_1, lE, evS, evE, evL, w41, nx41, hb, peek, binP, asgT]
def abc : List Nat := [97,98,99,100,101,102,103,104,105,106]
theorem b2 (n : Nat) (h : AH) (x0 x2 x4 x5 x6 x7 x8 x9 x10 x11 x12 x13 x14 x15 : Option SV) : evS (callN prog (N + 10)) S_law_2 (lE x0 x2 (iS n) x4 x5 x6 x7 x8 x9 x10 x11 x12 x13 x14 x15) h = some (.nx (lE x0 x2 (iS n) (zS (abc.take n)) x5 x6 x7 x8 x9 x10 x11 x12 x13 x14 x15) h) := by
  simp [S_law_2, lE, evS, evE, evL, rdVar, peek, part, sliceP, cut_to, abc, asgT]
theorem b3 (ds : List Int) (k n : Nat) (x0 x2 x4 x5 x6 x7 x8 x9 x10 x11 x12 x13 x14 x15 : Option SV) : ∃ a : Nat, a ≤ n ∧ evS (callN prog (N + 10)) S_law_3 (lE x0 x2 (iS n) x4 x5 x6 x7 x8 x9 x10 x11 x12 x13 x14 x15) [Wc ds k] = some (.nx (lE x0 x2 (iS n) x4 (iS a) x6 x7 x8 x9 x10 x11 x12 x13 x14 x15) [Wc ds (k + 1)]) := by
  have hp : 0 < (n : Int) + 1 := by omega
  obtain ⟨b, hb, hb2⟩ := nxN ds k ((n : Int) + 1) hp
  have q := nx41 (N + 9) ds k ((n : Int) + 1) [] hp
  rw [hb] at q
  refine ⟨b, by omega, ?_⟩
  simp [S_law_3, lE, evS, evE, evL, w41, w42, q, peek, bAdd, asgT]
theorem low4 (v : Nat) (hv : v < 4) : ∃ t, lowP (([88,89,90] : List Nat).take v) = some t ∧ t.length ≤ 3 := by
  match v, hv with
  | 0, _ => exact ⟨[], rfl, by decide⟩
  | 1, _ => exact ⟨[120], rfl, by decide⟩
  | 2, _ => exact ⟨[120, 121], rfl, by decide⟩
  | 3, _ => exact ⟨[120, 121, 122], rfl, by decide⟩
theorem b4 (ds : List Int) (k n a : Nat) (ha : a ≤ n) (x0 x2 x4 x6 x7 x8 x9 x10 x11 x12 x13 x14 x15 : Option SV) : ∃ (g : Nat) (m : List Nat), a + g ≤ n ∧ m.length ≤ 100 ∧ evS (callN prog (N + 10)) S_law_4 (lE x0 x2 (iS n) x4 (iS a) x6 x7 x8 x9 x10 x11 x12 x13 x14 x15) [Wc ds k] = some (.nx (lE x0 x2 (iS n) x4 (iS a) (iS g) (zS m) x8 x9 x10 x11 x12 x13 x14 x15) [Wc ds (k + 2)]) := by
  have hp : 0 < (n : Int) - (a : Int) + 1 := by omega
  obtain ⟨b, hb, hb2⟩ := nxN ds k ((n : Int) - (a : Int) + 1) hp
  obtain ⟨c, hc, hc2⟩ := nxN ds (k + 1) 4 (by omega)
  obtain ⟨t, ht, hl⟩ := low4 c (by omega)
  have q := nx41 (N + 9) ds k ((n : Int) - (a : Int) + 1) [] hp
  rw [hb] at q
  have mm := mulS () t 2 (by omega) (by omega)
  refine ⟨b, rep t 2, by omega, by rw [rep_length]; omega, ?_⟩
  have cc := cut_to ([88,89,90] : List Nat) c
  have mm' : binP .mul (.str t) (.int 2) = some (.str (rep t 2)) := mm
  simp [S_law_4, lE, evS, evE, evL, w41, w42, q, nx41, hc, peek, bAdd, bSub, part, sliceP, cc, changes, mthT, mthP, pvs, ht, mm']
theorem b5 (n a g : Nat) (m : List Nat) (h : AH) (x0 x2 x4 x8 x9 x10 x11 x12 x13 x14 x15 : Option SV) : evS (callN prog (N + 10)) S_law_5 (lE x0 x2 (iS n) x4 (iS a) (iS g) (zS m) x8 x9 x10 x11 x12 x13 x14 x15) h = some (.nx (lE x0 x2 (iS n) x4 (iS a) (iS g) (zS m) (some (.v (eP a g m))) x9 x10 x11 x12 x13 x14 x15) h) := by
  have sz3 : (3 : Nat) ≤ SZ := by decide
  simp [S_law_5, lE, evS, evE, evL, w42, pvs, sz3, asgT]
theorem b6 (n a g : Nat) (s m : List Nat) (hs : s.length ≤ 100) (hm : m.length ≤ 100) (h : AH) (x0 x2 x9 x10 x11 x12 x13 x14 x15 : Option SV) : evS (callN prog (N + 10)) S_law_6 (lE x0 x2 (iS n) (zS s) (iS a) (iS g) (zS m) (some (.v (eP a g m))) x9 x10 x11 x12 x13 x14 x15) h = some (.nx (lE x0 x2 (iS n) (zS s) (iS a) (iS g) (zS m) (some (.v (eP a g m))) (zS (ed s a g m)) x10 x11 x12 x13 x14 x15) h) := by
  have q := set_ok (N + 9) s m a g h (by omega) (by omega)
  simp [S_law_6, lE, evS, evE, evL, w42, q, asgT]
/-- the names after the first seven statements -/
def mE1 (x0 x2 : Option SV) (n a g : Nat) (s m : List Nat) (x11 x12 x13 x14 x15 : Option SV) : En := lE x0 x2 (iS n) (zS s) (iS a) (iS g) (zS m) (some (.v (eP a g m))) (zS (ed s a g m)) (iS ((m.length : Int) - (g : Int))) x11 x12 x13 x14 x15
theorem b7 (n a g : Nat) (s m : List Nat) (h : AH) (x0 x2 x10 x11 x12 x13 x14 x15 : Option SV) : evS (callN prog (N + 10)) S_law_7 (lE x0 x2 (iS n) (zS s) (iS a) (iS g) (zS m) (some (.v (eP a g m))) (zS (ed s a g m)) x10 x11 x12 x13 x14 x15) h = some (.nx (mE1 x0 x2 n a g s m x11 x12 x13 x14 x15) h) := by
  simp [S_law_7, mE1, lE, evS, evE, evL, w42, bltE, peek, blt1, lenP, mkR, bSub, asgT]
section
variable (n a g : Nat) (s m : List Nat) (hn : s.length = n) (ha : a + g ≤ n) (h10 : n ≤ 10) (hm : m.length ≤ 100) (x0 x2 x11 x12 x13 x14 x15 : Option SV)
theorem b8 (hn : s.length = n) (ha : a + g ≤ n) (h10 : n ≤ 10) (hm : m.length ≤ 100) (h : AH) : evS (callN prog (N + 10)) S_law_8 (mE1 x0 x2 n a g s m x11 x12 x13 x14 x15) h = some (.nx (mE1 x0 x2 n a g s m x11 x12 x13 x14 x15) h) := by
  have q1 := is_edit_ok (N + 7) s m a g h
  rw [decide_eq_true (by omega)] at q1
  have q2 := edited_ok (N + 9) s m a g h (by omega) (by omega)
  have q3 := turned_ok (N + 9) s m a g h
  have q4 := edited_ok (N + 9) (ed s a g m) ((s.drop a).take g) a m.length h (by rw [ed_len _ _ _ _ (by omega)]; omega) (by rw [List.length_take]; omega)
  rw [ed_back s m a g (by omega)] at q4
  have t1 := sm41 (N + 9) (.str (ed s a g m)) h (sok_str _).1 (sok_str _).2
  have t2 := sm41 (N + 9) (.str s) h (sok_str _).1 (sok_str _).2
  simp [S_law_8, mE1, lE, evS, evSs, evT, evE, evL, w42, peek, truP, cmpP, isP, q1, q2, q3, q4, t1, t2]
theorem b9 (h : AH) : evS (callN prog (N + 10)) S_law_9 (mE1 x0 x2 n a g s m x11 x12 x13 x14 x15) h = some (.nx (mE1 x0 x2 n a g s m x11 x12 x13 x14 x15) h) := by
  have q3 := turned_ok (N + 9) s m a g h
  have t1 := sm41 (N + 9) (eP a m.length ((s.drop a).take g)) h (sok_eP _ _ _).1 (sok_eP _ _ _).2
  have sz3 : (3 : Nat) ≤ SZ := by decide
  simp [S_law_9, mE1, lE, evS, evSs, evT, evE, evL, w42, peek, truP, bltE, blt1, lenP, mkR, part, sliceP, bAdd, cut_part, pvs, sz3, q3, t1]
theorem b10 (ds : List Int) (k : Nat) : ∃ f : Nat, f ≤ a ∧ evS (callN prog (N + 10)) S_law_10 (mE1 x0 x2 n a g s m x11 x12 x13 x14 x15) [Wc ds k] = some (.nx (mE1 x0 x2 n a g s m (iS f) x12 x13 x14 x15) [Wc ds (k + 1)]) := by
  have hp : 0 < (a : Int) + 1 := by omega
  obtain ⟨b, hb, hb2⟩ := nxN ds k ((a : Int) + 1) hp
  have q := nx41 (N + 9) ds k ((a : Int) + 1) [] hp
  rw [hb] at q
  refine ⟨b, by omega, ?_⟩
  simp [S_law_10, mE1, lE, evS, evE, evL, w41, w42, q, peek, bAdd, asgT]
theorem b11 (ds : List Int) (k f : Nat) (ha : a + g ≤ n) : ∃ l : Nat, a + g ≤ l ∧ l ≤ n ∧ evS (callN prog (N + 10)) S_law_11 (mE1 x0 x2 n a g s m (iS f) x12 x13 x14 x15) [Wc ds k] = some (.nx (mE1 x0 x2 n a g s m (iS f) (iS l) x13 x14 x15) [Wc ds (k + 1)]) := by
  have hp : 0 < (n : Int) - (a : Int) - (g : Int) + 1 := by omega
  obtain ⟨b, hb, hb2⟩ := nxN ds k ((n : Int) - (a : Int) - (g : Int) + 1) hp
  have q := nx41 (N + 9) ds k ((n : Int) - (a : Int) - (g : Int) + 1) [] hp
  rw [hb] at q
  refine ⟨a + g + b, by omega, by omega, ?_⟩
  simp [S_law_11, mE1, lE, evS, evE, evL, w41, w42, q, peek, bAdd, bSub, asgT]
def kA : List Nat := [97,104,101,97,100]
def kB : List Nat := [98,101,104,105,110,100]
def tP (a g l n : Nat) (m : List Nat) : PV := .dict [(.str kA, nP (cn 0 (a - 1) a g m)), (.str kB, nP (cn l n a g m))]
theorem b12 (f l : Nat) (h : AH) : evS (callN prog (N + 10)) S_law_12 (mE1 x0 x2 n a g s m (iS f) (iS l) x13 x14 x15) h = some (.nx (mE1 x0 x2 n a g s m (iS f) (iS l) (some (.v (tP a g l n m))) x14 x15) h) := by
  have q := carried2 (N + 7) kA kB (by decide) 0 (a - 1) l n a g m h
  have e : (if (1 : Int) < (a : Int) then (a : Int) - 1 else 0) = ((a - 1 : Nat) : Int) := by split <;> omega
  have sz2 : (2 : Nat) ≤ SZ := by decide
  simp only [Int.natCast_zero, kA, kB, Int.cast_ofNat_Int] at q
  simp [S_law_12, mE1, lE, evS, evE, evL, evD, w42, peek, bltE, blt2, bSub, e, pvs, sz2, isKey, mergeP, dput, keyEq, finD, q, asgT, tP, kA, kB]
theorem cn_ahead (ha : 0 < a) : cn 0 (a - 1) a g m = (0, a - 1) := by
  have h1 : ¬ 0 = a := by omega
  have h2 : a - 1 ≤ a := by omega
  simp [cn, cnB, pl, h1, h2]
theorem cn_behind (l : Nat) (hl : a + g < l) (hln : l ≤ n) : cn l n a g m = (l + m.length - g, n + m.length - g) := by
  have h1 : ¬ l = a := by omega
  have h2 : ¬ l ≤ a := by omega
  have h3 : ¬ n ≤ a := by omega
  have h4 : a + g ≤ l := by omega
  have h5 : a + g ≤ n := by omega
  simp [cn, cnB, pl, h1, h2, h3, h4, h5]
  omega
theorem cn_around (f l : Nat) (hf : f < a) (hl : a + g < l) : cn f l a g m = (f, l + m.length - g) := by
  have h1 : ¬ f = a := by omega
  have h2 : f ≤ a := by omega
  have h3 : ¬ l ≤ a := by omega
  have h4 : a + g ≤ l := by omega
  simp [cn, cnB, pl, h1, h2, h3, h4]
  omega
theorem cn_gone (hg : 0 < g) : cn a (a + g) a g m = (a + m.length, a + m.length) := by
  have h1 : ¬ g = 0 := by omega
  have h2 : a + g + m.length - g = a + m.length := by omega
  have h3 : ¬ a + g ≤ a := by omega
  simp [cn, cnB, pl, h1, hg, h2, h3]
theorem nP_eq (p q : Nat) : nP (p, q) = .tup [.int p, .int q] := rfl
theorem sok_nP (p q : Nat) : sok (.tup [.int (p : Int), .int (q : Int)]) = true ∧ nodes (.tup [.int (p : Int), .int (q : Int)]) < 100000 := by
  constructor
  · simp [sok, soks, okD, plainD, dep]
  · simp [nodes, nodess]
theorem b13 (f l : Nat) (hal : a + g ≤ l) (hln : l ≤ n) (h : AH) : evS (callN prog (N + 10)) S_law_13 (mE1 x0 x2 n a g s m (iS f) (iS l) (some (.v (tP a g l n m))) x14 x15) h = some (.nx (mE1 x0 x2 n a g s m (iS f) (iS l) (some (.v (tP a g l n m))) x14 x15) h) := by
  have sz2 : (2 : Nat) ≤ SZ := by decide
  have ta : evT (callN prog (N + 10)) (.boo true (.of (.cmp .gt (.var 5 false) (.lit (.int 0)))) (.of (.cmp .ne (.idx (.var 13 false) (.lit (.str [97,104,101,97,100]))) (.tup (.cons (.lit (.int 0)) (.cons (.bin .sub (.var 5 false) (.lit (.int 1))) .nil)))))) (mE1 x0 x2 n a g s m (iS f) (iS l) (some (.v (tP a g l n m))) x14 x15) h = some (false, h) := by
    by_cases h0 : 0 < a
    · have e : ((a - 1 : Nat) : Int) = (a : Int) - 1 := by omega
      have h0' : (0 : Int) < (a : Int) := by omega
      simp [evT, evE, evL, mE1, lE, w42, peek, cmpP, truP, h0, tP, cn_ahead a g m h0, idxP, isKey, dlook, keyEq, kA, kB, bSub, pvs, sz2, nP, e, eqP, okD, plainD, plainDs, dep, deps, eqv, eqvs]
    · have h0' : ¬ (0 : Int) < (a : Int) := by omega
      simp [evT, evE, evL, mE1, lE, w42, peek, cmpP, truP, h0]
  have tb : evT (callN prog (N + 10)) (.boo true (.of (.cmp .gt (.var 12 false) (.bin .add (.var 5 false) (.var 6 false)))) (.not (.of (.call 20 (.cons (.idx (.var 13 false) (.lit (.str [98,101,104,105,110,100]))) (.cons (.tup (.cons (.bin .add (.var 12 false) (.var 10 false)) (.cons (.bin .add (.var 3 false) (.var 10 false)) .nil))) .nil)))))) (mE1 x0 x2 n a g s m (iS f) (iS l) (some (.v (tP a g l n m))) x14 x15) h = some (false, h) := by
    by_cases h0 : a + g < l
    · have h0' : (a : Int) + (g : Int) < (l : Int) := by omega
      have e1 : (l : Int) + ((m.length : Int) - (g : Int)) = ((l + m.length - g : Nat) : Int) := by omega
      have e2 : (n : Int) + ((m.length : Int) - (g : Int)) = ((n + m.length - g : Nat) : Int) := by omega
      have t := sm41 (N + 9) (.tup [.int ((l + m.length - g : Nat) : Int), .int ((n + m.length - g : Nat) : Int)]) h (sok_nP _ _).1 (sok_nP _ _).2
      simp [evT, evE, evL, mE1, lE, w42, peek, cmpP, truP, bAdd, h0', tP, cn_behind n a g m l h0 hln, idxP, isKey, dlook, keyEq, kA, kB, e1, e2, pvs, sz2, nP, t]
    · have h0' : ¬ (a : Int) + (g : Int) < (l : Int) := by omega
      simp [evT, evE, evL, mE1, lE, w42, peek, cmpP, truP, bAdd, h0']
  rw [S_law_13]
  simp only [evS, boo_f ta, tb, seqN]
/-! ### texts again -/
theorem sl_mid (f l : Nat) (hf : f < a) (hl : a + g < l) (hls : l ≤ s.length) : sl (ed s a g m) f (l + m.length - g) = ed ((s.drop f).take (l - f)) (a - f) g m := by
  obtain ⟨A, B, G, Q, R, rfl, rfl, hB, hG, hQ⟩ := split5 s f (a - f) a (l - a) (by omega) (by omega)
  -- A: ahead of f; B: up to a; G: nothing; Q: from a to l; R: the rest
  have hG0 : G = [] := List.eq_nil_of_length_eq_zero (by omega)
  subst hG0
  obtain ⟨Q1, Q2, rfl, hq1⟩ : ∃ Q1 Q2 : List Nat, Q = Q1 ++ Q2 ∧ Q1.length = g := ⟨Q.take g, Q.drop g, (List.take_append_drop g Q).symm, by rw [List.length_take]; omega⟩
  have d1 : (A ++ (B ++ ([] ++ ((Q1 ++ Q2) ++ R)))).take a = A ++ B := by
    rw [show A ++ (B ++ ([] ++ ((Q1 ++ Q2) ++ R))) = (A ++ B) ++ (Q1 ++ Q2 ++ R) by simp, List.take_left' (by simp only [List.length_append]; omega)]
  have d2 : (A ++ (B ++ ([] ++ ((Q1 ++ Q2) ++ R)))).drop (a + g) = Q2 ++ R := by
    rw [show A ++ (B ++ ([] ++ ((Q1 ++ Q2) ++ R))) = (A ++ B ++ Q1) ++ (Q2 ++ R) by simp, List.drop_left' (by simp only [List.length_append]; omega)]
  have d3 : (A ++ (B ++ ([] ++ ((Q1 ++ Q2) ++ R)))).drop A.length = B ++ Q1 ++ Q2 ++ R := by
    rw [List.drop_left]; simp
  have d4 : (B ++ Q1 ++ Q2 ++ R).take (l - A.length) = B ++ Q1 ++ Q2 := by
    rw [List.take_left' (by simp only [List.length_append] at *; omega)]
  have d5 : (B ++ Q1 ++ Q2).take (a - A.length) = B := by
    rw [show B ++ Q1 ++ Q2 = B ++ (Q1 ++ Q2) by simp, List.take_left' hB]
  have d6 : (B ++ Q1 ++ Q2).drop (a - A.length + g) = Q2 := by
    rw [List.drop_left' (by simp only [List.length_append]; omega)]
  unfold sl ed
  rw [d1, d2, d3, d4, d5, d6]
  rw [show A ++ B ++ m ++ (Q2 ++ R) = A ++ (B ++ m ++ Q2 ++ R) by simp, List.drop_left, List.take_left' (by simp only [List.length_append] at *; omega)]
theorem b14 (hn : s.length = n) (h10 : n ≤ 10) (hm : m.length ≤ 100) (f l : Nat) (hfa : f ≤ a) (hal : a + g ≤ l) (hln : l ≤ n) (h : AH) : ∃ y14, evS (callN prog (N + 10)) S_law_14 (mE1 x0 x2 n a g s m (iS f) (iS l) x13 x14 x15) h = some (.nx (mE1 x0 x2 n a g s m (iS f) (iS l) x13 y14 x15) h) := by
  by_cases h0 : f < a ∧ a + g < l
  · obtain ⟨h1, h2⟩ := h0
    have h1' : (f : Int) < (a : Int) := by omega
    have h2' : (a : Int) + (g : Int) < (l : Int) := by omega
    have q := carried1 (N + 7) [97,114,111,117,110,100] f l a g m h
    rw [cn_around a g m f l h1 h2] at q
    have e1 : (l : Int) + ((m.length : Int) - (g : Int)) = ((l + m.length - g : Nat) : Int) := by omega
    have e3 : (a : Int) - (f : Int) = ((a - f : Nat) : Int) := by omega
    have t := sm41 (N + 9) (.tup [.int (f : Int), .int ((l + m.length - g : Nat) : Int)]) h (sok_nP _ _).1 (sok_nP _ _).2
    have q2 := noted_one (N + 9) (ed s a g m) [97,114,111,117,110,100] f (l + m.length - g) h
    rw [sl_mid a g s m f l h1 h2 (by omega)] at q2
    have q3 := set_ok (N + 9) ((s.drop f).take (l - f)) m (a - f) g h (by rw [List.length_take, List.length_drop]; omega) (by omega)
    have t2 := sm41 (N + 9) (.str (ed ((s.drop f).take (l - f)) (a - f) g m)) h (sok_str _).1 (sok_str _).2
    have sz2 : (2 : Nat) ≤ SZ := by decide
    have sz3 : (3 : Nat) ≤ SZ := by decide
    refine ⟨some (.v (.tup [.int (f : Int), .int ((l + m.length - g : Nat) : Int)])), ?_⟩
    simp [S_law_14, mE1, lE, evS, evSs, evT, evE, evL, evD, w42, peek, truP, cmpP, bAdd, bSub, h1, h2', isKey, mergeP, dput, keyEq, finD, pvs, sz2, sz3, q, idxP, dlook, nP, asgT, e1, e3, t, q2, q3, t2, part, sliceP, cut_mid]
  · refine ⟨x14, ?_⟩
    by_cases h1 : f < a
    · have h2 : ¬ a + g < l := fun z => h0 ⟨h1, z⟩
      have h2' : ¬ (a : Int) + (g : Int) < (l : Int) := by omega
      simp [S_law_14, mE1, lE, evS, evSs, evT, evE, evL, w42, peek, truP, cmpP, bAdd, h1, h2']
    · simp [S_law_14, mE1, lE, evS, evSs, evT, evE, evL, w42, peek, truP, cmpP, bAdd, h1]
end
end Ev

set_option Elab.async false
set_option linter.all false
set_option maxRecDepth 100000
set_option maxHeartbeats 1000000
namespace Ev
variable {N : Nat}
section
variable (n a g : Nat) (s m : List Nat) (x0 x2 x11 x12 x13 x14 x15 : Option SV)
def kIt : List Nat := [105,116]
theorem lost_it (hn : s.length = n) (ha : a + g ≤ n) (hg : 0 < g) : lostB s a (a + g) a g m = true := by
  unfold lostB
  rw [cn_gone a g m hg]
  have h1 : sl s a (a + g) ≠ [] := by
    intro h
    have := congrArg List.length h
    unfold sl at this
    rw [List.length_take, List.length_drop] at this
    simp at this
    omega
  have h2 : sl (ed s a g m) (a + m.length) (a + m.length) = [] := by
    unfold sl
    rw [Nat.sub_self, List.take_zero]
  rw [h2]
  simp [h1]
theorem lost_all (hn : s.length = n) (h1 : 1 ≤ n) (ha : a + g ≤ n) (hg : 0 < g) : lostB s 0 n a g m = decide (g = n) := by
  unfold lostB
  have e1 : (sl s 0 n).isEmpty = false := by
    rw [Bool.eq_false_iff]
    intro h
    rw [List.isEmpty_iff] at h
    have := congrArg List.length h
    unfold sl at this
    rw [List.length_take, List.length_drop, List.length_nil] at this
    omega
  have hl : (ed s a g m).length = n - g + m.length := by rw [ed_len _ _ _ _ (by omega), hn]
  have key : ∀ b e : Nat, b ≤ e → e ≤ n - g + m.length → (sl (ed s a g m) b e).isEmpty = decide (b = e) := fun b e hbe he => by
    have l : (sl (ed s a g m) b e).length = e - b := by
      unfold sl
      rw [List.length_take, List.length_drop, hl]
      omega
    by_cases hb : b = e
    · rw [decide_eq_true hb, List.isEmpty_iff]
      exact List.eq_nil_of_length_eq_zero (by omega)
    · rw [decide_eq_false hb, Bool.eq_false_iff]
      intro h
      rw [List.isEmpty_iff] at h
      rw [h] at l
      simp at l
      omega
  have hna : ¬ n ≤ a := by omega
  have e2 : pl n a g m false = n + m.length - g := by simp [pl, hna, ha]
  by_cases h0 : a = 0
  · subst h0
    have hc : cn 0 n 0 g m = (m.length, n + m.length - g) := by
      have : (0 : Nat) < n := by omega
      simp [cn, cnB, this, e2]
      omega
    rw [hc, e1, key _ _ (by omega) (by omega)]
    simp only [Bool.not_false, Bool.true_and, decide_eq_decide]
    omega
  · have hc : cn 0 n a g m = (0, n + m.length - g) := by
      have h2 : ¬ 0 = a := by omega
      have h3 : pl 0 a g m true = 0 := by simp [pl]
      simp [cn, cnB, h2, h3, e2]
    rw [hc, e1, key _ _ (by omega) (by omega)]
    simp only [Bool.not_false, Bool.true_and, decide_eq_decide]
    omega
theorem lost_no : lostB s a a a g m = false := by
  unfold lostB sl
  simp
theorem b15 (hg : 0 < g) (h : AH) : evS (callN prog (N + 10)) S_law_15 (mE1 x0 x2 n a g s m x11 x12 x13 x14 x15) h = some (.nx (mE1 x0 x2 n a g s m x11 x12 x13 x14 (some (.v (.tup [.int ((a + m.length : Nat) : Int), .int ((a + m.length : Nat) : Int)])))) h) := by
  have q := carried1 (N + 7) kIt a (a + g) a g m h
  rw [cn_gone a g m hg] at q
  have sz2 : (2 : Nat) ≤ SZ := by decide
  simp only [kIt, nP, Int.natCast_add] at q
  simp [S_law_15, mE1, lE, evS, evE, evL, evD, w42, peek, bAdd, pvs, sz2, isKey, mergeP, dput, finD, q, idxP, dlook, keyEq, asgT]
theorem b16 (hn : s.length = n) (h1 : 1 ≤ n) (h10 : n ≤ 10) (ha : a + g ≤ n) (hm : m.length ≤ 100) (hg : 0 < g) (p : Nat) (h : AH) : evS (callN prog (N + 10)) S_law_16 (mE1 x0 x2 n a g s m x11 x12 x13 x14 (some (.v (.tup [.int (p : Int), .int (p : Int)])))) h = some (.nx (mE1 x0 x2 n a g s m x11 x12 x13 x14 (some (.v (.tup [.int (p : Int), .int (p : Int)])))) h) := by
  have q := lost2r (N + 6) s kIt kAll (by decide) a (a + g) 0 n a g m h (by omega) (by omega)
  rw [lost_it n a g s m hn ha hg, lost_all n a g s m hn h1 ha hg] at q
  have sz2 : (2 : Nat) ≤ SZ := by decide
  have sz1 : (1 : Nat) ≤ SZ := by decide
  have t1 := sm41 (N + 9) (.tup [.str kIt]) h (by simp [sok, soks, okD, plainD, dep]) (by simp [nodes, nodess])
  have t2 := sm41 (N + 9) (.tup [.str kAll, .str kIt]) h (by simp [sok, soks, okD, plainD, dep]) (by simp [nodes, nodess])
  simp only [kIt, kAll, Int.natCast_add, Int.natCast_zero, Int.cast_ofNat_Int] at q t1 t2
  by_cases hgn : g = n
  · have hl : ¬ (g : Int) < (n : Int) := by omega
    have hl' : ¬ g < n := by omega
    rw [decide_eq_true hgn] at q
    simp at q
    simp [S_law_16, mE1, lE, evS, evSs, evT, evE, evL, evD, w42, peek, truP, cmpP, idxP, atI_0, atI_1, eqP, okD, plainD, dep, eqv, bAdd, pvs, sz2, sz1, isKey, mergeP, dput, keyEq, finD, q, hl', t2]
  · have hl : (g : Int) < (n : Int) := by omega
    have hl' : g < n := by omega
    rw [decide_eq_false hgn] at q
    simp at q
    simp [S_law_16, mE1, lE, evS, evSs, evT, evE, evL, evD, w42, peek, truP, cmpP, idxP, atI_0, atI_1, eqP, okD, plainD, dep, eqv, bAdd, pvs, sz2, sz1, isKey, mergeP, dput, keyEq, finD, q, hl', t1]
theorem b17 (hn : s.length = n) (h10 : n ≤ 10) (ha : a + g ≤ n) (hm : m.length ≤ 100) (hg : 0 < g) (h : AH) : evS (callN prog (N + 10)) S_law_17 (mE1 x0 x2 n a g s m x11 x12 x13 x14 x15) h = some (.nx (mE1 x0 x2 n a g s m x11 x12 x13 x14 x15) h) := by
  have q := lost1 (N + 6) s kIt a (a + g) a g m h (by omega) (by omega)
  rw [lost_it n a g s m hn ha hg] at q
  have sz2 : (2 : Nat) ≤ SZ := by decide
  have sz1 : (1 : Nat) ≤ SZ := by decide
  have t1 := sm41 (N + 9) (.tup [.str kIt]) h (by simp [sok, soks, okD, plainD, dep]) (by simp [nodes, nodess])
  simp only [kIt, if_true, Int.natCast_add] at q t1
  simp [S_law_17, mE1, lE, evS, evSs, evT, evE, evL, evD, w42, peek, truP, bAdd, pvs, sz2, sz1, isKey, mergeP, dput, keyEq, finD, q, t1]
theorem b18 (hn : s.length = n) (h1 : 1 ≤ n) (h10 : n ≤ 10) (ha : a + g ≤ n) (hm : m.length ≤ 100) (h : AH) : ∃ y15, evS (callN prog (N + 10)) S_law_18 (mE1 x0 x2 n a g s m x11 x12 x13 x14 x15) h = some (.nx (mE1 x0 x2 n a g s m x11 x12 x13 x14 y15) h) := by
  by_cases hg : 0 < g
  · have t : evT (callN prog (N + 10)) (.of (.cmp .gt (.var 6 false) (.lit (.int 0)))) (mE1 x0 x2 n a g s m x11 x12 x13 x14 x15) h = some (true, h) := by
      simp [evT, evE, mE1, lE, w42, peek, cmpP, truP, hg]
    refine ⟨some (.v (.tup [.int ((a + m.length : Nat) : Int), .int ((a + m.length : Nat) : Int)])), ?_⟩
    rw [S_law_18]
    simp only [evS, t]
    rw [seq (b15 n a g s m x0 x2 x11 x12 x13 x14 x15 hg h), seq (b16 n a g s m x0 x2 x11 x12 x13 x14 hn h1 h10 ha hm hg (a + m.length) h), seq (b17 n a g s m x0 x2 x11 x12 x13 x14 _ hn h10 ha hm hg h), seqN]
  · have t : evT (callN prog (N + 10)) (.of (.cmp .gt (.var 6 false) (.lit (.int 0)))) (mE1 x0 x2 n a g s m x11 x12 x13 x14 x15) h = some (false, h) := by
      simp [evT, evE, mE1, lE, w42, peek, cmpP, truP, hg]
    refine ⟨x15, ?_⟩
    rw [S_law_18]
    simp only [evS, t, seqN]
theorem b19 (hn : s.length = n) (h10 : n ≤ 10) (hm : m.length ≤ 100) (f l : Nat) (h : AH) : evS (callN prog (N + 10)) S_law_19 (mE1 x0 x2 n a g s m (iS f) (iS l) x13 x14 x15) h = some (.nx (mE1 x0 x2 n a g s m (iS f) (iS l) x13 x14 x15) h) := by
  have q1 := lost1 (N + 6) s [110,111,110,101] a a a g m h (by omega) (by omega)
  rw [lost_no a g s m] at q1
  have q2 := noted_one (N + 9) s [97,114,111,117,110,100] f l h
  have q3 := carried0 (N + 7) a g m h
  have sz2 : (2 : Nat) ≤ SZ := by decide
  have sz0 : (0 : Nat) ≤ SZ := by decide
  simp at q1
  simp [S_law_19, mE1, lE, evS, evSs, evT, evE, evL, evD, w42, peek, truP, cmpP, pvs, sz2, sz0, isKey, mergeP, dput, keyEq, finD, mkD, q1, q2, q3, eqP, okD, plainD, plainDs, dep, deps, eqv, eqvs, okDict, dictEq, part, sliceP, cut_mid, sl]
theorem b20 (ds : List Int) (k : Nat) (hn : s.length = n) (h1 : 1 ≤ n) (h10 : n ≤ 10) (ha : a + g ≤ n) (hm : m.length ≤ 100) : ∃ k', evS (callN prog (N + 10)) S_law_20 (mE1 x0 x2 n a g s m x11 x12 x13 x14 x15) [Wc ds k] = some (.nx (mE1 x0 x2 n a g s m x11 x12 x13 x14 x15) [Wc ds k']) := by
  obtain ⟨k', q⟩ := rest_ok (N := N + 1) a g n s m ds k hn h1 h10 ha hm
  refine ⟨k', ?_⟩
  simp [S_law_20, mE1, lE, evS, evSs, evT, evE, evL, w41, w42, peek, truP, cmpP, isP, q]
end
/-- one turn of the law -/
theorem turn41 (ds : List Int) (k : Nat) (x0 x2 x3 x4 x5 x6 x7 x8 x9 x10 x11 x12 x13 x14 x15 : Option SV) : ∃ k' y3 y4 y5 y6 y7 y8 y9 y10 y11 y12 y13 y14 y15, evSs (callN prog (N + 10)) L_law_0 (lE x0 x2 x3 x4 x5 x6 x7 x8 x9 x10 x11 x12 x13 x14 x15) [Wc ds k] = some (.nx (lE x0 x2 y3 y4 y5 y6 y7 y8 y9 y10 y11 y12 y13 y14 y15) [Wc ds k']) := by
  obtain ⟨n, h1, h10, s1⟩ := b1 (N := N) ds k x0 x2 x3 x4 x5 x6 x7 x8 x9 x10 x11 x12 x13 x14 x15
  have s2 := b2 (N := N) n [Wc ds (k + 1)] x0 x2 x4 x5 x6 x7 x8 x9 x10 x11 x12 x13 x14 x15
  have hn : (abc.take n).length = n := by rw [List.length_take]; simp [abc]; omega
  generalize abc.take n = s at s2 hn
  obtain ⟨a, han, s3⟩ := b3 (N := N) ds (k + 1) n x0 x2 (zS s) x5 x6 x7 x8 x9 x10 x11 x12 x13 x14 x15
  obtain ⟨g, m, ha, hm, s4⟩ := b4 (N := N) ds (k + 1 + 1) n a han x0 x2 (zS s) x6 x7 x8 x9 x10 x11 x12 x13 x14 x15
  have s5 := b5 (N := N) n a g m [Wc ds (k + 1 + 1 + 2)] x0 x2 (zS s) x8 x9 x10 x11 x12 x13 x14 x15
  have s6 := b6 (N := N) n a g s m (by omega) hm [Wc ds (k + 1 + 1 + 2)] x0 x2 x9 x10 x11 x12 x13 x14 x15
  have s7 := b7 (N := N) n a g s m [Wc ds (k + 1 + 1 + 2)] x0 x2 x10 x11 x12 x13 x14 x15
  have s8 := b8 (N := N) n a g s m x0 x2 x11 x12 x13 x14 x15 hn ha h10 hm [Wc ds (k + 1 + 1 + 2)]
  have s9 := b9 (N := N) n a g s m x0 x2 x11 x12 x13 x14 x15 [Wc ds (k + 1 + 1 + 2)]
  obtain ⟨f, hf, s10⟩ := b10 (N := N) n a g s m x0 x2 x11 x12 x13 x14 x15 ds (k + 1 + 1 + 2)
  obtain ⟨l, hal, hln, s11⟩ := b11 (N := N) n a g s m x0 x2 x12 x13 x14 x15 ds (k + 1 + 1 + 2 + 1) f ha
  have s12 := b12 (N := N) n a g s m x0 x2 x13 x14 x15 f l [Wc ds (k + 1 + 1 + 2 + 1 + 1)]
  have s13 := b13 (N := N) n a g s m x0 x2 x14 x15 f l hal hln [Wc ds (k + 1 + 1 + 2 + 1 + 1)]
  obtain ⟨y14, s14⟩ := b14 (N := N) n a g s m x0 x2 (some (.v (tP a g l n m))) x14 x15 hn h10 hm f l hf hal hln [Wc ds (k + 1 + 1 + 2 + 1 + 1)]
  obtain ⟨y15, s18⟩ := b18 (N := N) n a g s m x0 x2 (iS f) (iS l) (some (.v (tP a g l n m))) y14 x15 hn h1 h10 ha hm [Wc ds (k + 1 + 1 + 2 + 1 + 1)]
  have s19 := b19 (N := N) n a g s m x0 x2 (some (.v (tP a g l n m))) y14 y15 hn h10 hm f l [Wc ds (k + 1 + 1 + 2 + 1 + 1)]
  obtain ⟨k', s20⟩ := b20 (N := N) n a g s m x0 x2 (iS f) (iS l) (some (.v (tP a g l n m))) y14 y15 ds (k + 1 + 1 + 2 + 1 + 1) hn h1 h10 ha hm
  refine ⟨k', iS n, zS s, iS a, iS g, zS m, some (.v (eP a g m)), zS (ed s a g m), iS ((m.length : Int) - (g : Int)), iS f, iS l, some (.v (tP a g l n m)), y14, y15, ?_⟩
  show evSs _ (.cons S_law_1 (.cons S_law_2 (.cons S_law_3 (.cons S_law_4 (.cons S_law_5 (.cons S_law_6 (.cons S_law_7 (.cons S_law_8 (.cons S_law_9 (.cons S_law_10 (.cons S_law_11 (.cons S_law_12 (.cons S_law_13 (.cons S_law_14 (.cons S_law_18 (.cons S_law_19 (.cons S_law_20 .nil))))))))))))))))) _ _ = _
  rw [seq s1, seq s2, seq s3, seq s4, seq s5, seq s6, seq s7, seq s8, seq s9, seq s10, seq s11, seq s12, seq s13, seq s14, seq s18, seq s19, seq s20, seqN]
  rfl
end Ev

set_option Elab.async false
set_option linter.all false
set_option maxRecDepth 100000
set_option maxHeartbeats 1000000
namespace Ev
theorem lq0 (N : Nat) (S : Option SV) (p : PV) (hS : S = some (.v p)) (ds : List Int) (hd' : callN prog (N + 11) 17 [.v p, .v (.int 900)] [.dict []] = some (.v (.lst (ds.map .int)), [.dict []])) : evS (callN prog (N + 11)) S_law_0 [S, none, none, none, none, none, none, none, none, none, none, none, none, none, none, none] [] = some (.nx (lE S none none none none none none none none none none none none none none) [Wc ds 0]) := by
  subst hS
  simp [S_law_0, lE, evS, evE, evL, evD, w42, hd', isKey, mergeP, dput, keyEq, finD, asgT, Wc]
theorem lq1 (N : Nat) (S : Option SV) (ds : List Int) : ∃ x2 x3 x4 x5 x6 x7 x8 x9 x10 x11 x12 x13 x14 x15 k, evS (callN prog (N + 11)) (.for (.nm 2) (.rng1 (.lit (.int 3))) L_law_0) (lE S none none none none none none none none none none none none none none) [Wc ds 0] = some (.nx (lE S x2 x3 x4 x5 x6 x7 x8 x9 x10 x11 x12 x13 x14 x15) [Wc ds k]) := by
  have e1 : evI (callN prog (N + 11)) (.rng1 (.lit (.int 3))) (lE S none none none none none none none none none none none none none none) [Wc ds 0] = some (rngs 0 3, none, [Wc ds 0]) := by
    simp [evI, evE, smallR]
  obtain ⟨e', h', q1, x2, x3, x4, x5, x6, x7, x8, x9, x10, x11, x12, x13, x14, x15, k, rfl, rfl⟩ := for_run (C := callN prog (N + 11)) (t := .nm 2) (b := L_law_0) (fun _ e h => ∃ x2 x3 x4 x5 x6 x7 x8 x9 x10 x11 x12 x13 x14 x15 k, e = lE S x2 x3 x4 x5 x6 x7 x8 x9 x10 x11 x12 x13 x14 x15 ∧ h = [Wc ds k]) e1
    ⟨none, none, none, none, none, none, none, none, none, none, none, none, none, none, 0, rfl, rfl⟩ (fun _ _ _ _ => rfl) (fun j x e h hx ⟨x2, x3, x4, x5, x6, x7, x8, x9, x10, x11, x12, x13, x14, x15, k, he, hh⟩ => by
      subst he hh
      obtain ⟨k', y3, y4, y5, y6, y7, y8, y9, y10, y11, y12, y13, y14, y15, q⟩ := turn41 (N := N + 1) ds k S (some (.v x)) x3 x4 x5 x6 x7 x8 x9 x10 x11 x12 x13 x14 x15
      exact ⟨lE S (some (.v x)) x3 x4 x5 x6 x7 x8 x9 x10 x11 x12 x13 x14 x15, _, _, by simp [asgT, lE], q, some (.v x), y3, y4, y5, y6, y7, y8, y9, y10, y11, y12, y13, y14, y15, k', rfl, rfl⟩)
  exact ⟨_, _, _, _, _, _, _, _, _, _, _, _, _, _, _, q1⟩
theorem lq2 (C : Calls) (E : En) (h : AH) : evS C S_law_22 E h = some (.rt (.v (.bl true)) h) := by simp [S_law_22, evS, evE]
theorem lb (N : Nat) (p : PV) (ds : List Int) (hd' : callN prog (N + 11) 17 [.v p, .v (.int 900)] [.dict []] = some (.v (.lst (ds.map .int)), [.dict []])) : ∃ k, evSs (callN prog (N + 11)) (.cons S_law_0 (.cons S_law_21 (.cons S_law_22 .nil))) [some (.v p), none, none, none, none, none, none, none, none, none, none, none, none, none, none, none] [] = some (.rt (.v (.bl true)) [Wc ds k]) := by
  have q0 := lq0 N (some (.v p)) p rfl ds hd'
  obtain ⟨x2, x3, x4, x5, x6, x7, x8, x9, x10, x11, x12, x13, x14, x15, k, q1⟩ := lq1 N (some (.v p)) ds
  refine ⟨k, ?_⟩
  rw [seq q0]
  rw [S_law_21, seq q1, seqR (lq2 _ _ _)]
theorem law_gen (N : Nat) (ns : List Int) (hn : ns.length ≤ 63) : callN prog (N + 12) 23 [.v (.frl (ns.map .int))] [] = some (.v (.bl true), []) := by
  obtain ⟨ds, hd⟩ := draws_ok (C := callN prog (N + 10)) ns hn 900 (by omega) (by omega) [.dict []]
  obtain ⟨k, hb⟩ := lb N (.frl (ns.map .int)) ds ((u__law_draws (N + 10) _ _).trans hd)
  rw [u_law]
  generalize callN prog (N + 11) = C at hb
  exact runF_ret (fn := f_law) rfl hb (by simp [retn])
theorem law_pure : ∀ ns : List Int, ns.length ≤ 63 → callN prog 30 23 [.v (.frl (ns.map .int))] [] = some (.v (.bl true), []) := fun ns hn => law_gen 18 ns hn
end Ev

set_option linter.all false
set_option maxRecDepth 100000
set_option maxHeartbeats 2000000
namespace Ev
open PySem PySem.Spec PyProof.Rows L2
/-! ### the text and its own form -/
def topS (i : Nat) : Stmt := PySem.Challenge.pw_captionwarrant_k41_whole_edits_there_and.main.body.getD i (.Pass ⟨0, 0, 0, 0⟩)
theorem ok_0 : okB prog f_is_number (topS 1) = true := by decide +kernel
theorem nm_0 : strV f_is_number.name = "is_number" := by decide +kernel
theorem ps_0 : f_is_number.ps.map strV = (["thing"] : List Str) := by decide +kernel
theorem ok_1 : okB prog f_is_from (topS 2) = true := by decide +kernel
theorem nm_1 : strV f_is_from.name = "is_from" := by decide +kernel
theorem ps_1 : f_is_from.ps.map strV = (["thing", "least"] : List Str) := by decide +kernel
theorem ok_2 : okB prog f_is_tuple_of (topS 3) = true := by decide +kernel
theorem nm_2 : strV f_is_tuple_of.name = "is_tuple_of" := by decide +kernel
theorem ps_2 : f_is_tuple_of.ps.map strV = (["thing", "many"] : List Str) := by decide +kernel
theorem ok_3 : okB prog f_is_edit (topS 5) = true := by decide +kernel
theorem nm_3 : strV f_is_edit.name = "is_edit" := by decide +kernel
theorem ps_3 : f_is_edit.ps.map strV = (["text", "thing"] : List Str) := by decide +kernel
theorem ok_4 : okB prog f_edited (topS 6) = true := by decide +kernel
theorem nm_4 : strV f_edited.name = "edited" := by decide +kernel
theorem ps_4 : f_edited.ps.map strV = (["text", "edit"] : List Str) := by decide +kernel
theorem ok_5 : okB prog f_carried_place (topS 7) = true := by decide +kernel
theorem nm_5 : strV f_carried_place.name = "carried_place" := by decide +kernel
theorem ps_5 : f_carried_place.ps.map strV = (["place", "edit", "is_from_place"] : List Str) := by decide +kernel
theorem ok_6 : okB prog f_carried_note (topS 8) = true := by decide +kernel
theorem nm_6 : strV f_carried_note.name = "carried_note" := by decide +kernel
theorem ps_6 : f_carried_note.ps.map strV = (["note", "edit"] : List Str) := by decide +kernel
theorem ok_7 : okB prog f_carried (topS 9) = true := by decide +kernel
theorem nm_7 : strV f_carried.name = "carried" := by decide +kernel
theorem ps_7 : f_carried.ps.map strV = (["notes", "edit"] : List Str) := by decide +kernel
theorem ok_8 : okB prog f_carried_all (topS 10) = true := by decide +kernel
theorem nm_8 : strV f_carried_all.name = "carried_all" := by decide +kernel
theorem ps_8 : f_carried_all.ps.map strV = (["notes", "edits"] : List Str) := by decide +kernel
theorem ok_9 : okB prog f_all_edits (topS 11) = true := by decide +kernel
theorem nm_9 : strV f_all_edits.name = "all_edits" := by decide +kernel
theorem ps_9 : f_all_edits.ps.map strV = (["text", "edits"] : List Str) := by decide +kernel
theorem ok_10 : okB prog f_noted (topS 12) = true := by decide +kernel
theorem nm_10 : strV f_noted.name = "noted" := by decide +kernel
theorem ps_10 : f_noted.ps.map strV = (["text", "notes", "name"] : List Str) := by decide +kernel
theorem ok_11 : okB prog f_lost_notes (topS 13) = true := by decide +kernel
theorem nm_11 : strV f_lost_notes.name = "lost_notes" := by decide +kernel
theorem ps_11 : f_lost_notes.ps.map strV = (["text", "notes", "edit"] : List Str) := by decide +kernel
theorem ok_12 : okB prog f_edit_between (topS 14) = true := by decide +kernel
theorem nm_12 : strV f_edit_between.name = "edit_between" := by decide +kernel
theorem ps_12 : f_edit_between.ps.map strV = (["old", "new"] : List Str) := by decide +kernel
theorem ok_13 : okB prog f_turned_edit (topS 15) = true := by decide +kernel
theorem nm_13 : strV f_turned_edit.name = "turned_edit" := by decide +kernel
theorem ps_13 : f_turned_edit.ps.map strV = (["text", "edit"] : List Str) := by decide +kernel
theorem ok_14 : okB prog f_meet_edits (topS 16) = true := by decide +kernel
theorem nm_14 : strV f_meet_edits.name = "meet_edits" := by decide +kernel
theorem ps_14 : f_meet_edits.ps.map strV = (["one", "other"] : List Str) := by decide +kernel
theorem ok_15 : okB prog f_moved_edit (topS 17) = true := by decide +kernel
theorem nm_15 : strV f_moved_edit.name = "moved_edit" := by decide +kernel
theorem ps_15 : f_moved_edit.ps.map strV = (["edit", "other"] : List Str) := by decide +kernel
theorem ok_16 : okB prog f_both_edits (topS 18) = true := by decide +kernel
theorem nm_16 : strV f_both_edits.name = "both_edits" := by decide +kernel
theorem ps_16 : f_both_edits.ps.map strV = (["text", "one", "other"] : List Str) := by decide +kernel
theorem ok_17 : okB prog f__law_draws (topS 20) = true := by decide +kernel
theorem nm_17 : strV f__law_draws.name = "_law_draws" := by decide +kernel
theorem ps_17 : f__law_draws.ps.map strV = (["script", "many"] : List Str) := by decide +kernel
theorem ok_18 : okB prog f__law_next (topS 21) = true := by decide +kernel
theorem nm_18 : strV f__law_next.name = "_law_next" := by decide +kernel
theorem ps_18 : f__law_next.ps.map strV = (["w", "many"] : List Str) := by decide +kernel
theorem ok_19 : okB prog f__law_pick (topS 22) = true := by decide +kernel
theorem nm_19 : strV f__law_pick.name = "_law_pick" := by decide +kernel
theorem ps_19 : f__law_pick.ps.map strV = (["w", "rows"] : List Str) := by decide +kernel
theorem ok_20 : okB prog f__law_same (topS 23) = true := by decide +kernel
theorem nm_20 : strV f__law_same.name = "_law_same" := by decide +kernel
theorem ps_20 : f__law_same.ps.map strV = (["seen", "due"] : List Str) := by decide +kernel
theorem ok_21 : okB prog f__law_set (topS 24) = true := by decide +kernel
theorem nm_21 : strV f__law_set.name = "_law_set" := by decide +kernel
theorem ps_21 : f__law_set.ps.map strV = (["text", "edit"] : List Str) := by decide +kernel
theorem ok_22 : okB prog f__law_rest (topS 25) = true := by decide +kernel
theorem nm_22 : strV f__law_rest.name = "_law_rest" := by decide +kernel
theorem ps_22 : f__law_rest.ps.map strV = (["w", "at", "away", "edit", "grown", "more", "n", "text"] : List Str) := by decide +kernel
theorem ok_23 : okB prog f_law (topS 26) = true := by decide +kernel
theorem nm_23 : strV f_law.name = "law" := by decide +kernel
theorem ps_23 : f_law.ps.map strV = (["script"] : List Str) := by decide +kernel
theorem all_mk {l : PySem.W.OpenLaw} {w : World} {K : PySem.W.Frag} {h : Heap} {mg : Str → Option Value} {fa f0 f1 f2 f3 f4 f5 f6 f7 f8 f9 f10 f11 f12 f13 f14 f15 f16 f17 f18 f19 f20 f21 f22 f23 : Addr} (X : K.In h) (G : h.Ns mainGlobals mg) (hfa : mg "law" = some (.ref fa))
    {od0 an0 od1 an1 od2 an2 od3 an3 od4 an4 od5 an5 od6 an6 od7 an7 od8 an8 od9 an9 od10 an10 od11 an11 od12 an12 od13 an13 od14 an14 od15 an15 od16 an16 od17 an17 od18 an18 od19 an19 od20 an20 od21 an21 od22 an22 od23 an23 : Option Addr} {sl0 sl1 sl2 sl3 sl4 sl5 sl6 sl7 sl8 sl9 sl10 sl11 sl12 sl13 sl14 sl15 sl16 sl17 sl18 sl19 sl20 sl21 sl22 sl23 : Array (Option Value)} {oc0 kV0 dc0 pm0 cd0 ct0 oc1 kV1 dc1 pm1 cd1 ct1 oc2 kV2 dc2 pm2 cd2 ct2 oc3 kV3 dc3 pm3 cd3 ct3 oc4 kV4 dc4 pm4 cd4 ct4 oc5 kV5 dc5 pm5 cd5 ct5 oc6 kV6 dc6 pm6 cd6 ct6 oc7 kV7 dc7 pm7 cd7 ct7 oc8 kV8 dc8 pm8 cd8 ct8 oc9 kV9 dc9 pm9 cd9 ct9 oc10 kV10 dc10 pm10 cd10 ct10 oc11 kV11 dc11 pm11 cd11 ct11 oc12 kV12 dc12 pm12 cd12 ct12 oc13 kV13 dc13 pm13 cd13 ct13 oc14 kV14 dc14 pm14 cd14 ct14 oc15 kV15 dc15 pm15 cd15 ct15 oc16 kV16 dc16 pm16 cd16 ct16 oc17 kV17 dc17 pm17 cd17 ct17 oc18 kV18 dc18 pm18 cd18 ct18 oc19 kV19 dc19 pm19 cd19 ct19 oc20 kV20 dc20 pm20 cd20 ct20 oc21 kV21 dc21 pm21 cd21 ct21 oc22 kV22 dc22 pm22 cd22 ct22 oc23 kV23 dc23 pm23 cd23 ct23 : Value}
    (a0 : PySem.W.nsIn K mainGlobals "is_number" = some (some (.ref f0))) (l0 : K.lookup f0 = some ⟨oc0, od0, .func (PySem.W.fnOf "is_number" "is_number" (defArgs (topS 1)) (defBody (topS 1)) (defScope (topS 1)) .none kV0 dc0 pm0 an0 cd0 ct0), sl0⟩) (c0 : PySem.W.codeIn K cd0 "is_number" = true) (k0 : PySem.W.keepIn K (.ref f0) = true)
    (a1 : PySem.W.nsIn K mainGlobals "is_from" = some (some (.ref f1))) (l1 : K.lookup f1 = some ⟨oc1, od1, .func (PySem.W.fnOf "is_from" "is_from" (defArgs (topS 2)) (defBody (topS 2)) (defScope (topS 2)) .none kV1 dc1 pm1 an1 cd1 ct1), sl1⟩) (c1 : PySem.W.codeIn K cd1 "is_from" = true) (k1 : PySem.W.keepIn K (.ref f1) = true)
    (a2 : PySem.W.nsIn K mainGlobals "is_tuple_of" = some (some (.ref f2))) (l2 : K.lookup f2 = some ⟨oc2, od2, .func (PySem.W.fnOf "is_tuple_of" "is_tuple_of" (defArgs (topS 3)) (defBody (topS 3)) (defScope (topS 3)) .none kV2 dc2 pm2 an2 cd2 ct2), sl2⟩) (c2 : PySem.W.codeIn K cd2 "is_tuple_of" = true) (k2 : PySem.W.keepIn K (.ref f2) = true)
    (a3 : PySem.W.nsIn K mainGlobals "is_edit" = some (some (.ref f3))) (l3 : K.lookup f3 = some ⟨oc3, od3, .func (PySem.W.fnOf "is_edit" "is_edit" (defArgs (topS 5)) (defBody (topS 5)) (defScope (topS 5)) .none kV3 dc3 pm3 an3 cd3 ct3), sl3⟩) (c3 : PySem.W.codeIn K cd3 "is_edit" = true) (k3 : PySem.W.keepIn K (.ref f3) = true)
    (a4 : PySem.W.nsIn K mainGlobals "edited" = some (some (.ref f4))) (l4 : K.lookup f4 = some ⟨oc4, od4, .func (PySem.W.fnOf "edited" "edited" (defArgs (topS 6)) (defBody (topS 6)) (defScope (topS 6)) .none kV4 dc4 pm4 an4 cd4 ct4), sl4⟩) (c4 : PySem.W.codeIn K cd4 "edited" = true) (k4 : PySem.W.keepIn K (.ref f4) = true)
    (a5 : PySem.W.nsIn K mainGlobals "carried_place" = some (some (.ref f5))) (l5 : K.lookup f5 = some ⟨oc5, od5, .func (PySem.W.fnOf "carried_place" "carried_place" (defArgs (topS 7)) (defBody (topS 7)) (defScope (topS 7)) .none kV5 dc5 pm5 an5 cd5 ct5), sl5⟩) (c5 : PySem.W.codeIn K cd5 "carried_place" = true) (k5 : PySem.W.keepIn K (.ref f5) = true)
    (a6 : PySem.W.nsIn K mainGlobals "carried_note" = some (some (.ref f6))) (l6 : K.lookup f6 = some ⟨oc6, od6, .func (PySem.W.fnOf "carried_note" "carried_note" (defArgs (topS 8)) (defBody (topS 8)) (defScope (topS 8)) .none kV6 dc6 pm6 an6 cd6 ct6), sl6⟩) (c6 : PySem.W.codeIn K cd6 "carried_note" = true) (k6 : PySem.W.keepIn K (.ref f6) = true)
    (a7 : PySem.W.nsIn K mainGlobals "carried" = some (some (.ref f7))) (l7 : K.lookup f7 = some ⟨oc7, od7, .func (PySem.W.fnOf "carried" "carried" (defArgs (topS 9)) (defBody (topS 9)) (defScope (topS 9)) .none kV7 dc7 pm7 an7 cd7 ct7), sl7⟩) (c7 : PySem.W.codeIn K cd7 "carried" = true) (k7 : PySem.W.keepIn K (.ref f7) = true)
    (a8 : PySem.W.nsIn K mainGlobals "carried_all" = some (some (.ref f8))) (l8 : K.lookup f8 = some ⟨oc8, od8, .func (PySem.W.fnOf "carried_all" "carried_all" (defArgs (topS 10)) (defBody (topS 10)) (defScope (topS 10)) .none kV8 dc8 pm8 an8 cd8 ct8), sl8⟩) (c8 : PySem.W.codeIn K cd8 "carried_all" = true) (k8 : PySem.W.keepIn K (.ref f8) = true)
    (a9 : PySem.W.nsIn K mainGlobals "all_edits" = some (some (.ref f9))) (l9 : K.lookup f9 = some ⟨oc9, od9, .func (PySem.W.fnOf "all_edits" "all_edits" (defArgs (topS 11)) (defBody (topS 11)) (defScope (topS 11)) .none kV9 dc9 pm9 an9 cd9 ct9), sl9⟩) (c9 : PySem.W.codeIn K cd9 "all_edits" = true) (k9 : PySem.W.keepIn K (.ref f9) = true)
    (a10 : PySem.W.nsIn K mainGlobals "noted" = some (some (.ref f10))) (l10 : K.lookup f10 = some ⟨oc10, od10, .func (PySem.W.fnOf "noted" "noted" (defArgs (topS 12)) (defBody (topS 12)) (defScope (topS 12)) .none kV10 dc10 pm10 an10 cd10 ct10), sl10⟩) (c10 : PySem.W.codeIn K cd10 "noted" = true) (k10 : PySem.W.keepIn K (.ref f10) = true)
    (a11 : PySem.W.nsIn K mainGlobals "lost_notes" = some (some (.ref f11))) (l11 : K.lookup f11 = some ⟨oc11, od11, .func (PySem.W.fnOf "lost_notes" "lost_notes" (defArgs (topS 13)) (defBody (topS 13)) (defScope (topS 13)) .none kV11 dc11 pm11 an11 cd11 ct11), sl11⟩) (c11 : PySem.W.codeIn K cd11 "lost_notes" = true) (k11 : PySem.W.keepIn K (.ref f11) = true)
    (a12 : PySem.W.nsIn K mainGlobals "edit_between" = some (some (.ref f12))) (l12 : K.lookup f12 = some ⟨oc12, od12, .func (PySem.W.fnOf "edit_between" "edit_between" (defArgs (topS 14)) (defBody (topS 14)) (defScope (topS 14)) .none kV12 dc12 pm12 an12 cd12 ct12), sl12⟩) (c12 : PySem.W.codeIn K cd12 "edit_between" = true) (k12 : PySem.W.keepIn K (.ref f12) = true)
    (a13 : PySem.W.nsIn K mainGlobals "turned_edit" = some (some (.ref f13))) (l13 : K.lookup f13 = some ⟨oc13, od13, .func (PySem.W.fnOf "turned_edit" "turned_edit" (defArgs (topS 15)) (defBody (topS 15)) (defScope (topS 15)) .none kV13 dc13 pm13 an13 cd13 ct13), sl13⟩) (c13 : PySem.W.codeIn K cd13 "turned_edit" = true) (k13 : PySem.W.keepIn K (.ref f13) = true)
    (a14 : PySem.W.nsIn K mainGlobals "meet_edits" = some (some (.ref f14))) (l14 : K.lookup f14 = some ⟨oc14, od14, .func (PySem.W.fnOf "meet_edits" "meet_edits" (defArgs (topS 16)) (defBody (topS 16)) (defScope (topS 16)) .none kV14 dc14 pm14 an14 cd14 ct14), sl14⟩) (c14 : PySem.W.codeIn K cd14 "meet_edits" = true) (k14 : PySem.W.keepIn K (.ref f14) = true)
    (a15 : PySem.W.nsIn K mainGlobals "moved_edit" = some (some (.ref f15))) (l15 : K.lookup f15 = some ⟨oc15, od15, .func (PySem.W.fnOf "moved_edit" "moved_edit" (defArgs (topS 17)) (defBody (topS 17)) (defScope (topS 17)) .none kV15 dc15 pm15 an15 cd15 ct15), sl15⟩) (c15 : PySem.W.codeIn K cd15 "moved_edit" = true) (k15 : PySem.W.keepIn K (.ref f15) = true)
    (a16 : PySem.W.nsIn K mainGlobals "both_edits" = some (some (.ref f16))) (l16 : K.lookup f16 = some ⟨oc16, od16, .func (PySem.W.fnOf "both_edits" "both_edits" (defArgs (topS 18)) (defBody (topS 18)) (defScope (topS 18)) .none kV16 dc16 pm16 an16 cd16 ct16), sl16⟩) (c16 : PySem.W.codeIn K cd16 "both_edits" = true) (k16 : PySem.W.keepIn K (.ref f16) = true)
    (a17 : PySem.W.nsIn K mainGlobals "_law_draws" = some (some (.ref f17))) (l17 : K.lookup f17 = some ⟨oc17, od17, .func (PySem.W.fnOf "_law_draws" "_law_draws" (defArgs (topS 20)) (defBody (topS 20)) (defScope (topS 20)) .none kV17 dc17 pm17 an17 cd17 ct17), sl17⟩) (c17 : PySem.W.codeIn K cd17 "_law_draws" = true) (k17 : PySem.W.keepIn K (.ref f17) = true)
    (a18 : PySem.W.nsIn K mainGlobals "_law_next" = some (some (.ref f18))) (l18 : K.lookup f18 = some ⟨oc18, od18, .func (PySem.W.fnOf "_law_next" "_law_next" (defArgs (topS 21)) (defBody (topS 21)) (defScope (topS 21)) .none kV18 dc18 pm18 an18 cd18 ct18), sl18⟩) (c18 : PySem.W.codeIn K cd18 "_law_next" = true) (k18 : PySem.W.keepIn K (.ref f18) = true)
    (a19 : PySem.W.nsIn K mainGlobals "_law_pick" = some (some (.ref f19))) (l19 : K.lookup f19 = some ⟨oc19, od19, .func (PySem.W.fnOf "_law_pick" "_law_pick" (defArgs (topS 22)) (defBody (topS 22)) (defScope (topS 22)) .none kV19 dc19 pm19 an19 cd19 ct19), sl19⟩) (c19 : PySem.W.codeIn K cd19 "_law_pick" = true) (k19 : PySem.W.keepIn K (.ref f19) = true)
    (a20 : PySem.W.nsIn K mainGlobals "_law_same" = some (some (.ref f20))) (l20 : K.lookup f20 = some ⟨oc20, od20, .func (PySem.W.fnOf "_law_same" "_law_same" (defArgs (topS 23)) (defBody (topS 23)) (defScope (topS 23)) .none kV20 dc20 pm20 an20 cd20 ct20), sl20⟩) (c20 : PySem.W.codeIn K cd20 "_law_same" = true) (k20 : PySem.W.keepIn K (.ref f20) = true)
    (a21 : PySem.W.nsIn K mainGlobals "_law_set" = some (some (.ref f21))) (l21 : K.lookup f21 = some ⟨oc21, od21, .func (PySem.W.fnOf "_law_set" "_law_set" (defArgs (topS 24)) (defBody (topS 24)) (defScope (topS 24)) .none kV21 dc21 pm21 an21 cd21 ct21), sl21⟩) (c21 : PySem.W.codeIn K cd21 "_law_set" = true) (k21 : PySem.W.keepIn K (.ref f21) = true)
    (a22 : PySem.W.nsIn K mainGlobals "_law_rest" = some (some (.ref f22))) (l22 : K.lookup f22 = some ⟨oc22, od22, .func (PySem.W.fnOf "_law_rest" "_law_rest" (defArgs (topS 25)) (defBody (topS 25)) (defScope (topS 25)) .none kV22 dc22 pm22 an22 cd22 ct22), sl22⟩) (c22 : PySem.W.codeIn K cd22 "_law_rest" = true) (k22 : PySem.W.keepIn K (.ref f22) = true)
    (a23 : PySem.W.nsIn K mainGlobals "law" = some (some (.ref f23))) (l23 : K.lookup f23 = some ⟨oc23, od23, .func (PySem.W.fnOf "law" "law" (defArgs (topS 26)) (defBody (topS 26)) (defScope (topS 26)) .none kV23 dc23 pm23 an23 cd23 ct23), sl23⟩) (c23 : PySem.W.codeIn K cd23 "law" = true) (k23 : PySem.W.keepIn K (.ref f23) = true)
    (z_len : PySem.W.nsIn K mainGlobals "len" = some none)
    (z_abs : PySem.W.nsIn K mainGlobals "abs" = some none)
    (z_int : PySem.W.nsIn K mainGlobals "int" = some none)
    (z_min : PySem.W.nsIn K mainGlobals "min" = some none)
    (z_max : PySem.W.nsIn K mainGlobals "max" = some none)
    (z_sum : PySem.W.nsIn K mainGlobals "sum" = some none)
    (z_any : PySem.W.nsIn K mainGlobals "any" = some none)
    (z_all : PySem.W.nsIn K mainGlobals "all" = some none)
    (z_tuple : PySem.W.nsIn K mainGlobals "tuple" = some none)
    (z_list : PySem.W.nsIn K mainGlobals "list" = some none)
    (z_sorted : PySem.W.nsIn K mainGlobals "sorted" = some none)
    (z_dict : PySem.W.nsIn K mainGlobals "dict" = some none)
    (z_str : PySem.W.nsIn K mainGlobals "str" = some none)
    (z_range : PySem.W.nsIn K mainGlobals "range" = some none)
    (z_isinstance : PySem.W.nsIn K mainGlobals "isinstance" = some none)
    (z_bool : PySem.W.nsIn K mainGlobals "bool" = some none)
    (z_enumerate : PySem.W.nsIn K mainGlobals "enumerate" = some none)
    (z_zip : PySem.W.nsIn K mainGlobals "zip" = some none)
    (z_set : PySem.W.nsIn K mainGlobals "set" = some none)
    (pure : ∀ ns : List Int, ns.length ≤ 63 → callN prog 30 23 [.v (.frl (ns.map .int))] [] = some (.v (.bl true), [])) :
    ∃ fd : FuncData, (∀ (s : Shared) (v : Value), BindsTo s fd ⟨[v], []⟩ [("script", v)]) ∧ ∀ base : Heap, K.In base → base.Ns mainGlobals mg → FnOk l.prog w K mg base CX0 30 fa fd ["script"] (Ev.spLaw K) := by
  have e := hfa.symm.trans (PySem.W.mg_of X G a23)
  cases e
  have F0 := fun_mk (st := topS 1) l0 c0 k0
  have D0 : DefIn prog K mg f_is_number := ⟨topS 1, f0, _, by rw [nm_0]; exact F0, by rw [nm_0]; exact PySem.W.mg_of X G a0, by rw [ps_0]; exact F0.binds (ps := ["thing"]) fun _ _ _ _ _ _ us hl => match us, hl with | [_], _ => rfl, ok_0⟩
  have F1 := fun_mk (st := topS 2) l1 c1 k1
  have D1 : DefIn prog K mg f_is_from := ⟨topS 2, f1, _, by rw [nm_1]; exact F1, by rw [nm_1]; exact PySem.W.mg_of X G a1, by rw [ps_1]; exact F1.binds (ps := ["thing", "least"]) fun _ _ _ _ _ _ us hl => match us, hl with | [_, _], _ => rfl, ok_1⟩
  have F2 := fun_mk (st := topS 3) l2 c2 k2
  have D2 : DefIn prog K mg f_is_tuple_of := ⟨topS 3, f2, _, by rw [nm_2]; exact F2, by rw [nm_2]; exact PySem.W.mg_of X G a2, by rw [ps_2]; exact F2.binds (ps := ["thing", "many"]) fun _ _ _ _ _ _ us hl => match us, hl with | [_, _], _ => rfl, ok_2⟩
  have F3 := fun_mk (st := topS 5) l3 c3 k3
  have D3 : DefIn prog K mg f_is_edit := ⟨topS 5, f3, _, by rw [nm_3]; exact F3, by rw [nm_3]; exact PySem.W.mg_of X G a3, by rw [ps_3]; exact F3.binds (ps := ["text", "thing"]) fun _ _ _ _ _ _ us hl => match us, hl with | [_, _], _ => rfl, ok_3⟩
  have F4 := fun_mk (st := topS 6) l4 c4 k4
  have D4 : DefIn prog K mg f_edited := ⟨topS 6, f4, _, by rw [nm_4]; exact F4, by rw [nm_4]; exact PySem.W.mg_of X G a4, by rw [ps_4]; exact F4.binds (ps := ["text", "edit"]) fun _ _ _ _ _ _ us hl => match us, hl with | [_, _], _ => rfl, ok_4⟩
  have F5 := fun_mk (st := topS 7) l5 c5 k5
  have D5 : DefIn prog K mg f_carried_place := ⟨topS 7, f5, _, by rw [nm_5]; exact F5, by rw [nm_5]; exact PySem.W.mg_of X G a5, by rw [ps_5]; exact F5.binds (ps := ["place", "edit", "is_from_place"]) fun _ _ _ _ _ _ us hl => match us, hl with | [_, _, _], _ => rfl, ok_5⟩
  have F6 := fun_mk (st := topS 8) l6 c6 k6
  have D6 : DefIn prog K mg f_carried_note := ⟨topS 8, f6, _, by rw [nm_6]; exact F6, by rw [nm_6]; exact PySem.W.mg_of X G a6, by rw [ps_6]; exact F6.binds (ps := ["note", "edit"]) fun _ _ _ _ _ _ us hl => match us, hl with | [_, _], _ => rfl, ok_6⟩
  have F7 := fun_mk (st := topS 9) l7 c7 k7
  have D7 : DefIn prog K mg f_carried := ⟨topS 9, f7, _, by rw [nm_7]; exact F7, by rw [nm_7]; exact PySem.W.mg_of X G a7, by rw [ps_7]; exact F7.binds (ps := ["notes", "edit"]) fun _ _ _ _ _ _ us hl => match us, hl with | [_, _], _ => rfl, ok_7⟩
  have F8 := fun_mk (st := topS 10) l8 c8 k8
  have D8 : DefIn prog K mg f_carried_all := ⟨topS 10, f8, _, by rw [nm_8]; exact F8, by rw [nm_8]; exact PySem.W.mg_of X G a8, by rw [ps_8]; exact F8.binds (ps := ["notes", "edits"]) fun _ _ _ _ _ _ us hl => match us, hl with | [_, _], _ => rfl, ok_8⟩
  have F9 := fun_mk (st := topS 11) l9 c9 k9
  have D9 : DefIn prog K mg f_all_edits := ⟨topS 11, f9, _, by rw [nm_9]; exact F9, by rw [nm_9]; exact PySem.W.mg_of X G a9, by rw [ps_9]; exact F9.binds (ps := ["text", "edits"]) fun _ _ _ _ _ _ us hl => match us, hl with | [_, _], _ => rfl, ok_9⟩
  have F10 := fun_mk (st := topS 12) l10 c10 k10
  have D10 : DefIn prog K mg f_noted := ⟨topS 12, f10, _, by rw [nm_10]; exact F10, by rw [nm_10]; exact PySem.W.mg_of X G a10, by rw [ps_10]; exact F10.binds (ps := ["text", "notes", "name"]) fun _ _ _ _ _ _ us hl => match us, hl with | [_, _, _], _ => rfl, ok_10⟩
  have F11 := fun_mk (st := topS 13) l11 c11 k11
  have D11 : DefIn prog K mg f_lost_notes := ⟨topS 13, f11, _, by rw [nm_11]; exact F11, by rw [nm_11]; exact PySem.W.mg_of X G a11, by rw [ps_11]; exact F11.binds (ps := ["text", "notes", "edit"]) fun _ _ _ _ _ _ us hl => match us, hl with | [_, _, _], _ => rfl, ok_11⟩
  have F12 := fun_mk (st := topS 14) l12 c12 k12
  have D12 : DefIn prog K mg f_edit_between := ⟨topS 14, f12, _, by rw [nm_12]; exact F12, by rw [nm_12]; exact PySem.W.mg_of X G a12, by rw [ps_12]; exact F12.binds (ps := ["old", "new"]) fun _ _ _ _ _ _ us hl => match us, hl with | [_, _], _ => rfl, ok_12⟩
  have F13 := fun_mk (st := topS 15) l13 c13 k13
  have D13 : DefIn prog K mg f_turned_edit := ⟨topS 15, f13, _, by rw [nm_13]; exact F13, by rw [nm_13]; exact PySem.W.mg_of X G a13, by rw [ps_13]; exact F13.binds (ps := ["text", "edit"]) fun _ _ _ _ _ _ us hl => match us, hl with | [_, _], _ => rfl, ok_13⟩
  have F14 := fun_mk (st := topS 16) l14 c14 k14
  have D14 : DefIn prog K mg f_meet_edits := ⟨topS 16, f14, _, by rw [nm_14]; exact F14, by rw [nm_14]; exact PySem.W.mg_of X G a14, by rw [ps_14]; exact F14.binds (ps := ["one", "other"]) fun _ _ _ _ _ _ us hl => match us, hl with | [_, _], _ => rfl, ok_14⟩
  have F15 := fun_mk (st := topS 17) l15 c15 k15
  have D15 : DefIn prog K mg f_moved_edit := ⟨topS 17, f15, _, by rw [nm_15]; exact F15, by rw [nm_15]; exact PySem.W.mg_of X G a15, by rw [ps_15]; exact F15.binds (ps := ["edit", "other"]) fun _ _ _ _ _ _ us hl => match us, hl with | [_, _], _ => rfl, ok_15⟩
  have F16 := fun_mk (st := topS 18) l16 c16 k16
  have D16 : DefIn prog K mg f_both_edits := ⟨topS 18, f16, _, by rw [nm_16]; exact F16, by rw [nm_16]; exact PySem.W.mg_of X G a16, by rw [ps_16]; exact F16.binds (ps := ["text", "one", "other"]) fun _ _ _ _ _ _ us hl => match us, hl with | [_, _, _], _ => rfl, ok_16⟩
  have F17 := fun_mk (st := topS 20) l17 c17 k17
  have D17 : DefIn prog K mg f__law_draws := ⟨topS 20, f17, _, by rw [nm_17]; exact F17, by rw [nm_17]; exact PySem.W.mg_of X G a17, by rw [ps_17]; exact F17.binds (ps := ["script", "many"]) fun _ _ _ _ _ _ us hl => match us, hl with | [_, _], _ => rfl, ok_17⟩
  have F18 := fun_mk (st := topS 21) l18 c18 k18
  have D18 : DefIn prog K mg f__law_next := ⟨topS 21, f18, _, by rw [nm_18]; exact F18, by rw [nm_18]; exact PySem.W.mg_of X G a18, by rw [ps_18]; exact F18.binds (ps := ["w", "many"]) fun _ _ _ _ _ _ us hl => match us, hl with | [_, _], _ => rfl, ok_18⟩
  have F19 := fun_mk (st := topS 22) l19 c19 k19
  have D19 : DefIn prog K mg f__law_pick := ⟨topS 22, f19, _, by rw [nm_19]; exact F19, by rw [nm_19]; exact PySem.W.mg_of X G a19, by rw [ps_19]; exact F19.binds (ps := ["w", "rows"]) fun _ _ _ _ _ _ us hl => match us, hl with | [_, _], _ => rfl, ok_19⟩
  have F20 := fun_mk (st := topS 23) l20 c20 k20
  have D20 : DefIn prog K mg f__law_same := ⟨topS 23, f20, _, by rw [nm_20]; exact F20, by rw [nm_20]; exact PySem.W.mg_of X G a20, by rw [ps_20]; exact F20.binds (ps := ["seen", "due"]) fun _ _ _ _ _ _ us hl => match us, hl with | [_, _], _ => rfl, ok_20⟩
  have F21 := fun_mk (st := topS 24) l21 c21 k21
  have D21 : DefIn prog K mg f__law_set := ⟨topS 24, f21, _, by rw [nm_21]; exact F21, by rw [nm_21]; exact PySem.W.mg_of X G a21, by rw [ps_21]; exact F21.binds (ps := ["text", "edit"]) fun _ _ _ _ _ _ us hl => match us, hl with | [_, _], _ => rfl, ok_21⟩
  have F22 := fun_mk (st := topS 25) l22 c22 k22
  have D22 : DefIn prog K mg f__law_rest := ⟨topS 25, f22, _, by rw [nm_22]; exact F22, by rw [nm_22]; exact PySem.W.mg_of X G a22, by rw [ps_22]; exact F22.binds (ps := ["w", "at", "away", "edit", "grown", "more", "n", "text"]) fun _ _ _ _ _ _ us hl => match us, hl with | [_, _, _, _, _, _, _, _], _ => rfl, ok_22⟩
  have F23 := fun_mk (st := topS 26) l23 c23 k23
  have D23 : DefIn prog K mg f_law := ⟨topS 26, fa, _, by rw [nm_23]; exact F23, by rw [nm_23]; exact PySem.W.mg_of X G a23, by rw [ps_23]; exact F23.binds (ps := ["script"]) fun _ _ _ _ _ _ us hl => match us, hl with | [_], _ => rfl, ok_23⟩
  have hD : ∀ (i : Nat) (fn : Fn), prog[i]? = some fn → DefIn prog K mg fn := fun i fn h => by
    match i, h with
    | 0, h => cases (show some f_is_number = some fn from h); exact D0
    | 1, h => cases (show some f_is_from = some fn from h); exact D1
    | 2, h => cases (show some f_is_tuple_of = some fn from h); exact D2
    | 3, h => cases (show some f_is_edit = some fn from h); exact D3
    | 4, h => cases (show some f_edited = some fn from h); exact D4
    | 5, h => cases (show some f_carried_place = some fn from h); exact D5
    | 6, h => cases (show some f_carried_note = some fn from h); exact D6
    | 7, h => cases (show some f_carried = some fn from h); exact D7
    | 8, h => cases (show some f_carried_all = some fn from h); exact D8
    | 9, h => cases (show some f_all_edits = some fn from h); exact D9
    | 10, h => cases (show some f_noted = some fn from h); exact D10
    | 11, h => cases (show some f_lost_notes = some fn from h); exact D11
    | 12, h => cases (show some f_edit_between = some fn from h); exact D12
    | 13, h => cases (show some f_turned_edit = some fn from h); exact D13
    | 14, h => cases (show some f_meet_edits = some fn from h); exact D14
    | 15, h => cases (show some f_moved_edit = some fn from h); exact D15
    | 16, h => cases (show some f_both_edits = some fn from h); exact D16
    | 17, h => cases (show some f__law_draws = some fn from h); exact D17
    | 18, h => cases (show some f__law_next = some fn from h); exact D18
    | 19, h => cases (show some f__law_pick = some fn from h); exact D19
    | 20, h => cases (show some f__law_same = some fn from h); exact D20
    | 21, h => cases (show some f__law_set = some fn from h); exact D21
    | 22, h => cases (show some f__law_rest = some fn from h); exact D22
    | 23, h => cases (show some f_law = some fn from h); exact D23
    | n + 24, h => exact absurd (List.getElem?_eq_some_iff.mp h).1 (by show ¬ n + 24 < 24; omega)
  have hb : ∀ x ∈ bltNames, mg (Str.ofString x) = none := by
    intro x hx
    simp only [bltNames, List.mem_cons, List.not_mem_nil, or_false] at hx
    rcases hx with rfl | rfl | rfl | rfl | rfl | rfl | rfl | rfl | rfl | rfl | rfl | rfl | rfl | rfl | rfl | rfl | rfl | rfl | rfl
    · exact PySem.W.mg_none_of X G z_len
    · exact PySem.W.mg_none_of X G z_abs
    · exact PySem.W.mg_none_of X G z_int
    · exact PySem.W.mg_none_of X G z_min
    · exact PySem.W.mg_none_of X G z_max
    · exact PySem.W.mg_none_of X G z_sum
    · exact PySem.W.mg_none_of X G z_any
    · exact PySem.W.mg_none_of X G z_all
    · exact PySem.W.mg_none_of X G z_tuple
    · exact PySem.W.mg_none_of X G z_list
    · exact PySem.W.mg_none_of X G z_sorted
    · exact PySem.W.mg_none_of X G z_dict
    · exact PySem.W.mg_none_of X G z_str
    · exact PySem.W.mg_none_of X G z_range
    · exact PySem.W.mg_none_of X G z_isinstance
    · exact PySem.W.mg_none_of X G z_bool
    · exact PySem.W.mg_none_of X G z_enumerate
    · exact PySem.W.mg_none_of X G z_zip
    · exact PySem.W.mg_none_of X G z_set
  have FL : Fun K (strV f_law.name) (strV f_law.name) (topS 26) fa (PySem.W.fnOf "law" "law" (defArgs (topS 26)) (defBody (topS 26)) (defScope (topS 26)) .none kV23 dc23 pm23 an23 cd23 ct23) := by rw [nm_23]; exact F23
  refine ⟨PySem.W.fnOf "law" "law" (defArgs (topS 26)) (defBody (topS 26)) (defScope (topS 26)) .none kV23 dc23 pm23 an23 cd23 ct23, fun s v => .of_eq rfl, fun base _ _ => ?_⟩
  have Z := law_of (P := l.prog) (w := w) (base := base) (n := 30) hb hD (i := 23) (fn := f_law) rfl FL ok_23 rfl pure
  rw [ps_23] at Z
  exact Z
end Ev
open PySem PySem.W PyProof.Rows
set_option maxRecDepth 100000 in
set_option maxHeartbeats 0 in
theorem PySem.Challenge.cw_captionwarrant_k41_whole_edits_there_and_holds : PySem.Challenge.rw_captionwarrant_k41_whole_edits_there_and.Holds := by
  w_on; o_law; k_head; (case hw => w_witness2)
  k_fill
  refine L2.walk_ofK (l := PySem.Challenge.rw_captionwarrant_k41_whole_edits_there_and) (n := 63) (k := 30) (x := "script") (CX := L2.CX0) (sp := Ev.spLaw) rfl (by decide) rfl ⟨rfl, by decide, by decide⟩ (fun w h Y => PySem.W.kIn_of Y) ?F (fun _ _ a ns hl _ hS => ⟨a, ns, rfl, hS, hl, fun _ => rfl⟩) (fun _ _ _ _ h => h)
  case F =>
    intro w mg fa h KX G hmg
    refine' Ev.all_mk KX G hmg ?a0 ?l0 ?c0 ?k0 ?a1 ?l1 ?c1 ?k1 ?a2 ?l2 ?c2 ?k2 ?a3 ?l3 ?c3 ?k3 ?a4 ?l4 ?c4 ?k4 ?a5 ?l5 ?c5 ?k5 ?a6 ?l6 ?c6 ?k6 ?a7 ?l7 ?c7 ?k7 ?a8 ?l8 ?c8 ?k8 ?a9 ?l9 ?c9 ?k9 ?a10 ?l10 ?c10 ?k10 ?a11 ?l11 ?c11 ?k11 ?a12 ?l12 ?c12 ?k12 ?a13 ?l13 ?c13 ?k13 ?a14 ?l14 ?c14 ?k14 ?a15 ?l15 ?c15 ?k15 ?a16 ?l16 ?c16 ?k16 ?a17 ?l17 ?c17 ?k17 ?a18 ?l18 ?c18 ?k18 ?a19 ?l19 ?c19 ?k19 ?a20 ?l20 ?c20 ?k20 ?a21 ?l21 ?c21 ?k21 ?a22 ?l22 ?c22 ?k22 ?a23 ?l23 ?c23 ?k23 ?z_len ?z_abs ?z_int ?z_min ?z_max ?z_sum ?z_any ?z_all ?z_tuple ?z_list ?z_sorted ?z_dict ?z_str ?z_range ?z_isinstance ?z_bool ?z_enumerate ?z_zip ?z_set Ev.law_pure
    (case a0 => k_is); (case l0 => k_is); (case c0 => k_is); (case k0 => k_is)
    (case a1 => k_is); (case l1 => k_is); (case c1 => k_is); (case k1 => k_is)
    (case a2 => k_is); (case l2 => k_is); (case c2 => k_is); (case k2 => k_is)
    (case a3 => k_is); (case l3 => k_is); (case c3 => k_is); (case k3 => k_is)
    (case a4 => k_is); (case l4 => k_is); (case c4 => k_is); (case k4 => k_is)
    (case a5 => k_is); (case l5 => k_is); (case c5 => k_is); (case k5 => k_is)
    (case a6 => k_is); (case l6 => k_is); (case c6 => k_is); (case k6 => k_is)
    (case a7 => k_is); (case l7 => k_is); (case c7 => k_is); (case k7 => k_is)
    (case a8 => k_is); (case l8 => k_is); (case c8 => k_is); (case k8 => k_is)
    (case a9 => k_is); (case l9 => k_is); (case c9 => k_is); (case k9 => k_is)
    (case a10 => k_is); (case l10 => k_is); (case c10 => k_is); (case k10 => k_is)
    (case a11 => k_is); (case l11 => k_is); (case c11 => k_is); (case k11 => k_is)
    (case a12 => k_is); (case l12 => k_is); (case c12 => k_is); (case k12 => k_is)
    (case a13 => k_is); (case l13 => k_is); (case c13 => k_is); (case k13 => k_is)
    (case a14 => k_is); (case l14 => k_is); (case c14 => k_is); (case k14 => k_is)
    (case a15 => k_is); (case l15 => k_is); (case c15 => k_is); (case k15 => k_is)
    (case a16 => k_is); (case l16 => k_is); (case c16 => k_is); (case k16 => k_is)
    (case a17 => k_is); (case l17 => k_is); (case c17 => k_is); (case k17 => k_is)
    (case a18 => k_is); (case l18 => k_is); (case c18 => k_is); (case k18 => k_is)
    (case a19 => k_is); (case l19 => k_is); (case c19 => k_is); (case k19 => k_is)
    (case a20 => k_is); (case l20 => k_is); (case c20 => k_is); (case k20 => k_is)
    (case a21 => k_is); (case l21 => k_is); (case c21 => k_is); (case k21 => k_is)
    (case a22 => k_is); (case l22 => k_is); (case c22 => k_is); (case k22 => k_is)
    (case a23 => k_is); (case l23 => k_is); (case c23 => k_is); (case k23 => k_is)
    (case z_len => k_is)
    (case z_abs => k_is)
    (case z_int => k_is)
    (case z_min => k_is)
    (case z_max => k_is)
    (case z_sum => k_is)
    (case z_any => k_is)
    (case z_all => k_is)
    (case z_tuple => k_is)
    (case z_list => k_is)
    (case z_sorted => k_is)
    (case z_dict => k_is)
    (case z_str => k_is)
    (case z_range => k_is)
    (case z_isinstance => k_is)
    (case z_bool => k_is)
    (case z_enumerate => k_is)
    (case z_zip => k_is)
    (case z_set => k_is)
