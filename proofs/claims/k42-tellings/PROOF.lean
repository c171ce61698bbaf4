import PyProof.Rows.All
import Wide.All
import OpenK.AllK
import Wide.FinOn
import HandS.ForMost
import HandS.TupAny
import HandS.Style
import HandS.IsInst
import HandS.DictEq
import HandS.NoneIn
import HandS.More
import HandS.Conv
import HandS.Deep
import KE.KEqDict
import PyProof.NeKinds
import KE.SortData
import KE.DataMinMax
import KE.DataFind
import KE.DatumIndex
import KE.KTupSum
import PyProof.MaxThree
import HandS.TupMul
import HandS.Strs
import HandS.Text
import HandS.SortRule
import HandS.Iter
import HandS.Zip
import PySem.Challenge.RW_captionwarrant_k42_whole_tellings_betwee
set_option Elab.async false
set_option linter.all false
namespace Ev

/-- pure values -/
inductive PV where
  | non
  | bl (b : Bool)
  | int (i : Int)
  | str (s : List Nat)
  | tup (xs : List PV)
  | lst (xs : List PV)
  | frl (xs : List PV)
  | dict (kvs : List (PV × PV))

inductive SV where
  | v (p : PV)
  | o (i : Nat)

inductive Cell where
  | lst (xs : List PV)
  | dict (kvs : List (PV × PV))
  | frz (p : PV)

abbrev AH := List Cell
abbrev En := List (Option SV)

def SZ : Nat := 16777216

/-! ### the same thing, part by part -/
mutual
def same : PV → PV → Bool
  | .non, .non => true
  | .bl a, .bl b => a == b
  | .int a, .int b => a == b
  | .str a, .str b => a == b
  | .tup xs, .tup ys => sames xs ys
  | .lst xs, .lst ys => sames xs ys
  | .frl xs, .frl ys => sames xs ys
  | .dict xs, .dict ys => samed xs ys
  | _, _ => false
def sames : List PV → List PV → Bool
  | [], [] => true
  | x :: xs, y :: ys => same x y && sames xs ys
  | _, _ => false
def samed : List (PV × PV) → List (PV × PV) → Bool
  | [], [] => true
  | (k, x) :: xs, (k', y) :: ys => same k k' && same x y && samed xs ys
  | _, _ => false
end

/-- == of keys: ints and texts -/
def keyEq : PV → PV → Bool
  | .int a, .int b => a == b
  | .str a, .str b => a == b
  | _, _ => false
def isKey : PV → Bool
  | .int _ => true
  | .str _ => true
  | _ => false
def dlook (kvs : List (PV × PV)) (k : PV) : Option PV :=
  match kvs with
  | [] => none
  | (a, x) :: r => if keyEq a k then some x else dlook r k
def dhas (kvs : List (PV × PV)) (k : PV) : Bool := (dlook kvs k).isSome
def dput (kvs : List (PV × PV)) (k : PV) (v : PV) : List (PV × PV) :=
  if kvs.any (fun kv => keyEq kv.1 k) then kvs.map (fun kv => if keyEq kv.1 k then (kv.1, v) else kv) else kvs ++ [(k, v)]

/-! ### == -/
mutual
def eqv : PV → PV → Bool
  | .non, .non => true
  | .bl a, .bl b => a == b
  | .bl a, .int j => (if a then 1 else 0) == j
  | .int i, .bl b => i == (if b then 1 else 0)
  | .int i, .int j => i == j
  | .str a, .str b => a == b
  | .tup xs, .tup ys => eqvs xs ys
  | .lst xs, .lst ys => eqvs xs ys
  | _, _ => false
def eqvs : List PV → List PV → Bool
  | [], [] => true
  | x :: xs, y :: ys => eqv x y && eqvs xs ys
  | _, _ => false
end
/-! no dict within; how deep -/
mutual
def plainD : PV → Bool
  | .tup xs => plainDs xs
  | .lst xs => plainDs xs
  | .dict _ => false
  | .frl _ => false
  | _ => true
def plainDs : List PV → Bool
  | [] => true
  | x :: xs => plainD x && plainDs xs
end
mutual
def dep : PV → Nat
  | .tup xs => deps xs + 1
  | .lst xs => deps xs + 1
  | _ => 0
def deps : List PV → Nat
  | [] => 0
  | x :: xs => max (dep x) (deps xs)
end
def okD (p : PV) : Bool := plainD p && decide (dep p ≤ 64)

def dictEq (ks ls : List (PV × PV)) : Bool :=
  ks.length == ls.length && ks.all fun kv => match dlook ls kv.1 with
    | some y => eqv kv.2 y
    | none => false
def okDict (ks : List (PV × PV)) : Bool := ks.all fun kv => okD kv.2

/-- == as Python answers it, where it is served -/
def eqP (p q : PV) : Option Bool :=
  match p, q with
  | .dict ks, .dict ls => if okDict ks && okDict ls then some (dictEq ks ls) else none
  | .lst xs, .lst ys => if xs.length ≠ ys.length then some false else if okD (.lst xs) && okD (.lst ys) then some (eqv (.lst xs) (.lst ys)) else none
  | p, q => if okD p && okD q then some (eqv p q) else none

/-! ### alike things, and which is the less -/
mutual
def ak : PV → PV → Bool
  | .non, .non => true
  | .bl _, .bl _ => true
  | .int _, .int _ => true
  | .str _, .str _ => true
  | .lst xs, .lst ys => aks xs ys
  | .tup xs, .tup ys => aks xs ys
  | _, _ => false
def aks : List PV → List PV → Bool
  | x :: xs, y :: ys => ak x y && aks xs ys
  | [], _ => true
  | _ :: _, [] => true
end
mutual
def plt : PV → PV → Bool
  | .bl a, .bl b => !a && b
  | .int a, .int b => decide (a < b)
  | .str a, .str b => decide (a < b)
  | .lst xs, .lst ys => plts xs ys
  | .tup xs, .tup ys => plts xs ys
  | _, _ => false
def plts : List PV → List PV → Bool
  | [], [] => false
  | [], _ :: _ => true
  | _ :: _, [] => false
  | x :: xs, y :: ys => if eqv x y then plts xs ys else plt x y
end
def isNonP : PV → Bool
  | .non => true
  | _ => false
/-- two things may be compared by < -/
def okC (p q : PV) : Bool := plainD p && plainD q && decide (dep p ≤ 50) && ak p q && !isNonP p
/-- many things may be compared -/
def okAll (xs : List PV) : Bool := plainDs xs && decide (deps xs ≤ 50) && xs.all fun x => !isNonP x && xs.all fun y => ak x y
/-- the first of the least, of the greatest -/
def minV : List PV → Option PV
  | [] => none
  | x :: xs => if okAll (x :: xs) then some (xs.foldl (fun a y => if plt y a then y else a) x) else none
def maxV : List PV → Option PV
  | [] => none
  | x :: xs => if okAll (x :: xs) then some (xs.foldl (fun a y => if plt a y then y else a) x) else none
/-- what may be sorted -/
def srtOk (xs : List PV) : Bool := okAll xs && (xs.all (fun x => match x with | .tup (_ :: _) => true | _ => false) || xs.all (fun x => match x with | .tup _ => false | _ => true))

/-! ### < -/
mutual
def ltv : PV → PV → Option Bool
  | .int a, .int b => some (decide (a < b))
  | .str a, .str b => some (decide (a < b))
  | .tup xs, .tup ys => ltvs xs ys
  | _, _ => none
def ltvs : List PV → List PV → Option Bool
  | [], [] => some false
  | [], _ :: _ => some true
  | _ :: _, [] => some false
  | x :: xs, y :: ys => if eqv x y then ltvs xs ys else ltv x y
end

inductive BOp | add | sub | mul | fdiv | mod | pow
  deriving DecidableEq
inductive COp | eq | ne | lt | le | gt | ge | isIn | notIn | is | isNot
  deriving DecidableEq
inductive Ty | int | bool | str | tuple | list | dict
  deriving DecidableEq

def mulOk (i j : Int) : Bool := (decide (-(2 ^ 64) < i) && decide (i < 2 ^ 64)) || (decide (-(2 ^ 64) < j) && decide (j < 2 ^ 64))
def rep {α : Type} (xs : List α) (k : Nat) : List α := (List.replicate k xs).flatten

def peek (h : AH) : SV → Option PV
  | .v p => some p
  | .o i => match h[i]? with
    | some (.lst xs) => some (.lst xs)
    | some (.dict kvs) => some (.dict kvs)
    | some (.frz p) => some p
    | none => none

/-- what a binary operator makes; the Bool: a new list is made -/
def binP (op : BOp) (p q : PV) : Option PV :=
  match op, p, q with
  | .add, .int a, .int b => some (.int (a + b))
  | .sub, .int a, .int b => some (.int (a - b))
  | .mul, .int a, .int b => if mulOk a b then some (.int (a * b)) else none
  | .fdiv, .int a, .int b => if decide (0 < b) && decide (b < 1073741824) then some (.int (a / b)) else none
  | .mod, .int a, .int b => if decide (0 < b) then some (.int (a % b)) else none
  | .pow, .int a, .int b => if decide (0 ≤ b) && decide (b ≤ 1000000) && decide (a.natAbs < 2 ^ 64) then some (.int (a ^ b.toNat)) else none
  | .add, .str a, .str b => if a.length + b.length ≤ SZ then some (.str (a ++ b)) else none
  | .add, .tup a, .tup b => if a.length + b.length ≤ SZ then some (.tup (a ++ b)) else none
  | .add, .lst a, .lst b => if a.length + b.length ≤ SZ then some (.lst (a ++ b)) else none
  | .mul, .str a, .int b => if decide (-1000 ≤ b) && decide (b ≤ 1000) && decide (a.length ≤ 1000) then some (.str (rep a b.toNat)) else none
  | .mul, .tup a, .int b => if decide (-1000 ≤ b) && decide (b ≤ 1000) && decide (a.length ≤ 1000) then some (.tup (rep a b.toNat)) else none
  | .mul, .lst a, .int b => if decide (-1000 ≤ b) && decide (b ≤ 1000) && decide (a.length ≤ 1000) then some (.lst (rep a b.toNat)) else none
  | _, _, _ => none

def inP (p q : PV) : Option Bool :=
  match q with
  | .dict kvs => if isKey p then some (dhas kvs p) else none
  | .str s => match p with
    | .str [c] => some (s.contains c)
    | _ => none
  | .tup ys => if okD p && okD (.tup ys) then some (ys.any fun y => eqv y p) else none
  | .lst ys => if okD p && okD (.lst ys) then some (ys.any fun y => eqv y p) else none
  | _ => none

def isNon : PV → Bool
  | .non => true
  | _ => false
def isP (p q : PV) : Option Bool :=
  match q with
  | .non => some (isNon p)
  | .bl b => match p with | .bl a => some (a == b) | _ => none
  | _ => none

def cmpP (op : COp) (p q : PV) : Option Bool :=
  match op with
  | .eq => eqP p q
  | .ne => (eqP p q).map not
  | .lt => match p, q with | .int a, .int b => some (decide (a < b)) | .str a, .str b => some (decide (a < b)) | p, q => if okC p q then some (plt p q) else none
  | .gt => match p, q with | .int a, .int b => some (decide (b < a)) | p, q => if okC p q then some (plt q p) else none
  | .le => match p, q with | .int a, .int b => some (decide (a ≤ b)) | .str a, .str b => some (!decide (b < a)) | p, q => if okC p q then some (!plt q p) else none
  | .ge => match p, q with | .int a, .int b => some (decide (b ≤ a)) | p, q => if okC p q then some (!plt p q) else none
  | .isIn => inP p q
  | .notIn => (inP p q).map not
  | .is => isP p q
  | .isNot => (isP p q).map not

def truP : PV → Option Bool
  | .non => some false
  | .bl b => some b
  | .int i => some (i != 0)
  | .str s => some (!s.isEmpty)
  | .tup xs => some (!xs.isEmpty)
  | .lst xs => some (!xs.isEmpty)
  | .frl xs => some (!xs.isEmpty)
  | .dict kvs => some (!kvs.isEmpty)

/-! ### places -/
def sIx (n d : Nat) : Option Int → Nat
  | none => d
  | some v => if v < 0 then (v + (n : Int)).toNat else min v.toNat n
def cut {α : Type} (xs : List α) (lo hi : Option Int) : List α := (xs.drop (sIx xs.length 0 lo)).take (sIx xs.length xs.length hi - sIx xs.length 0 lo)
def ixN (n : Nat) (i : Int) : Option Nat := if 0 ≤ i then (if i < n then some i.toNat else none) else if -(n : Int) ≤ i then some (i + n).toNat else none
def atI {α : Type} (xs : List α) (i : Int) : Option α := (ixN xs.length i).bind fun j => xs[j]?

def idxP (p q : PV) : Option PV :=
  match p, q with
  | .tup xs, .int i => atI xs i
  | .lst xs, .int i => atI xs i
  | .frl xs, .int i => atI xs i
  | .str s, .int i => (atI s i).map fun c => .str [c]
  | .dict kvs, k => if isKey k then dlook kvs k else none
  | _, _ => none
def sliceP (p : PV) (lo hi : Option Int) : Option PV :=
  match p with
  | .tup xs => some (.tup (cut xs lo hi))
  | .lst xs => some (.lst (cut xs lo hi))
  | .frl xs => some (.lst (cut xs lo hi))
  | .str s => some (.str (cut s lo hi))
  | _ => none

def tyOf : PV → Option Ty
  | .non => none
  | .bl _ => some .bool
  | .int _ => some .int
  | .str _ => some .str
  | .tup _ => some .tuple
  | .lst _ => some .list
  | .frl _ => some .list
  | .dict _ => some .dict
def isiTy (p : PV) (t : Ty) : Bool :=
  match p, t with
  | .bl _, .bool => true
  | .bl _, .int => true
  | .int _, .int => true
  | .str _, .str => true
  | .tup _, .tuple => true
  | .lst _, .list => true
  | .frl _, .list => true
  | .dict _, .dict => true
  | _, _ => false

/-- the texts put together -/
def joinL (sep : List Nat) : List (List Nat) → List Nat
  | [] => []
  | [x] => x
  | x :: xs => x ++ sep ++ joinL sep xs

/-! ### lists of one kind -/
def intsOf : List PV → Option (List Int)
  | [] => some []
  | .int i :: r => (intsOf r).map (i :: ·)
  | _ :: _ => none
def blsOf : List PV → Option (List Bool)
  | [] => some []
  | .bl i :: r => (blsOf r).map (i :: ·)
  | _ :: _ => none
def strsOf : List PV → Option (List (List Nat))
  | [] => some []
  | .str i :: r => (strsOf r).map (i :: ·)
  | _ :: _ => none
def prsOf : List PV → Option (List (Int × Int))
  | [] => some []
  | .tup [.int a, .int b] :: r => (prsOf r).map ((a, b) :: ·)
  | _ :: _ => none
def lexI (p q : Int × Int) : Bool := if p.1 = q.1 then decide (p.2 < q.2) else decide (p.1 < q.1)
def keysOf : List PV → Bool
  | [] => true
  | x :: r => isKey x && keysOf r
def pairsOf : List PV → Option (List (PV × PV))
  | [] => some []
  | .tup [k, v] :: r => if isKey k then (pairsOf r).map ((k, v) :: ·) else none
  | _ :: _ => none
def mergeP (kvs more : List (PV × PV)) : List (PV × PV) := more.foldl (fun acc kv => dput acc kv.1 kv.2) kvs
def minL : List Int → Option Int
  | [] => none
  | x :: r => some (r.foldl min x)
def maxL : List Int → Option Int
  | [] => none
  | x :: r => some (r.foldl max x)


def insR {α : Type} (lt : α → α → Bool) (x : α) : List α → List α
  | [] => [x]
  | y :: r => if lt y x then y :: insR lt x r else x :: y :: r
def isort {α : Type} (lt : α → α → Bool) : List α → List α
  | [] => []
  | x :: r => insR lt x (isort lt r)
def sortV (xs : List PV) : Option (List PV) := if srtOk xs then some (isort plt xs) else none

end Ev

set_option Elab.async false
set_option linter.all false
namespace Ev

inductive Blt | len | abs | int | min2 | max2 | min1 | max1 | sum | any | all | tuple | list | sorted | dict | str | min3 | max3
  deriving DecidableEq
inductive Mth | append | extend | pop | popAt | insert | get1 | get2 | lower | join | count | index | tindex | tcount | scount
  deriving DecidableEq

inductive Tg
  | nm (i : Nat)
  | tp (is : List Nat)

mutual
inductive Ex
  | var (i : Nat) (z : Bool)
  | lit (p : PV)
  | glob (i : Nat) (p : PV)
  | bin (op : BOp) (a b : Ex)
  | neg (a : Ex)
  | cmp (op : COp) (a b : Ex)
  | cmp2 (op op2 : COp) (a b c : Ex)
  | boo (isAnd : Bool) (a b : Ex)
  | not (a : Ex)
  | ite (c : Ts) (a b : Ex)
  | tup (es : Exs)
  | lst (m : Bool) (es : Exs)
  | dict (m : Bool) (kvs : Prs)
  | idx (a i : Ex)
  | slc (a : Ex) (lo hi : Exs)
  | rev (a : Ex)
  | call (f : Nat) (es : Exs)
  | blt (m : Bool) (b : Blt) (es : Exs)
  | mth (m : Mth) (o : Ex) (es : Exs)
  | isi (a : Ex) (t : Ty)
  | comp (m : Bool) (elt : Ex) (own : List Nat) (tg : Tg) (it : Itr) (ifs : Ts)
  | comp2 (m : Bool) (elt : Ex) (own : List Nat) (tg : Tg) (it : Itr) (own2 : List Nat) (tg2 : Tg) (it2 : Itr) (ifs : Ts)
inductive Exs
  | nil
  | cons (e : Ex) (es : Exs)
inductive Prs
  | nil
  | cons (k v : Ex) (r : Prs)
inductive Ts
  | yes
  | of (e : Ex)
  | not (t : Ts)
  | boo (isAnd : Bool) (a b : Ts)
inductive Itr
  | var (i : Nat) (z : Bool)
  | ex (e : Ex)
  | rng1 (a : Ex)
  | rng2 (a b : Ex)
  | rng3 (a b c : Ex)
  | enum (e : Ex)
  | zip (a b : Ex)
end

mutual
inductive Stm
  | expr (e : Ex)
  | asg (t : Tg) (e : Ex)
  | par (is : List Nat) (es : Exs)
  | aug (i : Nat) (op : BOp) (e : Ex)
  | put (o k e : Ex)
  | augput (o k : Ex) (op : BOp) (e : Ex)
  | ret (e : Ex)
  | ifs (c : Ts) (a b : Sts)
  | whil (c : Ts) (b : Sts)
  | for (t : Tg) (it : Itr) (b : Sts)
  | brk | cont | pass
inductive Sts
  | nil
  | cons (s : Stm) (ss : Sts)
end

structure Fn where
  name : List Nat
  ps : List (List Nat)
  N : List (List Nat)
  body : Sts

/-! ### how it runs -/
abbrev Calls := Nat → List SV → AH → Option (SV × AH)

def SV.pv : SV → Option PV
  | .v p => some p
  | .o _ => none
def pvs : List SV → Option (List PV)
  | [] => some []
  | .v p :: r => (pvs r).map (p :: ·)
  | .o _ :: _ => none

/-- a slice's part -/
def part : List SV → Option (Option Int)
  | [] => some none
  | [.v (.int i)] => some (some i)
  | _ => none
/-- a name is read: what is frozen is told as a value; z: it is frozen now -/
def rdVar (z : Bool) (h : AH) : SV → Option (SV × AH)
  | .v p => some (.v p, h)
  | .o j => match h[j]? with
    | some (.frz p) => some (.v p, h)
    | some (.lst xs) => if z then some (.v (.lst xs), h.set j (.frz (.lst xs))) else some (.o j, h)
    | some (.dict kvs) => if z then some (.v (.dict kvs), h.set j (.frz (.dict kvs))) else some (.o j, h)
    | none => none

/-- a new list, a new dict: a value or a thing that may change -/
def mkL (m : Bool) (xs : List PV) (h : AH) : Option (SV × AH) :=
  if m then some (.o h.length, h ++ [.lst xs]) else some (.v (.lst xs), h)
def mkD (m : Bool) (kvs : List (PV × PV)) (h : AH) : Option (SV × AH) :=
  if m then some (.o h.length, h ++ [.dict kvs]) else some (.v (.dict kvs), h)

/-- what a builtin made: new lists and dicts may be things that change -/
def mkR (m : Bool) (b : Blt) (r : PV) (h : AH) : Option (SV × AH) :=
  if m then match b, r with
    | .list, .lst xs => some (.o h.length, h ++ [.lst xs])
    | .sorted, .lst xs => some (.o h.length, h ++ [.lst xs])
    | .dict, .dict kvs => some (.o h.length, h ++ [.dict kvs])
    | _, _ => none
  else some (.v r, h)

def asgT : Tg → SV → En → Option En
  | .nm i, s, e => some (e.set i (some s))
  | .tp is, .v (.tup ps), e => if ps.length = is.length then some ((is.zip ps).foldl (fun e ip => e.set ip.1 (some (.v ip.2))) e) else none
  | .tp is, .v (.lst ps), e => if ps.length = is.length then some ((is.zip ps).foldl (fun e ip => e.set ip.1 (some (.v ip.2))) e) else none
  | _, _, _ => none

def wipeE (e : En) : List Nat → En
  | [] => e
  | v :: vs => (wipeE e vs).set v none

/-- what is walked: the items, and the changing list they stand in -/
abbrev Walk := List PV × Option Nat

def guardOk (xs : List PV) (g : Option Nat) (h : AH) : Bool :=
  match g with
  | none => true
  | some j => match h[j]? with
    | some (.lst ys) => sames ys xs
    | _ => false

def loopC (f : PV → AH → Option (Option PV × AH)) (ok : AH → Bool) (j : Nat) : List PV → AH → Option AH
  | [], h => if ok h then some h else none
  | x :: xs, h => if ok h then
      match f x h with
      | none => none
      | some (none, h') => loopC f ok j xs h'
      | some (some y, h') => match h'[j]? with
        | some (.lst acc) => if acc.length < SZ then loopC f ok j xs (h'.set j (.lst (acc ++ [y]))) else none
        | _ => none
    else none
def loop2 (f : PV → AH → Option AH) (ok : AH → Bool) : List PV → AH → Option AH
  | [], h => if ok h then some h else none
  | x :: xs, h => if ok h then
      match f x h with
      | none => none
      | some h' => loop2 f ok xs h'
    else none
/-- what was made at j is done -/
def finL (m : Bool) (j : Nat) (h : AH) : Option (SV × AH) :=
  match h[j]? with
  | some (.lst ys) => if m then some (.o j, h.take (j + 1)) else some (.v (.lst ys), h.take j)
  | _ => none
def finD (m : Bool) (j : Nat) (kvs : List (PV × PV)) (h : AH) : Option (SV × AH) :=
  match h[j]? with
  | some (.dict []) => if m then some (.o j, (h.set j (.dict kvs)).take (j + 1)) else some (.v (.dict kvs), h.take j)
  | _ => none

inductive Fl
  | nx (e : En) (h : AH)
  | rt (v : SV) (h : AH)
  | bk (e : En) (h : AH)
  | ct (e : En) (h : AH)

def loopF (f : PV → En → AH → Option Fl) (ok : AH → Bool) : List PV → En → AH → Option Fl
  | [], e, h => if ok h then some (.nx e h) else none
  | x :: xs, e, h => if ok h then
      match f x e h with
      | none => none
      | some (.nx e' h') => loopF f ok xs e' h'
      | some (.ct e' h') => loopF f ok xs e' h'
      | some (.bk e' h') => some (.nx e' h')
      | some (.rt v h') => some (.rt v h')
    else none

def whileF (t : En → AH → Option (Bool × AH)) (b : En → AH → Option Fl) : Nat → En → AH → Option Fl
  | 0, _, _ => none
  | n + 1, e, h => match t e h with
    | none => none
    | some (false, h') => some (.nx e h')
    | some (true, h') => match b e h' with
      | none => none
      | some (.nx e' h'') => whileF t b n e' h''
      | some (.ct e' h'') => whileF t b n e' h''
      | some (.bk e' h'') => some (.nx e' h'')
      | some (.rt v h'') => some (.rt v h'')

def FUEL : Nat := 100000

def rngs (lo : Int) (n : Nat) : List PV := (List.range n).map fun (i : Nat) => .int (lo + (i : Int))
def rngsC (lo c : Int) (n : Nat) : List PV := (List.range n).map fun (i : Nat) => .int (lo + (i : Int) * c)
def smallR (i : Int) : Bool := decide (-(2 ^ 62) ≤ i) && decide (i < 2 ^ 62)

/-- the items of a value -/
def itemsP : PV → Option (List PV)
  | .tup xs => some xs
  | .lst xs => some xs
  | .str s => some (s.map fun c => .str [c])
  | .dict kvs => some (kvs.map (·.1))
  | _ => none
/-- a list or a tuple -/
def seqP : PV → Option (List PV)
  | .tup xs => some xs
  | .lst xs => some xs
  | .frl xs => some xs
  | _ => none

def lenP : PV → Option PV
  | .str s => some (.int s.length)
  | .tup xs => some (.int xs.length)
  | .lst xs => some (.int xs.length)
  | .frl xs => some (.int xs.length)
  | .dict xs => some (.int xs.length)
  | _ => none
def sortP : PV → Option PV
  | .lst xs => (sortV xs).map .lst
  | .dict kvs => match strsOf (kvs.map (·.1)) with
    | some ss => if ss.length < 64 then some (.lst ((isort (fun a b => decide (a < b)) ss).map .str)) else none
    | none => none
  | _ => none
def revP : PV → Option PV
  | .lst xs => some (.lst xs.reverse)
  | .tup xs => some (.tup xs.reverse)
  | _ => none
def onL (f : List PV → Option PV) : PV → Option PV
  | .lst xs => f xs
  | _ => none
def onS (f : List PV → Option PV) : PV → Option PV
  | .lst xs => f xs
  | .tup xs => f xs
  | _ => none
def tupP : PV → Option PV
  | .lst xs => some (.tup xs)
  | .frl xs => some (.tup xs)
  | .tup xs => some (.tup xs)
  | _ => none
def listP : PV → Option PV
  | .lst xs => some (.lst xs)
  | .frl xs => some (.lst xs)
  | .tup xs => some (.lst xs)
  | _ => none
def dicP : PV → Option PV
  | .lst xs => (pairsOf xs).map fun kvs => .dict (mergeP [] kvs)
  | .dict kvs => some (.dict kvs)
  | _ => none
def blt1 (b : Blt) (p : PV) : Option PV :=
  match b with
  | .len => lenP p
  | .abs => match p with | .int i => some (.int (if i < 0 then -i else i)) | _ => none
  | .int => match p with | .int i => some (.int i) | .bl b => some (.int (if b then 1 else 0)) | _ => none
  | .min1 => onS minV p
  | .max1 => onS maxV p
  | .sum => onS (fun xs => (intsOf xs).map fun ns => .int ns.sum) p
  | .any => onL (fun xs => (blsOf xs).map fun bs => .bl (bs.any id)) p
  | .all => onL (fun xs => (blsOf xs).map fun bs => .bl (bs.all id)) p
  | .tuple => tupP p
  | .list => listP p
  | .sorted => sortP p
  | .dict => dicP p
  | _ => none
def min2P (p q : PV) : Option PV :=
  match p, q with
  | .int i, .int j => some (.int (if j < i then j else i))
  | p, q => minV [p, q]
def max2P (p q : PV) : Option PV :=
  match p, q with
  | .int i, .int j => some (.int (if j > i then j else i))
  | p, q => maxV [p, q]
def blt2 (b : Blt) (p q : PV) : Option PV :=
  match b with
  | .min2 => min2P p q
  | .max2 => max2P p q
  | _ => none
def blt3 (b : Blt) (p q r : PV) : Option PV :=
  match b with
  | .min3 => minV [p, q, r]
  | .max3 => maxV [p, q, r]
  | _ => none
def bltE (m : Bool) (b : Blt) (vs : List SV) (h : AH) : Option (SV × AH) :=
  match vs with
  | [x] => match peek h x with
    | some p => match blt1 b p with
      | some r => mkR m b r h
      | none => none
    | none => none
  | [.v p, .v q] => (blt2 b p q).map fun r => (.v r, h)
  | [.v p, .v q, .v r] => (blt3 b p q r).map fun r => (.v r, h)
  | _ => none
/-- methods that change nothing -/
def lowP (s : List Nat) : Option (List Nat) :=
  match s with
  | [] => some []
  | [88] => some [120]
  | [88, 89] => some [120, 121]
  | [88, 89, 90] => some [120, 121, 122]
  | [73] => some [105]
  | _ => none
def mthT (m : Mth) (o : PV) : Bool :=
  match m, o with
  | .get1, .dict _ => true
  | .get2, .dict _ => true
  | .lower, .str _ => true
  | .join, .str _ => true
  | .index, .lst _ => true
  | .count, .lst _ => true
  | .tindex, .tup _ => true
  | .tcount, .tup _ => true
  | .scount, .str _ => true
  | _, _ => false
def joinP (s : List Nat) (xs : List PV) : Option PV :=
  (strsOf xs).bind fun ss => if decide ((ss.map (·.length)).sum + ss.length * s.length ≤ 16777216) then some (.str (joinL s ss)) else none
/-- the first place of a thing -/
def findP : List PV → PV → Option Nat
  | [], _ => none
  | y :: ys, p => if eqv y p then some 0 else (findP ys p).map (· + 1)
def findS : List (List Nat) → List Nat → Option Nat
  | [], _ => none
  | y :: ys, p => if y = p then some 0 else (findS ys p).map (· + 1)
/-- what a method that changes nothing is handed -/
def argsN (m : Mth) (vs : List SV) (h : AH) : Option (List PV) :=
  match m with
  | .join => match vs with
    | [y] => (peek h y).map ([·])
    | _ => none
  | _ => pvs vs
def mthP (m : Mth) (o : PV) (ps : List PV) : Option PV :=
  match m with
  | .get1 => match o, ps with
    | .dict kvs, [k] => if isKey k then some ((dlook kvs k).getD .non) else none
    | _, _ => none
  | .get2 => match o, ps with
    | .dict kvs, [k, d] => if isKey k then some ((dlook kvs k).getD d) else none
    | _, _ => none
  | .lower => match o, ps with
    | .str s, [] => (lowP s).map .str
    | _, _ => none
  | .join => match o, ps with
    | .str s, [.lst xs] => joinP s xs
    | .str s, [.tup xs] => joinP s xs
    | _, _ => none
  | .index => match o, ps with
    | .lst xs, [p] => if okD (.lst xs) && okD p then (findP xs p).map fun (j : Nat) => .int j else none
    | _, _ => none
  | .count => match o, ps with
    | .lst xs, [p] => if okD (.lst xs) && okD p then some (.int (xs.countP fun y => eqv y p : Nat)) else none
    | _, _ => none
  | .tindex => match o, ps with
    | .tup xs, [.str z] => (strsOf xs).bind fun ss => (findS ss z).map fun (j : Nat) => .int j
    | _, _ => none
  | .tcount => match o, ps with
    | .tup xs, [p] => if okD (.tup xs) && okD p then some (.int (xs.countP fun y => eqv y p : Nat)) else none
    | _, _ => none
  | .scount => match o, ps with
    | .str s, [.str [c]] => some (.int (s.count c : Nat))
    | _, _ => none
  | _ => none

/-- methods that change the thing at j: what comes back, the thing behind it -/
def mthC (m : Mth) (c : Cell) (ps : List PV) : Option (PV × Cell) :=
  match c with
  | .lst xs => match m with
    | .append => match ps with
      | [p] => if xs.length < SZ then some (.non, .lst (xs ++ [p])) else none
      | _ => none
    | .extend => match ps with
      | [.lst ys] => if xs.length + ys.length ≤ SZ then some (.non, .lst (xs ++ ys)) else none
      | _ => none
    | .pop => match ps with
      | [] => match xs[xs.length - 1]? with
        | some p => some (p, .lst xs.dropLast)
        | none => none
      | _ => none
    | .popAt => match ps with
      | [.int i] => match ixN xs.length i with
        | some k => match xs[k]? with
          | some p => if smallR i then some (p, .lst (xs.eraseIdx k)) else none
          | none => none
        | none => none
      | _ => none
    | _ => none
  | _ => none
def isLst : Option Cell → Bool
  | some (.lst _) => true
  | _ => false
/-- the arguments of a method that changes -/
def argsM (m : Mth) (vs : List SV) (h : AH) : Option (List PV) :=
  match m with
  | .extend => match vs with
    | [y] => (peek h y).map ([·])
    | _ => none
  | _ => pvs vs
def mthE (m : Mth) (j : Nat) (vs : List SV) (h : AH) : Option (SV × AH) :=
  match h[j]? with
  | some c => match argsM m vs h with
    | some ps => (mthC m c ps).map fun r => (.v r.1, h.set j r.2)
    | none => none
  | none => none
def changes : Mth → Bool
  | .append | .extend | .pop | .popAt | .insert => true
  | _ => false

def enumP (xs : List PV) : List PV := xs.mapIdx fun i x => .tup [.int i, x]
def zipP : PV → PV → Option (List PV)
  | .lst xs, .lst ys => some (List.zipWith (fun x y => .tup [x, y]) xs ys)
  | .tup xs, .tup ys => some (List.zipWith (fun x y => .tup [x, y]) xs ys)
  | _, _ => none
def notD : PV → Bool
  | .dict _ => false
  | _ => true
/-- the walk over a thing; dk: a dict may be walked -/
def walkOf (dk : Bool) (s : SV) (h : AH) : Option (List PV × Option Nat × AH) :=
  match s with
  | .v p => if dk || notD p then (itemsP p).map fun xs => (xs, none, h) else none
  | .o j => match h[j]? with
    | some (.lst xs) => some (xs, some j, h)
    | _ => none

mutual
def evE (C : Calls) : Ex → En → AH → Option (SV × AH)
  | .var i z, e, h => match e[i]? with
    | some (some s) => rdVar z h s
    | _ => none
  | .lit p, _, h => some (.v p, h)
  | .glob _ p, _, h => some (.v p, h)
  | .bin op a b, e, h => match evE C a e h with
    | none => none
    | some (x, h1) => match evE C b e h1 with
      | none => none
      | some (y, h2) => match peek h2 x, peek h2 y with
        | some p, some q => (binP op p q).map fun r => (.v r, h2)
        | _, _ => none
  | .neg a, e, h => match evE C a e h with
    | some (.v (.int i), h1) => some (.v (.int (-i)), h1)
    | _ => none
  | .cmp op a b, e, h => match evE C a e h with
    | none => none
    | some (x, h1) => match evE C b e h1 with
      | none => none
      | some (y, h2) => match peek h2 x, peek h2 y with
        | some p, some q => (cmpP op p q).map fun r => (.v (.bl r), h2)
        | _, _ => none
  | .cmp2 op op2 a b c, e, h => match evE C a e h with
    | none => none
    | some (x, h1) => match evE C b e h1 with
      | none => none
      | some (y, h2) => match peek h2 x, peek h2 y with
        | some p, some q => match cmpP op p q with
          | none => none
          | some false => some (.v (.bl false), h2)
          | some true => match evE C c e h2 with
            | none => none
            | some (z, h3) => match peek h3 y, peek h3 z with
              | some q, some r => (cmpP op2 q r).map fun r => (.v (.bl r), h3)
              | _, _ => none
        | _, _ => none
  | .boo isAnd a b, e, h => match evE C a e h with
    | some (.v (.bl c), h1) => if c == isAnd then evE C b e h1 else some (.v (.bl c), h1)
    | _ => none
  | .not a, e, h => match evE C a e h with
    | some (.v (.bl c), h1) => some (.v (.bl !c), h1)
    | _ => none
  | .ite c a b, e, h => match evT C c e h with
    | some (true, h1) => evE C a e h1
    | some (false, h1) => evE C b e h1
    | none => none
  | .tup es, e, h => match evL C es e h with
    | none => none
    | some (vs, h1) => match pvs vs with
      | some ps => if ps.length ≤ SZ then some (.v (.tup ps), h1) else none
      | none => none
  | .lst m es, e, h => match evL C es e h with
    | none => none
    | some (vs, h1) => match pvs vs with
      | some ps => if ps.length ≤ SZ then mkL m ps h1 else none
      | none => none
  | .dict m .nil, e, h => mkD m [] h
  | .dict m (.cons k a r), e, h => match evD C (.cons k a r) e (h ++ [.dict []]) with
    | none => none
    | some (kvs, h1) => if kvs.all (fun kv => isKey kv.1) && decide (kvs.length ≤ 15) then finD m h.length (mergeP [] kvs) h1 else none
  | .idx a i, e, h => match evE C a e h with
    | none => none
    | some (x, h1) => match evE C i e h1 with
      | none => none
      | some (y, h2) => match peek h2 x, y with
        | some p, .v q => (idxP p q).map fun r => (.v r, h2)
        | _, _ => none
  | .slc a lo hi, e, h => match evE C a e h with
    | none => none
    | some (x, h1) => match evL C lo e h1 with
      | none => none
      | some (l, h2) => match evL C hi e h2 with
        | none => none
        | some (u, h3) => match peek h3 x, part l, part u with
          | some p, some a, some b => (sliceP p a b).map fun r => (.v r, h3)
          | _, _, _ => none
  | .rev a, e, h => match evE C a e h with
    | none => none
    | some (x, h1) => match peek h1 x with
      | some p => (revP p).map fun r => (.v r, h1)
      | none => none
  | .call f es, e, h => match evL C es e h with
    | none => none
    | some (vs, h1) => C f vs h1
  | .blt m b es, e, h => match evL C es e h with
    | none => none
    | some (vs, h1) => bltE m b vs h1
  | .mth m o es, e, h => match evE C o e h with
    | none => none
    | some (x, h1) =>
      if changes m then
        match x with
        | .o j => if isLst h1[j]? then
            match evL C es e h1 with
            | none => none
            | some (vs, h2) => mthE m j vs h2
          else none
        | .v _ => none
      else
        match peek h1 x with
        | none => none
        | some p0 => if mthT m p0 then
            match evL C es e h1 with
            | none => none
            | some (vs, h2) => match peek h2 x, argsN m vs h2 with
              | some p, some ps => (mthP m p ps).map fun r => (.v r, h2)
              | _, _ => none
          else none
  | .isi a t, e, h => match evE C a e h with
    | none => none
    | some (x, h1) => match peek h1 x with
      | some p => some (.v (.bl (isiTy p t)), h1)
      | none => none
  | .comp m elt own tg it ifs, e, h => match evI C it e h with
    | none => none
    | some (xs, g, h1) => match loopC (fun x h => match asgT tg (.v x) (wipeE e own) with
        | none => none
        | some e2 => match evT C ifs e2 h with
          | none => none
          | some (false, h2) => some (none, h2)
          | some (true, h2) => match evE C elt e2 h2 with
            | some (.v y, h3) => some (some y, h3)
            | _ => none) (guardOk xs g) h1.length xs (h1 ++ [.lst []]) with
      | none => none
      | some h2 => finL m h1.length h2
  | .comp2 m elt own tg it own2 tg2 it2 ifs, e, h => match evI C it e h with
    | none => none
    | some (xs, g, h1) => match loop2 (fun x h => match asgT tg (.v x) (wipeE e own) with
        | none => none
        | some e2 => match evI C it2 e2 h with
          | none => none
          | some (ys, g2, h2) => loopC (fun y h => match asgT tg2 (.v y) (wipeE e2 own2) with
              | none => none
              | some e3 => match evT C ifs e3 h with
                | none => none
                | some (false, h2) => some (none, h2)
                | some (true, h2) => match evE C elt e3 h2 with
                  | some (.v y, h3) => some (some y, h3)
                  | _ => none) (guardOk ys g2) h1.length ys h2) (guardOk xs g) xs (h1 ++ [.lst []]) with
      | none => none
      | some h2 => finL m h1.length h2
def evL (C : Calls) : Exs → En → AH → Option (List SV × AH)
  | .nil, _, h => some ([], h)
  | .cons a es, e, h => match evE C a e h with
    | none => none
    | some (x, h1) => match evL C es e h1 with
      | none => none
      | some (xs, h2) => some (x :: xs, h2)
def evD (C : Calls) : Prs → En → AH → Option (List (PV × PV) × AH)
  | .nil, _, h => some ([], h)
  | .cons k a ks, e, h => match evE C k e h with
    | some (.v p, h0) => match evE C a e h0 with
      | some (.v x, h1) => match evD C ks e h1 with
        | none => none
        | some (xs, h2) => some ((p, x) :: xs, h2)
      | _ => none
    | _ => none
def evT (C : Calls) : Ts → En → AH → Option (Bool × AH)
  | .yes, _, h => some (true, h)
  | .of a, e, h => match evE C a e h with
    | none => none
    | some (x, h1) => match peek h1 x with
      | some p => (truP p).map fun b => (b, h1)
      | none => none
  | .not t, e, h => match evT C t e h with
    | none => none
    | some (b, h1) => some (!b, h1)
  | .boo isAnd a b, e, h => match evT C a e h with
    | none => none
    | some (c, h1) => if c == isAnd then evT C b e h1 else some (c, h1)
def evI (C : Calls) : Itr → En → AH → Option (List PV × Option Nat × AH)
  | .var i z, e, h => match e[i]? with
    | some (some s) => match rdVar z h s with
      | some (t, h1) => walkOf true t h1
      | none => none
    | _ => none
  | .ex a, e, h => match evE C a e h with
    | some (t, h1) => walkOf false t h1
    | none => none
  | .rng1 a, e, h => match evE C a e h with
    | some (.v (.int i), h1) => if smallR i then some (rngs 0 i.toNat, none, h1) else none
    | _ => none
  | .rng2 a b, e, h => match evE C a e h with
    | some (.v (.int i), h1) => match evE C b e h1 with
      | some (.v (.int j), h2) => if smallR i && smallR j then some (rngs i (j - i).toNat, none, h2) else none
      | _ => none
    | _ => none
  | .rng3 a b c, e, h => match evE C a e h with
    | some (.v (.int i), h1) => match evE C b e h1 with
      | some (.v (.int j), h2) => match evE C c e h2 with
        | some (.v (.int d), h3) => if smallR i && smallR j && decide (d = -1) then some (rngsC i (-1) (i - j).toNat, none, h3) else none
        | _ => none
      | _ => none
    | _ => none
  | .enum a, e, h => match evE C a e h with
    | some (.v (.lst xs), h1) => some (enumP xs, none, h1)
    | _ => none
  | .zip a b, e, h => match evE C a e h with
    | some (.v p, h1) => match evE C b e h1 with
      | some (.v q, h2) => (zipP p q).map fun xs => (xs, none, h2)
      | _ => none
    | _ => none
end

def binA (op : BOp) (p q : PV) : Option PV :=
  match op, p, q with
  | .add, .int a, .int b => some (.int (a + b))
  | .sub, .int a, .int b => some (.int (a - b))
  | .add, .str a, .str b => if a.length + b.length ≤ SZ then some (.str (a ++ b)) else none
  | _, _, _ => none

mutual
def evS (C : Calls) : Stm → En → AH → Option Fl
  | .expr a, e, h => (evE C a e h).map fun r => .nx e r.2
  | .asg t a, e, h => match evE C a e h with
    | none => none
    | some (x, h1) => (asgT t x e).map fun e' => .nx e' h1
  | .par is es, e, h => match evL C es e h with
    | none => none
    | some (vs, h1) => if vs.length = is.length then some (.nx ((is.zip vs).foldl (fun e iv => e.set iv.1 (some iv.2)) e) h1) else none
  | .aug i op a, e, h => match e[i]? with
    | some (some (.v p)) => match evE C a e h with
      | some (.v q, h1) => (binA op p q).map fun r => .nx (e.set i (some (.v r))) h1
      | _ => none
    | _ => none
  | .put o k a, e, h => match evE C a e h with
    | some (.v x, h1) => match evE C o e h1 with
      | some (.o j, h2) => match evE C k e h2 with
        | some (.v q, h3) => match h3[j]? with
          | some (.lst xs) => match q with
            | .int i => (ixN xs.length i).map fun n => .nx e (h3.set j (.lst (xs.set n x)))
            | _ => none
          | some (.dict kvs) => if isKey q && decide (kvs.length < SZ) then some (.nx e (h3.set j (.dict (dput kvs q x)))) else none
          | _ => none
        | _ => none
      | _ => none
    | _ => none
  | .augput o k op a, e, h => match evE C o e h with
    | some (.o j, h1) => match evE C k e h1 with
      | some (.v q, h2) => match h2[j]? with
        | some (.dict kvs) => if isKey q && decide (kvs.length < SZ) then
            match dlook kvs q with
            | some old => match evE C a e h2 with
              | some (.v y, h3) => match binA op old y with
                | some z => match h3[j]? with
                  | some (.dict kvs') => if decide (kvs'.length < SZ) then some (.nx e (h3.set j (.dict (dput kvs' q z)))) else none
                  | _ => none
                | none => none
              | _ => none
            | none => none
          else none
        | _ => none
      | _ => none
    | _ => none
  | .ret a, e, h => (evE C a e h).map fun r => .rt r.1 r.2
  | .ifs c a b, e, h => match evT C c e h with
    | none => none
    | some (true, h1) => evSs C a e h1
    | some (false, h1) => evSs C b e h1
  | .whil c b, e, h => whileF (evT C c) (evSs C b) FUEL e h
  | .for t it b, e, h => match evI C it e h with
    | none => none
    | some (xs, g, h1) => loopF (fun x e h => match asgT t (.v x) e with
        | none => none
        | some e' => evSs C b e' h) (guardOk xs g) xs e h1
  | .brk, e, h => some (.bk e h)
  | .cont, e, h => some (.ct e h)
  | .pass, e, h => some (.nx e h)
def evSs (C : Calls) : Sts → En → AH → Option Fl
  | .nil, e, h => some (.nx e h)
  | .cons s ss, e, h => match evS C s e h with
    | none => none
    | some (.nx e' h') => evSs C ss e' h'
    | some f => some f
end

/-- what comes back from a def: the things it made alone go -/
def retn (n : Nat) (h : AH) : SV → Option (SV × AH)
  | .v p => some (.v p, h.take n)
  | .o i => if i < n then some (.o i, h.take n) else if i = n then some (.o i, h.take (n + 1)) else none

def startE (fn : Fn) (args : List SV) : En := args.map some ++ List.replicate (fn.N.length - args.length) none

def callN (P : List Fn) : Nat → Calls
  | 0, _, _, _ => none
  | n + 1, f, args, h => match P[f]? with
    | none => none
    | some fn => if args.length = fn.ps.length then
        match evSs (callN P n) fn.body (startE fn args) h with
        | some (.nx _ h') => retn h.length h' (.v .non)
        | some (.rt v h') => retn h.length h' v
        | _ => none
      else none

/-- a def's run -/
def runF (C : Calls) (fn : Fn) (args : List SV) (h : AH) : Option (SV × AH) :=
  if args.length = fn.ps.length then
    match evSs C fn.body (startE fn args) h with
    | some (.nx _ h') => retn h.length h' (.v .non)
    | some (.rt v h') => retn h.length h' v
    | _ => none
  else none

end Ev

set_option Elab.async false
set_option linter.all false
set_option maxRecDepth 100000
namespace Ev
open PySem PySem.Spec PyProof.Rows L2

def strV (s : List Nat) : Str := ⟨s.toArray⟩
def keyV : PV → Key
  | .str s => .inr (strV s)
  | .int i => .inl i
  | _ => .inl 0
theorem SZ_eq : SZ = sizeLine := rfl

mutual
inductive VR (K : PySem.W.Frag) (M : Addr → Prop) (H : Hp) : V → PV → Prop
  | non : VR K M H .non .non
  | bl (b : Bool) : VR K M H (.bl b) (.bl b)
  | int (i : Int) : VR K M H (.int i) (.int i)
  | str {s : List Nat} (hz : s.length ≤ SZ) (hc : ∀ c ∈ s, c < 0x110000) : VR K M H (.str (strV s)) (.str s)
  | tup {a : Addr} {vs : List V} {xs : List PV} (e : H a = some (.tup vs)) (m : ¬ M a) (hz : xs.length ≤ SZ) (r : VRs K M H vs xs) : VR K M H (.ref a) (.tup xs)
  | lst {a : Addr} {vs : List V} {xs : List PV} (e : H a = some (.lst vs)) (m : ¬ M a) (hz : xs.length ≤ SZ) (r : VRs K M H vs xs) : VR K M H (.ref a) (.lst xs)
  | frl {a : Addr} {vs : List V} {xs : List PV} (e : (Rd H a (.lst vs) ∧ ¬ M a) ∨ ∀ H : Hp, SqL K H a vs) (hz : xs.length ≤ SZ) (r : VRs K M H vs xs) : VR K M H (.ref a) (.frl xs)
  | dict {a : Addr} {ks : List (Key × V)} {kvs : List (PV × PV)} (e : Rd H a (.dK ks)) (m : ¬ M a) (hz : kvs.length ≤ SZ) (r : KRs K M H ks kvs) : VR K M H (.ref a) (.dict kvs)
inductive VRs (K : PySem.W.Frag) (M : Addr → Prop) (H : Hp) : List V → List PV → Prop
  | nil : VRs K M H [] []
  | cons {v : V} {p : PV} {vs : List V} {ps : List PV} (r : VR K M H v p) (t : VRs K M H vs ps) : VRs K M H (v :: vs) (p :: ps)
inductive KRs (K : PySem.W.Frag) (M : Addr → Prop) (H : Hp) : List (Key × V) → List (PV × PV) → Prop
  | nil : KRs K M H [] []
  | cons {k : Key} {v : V} {q p : PV} {ks : List (Key × V)} {ps : List (PV × PV)} (kk : kV k = kV k) (e : VR K M H (kV k) q) (ik : isKey q = true) (ek : k = keyV q) (r : VR K M H v p) (t : KRs K M H ks ps) : KRs K M H ((k, v) :: ks) ((q, p) :: ps)
end

/-- the heap grows; what does not change stays -/
structure Ex1 (M : Addr → Prop) (H : Hp) (M' : Addr → Prop) (H' : Hp) : Prop where
  rdl : ∀ a xs, Rd H a (.lst xs) → ¬ M a → Rd H' a (.lst xs)
  rdk : ∀ a ks, Rd H a (.dK ks) → ¬ M a → Rd H' a (.dK ks)
  lst : ∀ a xs, H a = some (.lst xs) → ¬ M a → H' a = some (.lst xs)
  tup : ∀ a xs, H a = some (.tup xs) → H' a = some (.tup xs)
  ne : ∀ a, H a ≠ none → ¬ M a → H' a ≠ none
  mt : ∀ a, M' a → M a ∨ H a = none
theorem Ex1.refl (M : Addr → Prop) (H : Hp) : Ex1 M H M H := ⟨fun _ _ h _ => h, fun _ _ h _ => h, fun _ _ h _ => h, fun _ _ h => h, fun _ h _ => h, fun _ h => .inl h⟩
theorem Rd.none_of {H : Hp} {a : Addr} {u : HO} (r : Rd H a u) (n : H a = none) : False := by
  rcases r with r | ⟨o, r⟩ <;> rw [n] at r <;> cases r
theorem Ex1.trans {M M1 M2 : Addr → Prop} {H H1 H2 : Hp} (a : Ex1 M H M1 H1) (b : Ex1 M1 H1 M2 H2) : Ex1 M H M2 H2 where
  rdl := fun c u h m => b.rdl c u (a.rdl c u h m) fun z => (a.mt c z).elim m (fun n => Rd.none_of h n)
  rdk := fun c u h m => b.rdk c u (a.rdk c u h m) fun z => (a.mt c z).elim m (fun n => Rd.none_of h n)
  lst := fun c xs h m => b.lst c xs (a.lst c xs h m) fun z => (a.mt c z).elim m (fun n => by rw [n] at h; cases h)
  tup := fun c xs h => b.tup c xs (a.tup c xs h)
  ne := fun c h m => b.ne c (a.ne c h m) fun z => (a.mt c z).elim m h
  mt := fun c z => by
    rcases b.mt c z with z | n
    · exact a.mt c z
    · by_cases m : M c
      · exact .inl m
      · refine .inr ?_
        cases q : H c with
        | none => rfl
        | some u =>
          exact absurd n (a.ne c (by rw [q]; simp) m)
theorem Ex1.exact {M M' : Addr → Prop} {H H' : Hp} (s : ∀ a o, H a = some o → ¬ M a → H' a = some o) (t : ∀ a xs, H a = some (.tup xs) → H' a = some (.tup xs)) (m : ∀ a, M' a → M a ∨ H a = none) : Ex1 M H M' H' where
  rdl := fun a u h n => by
    rcases h with h | ⟨o, h⟩
    · exact .inl (s a _ h n)
    · exact .inr ⟨o, s a _ h n⟩
  rdk := fun a u h n => by
    rcases h with h | ⟨o, h⟩
    · exact .inl (s a _ h n)
    · exact .inr ⟨o, s a _ h n⟩
  lst := fun a xs h n => s a _ h n
  tup := t
  ne := fun a h n => by
    cases q : H a with
    | none => exact absurd q h
    | some u => rw [s a u q n]; simp
  mt := m
theorem Ex1.same {M M' : Addr → Prop} {H H' : Hp} (s : Same H H') (m : ∀ a, M' a → M a ∨ H a = none) : Ex1 M H M' H' :=
  Ex1.exact (fun a o h _ => s a o h) (fun a xs h => s a _ h) m

section
variable {K : PySem.W.Frag} {M M' : Addr → Prop} {H H' : Hp}
mutual
theorem VR.mono (x : Ex1 M H M' H') : ∀ {v : V} {p : PV}, VR K M H v p → VR K M' H' v p
  | _, _, .non => .non
  | _, _, .bl b => .bl b
  | _, _, .int i => .int i
  | _, _, .str hz hc => .str hz hc
  | _, _, .tup (a := a) e m hz r => .tup (x.tup _ _ e) (fun z => (x.mt a z).elim m fun n => by rw [n] at e; cases e) hz (VRs.mono x r)
  | _, _, .lst (a := a) e m hz r => .lst (x.lst _ _ e m) (fun z => (x.mt a z).elim m fun n => by rw [n] at e; cases e) hz (VRs.mono x r)
  | _, _, .frl (a := a) e hz r => by
    refine .frl ?_ hz (VRs.mono x r)
    rcases e with ⟨e, m⟩ | e
    · exact .inl ⟨x.rdl _ _ e m, fun z => (x.mt a z).elim m fun n => Rd.none_of e n⟩
    · exact .inr e
  | _, _, .dict (a := a) e m hz r => .dict (x.rdk _ _ e m) (fun z => (x.mt a z).elim m fun n => Rd.none_of e n) hz (KRs.mono x r)
theorem VRs.mono (x : Ex1 M H M' H') : ∀ {vs : List V} {ps : List PV}, VRs K M H vs ps → VRs K M' H' vs ps
  | _, _, .nil => .nil
  | _, _, .cons r t => .cons (VR.mono x r) (VRs.mono x t)
theorem KRs.mono (x : Ex1 M H M' H') : ∀ {vs : List (Key × V)} {ps : List (PV × PV)}, KRs K M H vs ps → KRs K M' H' vs ps
  | _, _, .nil => .nil
  | _, _, .cons kk e ik ek r t => .cons kk (VR.mono x e) ik ek (VR.mono x r) (KRs.mono x t)
end

theorem VRs.length : ∀ {vs : List V} {ps : List PV}, VRs K M H vs ps → vs.length = ps.length
  | _, _, .nil => rfl
  | _, _, .cons _ t => by rw [List.length_cons, List.length_cons, VRs.length t]
theorem VRs.get : ∀ {vs : List V} {ps : List PV} {i : Nat} {p : PV}, VRs K M H vs ps → ps[i]? = some p → ∃ v, vs[i]? = some v ∧ VR K M H v p
  | _, _, _, _, .nil, e => by simp at e
  | _, _, 0, _, .cons r _, e => by simp at e; subst e; exact ⟨_, rfl, r⟩
  | _, _, i + 1, p, .cons _ t, e => by
    obtain ⟨v, h1, h2⟩ := VRs.get (i := i) (p := p) t (by simpa using e)
    exact ⟨v, by simpa using h1, h2⟩
theorem VRs.getV : ∀ {vs : List V} {ps : List PV} {i : Nat} {v : V}, VRs K M H vs ps → vs[i]? = some v → ∃ p, ps[i]? = some p ∧ VR K M H v p
  | _, _, _, _, .nil, e => by simp at e
  | _, _, 0, _, .cons r _, e => by simp at e; subst e; exact ⟨_, rfl, r⟩
  | _, _, i + 1, p, .cons _ t, e => by
    obtain ⟨v, h1, h2⟩ := VRs.getV (i := i) (v := p) t (by simpa using e)
    exact ⟨v, by simpa using h1, h2⟩
theorem VRs.append : ∀ {vs ws : List V} {ps qs : List PV}, VRs K M H vs ps → VRs K M H ws qs → VRs K M H (vs ++ ws) (ps ++ qs)
  | _, _, _, _, .nil, s => s
  | _, _, _, _, .cons r t, s => .cons r (VRs.append t s)
theorem VRs.reverse : ∀ {vs : List V} {ps : List PV}, VRs K M H vs ps → VRs K M H vs.reverse ps.reverse
  | _, _, .nil => .nil
  | _, _, .cons r t => by
    rw [List.reverse_cons, List.reverse_cons]
    exact (VRs.reverse t).append (.cons r .nil)
theorem VRs.take : ∀ {vs : List V} {ps : List PV} (n : Nat), VRs K M H vs ps → VRs K M H (vs.take n) (ps.take n)
  | _, _, 0, _ => by rw [List.take_zero, List.take_zero]; exact .nil
  | _, _, _ + 1, .nil => .nil
  | _, _, n + 1, .cons r t => .cons r (VRs.take n t)
theorem VRs.drop : ∀ {vs : List V} {ps : List PV} (n : Nat), VRs K M H vs ps → VRs K M H (vs.drop n) (ps.drop n)
  | _, _, 0, r => r
  | _, _, _ + 1, .nil => .nil
  | _, _, n + 1, .cons _ t => VRs.drop n t
theorem VRs.set {v : V} {p : PV} (r : VR K M H v p) : ∀ {vs : List V} {ps : List PV} (i : Nat), VRs K M H vs ps → VRs K M H (vs.set i v) (ps.set i p)
  | _, _, _, .nil => .nil
  | _, _, 0, .cons _ t => .cons r t
  | _, _, i + 1, .cons q t => .cons q (VRs.set r i t)
theorem VRs.eraseIdx : ∀ {vs : List V} {ps : List PV} (i : Nat), VRs K M H vs ps → VRs K M H (vs.eraseIdx i) (ps.eraseIdx i)
  | _, _, _, .nil => .nil
  | _, _, 0, .cons _ t => t
  | _, _, i + 1, .cons q t => .cons q (VRs.eraseIdx i t)
theorem VRs.dropLast {vs : List V} {ps : List PV} (r : VRs K M H vs ps) : VRs K M H vs.dropLast ps.dropLast := by
  rw [List.dropLast_eq_take, List.dropLast_eq_take, VRs.length r]
  exact r.take _
end

/-! ### the heap of things that change -/
def mutC : Cell → Bool
  | .frz _ => false
  | _ => true
def Mt (φ : List Addr) (h : AH) (a : Addr) : Prop := ∃ (i : Nat) (c : Cell), h[i]? = some c ∧ mutC c = true ∧ φ[i]? = some a

def CR (K : PySem.W.Frag) (M : Addr → Prop) (H : Hp) (a : Addr) : Cell → Prop
  | .lst xs => ∃ vs, H a = some (.lst vs) ∧ VRs K M H vs xs ∧ xs.length ≤ SZ
  | .dict kvs => ∃ ks, H a = some (.dK ks) ∧ KRs K M H ks kvs ∧ kvs.length ≤ SZ
  | .frz p => VR K M H (.ref a) p ∧ ¬ M a ∧ H a ≠ none

structure HR (K : PySem.W.Frag) (φ : List Addr) (h : AH) (H : Hp) : Prop where
  len : φ.length = h.length
  cell : ∀ (i : Nat) (c : Cell) (a : Addr), h[i]? = some c → φ[i]? = some a → CR K (Mt φ h) H a c
  inj : ∀ (i j : Nat) (c d : Cell) (a : Addr), h[i]? = some c → h[j]? = some d → mutC c = true → mutC d = true → φ[i]? = some a → φ[j]? = some a → i = j
theorem HR.at {K : PySem.W.Frag} {φ : List Addr} {h : AH} {H : Hp} (R : HR K φ h H) {i : Nat} {c : Cell} (e : h[i]? = some c) : ∃ a, φ[i]? = some a ∧ CR K (Mt φ h) H a c := by
  have hl : i < φ.length := by rw [R.len]; exact (List.getElem?_eq_some_iff.mp e).1
  exact ⟨φ[i], List.getElem?_eq_getElem hl, R.cell i c _ e (List.getElem?_eq_getElem hl)⟩
theorem HR.tracked {K : PySem.W.Frag} {φ : List Addr} {h : AH} {H : Hp} (R : HR K φ h H) {a : Addr} (m : Mt φ h a) : ∃ o, H a = some o ∧ Mut (some o) := by
  obtain ⟨i, c, e, mc, ea⟩ := m
  have := R.cell i c a e ea
  cases c with
  | lst xs => obtain ⟨vs, q, _⟩ := this; exact ⟨_, q, True.intro⟩
  | dict kvs => obtain ⟨vs, q, _⟩ := this; exact ⟨_, q, True.intro⟩
  | frz p => cases mc

def Ext (φ : List Addr) (h : AH) (H : Hp) (φ' : List Addr) (h' : AH) (H' : Hp) : Prop :=
  Ex1 (Mt φ h) H (Mt φ' h') H' ∧ (∃ t, φ' = φ ++ t) ∧ ∀ a o, H a = some o → ¬ Mt φ h a → H' a = some o
theorem Ext.refl {φ h H} : Ext φ h H φ h H := ⟨Ex1.refl _ _, ⟨[], by simp⟩, fun _ _ e _ => e⟩
theorem Ext.trans {φ h H φ1 h1 H1 φ2 h2 H2} (a : Ext φ h H φ1 h1 H1) (b : Ext φ1 h1 H1 φ2 h2 H2) : Ext φ h H φ2 h2 H2 := by
  obtain ⟨a1, ⟨t, rfl⟩, a3⟩ := a
  obtain ⟨b1, ⟨u, rfl⟩, b3⟩ := b
  exact ⟨a1.trans b1, ⟨t ++ u, by simp⟩, fun c o e m => b3 c o (a3 c o e m) fun z => (a1.mt c z).elim m fun n => by rw [n] at e; cases e⟩

def SR (K : PySem.W.Frag) (φ : List Addr) (h : AH) (H : Hp) (v : V) : SV → Prop
  | .v p => VR K (Mt φ h) H v p
  | .o i => ∃ a, v = .ref a ∧ φ[i]? = some a
theorem SR.mono {K φ h H φ' h' H' v} {s : SV} (x : Ext φ h H φ' h' H') (r : SR K φ h H v s) : SR K φ' h' H' v s := by
  cases s with
  | v p => exact VR.mono x.1 r
  | o i =>
    obtain ⟨a, e, q⟩ := r
    obtain ⟨_, ⟨t, rfl⟩, _⟩ := x
    exact ⟨a, e, by rw [List.getElem?_append_left (List.getElem?_eq_some_iff.mp q).1]; exact q⟩
def SRs (K : PySem.W.Frag) (φ : List Addr) (h : AH) (H : Hp) : List V → List SV → Prop := Paired (SR K φ h H)
theorem SRs.mono {K φ h H φ' h' H'} (x : Ext φ h H φ' h' H') : ∀ {vs : List V} {ss : List SV}, SRs K φ h H vs ss → SRs K φ' h' H' vs ss
  | _, _, .nil => .nil
  | _, _, .cons r t => .cons (r.mono x) (SRs.mono x t)
theorem SRs.pvs {K φ h H} : ∀ {vs : List V} {ss : List SV} {ps : List PV}, SRs K φ h H vs ss → pvs ss = some ps → VRs K (Mt φ h) H vs ps
  | _, _, ps, .nil, e => by
    cases (Option.some.inj e)
    exact .nil
  | _, _, ps, .cons (b := b) r t, e => by
    cases b with
    | o i => cases e
    | v p =>
      unfold Ev.pvs at e
      rw [Option.map_eq_some_iff] at e
      obtain ⟨qs, e1, rfl⟩ := e
      exact .cons r (SRs.pvs t e1)

structure ER (K : PySem.W.Frag) (φ : List Addr) (h : AH) (H : Hp) (e : En) (σ : L2.St) : Prop where
  len : e.length = σ.length
  at_ : ∀ (i : Nat) (s : SV), e[i]? = some (some s) → ∃ v, σ[i]? = some (some v) ∧ SR K φ h H v s
theorem ER.mono {K φ h H φ' h' H' e σ} (x : Ext φ h H φ' h' H') (r : ER K φ h H e σ) : ER K φ' h' H' e σ :=
  ⟨r.len, fun i s q => let ⟨v, a, b⟩ := r.at_ i s q; ⟨v, a, b.mono x⟩⟩
theorem ER.set {K φ h H e σ} (r : ER K φ h H e σ) (i : Nat) {v : V} {s : SV} (q : SR K φ h H v s) : ER K φ h H (e.set i (some s)) (σ.set i (some v)) := by
  refine ⟨by simp [r.len], fun j t e1 => ?_⟩
  by_cases hj : i = j
  · subst hj
    by_cases hl : i < e.length
    · rw [List.getElem?_set_self hl] at e1
      cases e1
      exact ⟨v, List.getElem?_set_self (by rw [← r.len]; exact hl), q⟩
    · rw [List.getElem?_eq_none (by simpa using hl)] at e1; cases e1
  · rw [List.getElem?_set_ne hj] at e1
    rw [List.getElem?_set_ne hj]
    exact r.at_ j t e1

/-! ### steps of the heap -/
section
variable {K : PySem.W.Frag} {φ : List Addr} {h : AH} {H : Hp}
/-- a new thing at p that does not change -/
theorem Ext.new (R : HR K φ h H) {p : Addr} (n : H p = none) (o : HO) : Ext φ h H φ h (upd H p o) :=
  ⟨Ex1.same (fun b u e => by rw [upd_ne (ne_of_none e n)]; exact e) fun a z => .inl z, ⟨[], by simp⟩, fun b u e _ => by rw [upd_ne (ne_of_none e n)]; exact e⟩
theorem CR.mono {M M' : Addr → Prop} {H' : Hp} {a : Addr} (x : Ex1 M H M' H') (hm : ∀ o, H a = some o → Mut (some o) → H' a = some o) : ∀ {c : Cell}, CR K M H a c → CR K M' H' a c
  | .lst xs, ⟨vs, e, r, z⟩ => ⟨vs, hm _ e True.intro, r.mono x, z⟩
  | .dict kvs, ⟨vs, e, r, z⟩ => ⟨vs, hm _ e True.intro, r.mono x, z⟩
  | .frz p, ⟨r, m, q⟩ => ⟨VR.mono x r, fun z => (x.mt a z).elim m q, x.ne a q m⟩
theorem HR.new (R : HR K φ h H) {p : Addr} (n : H p = none) (o : HO) : HR K φ h (upd H p o) :=
  ⟨R.len, fun i c a e ea => (R.cell i c a e ea).mono (Ext.new R n o).1 (fun u q _ => by rw [upd_ne (ne_of_none q n)]; exact q), R.inj⟩
theorem HR.new_not (R : HR K φ h H) {p : Addr} (n : H p = none) : ¬ Mt φ h p := fun m => by
  obtain ⟨o, e, _⟩ := R.tracked m
  rw [n] at e; cases e
theorem Mt.push {p : Addr} {c : Cell} (hl : φ.length = h.length) {a : Addr} (m : Mt (φ ++ [p]) (h ++ [c]) a) : Mt φ h a ∨ a = p := by
  obtain ⟨i, d, e, mc, ea⟩ := m
  by_cases hi : i < h.length
  · rw [List.getElem?_append_left hi] at e
    rw [List.getElem?_append_left (by omega)] at ea
    exact .inl ⟨i, d, e, mc, ea⟩
  · have hi' : i = h.length := by
      have := (List.getElem?_eq_some_iff.mp e).1
      simp at this
      omega
    subst hi'
    rw [List.getElem?_append_right (by omega)] at ea
    rw [show h.length - φ.length = 0 by omega] at ea
    simp at ea
    exact .inr ea.symm
/-- a new thing that may change -/
theorem Ext.push (R : HR K φ h H) {p : Addr} (n : H p = none) (o : HO) (c : Cell) : Ext φ h H (φ ++ [p]) (h ++ [c]) (upd H p o) :=
  ⟨Ex1.same (fun b u e => by rw [upd_ne (ne_of_none e n)]; exact e) fun a z => (Mt.push R.len z).imp id fun e => by subst e; exact n, ⟨[p], rfl⟩, fun b u e _ => by rw [upd_ne (ne_of_none e n)]; exact e⟩
theorem HR.push (R : HR K φ h H) {p : Addr} (n : H p = none) (o : HO) (c : Cell) (r : CR K (Mt (φ ++ [p]) (h ++ [c])) (upd H p o) p c) : HR K (φ ++ [p]) (h ++ [c]) (upd H p o) := by
  have x := Ext.push R n o c
  have low : ∀ (i : Nat) (d : Cell) (a : Addr), (h ++ [c])[i]? = some d → (φ ++ [p])[i]? = some a → (i < h.length ∧ h[i]? = some d ∧ φ[i]? = some a) ∨ (i = h.length ∧ d = c ∧ a = p) := fun i d a e ea => by
    by_cases hi : i < h.length
    · rw [List.getElem?_append_left hi] at e
      rw [List.getElem?_append_left (by have := R.len; omega)] at ea
      exact .inl ⟨hi, e, ea⟩
    · have hi' : i = h.length := by
        have := (List.getElem?_eq_some_iff.mp e).1
        simp at this
        omega
      subst hi'
      rw [List.getElem?_append_right (by omega)] at e
      rw [List.getElem?_append_right (by have := R.len; omega)] at ea
      rw [show h.length - φ.length = 0 by have := R.len; omega] at ea
      simp at e ea
      exact .inr ⟨rfl, e.symm, ea.symm⟩
  refine ⟨by simp [R.len], fun i d a e ea => ?_, fun i j d d' a e1 e2 m1 m2 a1 a2 => ?_⟩
  · rcases low i d a e ea with ⟨_, e, ea⟩ | ⟨_, rfl, rfl⟩
    · exact (R.cell i d a e ea).mono x.1 fun u q _ => by rw [upd_ne (ne_of_none q n)]; exact q
    · exact r
  · rcases low i d a e1 a1 with ⟨_, e1, a1⟩ | ⟨q1, q2, q3⟩
    · rcases low j d' a e2 a2 with ⟨_, e2, a2⟩ | ⟨q1, q2, q3⟩
      · exact R.inj i j d d' a e1 e2 m1 m2 a1 a2
      · exact absurd ⟨i, d, e1, m1, q3 ▸ a1⟩ (R.new_not n)
    · rcases low j d' a e2 a2 with ⟨_, e2, a2⟩ | ⟨r1, r2, r3⟩
      · exact absurd ⟨j, d', e2, m2, q3 ▸ a2⟩ (R.new_not n)
      · exact q1.trans r1.symm
theorem Mt.set {j : Nat} {c d : Cell} {a : Addr} (e : h[j]? = some c) (mc : mutC c = true) (m : Mt φ (h.set j d) a) : Mt φ h a := by
  obtain ⟨i, f, e1, mf, ea⟩ := m
  by_cases hi : j = i
  · subst hi
    exact ⟨j, c, e, mc, ea⟩
  · rw [List.getElem?_set_ne hi] at e1
    exact ⟨i, f, e1, mf, ea⟩
/-- the thing at j is written -/
theorem Ext.put (R : HR K φ h H) {j : Nat} {c d : Cell} {a : Addr} {o : HO} (e : h[j]? = some c) (mc : mutC c = true) (ea : φ[j]? = some a) : Ext φ h H φ (h.set j d) (upd H a o) := by
  have hM : Mt φ h a := ⟨j, c, e, mc, ea⟩
  obtain ⟨u, hu, mu⟩ := R.tracked hM
  have ne : ∀ b, ¬ Mt φ h b → b ≠ a := fun b m z => m (z ▸ hM)
  have key : ∀ b v, H b = some v → ¬ Mt φ h b → (upd H a o) b = some v := fun b v q m => by rw [upd_ne (ne b m)]; exact q
  exact ⟨Ex1.exact key (fun b xs q => by rw [upd_ne (fun z => by subst z; rw [hu] at q; cases q; exact mu)]; exact q) fun b z => .inl (Mt.set e mc z), ⟨[], by simp⟩, key⟩
theorem HR.put (R : HR K φ h H) {j : Nat} {c d : Cell} {a : Addr} {o : HO} (e : h[j]? = some c) (mc : mutC c = true) (ea : φ[j]? = some a) (r : CR K (Mt φ (h.set j d)) (upd H a o) a d) : HR K φ (h.set j d) (upd H a o) := by
  have x := Ext.put (d := d) (o := o) R e mc ea
  refine ⟨by simp [R.len], fun i f b e1 eb => ?_, fun i k f g b e1 e2 m1 m2 b1 b2 => ?_⟩
  · by_cases hi : j = i
    · subst hi
      rw [List.getElem?_set_self (List.getElem?_eq_some_iff.mp e).1] at e1
      cases e1
      rw [ea] at eb
      cases eb
      exact r
    · rw [List.getElem?_set_ne hi] at e1
      refine (R.cell i f b e1 eb).mono x.1 fun u q mu => ?_
      by_cases hb : b = a
      · subst hb
        cases hf : mutC f with
        | true => exact absurd (R.inj j i c f b e e1 mc hf ea eb) hi
        | false =>
          cases f with
          | lst _ => cases hf
          | dict _ => cases hf
          | frz p => exact absurd ⟨j, c, e, mc, ea⟩ (R.cell i _ b e1 eb).2.1
      · rw [upd_ne hb]; exact q
  · have back : ∀ i f, (h.set j d)[i]? = some f → mutC f = true → ∃ f', h[i]? = some f' ∧ mutC f' = true := fun i f e1 m1 => by
      by_cases hi : j = i
      · subst hi; exact ⟨c, e, mc⟩
      · rw [List.getElem?_set_ne hi] at e1; exact ⟨f, e1, m1⟩
    obtain ⟨f', e1', m1'⟩ := back i f e1 m1
    obtain ⟨g', e2', m2'⟩ := back k g e2 m2
    exact R.inj i k f' g' b e1' e2' m1' m2' b1 b2

/-- the thing at j changes no more -/
theorem HR.frzM (R : HR K φ h H) {j : Nat} {c : Cell} {p : PV} {a : Addr} (e : h[j]? = some c) (mc : mutC c = true) (ea : φ[j]? = some a) : ¬ Mt φ (h.set j (.frz p)) a := by
  rintro ⟨i, d, e1, m1, a1⟩
  by_cases hi : j = i
  · subst hi
    rw [List.getElem?_set_self (List.getElem?_eq_some_iff.mp e).1] at e1
    cases e1
    cases m1
  · rw [List.getElem?_set_ne hi] at e1
    exact hi (R.inj j i c d a e e1 mc m1 ea a1)
theorem Ext.frzX (R : HR K φ h H) {j : Nat} {c : Cell} {p : PV} (e : h[j]? = some c) (mc : mutC c = true) : Ext φ h H φ (h.set j (.frz p)) H :=
  ⟨⟨fun _ _ q _ => q, fun _ _ q _ => q, fun _ _ q _ => q, fun _ _ q => q, fun _ q _ => q, fun _ z => .inl (Mt.set e mc z)⟩, ⟨[], by simp⟩, fun _ _ q _ => q⟩
theorem HR.frz (R : HR K φ h H) {j : Nat} {c : Cell} {p : PV} {a : Addr} (e : h[j]? = some c) (mc : mutC c = true) (ea : φ[j]? = some a) (v : VR K (Mt φ (h.set j (.frz p))) H (.ref a) p) : HR K φ (h.set j (.frz p)) H := by
  have x := Ext.frzX (p := p) R e mc
  obtain ⟨u, hu, _⟩ := R.tracked ⟨j, c, e, mc, ea⟩
  refine ⟨by simp [R.len], fun i d b e1 eb => ?_, fun i k f g b e1 e2 m1 m2 b1 b2 => ?_⟩
  · by_cases hi : j = i
    · subst hi
      rw [List.getElem?_set_self (List.getElem?_eq_some_iff.mp e).1] at e1
      cases e1
      rw [ea] at eb
      cases eb
      exact ⟨v, R.frzM e mc ea, by rw [hu]; simp⟩
    · rw [List.getElem?_set_ne hi] at e1
      exact (R.cell i d b e1 eb).mono x.1 fun u q _ => q
  · have back : ∀ i f, (h.set j (.frz p))[i]? = some f → mutC f = true → ∃ f', h[i]? = some f' ∧ mutC f' = true := fun i f e1 m1 => by
      by_cases hi : j = i
      · subst hi; exact ⟨c, e, mc⟩
      · rw [List.getElem?_set_ne hi] at e1; exact ⟨f, e1, m1⟩
    obtain ⟨f', e1', m1'⟩ := back i f e1 m1
    obtain ⟨g', e2', m2'⟩ := back k g e2 m2
    exact R.inj i k f' g' b e1' e2' m1' m2' b1 b2
/-- things at the end are forgotten -/
theorem Mt.take {n : Nat} {a : Addr} (m : Mt (φ.take n) (h.take n) a) : Mt φ h a := by
  obtain ⟨i, c, e, mc, ea⟩ := m
  rw [List.getElem?_take] at e ea
  split at e
  · rw [if_pos (by assumption)] at ea
    exact ⟨i, c, e, mc, ea⟩
  · cases e
theorem HR.take (R : HR K φ h H) (n : Nat) : HR K (φ.take n) (h.take n) H := by
  have x : Ex1 (Mt φ h) H (Mt (φ.take n) (h.take n)) H := ⟨fun _ _ q _ => q, fun _ _ q _ => q, fun _ _ q _ => q, fun _ _ q => q, fun _ q _ => q, fun _ z => .inl (Mt.take z)⟩
  have low : ∀ {α : Type} {l : List α} {i : Nat} {y : α}, (l.take n)[i]? = some y → l[i]? = some y := fun {α l i y} e => by
    rw [List.getElem?_take] at e
    split at e
    · exact e
    · cases e
  refine ⟨by simp [R.len], fun i c a e ea => (R.cell i c a (low e) (low ea)).mono x fun u q _ => q, fun i j c d a e1 e2 m1 m2 a1 a2 => R.inj i j c d a (low e1) (low e2) m1 m2 (low a1) (low a2)⟩
theorem Ext.take {φ0 : List Addr} {h0 : AH} {H0 : Hp} (x : Ext φ0 h0 H0 φ h H) {n : Nat} (hn : φ0.length ≤ n) : Ext φ0 h0 H0 (φ.take n) (h.take n) H := by
  obtain ⟨x, ⟨t, rfl⟩, x3⟩ := x
  refine ⟨⟨x.rdl, x.rdk, x.lst, x.tup, x.ne, fun a z => x.mt a (Mt.take z)⟩, ⟨t.take (n - φ0.length), ?_⟩, x3⟩
  rw [List.take_append, List.take_of_length_le hn]
theorem VR.take {n : Nat} {v : V} {p : PV} (r : VR K (Mt φ h) H v p) : VR K (Mt (φ.take n) (h.take n)) H v p :=
  VR.mono ⟨fun _ _ q _ => q, fun _ _ q _ => q, fun _ _ q _ => q, fun _ _ q => q, fun _ q _ => q, fun _ z => .inl (Mt.take z)⟩ r

/-! ### what stands behind a name -/
inductive CV (K : PySem.W.Frag) (φ : List Addr) (h : AH) (H : Hp) : V → PV → Prop
  | v {v : V} {p : PV} (r : VR K (Mt φ h) H v p) : CV K φ h H v p
  | lst {a : Addr} {vs : List V} {xs : List PV} (e : H a = some (.lst vs)) (hz : xs.length ≤ SZ) (r : VRs K (Mt φ h) H vs xs) : CV K φ h H (.ref a) (.lst xs)
  | dict {a : Addr} {ks : List (Key × V)} {kvs : List (PV × PV)} (e : Rd H a (.dK ks)) (hz : kvs.length ≤ SZ) (r : KRs K (Mt φ h) H ks kvs) : CV K φ h H (.ref a) (.dict kvs)
theorem peek_cv (R : HR K φ h H) {v : V} {s : SV} {p : PV} (r : SR K φ h H v s) (e : peek h s = some p) : CV K φ h H v p := by
  cases s with
  | v q => cases e; exact .v r
  | o i =>
    obtain ⟨a, rfl, ea⟩ := r
    cases hc : h[i]? with
    | none => simp only [peek, hc] at e; cases e
    | some c =>
      simp only [peek, hc] at e
      have q := R.cell i c a hc ea
      cases c with
      | lst xs => cases e; obtain ⟨vs, q, r, z⟩ := q; exact .lst q z r
      | dict xs => cases e; obtain ⟨vs, q, r, z⟩ := q; exact .dict (.inl q) z r
      | frz p => cases e; exact .v q.1
theorem CV.int {v : V} {i : Int} (c : CV K φ h H v (.int i)) : v = .int i := by
  cases c with
  | v r => cases r; rfl
theorem CV.bl {v : V} {i : Bool} (c : CV K φ h H v (.bl i)) : v = .bl i := by
  cases c with
  | v r => cases r; rfl
theorem CV.non {v : V} (c : CV K φ h H v .non) : v = .non := by
  cases c with
  | v r => cases r; rfl
theorem CV.str {v : V} {s : List Nat} (c : CV K φ h H v (.str s)) : v = .str (strV s) ∧ s.length ≤ SZ ∧ ∀ c ∈ s, c < 0x110000 := by
  cases c with
  | v r => cases r with
    | str hz hc => exact ⟨rfl, hz, hc⟩
theorem CV.tup {v : V} {xs : List PV} (c : CV K φ h H v (.tup xs)) : ∃ a vs, v = .ref a ∧ H a = some (.tup vs) ∧ VRs K (Mt φ h) H vs xs ∧ xs.length ≤ SZ := by
  cases c with
  | v r => cases r with
    | tup e m hz r => exact ⟨_, _, rfl, e, r, hz⟩
theorem CV.list {v : V} {xs : List PV} (c : CV K φ h H v (.lst xs)) : ∃ a vs, v = .ref a ∧ H a = some (.lst vs) ∧ VRs K (Mt φ h) H vs xs ∧ xs.length ≤ SZ := by
  cases c with
  | v r => cases r with
    | lst e m hz r => exact ⟨_, _, rfl, e, r, hz⟩
  | lst e hz r => exact ⟨_, _, rfl, e, r, hz⟩
theorem CV.frl {v : V} {xs : List PV} (c : CV K φ h H v (.frl xs)) : ∃ a vs, v = .ref a ∧ SqL K H a vs ∧ VRs K (Mt φ h) H vs xs ∧ xs.length ≤ SZ := by
  cases c with
  | v r => cases r with
    | frl e hz r => exact ⟨_, _, rfl, e.elim (fun z => .inl z.1) (fun z => z H), r, hz⟩
theorem CV.dic {v : V} {xs : List (PV × PV)} (c : CV K φ h H v (.dict xs)) : ∃ a ks, v = .ref a ∧ Rd H a (.dK ks) ∧ KRs K (Mt φ h) H ks xs ∧ xs.length ≤ SZ := by
  cases c with
  | v r => cases r with
    | dict e m hz r => exact ⟨_, _, rfl, e, r, hz⟩
  | dict e hz r => exact ⟨_, _, rfl, e, r, hz⟩
end

/-! ### new things -/
section
variable {K : PySem.W.Frag} {φ : List Addr} {h : AH} {H : Hp}
abbrev Kont (K : PySem.W.Frag) (φ : List Addr) (h : AH) (H : Hp) (h' : AH) (s : SV) (Q : VK) : Prop :=
  ∀ (v : V) (H' : Hp) (φ' : List Addr), HR K φ' h' H' → Ext φ h H φ' h' H' → SR K φ' h' H' v s → Q v H'
theorem new_tup (R : HR K φ h H) {vs : List V} {xs : List PV} {Q : VK} (r : VRs K (Mt φ h) H vs xs) (hz : xs.length ≤ SZ) (k : Kont K φ h H h (.v (.tup xs)) Q) : ∀ p, H p = none → Q (.ref p) (upd H p (.tup vs)) := fun p n =>
  k _ _ φ (R.new n _) (Ext.new R n _) (.tup upd_same (R.new_not n) hz (r.mono (Ext.new R n _).1))
theorem new_lst (R : HR K φ h H) {vs : List V} {xs : List PV} {Q : VK} (r : VRs K (Mt φ h) H vs xs) (hz : xs.length ≤ SZ) (k : Kont K φ h H h (.v (.lst xs)) Q) : ∀ p, H p = none → Q (.ref p) (upd H p (.lst vs)) := fun p n =>
  k _ _ φ (R.new n _) (Ext.new R n _) (.lst upd_same (R.new_not n) hz (r.mono (Ext.new R n _).1))
theorem new_lstM (R : HR K φ h H) {vs : List V} {xs : List PV} {Q : VK} {m : Bool} {s : SV} {h' : AH} (r : VRs K (Mt φ h) H vs xs) (hz : xs.length ≤ SZ) (e : mkL m xs h = some (s, h')) (k : Kont K φ h H h' s Q) : ∀ p, H p = none → Q (.ref p) (upd H p (.lst vs)) := fun p n => by
  cases m with
  | false => cases e; exact new_lst R r hz k p n
  | true =>
    cases e
    have x := Ext.push R n (.lst vs) (.lst xs)
    refine k _ _ (φ ++ [p]) (R.push n _ _ ⟨vs, upd_same, r.mono x.1, hz⟩) x ⟨p, rfl, ?_⟩
    rw [List.getElem?_append_right (by rw [R.len]; exact Nat.le_refl _), R.len, Nat.sub_self]
    rfl
theorem new_dicM (R : HR K φ h H) {ks : List (Key × V)} {xs : List (PV × PV)} {Q : VK} {m : Bool} {s : SV} {h' : AH} (r : KRs K (Mt φ h) H ks xs) (hz : xs.length ≤ SZ) (e : mkD m xs h = some (s, h')) (k : Kont K φ h H h' s Q) : ∀ p, H p = none → Q (.ref p) (upd H p (.dK ks)) := fun p n => by
  cases m with
  | false => cases e; exact k _ _ φ (R.new n _) (Ext.new R n _) (.dict (.inl upd_same) (R.new_not n) hz (r.mono (Ext.new R n _).1))
  | true =>
    cases e
    have x := Ext.push R n (.dK ks) (.dict xs)
    refine k _ _ (φ ++ [p]) (R.push n _ _ ⟨ks, upd_same, r.mono x.1, hz⟩) x ⟨p, rfl, ?_⟩
    rw [List.getElem?_append_right (by rw [R.len]; exact Nat.le_refl _), R.len, Nat.sub_self]
    rfl
end
end Ev

set_option Elab.async false
set_option linter.all false
set_option maxRecDepth 100000
namespace Ev
open PySem PySem.Spec PyProof.Rows L2

theorem PE.imp {X : Cx} {e : Expr} {t t' : TE} (h : PE X e t) (i : ∀ σ H Q, t' σ H Q → t σ H Q) : PE X e t' := ⟨fun pins s σ H Q I w => h.run pins s σ H Q I (i σ H Q w)⟩
theorem PE.or {X : Cx} {e : Expr} {t t' : TE} (h : PE X e t) (h' : PE X e t') : PE X e (fun σ H Q => t σ H Q ∨ t' σ H Q) :=
  ⟨fun pins s σ H Q I w => w.elim (h.run pins s σ H Q I) (h'.run pins s σ H Q I)⟩
theorem PE.no {X : Cx} {e : Expr} : PE X e (fun _ _ _ => False) := ⟨fun _ _ _ _ _ _ h => h.elim⟩
theorem PT.imp {X : Cx} {e : Expr} {t t' : TT} (h : PT X e t) (i : ∀ σ H Q, t' σ H Q → t σ H Q) : PT X e t' := ⟨fun pins s σ H Q I w => h.run pins s σ H Q I (i σ H Q w)⟩
theorem PS.imp {X : Cx} {e : Stmt} {t t' : TS} (h : PS X e t) (i : ∀ D σ H, t' D σ H → t D σ H) : PS X e t' := ⟨fun pins s σ H D I w => h.run pins s σ H D I (i D σ H w)⟩
theorem PSs.imp {X : Cx} {e : List Stmt} {t t' : TS} (h : PSs X e t) (i : ∀ D σ H, t' D σ H → t D σ H) : PSs X e t' := ⟨fun pins s σ H D I w => h.run pins s σ H D I (i D σ H w)⟩
theorem PS.no {X : Cx} {e : Stmt} : PS X e (fun _ _ _ => False) := ⟨fun _ _ _ _ _ _ h => h.elim⟩

/-! ### data -/
mutual
def toD : PV → PyData
  | .non => .none
  | .bl b => .bool b
  | .int i => .int i
  | .str s => .str (strV s)
  | .tup xs => .tuple (toDs xs)
  | .lst xs => .list (toDs xs)
  | .frl _ => .none
  | .dict _ => .none
def toDs : List PV → List PyData
  | [] => []
  | x :: xs => toD x :: toDs xs
end
theorem str_beq (a b : List Nat) : (strV a == strV b) = (a == b) := by
  by_cases h : a = b
  · subst h; simp
  · have : ¬ strV a = strV b := fun e => h (by
      have := congrArg (fun x => x.cps.toList) e
      simpa [strV] using this)
    rw [beq_eq_false_iff_ne.mpr this, beq_eq_false_iff_ne.mpr h]
mutual
theorem eqv_toD : ∀ (p q : PV), plainD p = true → plainD q = true → PyData.eqv (toD p) (toD q) = eqv p q
  | .non, q, _, hq => by cases q <;> simp_all [toD, PyData.eqv, eqv, plainD]
  | .bl a, q, _, hq => by cases q <;> simp_all [toD, PyData.eqv, eqv, plainD]
  | .int a, q, _, hq => by cases q <;> simp_all [toD, PyData.eqv, eqv, plainD]
  | .str a, q, _, hq => by cases q <;> simp_all [toD, PyData.eqv, eqv, plainD, str_beq]
  | .tup xs, q, hp, hq => by
    cases q with
    | tup ys => simp only [toD, PyData.eqv, eqv]; exact eqvs_toD xs ys hp hq
    | _ => simp_all [toD, PyData.eqv, eqv, plainD]
  | .lst xs, q, hp, hq => by
    cases q with
    | lst ys => simp only [toD, PyData.eqv, eqv]; exact eqvs_toD xs ys hp hq
    | _ => simp_all [toD, PyData.eqv, eqv, plainD]
  | .frl xs, q, hp, hq => by cases hp
  | .dict xs, q, hp, hq => by cases hp
theorem eqvs_toD : ∀ (p q : List PV), plainDs p = true → plainDs q = true → PyData.eqvAll (toDs p) (toDs q) = eqvs p q
  | [], [], _, _ => by simp [toDs, PyData.eqvAll, eqvs]
  | [], _ :: _, _, _ => by simp [toDs, PyData.eqvAll, eqvs]
  | _ :: _, [], _, _ => by simp [toDs, PyData.eqvAll, eqvs]
  | x :: xs, y :: ys, hp, hq => by
    simp only [plainDs, Bool.and_eq_true] at hp hq
    simp only [toDs, PyData.eqvAll, eqvs, eqv_toD x y hp.1 hq.1, eqvs_toD xs ys hp.2 hq.2]
end
mutual
theorem dep_toD : ∀ (p : PV), plainD p = true → (toD p).depth = dep p
  | .non, _ => by simp [toD, PyData.depth, dep]
  | .bl a, _ => by simp [toD, PyData.depth, dep]
  | .int a, _ => by simp [toD, PyData.depth, dep]
  | .str a, _ => by simp [toD, PyData.depth, dep]
  | .tup xs, hp => by simp only [toD, PyData.depth, dep, deps_toD xs hp]
  | .lst xs, hp => by simp only [toD, PyData.depth, dep, deps_toD xs hp]
  | .frl xs, hp => by cases hp
  | .dict xs, hp => by cases hp
theorem deps_toD : ∀ (p : List PV), plainDs p = true → PyData.depthAll (toDs p) = deps p
  | [], _ => by simp [toDs, PyData.depthAll, deps]
  | x :: xs, hp => by
    simp only [plainDs, Bool.and_eq_true] at hp
    simp only [toDs, PyData.depthAll, deps, dep_toD x hp.1, deps_toD xs hp.2]
end
section
variable {K : PySem.W.Frag} {φ : List Addr} {h : AH} {H : Hp} {M : Addr → Prop}
mutual
theorem VR.dp : ∀ (p : PV) {v : V}, VR K M H v p → plainD p = true → Dp K H v (toD p) ∧ (toD p).canLay0 = true
  | .non, _, r, _ => by cases r; exact ⟨.non, by simp [toD, PyData.canLay0]⟩
  | .bl b, _, r, _ => by cases r; exact ⟨.bl b, by simp [toD, PyData.canLay0]⟩
  | .int i, _, r, _ => by cases r; exact ⟨.int i, by simp [toD, PyData.canLay0]⟩
  | .str s, _, r, _ => by
    cases r with
    | str hz hc =>
      refine ⟨.str _, ?_⟩
      simp only [toD, PyData.canLay0]
      unfold PyData.strOk strV
      simp
      exact hc
  | .tup xs, _, r, hp => by
    cases r with
    | tup e m hz r =>
      obtain ⟨a, b⟩ := VRs.dp xs r hp
      exact ⟨.tup (.inl (.inl e)) a, by simp only [toD, PyData.canLay0]; exact b⟩
  | .lst xs, _, r, hp => by
    cases r with
    | lst e m hz r =>
      obtain ⟨a, b⟩ := VRs.dp xs r hp
      exact ⟨.lst (.inl (.inl e)) a, by simp only [toD, PyData.canLay0]; exact b⟩
  | .frl xs, _, r, hp => by cases hp
  | .dict xs, _, r, hp => by cases hp
theorem VRs.dp : ∀ (p : List PV) {v : List V}, VRs K M H v p → plainDs p = true → DpAll K H v (toDs p) ∧ PyData.canLayAll0 (toDs p) = true
  | [], _, r, _ => by cases r; exact ⟨.nil, by simp [toDs, PyData.canLayAll0]⟩
  | x :: xs, _, r, hp => by
    cases r with
    | cons r t =>
      simp only [plainDs, Bool.and_eq_true] at hp
      obtain ⟨a1, a2⟩ := VR.dp x r hp.1
      obtain ⟨b1, b2⟩ := VRs.dp xs t hp.2
      exact ⟨.cons a1 b1, by simp only [toDs, PyData.canLayAll0, a2, b2, Bool.and_self]⟩
end
theorem CV.dpl {v : V} {p : PV} (c : CV K φ h H v p) (hp : plainD p = true) : Dp K H v (toD p) := by
  cases c with
  | v r => exact (VR.dp _ r hp).1
  | lst e hz r => exact .lst (.inl (.inl e)) (VRs.dp _ r hp).1
  | dict e hz r => simp [plainD] at hp
theorem CV.dp {v : V} {p : PV} (c : CV K φ h H v p) (hp : okD p = true) : Dp K H v (toD p) ∧ SeqAt.shaped (toD p) = true := by
  unfold okD at hp
  rw [Bool.and_eq_true] at hp
  have key : Dp K H v (toD p) ∧ (toD p).canLay0 = true := by
    cases c with
    | v r => exact VR.dp _ r hp.1
    | lst e hz r => exact ⟨.lst (.inl (.inl e)) (VRs.dp _ r hp.1).1, by simp only [toD, PyData.canLay0]; exact (VRs.dp _ r hp.1).2⟩
    | dict e hz r => simp [plainD] at hp
  refine ⟨key.1, ?_⟩
  unfold SeqAt.shaped
  rw [key.2, dep_toD p hp.1, hp.2]
  rfl
end

end Ev

set_option Elab.async false
set_option linter.all false
set_option maxRecDepth 100000
namespace Ev
open PySem PySem.Spec PyProof.Rows L2 PySem.W

/-! ### things of data, compared -/
section
variable {X : Cx}
def rCmpD (K : PySem.W.Frag) (f : PyData → PyData → Bool) : R2 := fun x y H Q => ∃ d e, Dp K H x d ∧ Dp K H y e ∧ PySem.W.alike d e = true ∧ d ≠ .none ∧ d.depth ≤ 64 ∧ Q (.bl (f d e)) H
theorem op_ltD (hu : X.A.units + 65 < cLine) : OpR X (compareOp .Lt) (rCmpD X.K fun a b => dataLt a b) := by
  intro pins s σ H x y v u Q I rx ry h
  obtain ⟨d, e, hd, he, ha, hn, hz, q⟩ := h
  obtain ⟨as, r1⟩ := Dp.reads I d x v hd rx
  obtain ⟨bs, r2⟩ := Dp.reads I e y u he ry
  exact lt_data r1 r2 ha hn (by have := Nat.min_le_left d.depth e.depth; omega) ⟨.bl _, H, I, rfl, q⟩
theorem op_gtD (hu : X.A.units + 65 < cLine) : OpR X (compareOp .Gt) (rCmpD X.K fun a b => dataLt b a) := by
  intro pins s σ H x y v u Q I rx ry h
  obtain ⟨d, e, hd, he, ha, hn, hz, q⟩ := h
  obtain ⟨as, r1⟩ := Dp.reads I d x v hd rx
  obtain ⟨bs, r2⟩ := Dp.reads I e y u he ry
  exact gt_data r1 r2 ha hn (by have := Nat.min_le_left d.depth e.depth; omega) ⟨.bl _, H, I, rfl, q⟩
theorem op_leD (hu : X.A.units + 65 < cLine) : OpR X (compareOp .LtE) (rCmpD X.K fun a b => !dataLt b a) := by
  intro pins s σ H x y v u Q I rx ry h
  obtain ⟨d, e, hd, he, ha, hn, hz, q⟩ := h
  obtain ⟨as, r1⟩ := Dp.reads I d x v hd rx
  obtain ⟨bs, r2⟩ := Dp.reads I e y u he ry
  exact le_data r1 r2 ha hn (by have := Nat.min_le_left d.depth e.depth; omega) ⟨.bl _, H, I, rfl, q⟩
theorem op_geD (hu : X.A.units + 65 < cLine) : OpR X (compareOp .GtE) (rCmpD X.K fun a b => !dataLt a b) := by
  intro pins s σ H x y v u Q I rx ry h
  obtain ⟨d, e, hd, he, ha, hn, hz, q⟩ := h
  obtain ⟨as, r1⟩ := Dp.reads I d x v hd rx
  obtain ⟨bs, r2⟩ := Dp.reads I e y u he ry
  exact ge_data r1 r2 ha hn (by have := Nat.min_le_left d.depth e.depth; omega) ⟨.bl _, H, I, rfl, q⟩

/-! ### the least, the greatest -/
theorem vals_at : ∀ {xs : List V} {us : List Value} {i : Nat} {u : Value}, Vals xs us → us[i]? = some u → ∃ x, xs[i]? = some x ∧ RelV x u
  | _, _, _, _, .nil, e => by simp at e
  | _, _, 0, _, .cons r _, e => by simp at e; subst e; exact ⟨_, rfl, r⟩
  | _, _, i + 1, u, .cons _ t, e => by
    obtain ⟨x, h1, h2⟩ := vals_at (i := i) (u := u) t (by simpa using e)
    exact ⟨x, by simpa using h1, h2⟩
theorem reads_det {h : Heap} {v : Value} {d e : PyData} {as bs : List Addr} (hd : d.canLay0 = true) (he : e.canLay0 = true) (r : Reads h v d as) (q : Reads h v e bs) : d = e :=
  (SeqAt.readOf_eq hd r).symm.trans (SeqAt.readOf_eq he q)
theorem canLay_at : ∀ {ds : List PyData} {i : Nat} {d : PyData}, PyData.canLayAll0 ds = true → ds[i]? = some d → d.canLay0 = true
  | [], _, _, _, e => by simp at e
  | x :: xs, 0, d, h, e => by
    simp only [PyData.canLayAll0, Bool.and_eq_true] at h
    simp at e; subst e; exact h.1
  | x :: xs, i + 1, d, h, e => by
    simp only [PyData.canLayAll0, Bool.and_eq_true] at h
    exact canLay_at (i := i) h.2 (by simpa using e)
theorem fold_mem {f : PyData → PyData → Bool} : ∀ (xs : List PyData) (x : PyData), xs.foldl (fun a y => if f y a then y else a) x ∈ x :: xs
  | [], x => by simp
  | y :: ys, x => by
    rw [List.foldl_cons]
    have h := fold_mem (f := f) ys (if f y x = true then y else x)
    rcases List.mem_cons.mp h with e | h
    · rw [e]; split <;> simp
    · exact List.mem_cons_of_mem _ (List.mem_cons_of_mem _ h)
theorem canLay_mem {ds : List PyData} {d : PyData} (h : PyData.canLayAll0 ds = true) (m : d ∈ ds) : d.canLay0 = true := by
  obtain ⟨i, hi, e⟩ := List.getElem_of_mem m
  exact canLay_at h (by rw [List.getElem?_eq_getElem hi, e])
/-- a list or a tuple of data; the item that is the least (the greatest) -/
def rPickD (K : PySem.W.Frag) (f : PyData → List PyData → PyData) : List V → Hp → VK → Prop := fun vs H Q => ∃ (a : Addr) (xs : List V) (d : PyData) (ds : List PyData), vs = [V.ref a] ∧ (SqL K H a xs ∨ SqT K H a xs) ∧ DpAll K H xs (d :: ds) ∧ AlikeAll (d :: ds) ∧
  PyData.canLayAll0 (d :: ds) = true ∧ PyData.depthAll (d :: ds) ≤ 60 ∧ ∀ (i : Nat) (x : V) (e : PyData), xs[i]? = some x → (d :: ds)[i]? = some e → e = f d ds → Q x H
theorem pick_end {pins : List (Addr × Obj)} {σ : L2.St} {H : Hp} {s : Shared} {Q : VK} (I : Inv X pins σ H s) {xs : List V} {its : List Value} {d e : PyData} {ds : List PyData} {as : List Addr} (rv : Vals xs its) (hr : ReadsAll s.heap its (d :: ds) as) (hc : PyData.canLayAll0 (d :: ds) = true) (hm : e ∈ d :: ds)
    (q : ∀ (i : Nat) (x : V) (g : PyData), xs[i]? = some x → (d :: ds)[i]? = some g → g = e → Q x H) {i : Nat} {v : Value} {h' : Heap} {tk : Nat} {bs : List Addr} (hv : its[i]? = some v) (r : Reads h' v e bs) (hk : ∀ b o, s.heap.get? b = some o → h'.get? b = some o) : ∃ x H', Inv X pins σ H' { s with heap := h', toks := tk } ∧ RelV x v ∧ Q x H' := by
  obtain ⟨x, hx, rx⟩ := vals_at rv hv
  obtain ⟨cs, r2, hlt, _, _⟩ := readsAll_at hr i v hv
  have hg : (d :: ds)[i]? = some ((d :: ds).getD i .none) := by
    rw [List.getD_eq_getElem?_getD, List.getElem?_eq_getElem hlt]; rfl
  refine ⟨x, H, I.kept hk, rx, q i x _ hx hg ?_⟩
  exact reads_det (canLay_at hc hg) (canLay_mem hc hm) (reads_keeps hk r2) r
theorem cr_minD (hcalm : X.calm = true) (hu : X.A.units + 65 < cLine) : CallR X (.builtin "min") (rPickD X.K minD) := by
  intro pins s σ H vs us Q I r h
  obtain ⟨a, xs, d, ds, rfl, hs, hd, ha, hc, hz, q⟩ := h
  rw [Vals.ref1 r]
  have hm : minD d ds ∈ d :: ds := fold_mem ds d
  rcases hs with hs | hs
  · obtain ⟨its, rv, hl, _⟩ := I.list hs
    obtain ⟨as, hr⟩ := Dp.readsAll I (d :: ds) xs its hd rv
    exact min_list_data (I.ok.hd hcalm) hl.isList (by rw [List.toList_toArray]; exact hr) ha (by omega) fun i v h' tk bs hv r2 hk => pick_end I rv hr hc hm q (by simpa using hv) r2 hk
  · obtain ⟨its, rv, hl, _⟩ := I.tuple hs
    obtain ⟨as, hr⟩ := Dp.readsAll I (d :: ds) xs its hd rv
    exact min_tuple_data (I.ok.hd hcalm) hl (by rw [List.toList_toArray]; exact hr) ha (by omega) fun i v h' tk bs hv r2 hk => pick_end I rv hr hc hm q (by simpa using hv) r2 hk
theorem fold_mem2 {f : PyData → PyData → Bool} : ∀ (xs : List PyData) (x : PyData), xs.foldl (fun a y => if f a y then y else a) x ∈ x :: xs := fun xs x => fold_mem (f := fun y a => f a y) xs x
theorem cr_maxD (hcalm : X.calm = true) (hu : X.A.units + 65 < cLine) : CallR X (.builtin "max") (rPickD X.K maxD) := by
  intro pins s σ H vs us Q I r h
  obtain ⟨a, xs, d, ds, rfl, hs, hd, ha, hc, hz, q⟩ := h
  rw [Vals.ref1 r]
  have hm : maxD d ds ∈ d :: ds := fold_mem2 ds d
  rcases hs with hs | hs
  · obtain ⟨its, rv, hl, _⟩ := I.list hs
    obtain ⟨as, hr⟩ := Dp.readsAll I (d :: ds) xs its hd rv
    exact max_list_data (I.ok.hd hcalm) hl.isList (by rw [List.toList_toArray]; exact hr) ha (by omega) fun i v h' tk bs hv r2 hk => pick_end I rv hr hc hm q (by simpa using hv) r2 hk
  · obtain ⟨its, rv, hl, _⟩ := I.tuple hs
    obtain ⟨as, hr⟩ := Dp.readsAll I (d :: ds) xs its hd rv
    exact max_tuple_data (I.ok.hd hcalm) hl (by rw [List.toList_toArray]; exact hr) ha (by omega) fun i v h' tk bs hv r2 hk => pick_end I rv hr hc hm q (by simpa using hv) r2 hk
end
end Ev

set_option Elab.async false
set_option linter.all false
set_option maxRecDepth 100000
namespace Ev
open PySem PySem.Spec PyProof.Rows L2 PySem.W

/-! ### min, max of things that are handed one by one -/
section
variable {prog : Program} {w : World} {A : Around} {E : Value → Shared → Prop} {s : Shared}
def WalkIn (prog : Program) (w : World) (A : Around) (op : CmpOp) (Q : Value → Shared → Prop) (it : Value) (s₂ : Shared) : Prop :=
  ∃ I fp wr G n P St H bt, it = .ref I ∧ WalksS prog w A.in1 I fp wr G n P St ∧ St 0 s₂ ∧ (∀ b ∈ fp, b < s₂.heap.objs.size) ∧ 0 < n ∧
      (∀ b o, H.get? b = some o → b ∉ wr) ∧ (∀ b o, H.get? b = some o → s₂.heap.get? b = some o) ∧ CmpIn prog w A.in1 op H P bt ∧ ∀ v s', P (argBest bt (n - 1)) v → Moved wr G s₂ s' → Q v s'
theorem call_min_2H {a b : Value} {Q : Value → Shared → Prop} (h : wpAny (model prog w) A.in1 (pyIter (.ref s.heap.objs.size)) (WalkIn prog w A .Lt Q) E { s with heap := s.heap.push { cls := .type "tuple", data := .seq #[a, b] } }) :
    wpAny (model prog w) A (call (.builtin "min") [a, b]) Q E s := by
  have hname : (toString "min" ++ toString ".loop" : String) = "min.loop" := by decide
  refine call_function_tree F.kind_min F.plain_min F.entry_min (F.args_min2 _ _) ?_
  show wpAny _ A.in1 (Builtin.Builtins.bindParams "min" ["key", "default"] 0 ⟨[], []⟩ >>= _) _ _ s
  refine wpAny_bind (wpAny_of_eq (show Builtin.Builtins.bindParams "min" ["key", "default"] 0 ⟨[], []⟩ = pure [none, none] from rfl) ?_)
  show wpAny _ A.in1 (newTuple [a, b] >>= _) _ _ s
  refine wpAny_bind (wpAny_newObj_type ?_)
  refine wpAny_bind (wpAny_mono h (fun it s₂ h₂ => ?_) fun _ _ e => e)
  obtain ⟨I, fp, wr, G, n, P, St, H, bt, rfl, W, hst, hfp, hn, hw, hkeep, hcmp, hQ⟩ := h₂
  refine wpAny_bind (wpAny_newObj_type ?_)
  have hSf : s₂.heap.objs.size ∉ fp := fun hm => Nat.lt_irrefl _ (hfp _ hm)
  rw [hname]
  refine wpAny_pure ⟨plainId_quiet F.plain_min_loop _, codeAny_min_loop_firstH W H hw bt hcmp s₂.heap.objs.size hSf (fresh_in hkeep) _ hn (fun b o e => Heap.get?_push_of_some _ (hkeep b o e)) (W.frame 0 s₂ _ s₂.toks hst (Nat.le_refl _) fun b _ o e => Heap.get?_push_of_some _ e) (Heap.get?_push_size _ rfl) fun v s' hP hm => ?_⟩
  exact hQ v s' hP (Moved.drop_new (tk := s₂.toks) hm (Nat.le_refl _))
theorem call_max_2H {a b : Value} {Q : Value → Shared → Prop} (h : wpAny (model prog w) A.in1 (pyIter (.ref s.heap.objs.size)) (WalkIn prog w A .Gt Q) E { s with heap := s.heap.push { cls := .type "tuple", data := .seq #[a, b] } }) :
    wpAny (model prog w) A (call (.builtin "max") [a, b]) Q E s := by
  have hname : (toString "max" ++ toString ".loop" : String) = "max.loop" := by decide
  refine call_function_tree F.kind_max F.plain_max F.entry_max (F.args_max2 _ _) ?_
  show wpAny _ A.in1 (Builtin.Builtins.bindParams "max" ["key", "default"] 0 ⟨[], []⟩ >>= _) _ _ s
  refine wpAny_bind (wpAny_of_eq (show Builtin.Builtins.bindParams "max" ["key", "default"] 0 ⟨[], []⟩ = pure [none, none] from rfl) ?_)
  show wpAny _ A.in1 (newTuple [a, b] >>= _) _ _ s
  refine wpAny_bind (wpAny_newObj_type ?_)
  refine wpAny_bind (wpAny_mono h (fun it s₂ h₂ => ?_) fun _ _ e => e)
  obtain ⟨I, fp, wr, G, n, P, St, H, bt, rfl, W, hst, hfp, hn, hw, hkeep, hcmp, hQ⟩ := h₂
  refine wpAny_bind (wpAny_newObj_type ?_)
  have hSf : s₂.heap.objs.size ∉ fp := fun hm => Nat.lt_irrefl _ (hfp _ hm)
  rw [hname]
  refine wpAny_pure ⟨plainId_quiet F.plain_max_loop _, codeAny_max_loop_firstH W H hw bt hcmp s₂.heap.objs.size hSf (fresh_in hkeep) _ hn (fun b o e => Heap.get?_push_of_some _ (hkeep b o e)) (W.frame 0 s₂ _ s₂.toks hst (Nat.le_refl _) fun b _ o e => Heap.get?_push_of_some _ e) (Heap.get?_push_size _ rfl) fun v s' hP hm => ?_⟩
  exact hQ v s' hP (Moved.drop_new (tk := s₂.toks) hm (Nat.le_refl _))
theorem call_max_3H {a b c : Value} {Q : Value → Shared → Prop} (h : wpAny (model prog w) A.in1 (pyIter (.ref s.heap.objs.size)) (WalkIn prog w A .Gt Q) E { s with heap := s.heap.push { cls := .type "tuple", data := .seq #[a, b, c] } }) :
    wpAny (model prog w) A (call (.builtin "max") [a, b, c]) Q E s := by
  have hname : (toString "max" ++ toString ".loop" : String) = "max.loop" := by decide
  refine call_function_tree F.kind_max F.plain_max F.entry_max (F.args_max3 _ _ _) ?_
  show wpAny _ A.in1 (Builtin.Builtins.bindParams "max" ["key", "default"] 0 ⟨[], []⟩ >>= _) _ _ s
  refine wpAny_bind (wpAny_of_eq (show Builtin.Builtins.bindParams "max" ["key", "default"] 0 ⟨[], []⟩ = pure [none, none] from rfl) ?_)
  show wpAny _ A.in1 (newTuple [a, b, c] >>= _) _ _ s
  refine wpAny_bind (wpAny_newObj_type ?_)
  refine wpAny_bind (wpAny_mono h (fun it s₂ h₂ => ?_) fun _ _ e => e)
  obtain ⟨I, fp, wr, G, n, P, St, H, bt, rfl, W, hst, hfp, hn, hw, hkeep, hcmp, hQ⟩ := h₂
  refine wpAny_bind (wpAny_newObj_type ?_)
  have hSf : s₂.heap.objs.size ∉ fp := fun hm => Nat.lt_irrefl _ (hfp _ hm)
  rw [hname]
  refine wpAny_pure ⟨plainId_quiet F.plain_max_loop _, codeAny_max_loop_firstH W H hw bt hcmp s₂.heap.objs.size hSf (fresh_in hkeep) _ hn (fun b o e => Heap.get?_push_of_some _ (hkeep b o e)) (W.frame 0 s₂ _ s₂.toks hst (Nat.le_refl _) fun b _ o e => Heap.get?_push_of_some _ e) (Heap.get?_push_size _ rfl) fun v s' hP hm => ?_⟩
  exact hQ v s' hP (Moved.drop_new (tk := s₂.toks) hm (Nat.le_refl _))
theorem call_min_3H {a b c : Value} {Q : Value → Shared → Prop} (h : wpAny (model prog w) A.in1 (pyIter (.ref s.heap.objs.size)) (WalkIn prog w A .Lt Q) E { s with heap := s.heap.push { cls := .type "tuple", data := .seq #[a, b, c] } }) :
    wpAny (model prog w) A (call (.builtin "min") [a, b, c]) Q E s := by
  have hname : (toString "min" ++ toString ".loop" : String) = "min.loop" := by decide
  refine call_function_tree F.kind_min F.plain_min F.entry_min (F.args_min3 _ _ _) ?_
  show wpAny _ A.in1 (Builtin.Builtins.bindParams "min" ["key", "default"] 0 ⟨[], []⟩ >>= _) _ _ s
  refine wpAny_bind (wpAny_of_eq (show Builtin.Builtins.bindParams "min" ["key", "default"] 0 ⟨[], []⟩ = pure [none, none] from rfl) ?_)
  show wpAny _ A.in1 (newTuple [a, b, c] >>= _) _ _ s
  refine wpAny_bind (wpAny_newObj_type ?_)
  refine wpAny_bind (wpAny_mono h (fun it s₂ h₂ => ?_) fun _ _ e => e)
  obtain ⟨I, fp, wr, G, n, P, St, H, bt, rfl, W, hst, hfp, hn, hw, hkeep, hcmp, hQ⟩ := h₂
  refine wpAny_bind (wpAny_newObj_type ?_)
  have hSf : s₂.heap.objs.size ∉ fp := fun hm => Nat.lt_irrefl _ (hfp _ hm)
  rw [hname]
  refine wpAny_pure ⟨plainId_quiet F.plain_min_loop _, codeAny_min_loop_firstH W H hw bt hcmp s₂.heap.objs.size hSf (fresh_in hkeep) _ hn (fun b o e => Heap.get?_push_of_some _ (hkeep b o e)) (W.frame 0 s₂ _ s₂.toks hst (Nat.le_refl _) fun b _ o e => Heap.get?_push_of_some _ e) (Heap.get?_push_size _ rfl) fun v s' hP hm => ?_⟩
  exact hQ v s' hP (Moved.drop_new (tk := s₂.toks) hm (Nat.le_refl _))
/-- the walk over the new tuple -/
theorem iter_new {op : CmpOp} {vs : Array Value} {Q : Value → Shared → Prop} {bt : Nat → Nat → Bool} (hh : A.handled = none) (hn : 0 < vs.size) (hcmp : CmpIn prog w A.in1 op s.heap (fun i v => vs[i]? = some v) bt)
    (h : ∀ (i : Nat) v h' tk, i = argBest bt (vs.size - 1) → vs[i]? = some v → (∀ b o, s.heap.get? b = some o → h'.get? b = some o) → Q v { s with heap := h', toks := tk }) :
    wpAny (model prog w) A.in1 (pyIter (.ref s.heap.objs.size)) (WalkIn prog w A op Q) E { s with heap := s.heap.push { cls := .type "tuple", data := .seq vs } } := by
  have hT : (s.heap.push { cls := .type "tuple", data := .seq vs }).IsTuple s.heap.objs.size vs := ⟨_, Heap.get?_push_size _ rfl, rfl, 0, rfl⟩
  refine iter_tupleW (A := A.in1) (s := { s with heap := s.heap.push { cls := .type "tuple", data := .seq vs } }) hh hT fun s₂ e W st hfp hw hk => ?_
  have old : ∀ b o, s.heap.get? b = some o → (s.heap.push { cls := .type "tuple", data := .seq vs }).get? b = some o := fun b o e => Heap.get?_push_of_some _ e
  refine ⟨_, _, _, _, _, _, _, s.heap, bt, rfl, W, st, hfp, hn, fun b o e => hw b o (old b o e), fun b o e => hk b o (old b o e), hcmp, fun v s' hP m => ?_⟩
  obtain ⟨h', tk, rfl, hk'⟩ := moved_old e rfl m
  exact h _ v h' tk rfl hP fun b o e => hk' b o (old b o e)
end
section
variable {X : Cx}
theorem cmpIn_args {op : CmpOp} {prog : Program} {w : World} {A : Around} {s : Shared} {vs : Array Value} {xs : List PyData} {as : List Addr} {bt : Nat → Nat → Bool} (hc : CmpIn prog w A op s.heap (fun i v => vs[i]? = some v) bt) : CmpIn prog w A op s.heap (fun i v => vs[i]? = some v) bt := hc
/-- the things themselves -/
def rArgsD (K : PySem.W.Frag) (n : Nat) (f : PyData → List PyData → PyData) : List V → Hp → VK → Prop := fun vs H Q => ∃ (d : PyData) (ds : List PyData), vs.length = n ∧ DpAll K H vs (d :: ds) ∧ AlikeAll (d :: ds) ∧
  PyData.canLayAll0 (d :: ds) = true ∧ PyData.depthAll (d :: ds) ≤ 60 ∧ ∀ (i : Nat) (x : V) (e : PyData), vs[i]? = some x → (d :: ds)[i]? = some e → e = f d ds → Q x H
theorem getD_at {ds : List PyData} {i : Nat} (h : i < ds.length) : ds[i]? = some (ds.getD i .none) := by
  rw [List.getD_eq_getElem?_getD, List.getElem?_eq_getElem h]; rfl
theorem args_end {pins : List (Addr × Obj)} {σ : L2.St} {H : Hp} {s : Shared} {Q : VK} (I : Inv X pins σ H s) {xs : List V} {us : List Value} {d e : PyData} {ds : List PyData} {as : List Addr} (rv : Vals xs us) (hr : ReadsAll s.heap us (d :: ds) as)
    (q : ∀ (i : Nat) (x : V) (g : PyData), xs[i]? = some x → (d :: ds)[i]? = some g → g = e → Q x H) {i : Nat} {v : Value} {h' : Heap} {tk : Nat} (he : (d :: ds).getD i .none = e) (hv : us[i]? = some v) (hk : ∀ b o, s.heap.get? b = some o → h'.get? b = some o) : ∃ x H', Inv X pins σ H' { s with heap := h', toks := tk } ∧ RelV x v ∧ Q x H' := by
  obtain ⟨x, hx, rx⟩ := vals_at rv hv
  obtain ⟨cs, r2, hlt, _, _⟩ := readsAll_at hr i v hv
  exact ⟨x, H, I.kept hk, rx, q i x _ hx (getD_at hlt) he⟩
theorem best_min (d : PyData) (ds : List PyData) : (d :: ds).getD (argBest (fun i j => dataLt ((d :: ds).getD i .none) ((d :: ds).getD j .none)) ds.length) .none = minD d ds := by
  have e2 := (argBest_fold dataLt PyData.none d ds ds.length (Nat.le_refl _)).2
  rw [List.take_length] at e2
  exact e2
theorem best_max (d : PyData) (ds : List PyData) : (d :: ds).getD (argBest (fun i j => dataLt ((d :: ds).getD j .none) ((d :: ds).getD i .none)) ds.length) .none = maxD d ds := by
  have e2 := (argBest_fold (fun a b => dataLt b a) PyData.none d ds ds.length (Nat.le_refl _)).2
  rw [List.take_length] at e2
  exact e2
theorem call_min2D (hcalm : X.calm = true) (hu : X.A.units + 65 < cLine) : CallR X (.builtin "min") (rArgsD X.K 2 minD) := by
  intro pins s σ H vs us Q I r h
  obtain ⟨d, ds, hl, hd, ha, hc, hz, q⟩ := h
  obtain ⟨as, hr⟩ := Dp.readsAll I (d :: ds) vs us hd r
  have hlu := r.length
  match us, hlu.symm.trans hl, r, hr with
  | [a, b], _, r, hr =>
    have hds : ds.length = 1 := by
      have := readsAll_len (vs := #[a, b]) hr
      simpa using this.symm
    refine call_min_2H (iter_new (I.ok.hd hcalm) (by simp) (cmpIn_lt (A := X.A.in1) (vs := #[a, b]) hr ha (by show X.A.units + 1 + _ < _; omega)) fun i v h' tk hi hv hk => ?_)
    exact args_end (i := i) I r hr q (by rw [hi, ← best_min, hds]; rfl) (by simpa using hv) hk
theorem call_max2D (hcalm : X.calm = true) (hu : X.A.units + 65 < cLine) : CallR X (.builtin "max") (rArgsD X.K 2 maxD) := by
  intro pins s σ H vs us Q I r h
  obtain ⟨d, ds, hl, hd, ha, hc, hz, q⟩ := h
  obtain ⟨as, hr⟩ := Dp.readsAll I (d :: ds) vs us hd r
  have hlu := r.length
  match us, hlu.symm.trans hl, r, hr with
  | [a, b], _, r, hr =>
    have hds : ds.length = 1 := by
      have := readsAll_len (vs := #[a, b]) hr
      simpa using this.symm
    refine call_max_2H (iter_new (I.ok.hd hcalm) (by simp) (cmpIn_gt (A := X.A.in1) (vs := #[a, b]) hr ha (by show X.A.units + 1 + _ < _; omega)) fun i v h' tk hi hv hk => ?_)
    exact args_end (i := i) I r hr q (by rw [hi, ← best_max, hds]; rfl) (by simpa using hv) hk
theorem call_max3D (hcalm : X.calm = true) (hu : X.A.units + 65 < cLine) : CallR X (.builtin "max") (rArgsD X.K 3 maxD) := by
  intro pins s σ H vs us Q I r h
  obtain ⟨d, ds, hl, hd, ha, hc, hz, q⟩ := h
  obtain ⟨as, hr⟩ := Dp.readsAll I (d :: ds) vs us hd r
  have hlu := r.length
  match us, hlu.symm.trans hl, r, hr with
  | [a, b, c], _, r, hr =>
    have hds : ds.length = 2 := by
      have := readsAll_len (vs := #[a, b, c]) hr
      simpa using this.symm
    refine call_max_3H (iter_new (I.ok.hd hcalm) (by simp) (cmpIn_gt (A := X.A.in1) (vs := #[a, b, c]) hr ha (by show X.A.units + 1 + _ < _; omega)) fun i v h' tk hi hv hk => ?_)
    exact args_end (i := i) I r hr q (by rw [hi, ← best_max, hds]; rfl) (by simpa using hv) hk

theorem call_min3D (hcalm : X.calm = true) (hu : X.A.units + 65 < cLine) : CallR X (.builtin "min") (rArgsD X.K 3 minD) := by
  intro pins s σ H vs us Q I r h
  obtain ⟨d, ds, hl, hd, ha, hc, hz, q⟩ := h
  obtain ⟨as, hr⟩ := Dp.readsAll I (d :: ds) vs us hd r
  have hlu := r.length
  match us, hlu.symm.trans hl, r, hr with
  | [a, b, c], _, r, hr =>
    have hds : ds.length = 2 := by
      have := readsAll_len (vs := #[a, b, c]) hr
      simpa using this.symm
    refine call_min_3H (iter_new (I.ok.hd hcalm) (by simp) (cmpIn_lt (A := X.A.in1) (vs := #[a, b, c]) hr ha (by show X.A.units + 1 + _ < _; omega)) fun i v h' tk hi hv hk => ?_)
    exact args_end (i := i) I r hr q (by rw [hi, ← best_min, hds]; rfl) (by simpa using hv) hk

/-! ### sorted -/
def rSortD (K : PySem.W.Frag) : List V → Hp → VK → Prop := fun vs H Q => ∃ (a : Addr) (bs : List (V × PyData)), vs = [V.ref a] ∧ SqL K H a (bs.map (·.1)) ∧ (∀ b ∈ bs, Dp K H b.1 b.2) ∧ AllAlike (bs.map (·.2)) ∧ Sortable (bs.map (·.2)) ∧ (∀ b ∈ bs, b.2.depth ≤ 60) ∧
  ∀ p, H p = none → Q (.ref p) (upd H p (.lst ((bs.mergeSort (dataLe false (·.2))).map (·.1))))
theorem each_of_vals {α : Type} (f : α → V) : ∀ {bs : List α} {us : List Value}, Vals (bs.map f) us → EachIs (fun v b => RelV (f b) v) us bs
  | [], us, r => by
    have r' : Vals [] us := r
    cases r'
    exact .nil
  | b :: bs, us, r => by
    have r' : Vals (f b :: bs.map f) us := r
    cases r' with
    | cons r1 r2 => exact .cons r1 (each_of_vals f r2)
theorem vals_of_each {α : Type} (f : α → V) : ∀ {bs : List α} {us : List Value}, EachIs (fun v b => RelV (f b) v) us bs → Vals (bs.map f) us
  | _, _, .nil => .nil
  | _, _, .cons r t => .cons r (vals_of_each f t)
theorem each_and {α β : Type} {R S : α → β → Prop} : ∀ {as : List α} {bs : List β}, EachIs R as bs → (∀ a b, b ∈ bs → R a b → S a b) → EachIs S as bs
  | _, _, .nil, _ => .nil
  | _, _, .cons r t, k => .cons (k _ _ List.mem_cons_self r) (each_and t fun a b m q => k a b (List.mem_cons_of_mem _ m) q)
theorem cr_sortD (hu : X.A.units + 65 < cLine) : CallR X (.builtin "sorted") (rSortD X.K) := by
  intro pins s σ H vs us Q I r h
  obtain ⟨a, bs, rfl, hs, hd, ha, hk, hz, q⟩ := h
  rw [Vals.ref1 r]
  obtain ⟨its, rv, hl, hlen⟩ := I.list hs
  have e : EachIs (fun v (b : V × PyData) => RelV b.1 v) its bs := each_of_vals (fun b : V × PyData => b.1) rv
  have er : EachIs (fun v (b : V × PyData) => ∃ as, Reads s.heap v b.2 as) its bs := each_and e fun v b m r => Dp.reads I b.2 b.1 v (hd b m) r
  rw [List.length_map] at hlen
  refine sorted_data (enc := fun b : V × PyData => b.2) hl.isList e er ha hk hlen (fun b hb => by have := hz b hb; omega) fun out ho eo => ?_
  obtain ⟨ep, he'⟩ := PyProof.Rows.sortedAll_at s.heap its out.toArray
  have rv2 := vals_of_each (fun b : V × PyData => b.1) eo
  exact ⟨.ref _, upd H (s.heap.objs.size + 1) (.lst ((bs.mergeSort (dataLe false (·.2))).map (·.1))), I.laid (t' := s.toks) (fun _ _ => PyProof.Rows.sortedAll_old) (Nat.le_succ _) ⟨by rw [List.length_map, List.length_mergeSort]; exact hlen, out, ep, rv2, he'⟩, rfl, q _ (I.hok.fresh (Nat.le_succ _))⟩
end
end Ev

set_option Elab.async false
set_option linter.all false
set_option maxRecDepth 100000
namespace Ev
open PySem PySem.Spec PyProof.Rows L2 PySem.W

section
variable {X : Cx}
/-! ### sums of tuples, counting -/
def rSumT (K : PySem.W.Frag) : List V → Hp → VK → Prop := fun vs H Q => ∃ (a : Addr) (ns : List Int), vs = [V.ref a] ∧ (SqL K H a (ns.map V.int) ∨ SqT K H a (ns.map V.int)) ∧ Q (.int ns.sum) H
theorem cr_sumT (hc : X.calm = true) : CallR X (.builtin "sum") (rSumT X.K) := by
  intro pins s σ H vs us Q I r h
  obtain ⟨a, ns, rfl, hs | hs, q⟩ := h
  · exact cr_sum hc pins s σ H _ us Q I r ⟨a, ns, rfl, hs, q⟩
  · obtain ⟨its, rv, hl, _⟩ := I.tuple hs
    rw [Vals.ref1 r]
    obtain ⟨xs, hx⟩ := (rv.ints).allInts.items
    have hn : numsOf its = ns := (rv.ints).numsOf
    have hx' : its.toArray = intItems xs := hx
    have hl' : IsTup s.heap a (intItems xs) := hx' ▸ hl
    refine ktm_sumG (I.ok.hd hc) hl' fun h' tk t' hk => ?_
    have hn2 : numsOf (intItems xs).toList = ns := by rw [← hx', List.toList_toArray]; exact hn
    rw [nums_intItems] at hn2
    rw [preSum_eq, List.take_of_length_le (by simp), hn2]
    exact ⟨.int _, H, I.kept hk, ⟨_, rfl⟩, q⟩
def rCntD (K : PySem.W.Frag) (tup : Bool) : V → List V → Hp → VK → Prop := fun x vs H Q => ∃ (a : Addr) (y : V) (xs : List V) (d : PyData) (ds : List PyData), x = V.ref a ∧ vs = [y] ∧ (if tup = true then SqT K H a xs else SqL K H a xs) ∧ DpAll K H xs ds ∧ Dp K H y d ∧
  PyData.plainAll ds = true ∧ d.plain = true ∧ d.depth ≤ 64 ∧ Q (.int ((ds.countP fun y => PyData.eqv y d : Nat) : Int)) H
theorem mt_countL (hu : X.A.units + 65 < cLine) : MtR X "list.count" (rCntD X.K false) := by
  intro pins s σ H x vs v us Q I rx rs h
  obtain ⟨a, y, xs, d, ds, rfl, rfl, hs, hds, hd, p1, p2, hz, q⟩ := h
  cases rx
  obtain ⟨u, rfl, ru⟩ := vals1 rs
  rw [if_neg Bool.false_ne_true] at hs
  obtain ⟨its, rv, hl, _⟩ := I.list hs
  obtain ⟨as, hr⟩ := Dp.readsAll I ds xs its hds rv
  obtain ⟨bs, hq⟩ := Dp.reads I d y u hd ru
  exact SeqAt.count_list_data hl.isList (by rw [List.toList_toArray]; exact hr) hq p1 p2 (by have := Nat.min_le_right (PyData.depthAll ds) d.depth; omega) ⟨.int _, H, I.tok _, ⟨_, rfl⟩, q⟩
theorem mt_countT (hu : X.A.units + 65 < cLine) : MtR X "tuple.count" (rCntD X.K true) := by
  intro pins s σ H x vs v us Q I rx rs h
  obtain ⟨a, y, xs, d, ds, rfl, rfl, hs, hds, hd, p1, p2, hz, q⟩ := h
  cases rx
  obtain ⟨u, rfl, ru⟩ := vals1 rs
  rw [if_pos rfl] at hs
  obtain ⟨its, rv, hl, _⟩ := I.tuple hs
  obtain ⟨as, hr⟩ := Dp.readsAll I ds xs its hds rv
  obtain ⟨bs, hq⟩ := Dp.reads I d y u hd ru
  exact SeqAt.count_tuple_data hl (by rw [List.toList_toArray]; exact hr) hq p1 p2 (by have := Nat.min_le_right (PyData.depthAll ds) d.depth; omega) ⟨.int _, H, I.tok _, ⟨_, rfl⟩, q⟩
end

/-! ### a tuple from its end -/
section
variable {prog : Program} {w : World} {A : Around} {E : Value → Shared → Prop} {s : Shared}
theorem sliceApplied_rev {sl : Addr} {vl vu vs : Value} {n : Nat} {Q : Int × Int × Nat → Shared → Prop} (hs : s.heap.IsSliceOf sl vl vu vs) (pl : IsPart vl none) (pu : IsPart vu none) (ps : IsPart vs (some (-1)))
    (h : Q ((n : Int) - 1, -1, n) s) : wpAny (model prog w) A (Builtin.Slice.sliceApplied (.ref sl) (pure (n : Int))) Q E s := by
  obtain ⟨os, hos, hcs, hds⟩ := id hs
  unfold Builtin.Slice.sliceApplied Builtin.Slice.sliceFields
  refine wpAny_bind (wpAny_bind (wpAny_field hos hds (x := vl) rfl (wpAny_bind (wpAny_field hos hds (x := vu) rfl (wpAny_bind (wpAny_field hos hds (x := vs) rfl (wpAny_pure ?_)))))))
  refine wpAny_bind (HT.slicePart_ ps ?_)
  show wpAny _ _ (if ((-1 : Int) == 0) = true then _ else _) _ _ s
  rw [if_neg (by decide)]
  refine wpAny_bind (HT.slicePart_ pl (wpAny_bind (HT.slicePart_ pu (wpAny_bind (wpAny_pure ?_)))))
  show wpAny _ _ (pure ((n : Int) - 1, (-1 : Int), Builtin.Slice.slicePlaces ((n : Int) - 1) (-1) (-1))) _ _ s
  have e : Builtin.Slice.slicePlaces ((n : Int) - 1) (-1) (-1) = n := by
    unfold Builtin.Slice.slicePlaces
    rw [if_neg (by decide)]
    by_cases h : (n : Int) - 1 > -1
    · rw [if_pos h, show (- -1 : Int) = 1 by decide, Int.ediv_one]
      omega
    · rw [if_neg h]; omega
  rw [e]
  exact wpAny_pure h
theorem fm_congr {α β : Type} {f g : α → Option β} : ∀ {l : List α}, (∀ x ∈ l, f x = g x) → l.filterMap f = l.filterMap g
  | [], _ => rfl
  | x :: xs, h => by rw [List.filterMap_cons, List.filterMap_cons, h x List.mem_cons_self, fm_congr fun y hy => h y (List.mem_cons_of_mem _ hy)]
theorem pick_rev (xs : Array Value) : ((List.range xs.size).filterMap fun (m : Nat) => xs[(((xs.size : Int) - 1) + (m : Int) * (-1)).toNat]?).toArray = xs.toList.reverse.toArray := by
  have := krv_pick xs
  unfold slicePick at this
  rw [krv_bounds] at this
  have this : ((sliceRange ((xs.size : Int) - 1) (-1) (-1)).filterMap (xs[·]?)).toArray = _ := this
  rw [krv_sliceRange, List.filterMap_map] at this
  rw [← this]
  congr 1
  apply fm_congr
  intro k hk
  have hk := List.mem_range.mp hk
  have e : (((xs.size : Int) - 1) + (k : Int) * (-1)).toNat = xs.size - 1 - k := by omega
  rw [e]
  rfl
theorem getItem_tuple_rev {t sl : Addr} {items : Array Value} {vl vu vs : Value} {Q : Value → Shared → Prop} (ht : IsTup s.heap t items) (hs : s.heap.IsSliceOf sl vl vu vs) (pl : IsPart vl none) (pu : IsPart vu none) (ps : IsPart vs (some (-1)))
    (h : Q (.ref s.heap.objs.size) { s with heap := s.heap.push { cls := .type "tuple", data := .seq items.toList.reverse.toArray } }) (hsz : items.size ≤ sizeLine) : wpAny (model prog w) A (getItem (.ref t) (.ref sl)) Q E s := by
  have htake : sizeOk (.seq items.toList.reverse.toArray) := by
    show items.toList.reverse.toArray.size ≤ sizeLine
    rw [List.size_toArray, List.length_reverse, Array.length_toList]
    omega
  obtain ⟨os, hos, hcs, hds⟩ := id hs
  have hTs : s.TypeIs (.ref sl) "slice" := ⟨os, hos, hcs⟩
  unfold getItem
  try with_reducible refine wpAny_holding ?_
  first | refine wpAny_bind (wpAny_pure ?_) | skip
  refine wpAny_bind (wpAny_sequenceKey ht.typeIs (by decide) ?_)
  refine wpAny_bind (wpAny_callSpecial?_slot (name := Str.ofString "__getitem__") ht.typeIs PyProof.Rows.slot_tuple_getitem
    (wpAny_call_entry PyProof.Rows.slot_tuple_getitem ht.typeIs entry_tuple_getitem ?_ (args_tuple_getitem _ _)))
  show wpAny _ _ (Builtin.Tuple.tupleItemsOf (.ref t) >>= _) _ _ s
  refine wpAny_bind (tupleItemsOf_ ht ?_)
  refine wpAny_bind (wpAny_typeOf hTs ?_)
  rw [if_pos (by decide)]
  refine wpAny_bind (sliceApplied_rev (n := items.size) hs pl pu ps ?_)
  have hno : ¬ (((items.size : Int) - 1 == 0 && (-1 : Int) == 1 && items.size == items.size) = true) := by
    intro q
    rw [Bool.and_eq_true, Bool.and_eq_true] at q
    exact absurd q.1.2 (by decide)
  show wpAny _ _ (if ((items.size : Int) - 1 == 0 && (-1 : Int) == 1 && items.size == items.size) = true then _ else _) _ _ s
  rw [if_neg hno, pick_rev]
  first
    | exact wpAny_bind (m := Builtin.Tuple.tupleExact _) (wpAny_newObj_type (wpAny_pure ⟨_, rfl, wpAny_pure h⟩) htake)
    | exact wpAny_bind (m := Builtin.Tuple.tupleExact _) (wpAny_newObj_type (wpAny_bind (wpAny_pure (wpAny_pure ⟨_, rfl, wpAny_pure h⟩))) htake)
    | exact wpAny_bind (wpAny_bind (m := Builtin.Tuple.tupleExact _) (wpAny_newObj_type (wpAny_pure (wpAny_pure ⟨_, rfl, wpAny_pure h⟩)) htake))
    | exact wpAny_bind (wpAny_bind (m := Builtin.Tuple.tupleExact _) (wpAny_newObj_type (wpAny_pure ⟨_, rfl, wpAny_pure h⟩) htake))
end
section
variable {X : Cx}
def tRevT (K : PySem.W.Frag) (te : TE) : TE := fun σ H Q => te σ H fun x H1 => ∃ a xs, x = .ref a ∧ SqT K H1 a xs ∧ ∀ p, H1 p = none → Q (.ref p) (upd H1 p (.tup xs.reverse))
theorem pe_revT {e : Expr} {te : TE} {k : Nat} {p1 p2 p3 pos : Pos} (he : PE X e te) : PE X (.Subscript e (.Slice none none (some (.UnaryOp .USub (.Constant (.int 1) k p1) p2)) p3) pos) (tRevT X.K te) := by
  refine ⟨fun pins s σ H Q I h => ?_⟩
  refine Subscript_ (thn (he.run pins s σ H _ I h) fun v s1 ⟨x, H1, I1, r1, q1⟩ => ?_)
  obtain ⟨a, xs, ex, hx, q⟩ := q1
  subst ex
  cases r1
  have hst : PO X (some (.UnaryOp .USub (.Constant (.int 1) k p1) p2)) (tPart (tUn (rU fun i => .int (-i)) (tC (.int 1)))) := po_some (pe_un un_neg pe_int)
  refine wpAny_Slice (thn (po_none.run pins s1 σ H1 (fun o H2 => o = none ∧ H2 = H1) I1 ⟨rfl, rfl⟩) fun vl s2 ⟨l, H2, I2, pl, el, e2⟩ => ?_)
  subst el e2
  refine thn (po_none.run pins s2 σ H2 (fun o H3 => o = none ∧ H3 = H2) I2 ⟨rfl, rfl⟩) fun vu s3 ⟨u, H3, I3, pu, eu, e3⟩ => ?_
  subst eu e3
  refine thn (hst.run pins s3 σ H3 (fun o H4 => o = some (-1) ∧ H4 = H3) I3 ⟨1, rfl, -1, rfl, rfl, rfl⟩) fun vs s4 ⟨o, H4, I4, ps, eo, e4⟩ => ?_
  subst eo e4
  have I5 : L2.Inv X pins σ H4 { s4 with heap := s4.heap.push { cls := .type "slice", data := .fields #[vl, vu, vs] } } := I4.kept (t' := s4.toks) fun b ob q => Heap.get?_push_of_some _ q
  obtain ⟨its, r, ht, hz⟩ := I5.tuple hx
  have hlen := r.length
  show wpAny (model X.prog X.w) X.A (subscriptTail e (.Slice none none (some (.UnaryOp .USub (.Constant (.int 1) k p1) p2)) p3) (.ref a) (.ref s4.heap.objs.size)) (EP X pins σ Q) X.xe { s4 with heap := s4.heap.push { cls := .type "slice", data := .fields #[vl, vu, vs] } }
  refine tail_any (ops := [.ref a, .ref s4.heap.objs.size]) ht.typeIs (PyProof.Rows.slot_tuple_getitem.lookup) ?_ (by with_unfolding_all rfl)
  refine getItem_tuple_rev ht (Heap.IsSliceOf.new _ vl vu vs) pl pu ps ?_ (by rw [List.size_toArray]; omega)
  rw [List.toList_toArray]
  refine ⟨.ref _, _, I5.laid (t' := s4.toks) (o := .tup xs.reverse) (fun b ob q => Heap.get?_push_of_some _ q) (Nat.le_refl _) ?_, rfl, q _ (I5.hok.fresh (Nat.le_refl _))⟩
  exact ⟨by rw [List.length_reverse]; exact hz, _, r.reverse, IsTup.new _ _⟩
end
end Ev

set_option Elab.async false
set_option linter.all false
set_option maxRecDepth 100000
set_option maxHeartbeats 4000000
namespace Ev
open PySem PySem.Spec PyProof.Rows L2 PySem.W

/-! ### a tuple many times -/
theorem tuple_mulS (l : Addr) (items : Array Value) (n : Nat) (dd : Option Addr) (sl : Array (Option Value)) (x : Int) (u : Tok) (c0 : (decide (x < -(2 ^ 63)) || decide (x ≥ 2 ^ 63)) = false) (c1 : (items.isEmpty || x == 1) = true) :
    Meets (Builtin.«tuple.__mul__» ⟨[.ref l, .int x u], []⟩) (fun _ R s => s.heap.get? l = some { cls := .type "tuple", dict := dd, data := .seq items n, slots := sl } ∧ R (.ok (.ret (Value.ref l))) s) :=
  .of_wp fun prog w A R s h => by
    obtain ⟨hp, g, d, tk, os⟩ := s
    obtain ⟨hl, h⟩ := h
    have f1 := AutoSeq1.idx_int
    have ty : Shared.TypeIs ⟨hp, g, d, tk, os⟩ (.ref l) "tuple" := ⟨_, hl, rfl⟩
    wp_walk using wpAny_loadPart' hl
    repeat (first
      | (refine wpAny_ite_false (decide_eq_false (by rw [c0]; exact Bool.false_ne_true)) ?_; wp_walk using wpAny_loadPart' hl)
      | (refine wpAny_ite_true (decide_eq_true (by rw [c1])) ?_; wp_walk using wpAny_loadPart' hl))
    exact ⟨_, rfl, h⟩
theorem tuple_mul0 (l : Addr) (items : Array Value) (n : Nat) (dd : Option Addr) (sl : Array (Option Value)) (x : Int) (u : Tok) (c0 : (decide (x < -(2 ^ 63)) || decide (x ≥ 2 ^ 63)) = false) (c1 : (items.isEmpty || x == 1) = false) (c2 : (decide (x ≤ 0) || items.isEmpty) = true) :
    Meets (Builtin.«tuple.__mul__» ⟨[.ref l, .int x u], []⟩) (fun _ R s => s.heap.get? l = some { cls := .type "tuple", dict := dd, data := .seq items n, slots := sl } ∧
      R (.ok (.ret (Value.ref s.heap.objs.size))) { s with heap := s.heap.push { cls := Value.type "tuple", data := Data.seq #[] }, toks := s.toks }) :=
  .of_wp fun prog w A R s h => by
    obtain ⟨hp, g, d, tk, os⟩ := s
    obtain ⟨hl, h⟩ := h
    have f1 := AutoSeq1.idx_int
    wp_walk using wpAny_loadPart' hl
    repeat (first
      | (refine wpAny_ite_false (decide_eq_false (by rw [c0]; exact Bool.false_ne_true)) ?_; wp_walk using wpAny_loadPart' hl)
      | (refine wpAny_ite_false (decide_eq_false (by rw [c1]; exact Bool.false_ne_true)) ?_; wp_walk using wpAny_loadPart' hl)
      | (refine wpAny_ite_true (decide_eq_true (by rw [c2])) ?_; wp_walk using wpAny_loadPart' hl))
    exact ⟨_, rfl, h⟩
def rRepA (K : PySem.W.Frag) : R2 := fun x y H Q => ∃ l k xs, x = .ref l ∧ y = .int k ∧ SqT K H l xs ∧ -1000 ≤ k ∧ k ≤ 1000 ∧ xs.length ≤ 1000 ∧ (xs = [] ∨ k = 1 → Q (.ref l) H) ∧
  (xs ≠ [] → k ≠ 1 → ∀ p, H p = none → Q (.ref p) (upd H p (.tup (List.replicate k.toNat xs).flatten)))
section
variable {X : Cx}
theorem op_repA : OpR X (binaryOp .Mult) (rRepA X.K) := by
  intro pins s σ H x y v u Q I rx ry h
  obtain ⟨l, k, xs, rfl, rfl, hT, h1, h2, hz, q1, q2⟩ := h
  by_cases hq : xs ≠ [] ∧ 2 ≤ k
  · exact op_repT pins s σ H _ _ v u Q I rx ry ⟨l, k, xs, rfl, rfl, hT, hq.1, hq.2, h2, hz, q2 hq.1 (by omega)⟩
  · cases rx
    obtain ⟨t, rfl⟩ := ry
    obtain ⟨its, r, ⟨⟨cls, dd, data, sl⟩, ho, hc, n, hd⟩, hs⟩ := I.tuple hT
    simp only at hc hd
    subst hc hd
    have hle : its.length = xs.length := r.length.symm
    have c0 : (decide (k < -(2 ^ 63)) || decide (k ≥ 2 ^ 63)) = false := by
      rw [decide_eq_false (by omega), decide_eq_false (by omega)] <;> rfl
    by_cases hk : xs = [] ∨ k = 1
    · have c1 : (its.toArray.isEmpty || k == 1) = true := by
        rcases hk with hk | hk
        · subst hk
          have : its = [] := List.eq_nil_of_length_eq_zero hle
          subst this
          rfl
        · subst hk
          simp
      exact wpAny_binaryOp_repeat_ref (T := "tuple") (U := "int") (by decide) ⟨_, ho, rfl⟩ (fun s' => typeIs_int s' k t) noFill_tuple_mul F.fills_int_mul F.slot_int_rmul repeat_tuple F.slot_int_index.lookup
        (call_meets F.slot_int_rmul (typeIs_int s k t) F.entry_int_rmul (F.args_int_rmul_2 _ _) (int_rmul_tuple k t l its.toArray n dd sl)
          ⟨ho, rfl, ⟨_, ho, rfl⟩, call_meets F.slot_tuple_mul ⟨_, ho, rfl⟩ F.entry_tuple_mul (F.args_tuple_mul_2 _ _) (tuple_mulS l its.toArray n dd sl k t c0 c1) ⟨ho, ⟨.ref l, H, I, rfl, q1 hk⟩⟩⟩)
    · have hx : xs ≠ [] := fun e => hk (.inl e)
      have hk1 : k ≠ 1 := fun e => hk (.inr e)
      have hk0 : k ≤ 0 := by
        have : ¬ 2 ≤ k := fun z => hq ⟨hx, z⟩
        omega
      have hn : its ≠ [] := fun e => hx (by
        rw [e] at hle
        exact List.eq_nil_of_length_eq_zero hle.symm)
      have hi : its.toArray.isEmpty = false := by
        cases its with
        | nil => exact absurd rfl hn
        | cons a b => rfl
      have c1 : (its.toArray.isEmpty || k == 1) = false := by
        rw [hi, Bool.false_or]
        exact beq_eq_false_iff_ne.mpr hk1
      have c2 : (decide (k ≤ 0) || its.toArray.isEmpty) = true := by
        rw [decide_eq_true hk0]; rfl
      have e0 : (List.replicate k.toNat xs).flatten = [] := by rw [show k.toNat = 0 by omega]; rfl
      have q3 := q2 hx hk1
      rw [e0] at q3
      refine wpAny_binaryOp_repeat_ref (T := "tuple") (U := "int") (by decide) ⟨_, ho, rfl⟩ (fun s' => typeIs_int s' k t) noFill_tuple_mul F.fills_int_mul F.slot_int_rmul repeat_tuple F.slot_int_index.lookup
        (call_meets F.slot_int_rmul (typeIs_int s k t) F.entry_int_rmul (F.args_int_rmul_2 _ _) (int_rmul_tuple k t l its.toArray n dd sl)
          ⟨ho, rfl, ⟨_, ho, rfl⟩, call_meets F.slot_tuple_mul ⟨_, ho, rfl⟩ F.entry_tuple_mul (F.args_tuple_mul_2 _ _) (tuple_mul0 l its.toArray n dd sl k t c0 c1 c2) ⟨ho, ?_⟩⟩)
      refine ⟨.ref s.heap.objs.size, _, I.laid (t' := s.toks) (o := .tup []) (fun b ob q => Heap.get?_push_of_some _ q) (Nat.le_refl _) ?_, rfl, q3 _ (I.hok.fresh (Nat.le_refl _))⟩
      exact ⟨by rw [sizeLine_eq]; simp, [], .nil, IsTup.new _ _⟩
end
end Ev

set_option Elab.async false
set_option linter.all false
set_option maxRecDepth 100000
set_option maxHeartbeats 4000000
namespace Ev
open PySem PySem.Spec PyProof.Rows L2 PySem.W

/-! ### alike things as data -/
mutual
theorem ak_toD : ∀ (p q : PV), plainD p = true → plainD q = true → PySem.W.alike (toD p) (toD q) = ak p q
  | .non, q, _, hq => by cases q <;> simp_all [toD, PySem.W.alike, ak, plainD]
  | .bl a, q, _, hq => by cases q <;> simp_all [toD, PySem.W.alike, ak, plainD]
  | .int a, q, _, hq => by cases q <;> simp_all [toD, PySem.W.alike, ak, plainD]
  | .str a, q, _, hq => by cases q <;> simp_all [toD, PySem.W.alike, ak, plainD]
  | .tup xs, q, hp, hq => by
    cases q with
    | tup ys => simp only [toD, PySem.W.alike, ak]; exact aks_toD xs ys hp hq
    | _ => simp_all [toD, PySem.W.alike, ak, plainD]
  | .lst xs, q, hp, hq => by
    cases q with
    | lst ys => simp only [toD, PySem.W.alike, ak]; exact aks_toD xs ys hp hq
    | _ => simp_all [toD, PySem.W.alike, ak, plainD]
  | .frl xs, q, hp, hq => by cases hp
  | .dict xs, q, hp, hq => by cases hp
theorem aks_toD : ∀ (p q : List PV), plainDs p = true → plainDs q = true → PySem.W.alikeAll (toDs p) (toDs q) = aks p q
  | [], [], _, _ => by simp [toDs, PySem.W.alikeAll, aks]
  | [], _ :: _, _, _ => by simp [toDs, PySem.W.alikeAll, aks]
  | _ :: _, [], _, _ => by simp [toDs, PySem.W.alikeAll, aks]
  | x :: xs, y :: ys, hp, hq => by
    simp only [plainDs, Bool.and_eq_true] at hp hq
    simp only [toDs, PySem.W.alikeAll, aks, ak_toD x y hp.1 hq.1, aks_toD xs ys hp.2 hq.2]
end
theorem row_nil : rowLt [] [] = false := lex_irrefl _
theorem row_nil_cons (y : PyData) (ys : List PyData) : rowLt [] (y :: ys) = true := by
  unfold rowLt
  rw [toks_all_cons]
  simp only [keyToksAll]
  rw [lex_diff (O := itemOrd) (by simp)]
  rfl
theorem row_cons_nil (y : PyData) (ys : List PyData) : rowLt (y :: ys) [] = false := by
  unfold rowLt
  rw [toks_all_cons]
  simp only [keyToksAll]
  rw [lex_diff (O := itemOrd) (by simp)]
  rfl
mutual
theorem plt_toD : ∀ (p q : PV), plainD p = true → plainD q = true → ak p q = true → dataLt (toD p) (toD q) = plt p q
  | .non, q, _, hq, ha => by
    cases q <;> first | (simp [ak] at ha; done) | skip
    simp only [toD, plt]
    exact lex_irrefl _
  | .bl a, q, _, hq, ha => by
    cases q <;> first | (simp [ak] at ha; done) | skip
    simp only [toD, plt, dataLt_bool]
    rename_i b
    cases a <;> cases b <;> rfl
  | .int a, q, _, hq, ha => by
    cases q <;> first | (simp [ak] at ha; done) | skip
    simp only [toD, plt, dataLt_int]
  | .str a, q, _, hq, ha => by
    cases q <;> first | (simp [ak] at ha; done) | skip
    simp only [toD, plt, dataLt_str, strV]
  | .tup xs, q, hp, hq, ha => by
    cases q with
    | tup ys => simp only [toD, plt, dataLt_tuple]; exact plts_toD xs ys hp hq (by simpa [ak] using ha)
    | _ => simp [ak] at ha
  | .lst xs, q, hp, hq, ha => by
    cases q with
    | lst ys => simp only [toD, plt, dataLt_list]; exact plts_toD xs ys hp hq (by simpa [ak] using ha)
    | _ => simp [ak] at ha
  | .frl xs, q, hp, hq, _ => by cases hp
  | .dict xs, q, hp, hq, _ => by cases hp
theorem plts_toD : ∀ (p q : List PV), plainDs p = true → plainDs q = true → aks p q = true → rowLt (toDs p) (toDs q) = plts p q
  | [], [], _, _, _ => by simp only [toDs, plts]; exact row_nil
  | [], _ :: _, _, _, _ => by simp only [toDs, plts]; exact row_nil_cons _ _
  | _ :: _, [], _, _, _ => by simp only [toDs, plts]; exact row_cons_nil _ _
  | x :: xs, y :: ys, hp, hq, ha => by
    simp only [plainDs, Bool.and_eq_true] at hp hq
    simp only [aks, Bool.and_eq_true] at ha
    simp only [toDs, plts]
    have e := dataLt_cons (x := toD x) (y := toD y) (by rw [ak_toD x y hp.1 hq.1]; exact ha.1) (toDs xs) (toDs ys)
    have e2 : rowLt (toD x :: toDs xs) (toD y :: toDs ys) = _ := e
    have r := plts_toD xs ys hp.2 hq.2 ha.2
    unfold rowLt at r
    rw [e2, eqv_toD x y hp.1 hq.1, plt_toD x y hp.1 hq.1 ha.1, r]
end
theorem toDs_map (xs : List PV) : toDs xs = xs.map toD := by
  induction xs with
  | nil => rfl
  | cons x xs ih => simp only [toDs, List.map_cons, ih]
theorem plainDs_mem {xs : List PV} (h : plainDs xs = true) {x : PV} (m : x ∈ xs) : plainD x = true := by
  induction xs with
  | nil => cases m
  | cons y ys ih =>
    simp only [plainDs, Bool.and_eq_true] at h
    rcases List.mem_cons.mp m with rfl | m
    · exact h.1
    · exact ih h.2 m
theorem deps_mem {xs : List PV} {x : PV} (m : x ∈ xs) : dep x ≤ deps xs := by
  induction xs with
  | nil => cases m
  | cons y ys ih =>
    simp only [deps]
    rcases List.mem_cons.mp m with rfl | m
    · exact Nat.le_max_left _ _
    · exact Nat.le_trans (ih m) (Nat.le_max_right _ _)
structure OkAll (xs : List PV) : Prop where
  plain : plainDs xs = true
  dep : deps xs ≤ 50
  nn : ∀ x ∈ xs, isNonP x = false
  al : ∀ x ∈ xs, ∀ y ∈ xs, ak x y = true
theorem okAll_iff {xs : List PV} (h : okAll xs = true) : OkAll xs := by
  unfold okAll at h
  simp only [Bool.and_eq_true, decide_eq_true_eq, List.all_eq_true, Bool.not_eq_true'] at h
  exact ⟨h.1.1, h.1.2, fun x m => (h.2 x m).1, fun x m y m' => (h.2 x m).2 y m'⟩
theorem toD_non {p : PV} (hp : plainD p = true) (h : isNonP p = false) : toD p ≠ .none := by
  cases p <;> first | (cases h; done) | (simp [plainD] at hp; done) | (simp [toD]; done)
theorem OkAll.alike {xs : List PV} (o : OkAll xs) : AlikeAll (toDs xs) := by
  rw [toDs_map]
  refine ⟨fun x hx y hy => ?_, fun x hx => ?_⟩
  · obtain ⟨p, hp, rfl⟩ := List.mem_map.mp hx
    obtain ⟨q, hq, rfl⟩ := List.mem_map.mp hy
    rw [ak_toD p q (plainDs_mem o.plain hp) (plainDs_mem o.plain hq)]
    exact o.al p hp q hq
  · obtain ⟨p, hp, rfl⟩ := List.mem_map.mp hx
    exact toD_non (plainDs_mem o.plain hp) (o.nn p hp)
theorem fold_toD {f : PV → PV → Bool} {g : PyData → PyData → Bool} {S : List PV} (hfg : ∀ a ∈ S, ∀ b ∈ S, g (toD a) (toD b) = f a b) : ∀ (xs : List PV) (x : PV), x ∈ S → (∀ y ∈ xs, y ∈ S) →
    (toDs xs).foldl (fun a y => if g y a then y else a) (toD x) = toD (xs.foldl (fun a y => if f y a then y else a) x)
  | [], x, _, _ => rfl
  | y :: ys, x, hx, hs => by
    simp only [toDs, List.foldl_cons]
    rw [hfg y (hs y List.mem_cons_self) x hx]
    by_cases h : f y x = true
    · rw [if_pos h, if_pos h]
      exact fold_toD hfg ys y (hs y List.mem_cons_self) fun z hz => hs z (List.mem_cons_of_mem _ hz)
    · rw [if_neg h, if_neg h]
      exact fold_toD hfg ys x hx fun z hz => hs z (List.mem_cons_of_mem _ hz)
theorem OkAll.minD {x : PV} {xs : List PV} (o : OkAll (x :: xs)) : PySem.W.minD (toD x) (toDs xs) = toD (xs.foldl (fun a y => if plt y a then y else a) x) :=
  fold_toD (f := plt) (g := fun a b => dataLt a b) (S := x :: xs) (fun a ha b hb => plt_toD a b (plainDs_mem o.plain ha) (plainDs_mem o.plain hb) (o.al a ha b hb)) xs x List.mem_cons_self fun y hy => List.mem_cons_of_mem _ hy
theorem OkAll.maxD {x : PV} {xs : List PV} (o : OkAll (x :: xs)) : PySem.W.maxD (toD x) (toDs xs) = toD (xs.foldl (fun a y => if plt a y then y else a) x) :=
  fold_toD (f := fun a b => plt b a) (g := fun a b => dataLt b a) (S := x :: xs) (fun a ha b hb => plt_toD b a (plainDs_mem o.plain hb) (plainDs_mem o.plain ha) (o.al b hb a ha)) xs x List.mem_cons_self fun y hy => List.mem_cons_of_mem _ hy
/-- plain things are told by their data -/
theorem strV_inj {a b : List Nat} (h : strV a = strV b) : a = b := by
  have := congrArg (fun x : Str => x.cps.toList) h
  simpa [strV] using this
mutual
theorem toD_inj : ∀ (p q : PV), plainD p = true → plainD q = true → toD p = toD q → p = q
  | .non, q, _, hq, h => by cases q <;> simp_all [toD, plainD]
  | .bl a, q, _, hq, h => by cases q <;> simp_all [toD, plainD]
  | .int a, q, _, hq, h => by cases q <;> simp_all [toD, plainD]
  | .str a, q, _, hq, h => by
    cases q <;> first | (simp [toD] at h; done) | (simp [plainD] at hq; done) | skip
    simp only [toD, PyData.str.injEq] at h
    rw [strV_inj h]
  | .tup xs, q, hp, hq, h => by
    cases q <;> first | (simp [toD] at h; done) | (simp [plainD] at hq; done) | skip
    simp only [toD, PyData.tuple.injEq] at h
    rw [toDs_inj xs _ hp hq h]
  | .lst xs, q, hp, hq, h => by
    cases q <;> first | (simp [toD] at h; done) | (simp [plainD] at hq; done) | skip
    simp only [toD, PyData.list.injEq] at h
    rw [toDs_inj xs _ hp hq h]
  | .frl xs, q, hp, hq, _ => by cases hp
  | .dict xs, q, hp, hq, _ => by cases hp
theorem toDs_inj : ∀ (p q : List PV), plainDs p = true → plainDs q = true → toDs p = toDs q → p = q
  | [], [], _, _, _ => rfl
  | [], _ :: _, _, _, h => by simp [toDs] at h
  | _ :: _, [], _, _, h => by simp [toDs] at h
  | x :: xs, y :: ys, hp, hq, h => by
    simp only [plainDs, Bool.and_eq_true] at hp hq
    simp only [toDs, List.cons.injEq] at h
    rw [toD_inj x y hp.1 hq.1 h.1, toDs_inj xs ys hp.2 hq.2 h.2]
end
theorem foldP_mem {f : PV → PV → Bool} : ∀ (xs : List PV) (x : PV), xs.foldl (fun a y => if f y a then y else a) x ∈ x :: xs
  | [], x => by simp
  | y :: ys, x => by
    rw [List.foldl_cons]
    have h := foldP_mem (f := f) ys (if f y x = true then y else x)
    rcases List.mem_cons.mp h with e | h
    · rw [e]; split <;> simp
    · exact List.mem_cons_of_mem _ (List.mem_cons_of_mem _ h)
/-! ### sorted, as data -/
theorem srtOk_sortable {xs : List PV} (h : srtOk xs = true) : OkAll xs ∧ Sortable (toDs xs) := by
  unfold srtOk at h
  rw [Bool.and_eq_true] at h
  have o := okAll_iff h.1
  refine ⟨o, ?_⟩
  rw [toDs_map]
  have h2 := h.2
  rw [Bool.or_eq_true, List.all_eq_true, List.all_eq_true] at h2
  rcases h2 with h2 | h2
  · left
    intro d hd
    obtain ⟨p, hp, rfl⟩ := List.mem_map.mp hd
    have := h2 p hp
    split at this
    · rename_i y ys
      exact ⟨toD y, toDs ys, by simp only [toD, toDs]⟩
    · cases this
  · right
    intro d hd
    obtain ⟨p, hp, rfl⟩ := List.mem_map.mp hd
    refine ⟨toD_non (plainDs_mem o.plain hp) (o.nn p hp), fun ys e => ?_⟩
    have := h2 p hp
    cases p <;> first | (simp [toD] at e; done) | cases this
end Ev

set_option Elab.async false
set_option linter.all false
set_option maxRecDepth 100000
namespace Ev
open PySem PySem.Spec PyProof.Rows L2

/-! ### operators -/
theorem rep_zero {α : Type} (xs : List α) : rep xs 0 = [] := rfl
theorem rep_one {α : Type} (xs : List α) : rep xs 1 = xs := by simp [rep]
theorem rep_len {α : Type} (xs : List α) (k : Nat) : (rep xs k).length = k * xs.length := by
  unfold rep
  induction k with
  | zero => simp
  | succ k ih => rw [List.replicate_succ, List.flatten_cons, List.length_append, ih]; rw [Nat.succ_mul, Nat.add_comm]
theorem rep_mem {α : Type} {xs : List α} {k : Nat} {c : α} (h : c ∈ rep xs k) : c ∈ xs := by
  unfold rep at h
  rw [List.mem_flatten] at h
  obtain ⟨l, h1, h2⟩ := h
  rw [List.mem_replicate] at h1
  exact h1.2 ▸ h2
theorem rep_nil {α : Type} (k : Nat) : rep ([] : List α) k = [] := by
  unfold rep
  induction k with
  | zero => rfl
  | succ k ih => rw [List.replicate_succ, List.flatten_cons, ih]; rfl
theorem foldl_repN (xs : List Nat) : ∀ (k : Nat) (acc : List Nat),
    List.foldl (fun x1 x2 => x1 ++ x2) acc.toArray (List.replicate k xs.toArray) = (acc ++ rep xs k).toArray
  | 0, acc => by simp [rep]
  | k + 1, acc => by
    rw [List.replicate_succ, List.foldl_cons]
    have e : acc.toArray ++ xs.toArray = (acc ++ xs).toArray := by simp
    rw [e, foldl_repN xs k]
    simp [rep, List.replicate_succ]
theorem op_mulS {X : Cx} : OpR X (binaryOp .Mult) (fun x y H Q => ∃ (z : List Nat) (k : Int), x = .str (strV z) ∧ y = .int k ∧ z.length ≤ 1000 ∧ -(2 ^ 63) ≤ k ∧ k ≤ 1000 ∧ Q (.str (strV (rep z k.toNat))) H) := by
  intro pins s σ H x y v u Q I rx ry h
  obtain ⟨z, k, rfl, rfl, hz, h1, h2, q⟩ := h
  obtain ⟨t, rfl⟩ := rx
  obtain ⟨t', rfl⟩ := ry
  have hl : (strV z).length = z.length := by simp [strV, Str.length]
  have mulle : z.length * k.toNat ≤ 1000 * 1000 := Nat.mul_le_mul hz (by omega)
  refine P.mul_str (by rw [decide_eq_false (by omega), decide_eq_false (by omega)]; rfl) (fun hk hn => ?_) (fun hk hn => ?_) ?_
  · rw [hl]
    have a1 : (1000 : Int) ≤ (2 ^ 63 - 1) / k := Int.le_ediv_of_mul_le (by omega) (by omega)
    omega
  · rw [hl]
    unfold Builtin.Str.tooLong
    rw [sizeLine_eq]
    exact decide_eq_false (by omega)
  · by_cases hk : k < 1
    · rw [if_pos hk]
      have e : rep z k.toNat = [] := by rw [show k.toNat = 0 by omega]; rfl
      rw [e] at q
      exact ⟨by decide, .str _, H, I.tok _, ⟨_, rfl⟩, q⟩
    · rw [if_neg hk]
      by_cases hb : (k == 1 || (strV z).length == 0) = true
      · rw [if_pos hb]
        have e : rep z k.toNat = z := by
          rw [Bool.or_eq_true] at hb
          rcases hb with hb | hb
          · have : k = 1 := by simpa using hb
            subst this
            exact rep_one z
          · rw [hl] at hb
            have : z = [] := List.eq_nil_of_length_eq_zero (by simpa using hb)
            subst this
            exact rep_nil _
        rw [e] at q
        exact ⟨.str _, H, I, ⟨_, rfl⟩, q⟩
      · rw [if_neg hb]
        have e : (⟨(List.replicate k.toNat (strV z).cps).foldl (· ++ ·) #[]⟩ : Str) = strV (rep z k.toNat) := by
          have := foldl_repN z k.toNat []
          rw [List.nil_append] at this
          show (⟨(List.replicate k.toNat z.toArray).foldl (· ++ ·) #[]⟩ : Str) = _
          rw [this]
          rfl
        rw [e]
        refine ⟨?_, .str _, H, I.tok _, ⟨_, rfl⟩, q⟩
        show (strV (rep z k.toNat)).length ≤ sizeLine
        rw [show (strV (rep z k.toNat)).length = (rep z k.toNat).length by simp [strV, Str.length], rep_len, sizeLine_eq]
        have := Nat.mul_comm z.length k.toNat
        omega

def opB : BOp → Operator
  | .add => .Add
  | .sub => .Sub
  | .mul => .Mult
  | .fdiv => .FloorDiv
  | .mod => .Mod
  | .pow => .Pow
def R2.or (r r' : R2) : R2 := fun x y H Q => r x y H Q ∨ r' x y H Q
def rAddS : R2 := fun x y H Q => ∃ i j, x = .str i ∧ y = .str j ∧ i.length + j.length ≤ sizeLine ∧ Q (.str (i ++ j)) H
def rRepL2 (K : PySem.W.Frag) : R2 := rRep
def rMulS : R2 := fun x y H Q => ∃ (z : List Nat) (k : Int), x = .str (strV z) ∧ y = .int k ∧ z.length ≤ 1000 ∧ -(2 ^ 63) ≤ k ∧ k ≤ 1000 ∧ Q (.str (strV (rep z k.toNat))) H
def rB (K : PySem.W.Frag) : BOp → R2
  | .add => R2.or (rI0 fun i j => .int (i + j)) (R2.or rAddS (R2.or (rCatA K) rCat))
  | .sub => rI0 fun i j => .int (i - j)
  | .mul => R2.or (rI CMul fun i j => .int (i * j)) (R2.or rMulS (R2.or (rRepA K) rRep))
  | .fdiv => rI CDiv fun i j => .int (i / j)
  | .mod => rI (fun _ j => 0 < j) fun i j => .int (i % j)
  | .pow => rI CPow fun i j => .int (i ^ j.toNat)
theorem or_b {X : Cx} : ∀ op, OpR X (binaryOp (opB op)) (rB X.K op)
  | .add => op_add.or (op_add_str.or (op_catA.or op_cat))
  | .sub => op_sub
  | .mul => op_mul.or (op_mulS.or (op_repA.or op_rep))
  | .fdiv => op_fdiv
  | .mod => op_mod
  | .pow => op_pow
theorem rep_vs {K : PySem.W.Frag} {M : Addr → Prop} {H : Hp} {vs : List V} {xs : List PV} (r : VRs K M H vs xs) : ∀ n : Nat, VRs K M H (List.replicate n vs).flatten (rep xs n)
  | 0 => .nil
  | n + 1 => by
    show VRs K M H (vs ++ (List.replicate n vs).flatten) (xs ++ rep xs n)
    exact r.append (rep_vs r n)
theorem strV_len (s : List Nat) : (strV s).length = s.length := by simp [strV, Str.length]
theorem strV_app (a b : List Nat) : strV a ++ strV b = strV (a ++ b) := by
  show (⟨a.toArray ++ b.toArray⟩ : Str) = ⟨(a ++ b).toArray⟩
  rw [List.append_toArray]
section
variable {K : PySem.W.Frag} {φ : List Addr} {h : AH} {H : Hp}
theorem Kont.val {p : PV} {v : V} {Q : VK} (R : HR K φ h H) (k : Kont K φ h H h (.v p) Q) (r : VR K (Mt φ h) H v p) : Q v H := k v H φ R Ext.refl r
theorem bin_sound (R : HR K φ h H) {op : BOp} {x y : V} {p q r : PV} {Q : VK} (e : binP op p q = some r) (cx : CV K φ h H x p) (cy : CV K φ h H y q) (k : Kont K φ h H h (.v r) Q) : rB K op x y H Q := by
  unfold binP at e
  split at e
  · cases e
    obtain rfl := cx.int
    obtain rfl := cy.int
    exact .inl ⟨_, _, rfl, rfl, Kont.val R k (.int _)⟩
  · cases e
    obtain rfl := cx.int
    obtain rfl := cy.int
    exact ⟨_, _, rfl, rfl, Kont.val R k (.int _)⟩
  · obtain rfl := cx.int
    obtain rfl := cy.int
    split at e
    · rename_i hm
      cases e
      refine .inl ⟨_, _, rfl, rfl, ?_, Kont.val R k (.int _)⟩
      unfold mulOk at hm
      simpa [CMul] using hm
    · cases e
  · obtain rfl := cx.int
    obtain rfl := cy.int
    split at e
    · rename_i hm
      cases e
      exact ⟨_, _, rfl, rfl, by simpa [CDiv] using hm, Kont.val R k (.int _)⟩
    · cases e
  · obtain rfl := cx.int
    obtain rfl := cy.int
    split at e
    · rename_i hm
      cases e
      exact ⟨_, _, rfl, rfl, by simpa using hm, Kont.val R k (.int _)⟩
    · cases e
  · obtain rfl := cx.int
    obtain rfl := cy.int
    split at e
    · rename_i hm
      cases e
      exact ⟨_, _, rfl, rfl, by simpa [CPow, and_assoc] using hm, Kont.val R k (.int _)⟩
    · cases e
  · obtain ⟨rfl, z1, c1⟩ := cx.str
    obtain ⟨rfl, z2, c2⟩ := cy.str
    split at e
    · rename_i hm
      cases e
      refine .inr (.inl ⟨_, _, rfl, rfl, by rw [strV_len, strV_len]; exact hm, ?_⟩)
      rw [strV_app]
      exact Kont.val R k (.str (by rw [List.length_append]; exact hm) fun c hc => (List.mem_append.mp hc).elim (c1 c) (c2 c))
    · cases e
  · obtain ⟨a, vs, rfl, ea, ra, za⟩ := cx.tup
    obtain ⟨b, ws, rfl, eb, rb, zb⟩ := cy.tup
    split at e
    · rename_i hm
      cases e
      refine .inr (.inr (.inl ⟨a, b, vs, ws, rfl, rfl, .inl (.inl ea), .inl (.inl eb), by rw [ra.length, rb.length]; exact hm, fun hv => ?_, fun hv hw => ?_, fun hv hw => ?_⟩))
      · subst hv
        cases ra
        cases cy with
        | v r => exact Kont.val R k r
      · subst hw
        cases rb
        cases cx with
        | v r => rw [List.append_nil] at k; exact Kont.val R k r
      · exact new_tup R (ra.append rb) (by rw [List.length_append]; exact hm) k
    · cases e
  · obtain ⟨a, vs, rfl, ea, ra, za⟩ := cx.list
    obtain ⟨b, ws, rfl, eb, rb, zb⟩ := cy.list
    split at e
    · rename_i hm
      cases e
      exact .inr (.inr (.inr ⟨a, b, vs, ws, rfl, rfl, ea, eb, by rw [ra.length, rb.length]; exact hm, new_lst R (ra.append rb) (by rw [List.length_append]; exact hm) k⟩))
    · cases e
  · obtain ⟨rfl, z1, c1⟩ := cx.str
    obtain rfl := cy.int
    split at e
    · rename_i a b hm
      cases e
      simp only [Bool.and_eq_true, decide_eq_true_eq] at hm
      refine .inr (.inl ⟨_, _, rfl, rfl, hm.2, by omega, hm.1.2, ?_⟩)
      have := Nat.mul_le_mul (show b.toNat ≤ 1000 by omega) hm.2
      exact Kont.val R k (.str (by rw [rep_len]; show _ ≤ 16777216; omega) fun c hc => c1 c (rep_mem hc))
    · cases e
  · obtain ⟨l, vs, rfl, el, rl, zl⟩ := cx.tup
    obtain rfl := cy.int
    split at e
    · rename_i a b hm
      cases e
      simp only [Bool.and_eq_true, decide_eq_true_eq] at hm
      have len : (rep a b.toNat).length ≤ SZ := by
        have := Nat.mul_le_mul (show b.toNat ≤ 1000 by omega) hm.2
        rw [rep_len]; show _ ≤ 16777216; omega
      refine .inr (.inr (.inl ⟨l, b, vs, rfl, rfl, SqT.of el, hm.1.1, hm.1.2, by rw [rl.length]; exact hm.2, fun hq => ?_, fun h1 h2 => ?_⟩))
      · have er : rep a b.toNat = a := by
          rcases hq with hq | hq
          · subst hq
            cases rl
            exact rep_nil _
          · subst hq
            exact rep_one a
        rw [er] at k
        cases cx with
        | v r => exact Kont.val R k r
      · exact new_tup R (rep_vs rl b.toNat) len k
    · cases e
  · obtain ⟨l, vs, rfl, el, rl, zl⟩ := cx.list
    obtain rfl := cy.int
    split at e
    · rename_i a b hm
      cases e
      simp only [Bool.and_eq_true, decide_eq_true_eq] at hm
      have len : (rep a b.toNat).length ≤ SZ := by
        have := Nat.mul_le_mul (show b.toNat ≤ 1000 by omega) hm.2
        rw [rep_len]; show _ ≤ 16777216; omega
      refine .inr (.inr (.inr ⟨l, b, vs, rfl, rfl, el, by omega, by omega, ?_, ?_⟩))
      · rw [rl.length]
        rw [rep_len, Nat.mul_comm] at len
        exact len
      · exact new_lst R (rep_vs rl b.toNat) len k
    · cases e
  · cases e
end

/-! ### dicts -/
theorem keyV_inj {a b : PV} (ha : isKey a = true) (hb : isKey b = true) : keyEq a b = decide (keyV a = keyV b) := by
  cases a <;> first | cases ha | skip
  · cases b <;> first | cases hb | skip
    · rename_i x y
      show (x == y) = decide ((Sum.inl x : Key) = Sum.inl y)
      rw [key_ll]
    · rename_i x y
      exact (key_lr x (strV y)).symm
  · cases b <;> first | cases hb | skip
    · rename_i x y
      exact (key_rl (strV x) y).symm
    · rename_i x y
      show (x == y) = decide ((Sum.inr (strV x) : Key) = Sum.inr (strV y))
      rw [key_rr, ← str_beq, Bool.eq_iff_iff, decide_eq_true_eq]
      exact beq_iff_eq
section
variable {K : PySem.W.Frag} {φ : List Addr} {h : AH} {H : Hp} {M : Addr → Prop}
theorem KRs.length : ∀ {vs : List (Key × V)} {ps : List (PV × PV)}, KRs K M H vs ps → vs.length = ps.length
  | _, _, .nil => rfl
  | _, _, .cons _ _ _ _ _ t => by rw [List.length_cons, List.length_cons, KRs.length t]
theorem KRs.look {q : PV} (hq : isKey q = true) : ∀ {ks : List (Key × V)} {kvs : List (PV × PV)}, KRs K M H ks kvs →
    (dlook kvs q = none ∧ valV ks (keyV q) = none) ∨ ∃ p v, dlook kvs q = some p ∧ valV ks (keyV q) = some v ∧ VR K M H v p
  | _, _, .nil => .inl ⟨rfl, rfl⟩
  | _, _, .cons (k := k) (v := v) (q := a) (p := p) (ks := ks) (ps := ps) kk e ik ek r t => by
    have hk := keyV_inj ik hq
    by_cases hkk : keyV a = keyV q
    · rw [decide_eq_true hkk] at hk
      refine .inr ⟨p, v, ?_, ?_, r⟩
      · unfold dlook; rw [hk]; rfl
      · exact valV_pos (ek.trans hkk)
    · rw [decide_eq_false hkk] at hk
      have e1 : dlook ((a, p) :: ps) q = dlook ps q := by
        show (if keyEq a q then some p else dlook ps q) = _
        rw [hk]; rfl
      rcases KRs.look hq t with ⟨h1, h2⟩ | ⟨p', v', h1, h2, h3⟩
      · exact .inl ⟨e1.trans h1, (valV_neg (fun z => hkk (ek.symm.trans z))).trans h2⟩
      · exact .inr ⟨p', v', e1.trans h1, (valV_neg (fun z => hkk (ek.symm.trans z))).trans h2, h3⟩
theorem kV_keyV {q : PV} {v : V} (hq : isKey q = true) (r : VR K M H v q) : v = kV (keyV q) := by
  cases r <;> first | rfl | cases hq
theorem DGet.at_ {a : Addr} {ks : List (Key × V)} {v : V} {q : PV} (e : Rd H a (.dK ks)) (hq : isKey q = true) (r : VR K M H v q) : DGet H a v (valV ks (keyV q)) :=
  .inl ⟨ks, keyV q, e, kV_keyV hq r, rfl⟩
theorem KRs.any {q : PV} (hq : isKey q = true) : ∀ {ks : List (Key × V)} {kvs : List (PV × PV)}, KRs K M H ks kvs → (ks.any fun kv => decide (kv.1 = keyV q)) = kvs.any fun kv => keyEq kv.1 q
  | _, _, .nil => rfl
  | _, _, .cons (k := k) (v := v) (q := a) (p := p) (ks := ks) (ps := ps) kk e ik ek r t => by
    rw [List.any_cons, List.any_cons, KRs.any hq t, keyV_inj ik hq, ek]
theorem KRs.map {q p : PV} {v : V} (hq : isKey q = true) (rp : VR K M H v p) : ∀ {ks : List (Key × V)} {kvs : List (PV × PV)}, KRs K M H ks kvs →
    KRs K M H (ks.map fun kv => if kv.1 = keyV q then (kv.1, v) else kv) (kvs.map fun kv => if keyEq kv.1 q then (kv.1, p) else kv)
  | _, _, .nil => .nil
  | _, _, .cons (k := k) (v := w) (q := a) (p := p') (ks := ks) (ps := ps) kk e ik ek r t => by
    rw [List.map_cons, List.map_cons]
    have hk := keyV_inj ik hq
    by_cases hkk : keyV a = keyV q
    · rw [decide_eq_true hkk] at hk
      rw [if_pos (show (k, w).1 = keyV q from ek.trans hkk), if_pos (show keyEq (a, p').1 q = true from hk)]
      exact .cons rfl e ik ek rp (KRs.map hq rp t)
    · rw [decide_eq_false hkk] at hk
      rw [if_neg (show ¬ (k, w).1 = keyV q from fun z => hkk (ek.symm.trans z)), if_neg (show ¬ keyEq (a, p').1 q = true by rw [show keyEq (a, p').1 q = false from hk]; exact Bool.false_ne_true)]
      exact .cons rfl e ik ek r (KRs.map hq rp t)
theorem KRs.append : ∀ {ks ls : List (Key × V)} {kvs lvs : List (PV × PV)}, KRs K M H ks kvs → KRs K M H ls lvs → KRs K M H (ks ++ ls) (kvs ++ lvs)
  | _, _, _, _, .nil, s => s
  | _, _, _, _, .cons kk e ik ek r t, s => .cons kk e ik ek r (KRs.append t s)
theorem KRs.put {q p : PV} {k v : V} (hq : isKey q = true) (rk : VR K M H k q) (rp : VR K M H v p) {ks : List (Key × V)} {kvs : List (PV × PV)} (r : KRs K M H ks kvs) : KRs K M H (putK ks (keyV q) v) (dput kvs q p) := by
  unfold putK dput
  rw [KRs.any hq r]
  by_cases hc : (kvs.any fun kv => keyEq kv.1 q) = true
  · rw [if_pos hc, if_pos hc]
    exact KRs.map hq rp r
  · rw [if_neg hc, if_neg hc]
    exact r.append (.cons rfl (by rw [← kV_keyV hq rk]; exact rk) hq rfl rp .nil)
end
theorem dput_len (kvs : List (PV × PV)) (q p : PV) : (dput kvs q p).length ≤ kvs.length + 1 := by
  unfold dput
  split
  · simp
  · simp

/-! ### comparisons -/
section
variable {X : Cx}
def rLenL (K : PySem.W.Frag) (b : Bool) : R2 := fun x y H Q => ∃ a c xs ys, x = .ref a ∧ y = .ref c ∧ SqL K H a xs ∧ SqL K H c ys ∧ xs.length ≠ ys.length ∧ Q (.bl b) H
theorem op_lenEq (hu : X.A.units < cLine) : OpR X (compareOp .Eq) (rLenL X.K false) := by
  intro pins s σ H x y v u Q I rx ry h
  obtain ⟨a, c, xs, ys, rfl, rfl, h1, h2, hn, q⟩ := h
  cases rx; cases ry
  obtain ⟨us, r1, p1, _⟩ := I.list h1
  obtain ⟨ws, r2, p2, _⟩ := I.list h2
  exact SeqAt.RcAt.lists_lengths p1.isList p2.isList (by simp only [List.size_toArray, bne_iff_ne, ne_eq]; rw [← r1.length, ← r2.length]; exact hn) hu _ _ _ _ ⟨.bl false, H, I, rfl, q⟩
theorem op_lenNe (hu : X.A.units < cLine) : OpR X (compareOp .NotEq) (rLenL X.K true) := by
  intro pins s σ H x y v u Q I rx ry h
  obtain ⟨a, c, xs, ys, rfl, rfl, h1, h2, hn, q⟩ := h
  cases rx; cases ry
  obtain ⟨us, r1, p1, _⟩ := I.list h1
  obtain ⟨ws, r2, p2, _⟩ := I.list h2
  exact SeqAt.RcNeAt.lists_lengths p1.isList p2.isList (by simp only [List.size_toArray, bne_iff_ne, ne_eq]; rw [← r1.length, ← r2.length]; exact hn) hu _ _ _ _ ⟨.bl true, H, I, rfl, q⟩
/-- two dicts of data: the answer of each value at its key -/
inductive Hits (K : PySem.W.Frag) (H : Hp) (ls : List (Key × V)) : List (Key × V) → Bool → Prop
  | nil : Hits K H ls [] true
  | miss {k : Key} {v : V} {r : List (Key × V)} : valV ls k = none → Hits K H ls ((k, v) :: r) false
  | hit {k : Key} {v y : V} {r : List (Key × V)} {d e : PyData} {b : Bool} : valV ls k = some y → Dp K H v d → Dp K H y e → SeqAt.shaped d = true → SeqAt.shaped e = true → Hits K H ls r b → Hits K H ls ((k, v) :: r) (PyData.eqv d e && b)
theorem Hits.keq {pins : List (Addr × Obj)} {s : Shared} {σ : L2.St} {H : Hp} (I : Inv X pins σ H s) (hu : X.A.units + 65 < cLine) {ls : List (Key × V)} {vb : List (Key × Value)} (rb : KV ls vb) {ks : List (Key × V)} {b : Bool} (hh : Hits X.K H ls ks b) :
    ∀ {va : List (Key × Value)}, KV ks va → PySem.W.KeqHits X.A.in1 s vb va b := by
  induction hh with
  | nil =>
    intro va rv
    unfold KV at rv
    cases rv
    exact .nil
  | @miss k v r e =>
    intro va rv
    unfold KV at rv
    cases rv with
    | @cons _ q _ _ h t =>
      obtain ⟨h1, h2⟩ := h
      obtain ⟨k', v'⟩ := q
      have h1' : k = k' := h1
      subst h1'
      have rr := rb.val k
      rw [e] at rr
      exact .miss rr.none_of
  | @hit k v y r d e b ey d1 d2 s1 s2 _ ih =>
    intro va rv
    unfold KV at rv
    cases rv with
    | @cons _ q _ _ h t =>
      obtain ⟨h1, h2⟩ := h
      obtain ⟨k', v'⟩ := q
      have h1' : k = k' := h1
      subst h1'
      have rr := rb.val k
      rw [ey] at rr
      obtain ⟨y', hy, ry⟩ := rr.some_of
      obtain ⟨as, q1⟩ := Dp.reads I _ _ v' d1 h2
      obtain ⟨bs, q2⟩ := Dp.reads I _ _ y' d2 ry
      exact .hit hy (PySem.W.keq_at q1 q2 s1 s2 (by show X.A.units + 1 + 64 < cLine; omega)) (ih t)
def rDictE (K : PySem.W.Frag) (neg : Bool) : R2 := fun x y H Q => ∃ a c ks ls b, x = .ref a ∧ y = .ref c ∧ Rd H a (.dK ks) ∧ Rd H c (.dK ls) ∧ Hits K H ls ks b ∧ Q (.bl (if neg then !(ks.length == ls.length && b) else (ks.length == ls.length && b))) H
theorem op_dictEq (hu : X.A.units + 65 < cLine) : OpR X (compareOp .Eq) (rDictE X.K false) := by
  intro pins s σ H x y v u Q I rx ry h
  obtain ⟨a, c, ks, ls, b, rfl, rfl, h1, h2, hh, q⟩ := h
  cases rx; cases ry
  obtain ⟨_, ya, va, ra, da⟩ := dk_rd I.hok h1
  obtain ⟨_, yb, vb, rb, db⟩ := dk_rd I.hok h2
  refine PySem.W.keq_eq (knd := mixKind X.prog X.w) (r := b) ya yb da db (by omega) (fun _ => hh.keq I hu rb ra) ⟨.bl _, H, I, rfl, ?_⟩
  rw [← ra.length, ← rb.length]
  exact q
theorem op_dictNe (hu : X.A.units + 65 < cLine) : OpR X (compareOp .NotEq) (rDictE X.K true) := by
  intro pins s σ H x y v u Q I rx ry h
  obtain ⟨a, c, ks, ls, b, rfl, rfl, h1, h2, hh, q⟩ := h
  cases rx; cases ry
  obtain ⟨_, ya, va, ra, da⟩ := dk_rd I.hok h1
  obtain ⟨_, yb, vb, rb, db⟩ := dk_rd I.hok h2
  refine PySem.W.keq_ne (knd := mixKind X.prog X.w) (r := b) ya yb da db (by omega) (fun _ => hh.keq I hu rb ra) ⟨.bl _, H, I, rfl, ?_⟩
  rw [← ra.length, ← rb.length]
  exact q
def rInT (K : PySem.W.Frag) (neg : Bool) : R2 := fun x y H Q => ∃ d ds, Dp K H x d ∧ Dp K H y (.tuple ds) ∧ SeqAt.shaped d = true ∧ SeqAt.shaped (.tuple ds) = true ∧ Q (.bl (if neg then !ds.any fun z => PyData.eqv z d else ds.any fun z => PyData.eqv z d)) H
theorem op_inT (hu : X.A.units + 65 < cLine) : OpR X (compareOp .In) (rInT X.K false) := by
  intro pins s σ H x y v u Q I rx ry h
  obtain ⟨d, ds, hd, he, sd, se, q⟩ := h
  obtain ⟨as, r1⟩ := Dp.reads I d x v hd rx
  obtain ⟨bs, r2⟩ := Dp.reads I (.tuple ds) y u he ry
  exact SeqAt.in_tuple_reads r2 r1 (SeqAt.canLay_of_shaped se) (SeqAt.canLay_of_shaped sd) (room_in_shaped sd hu) ⟨.bl _, H, I, rfl, q⟩
theorem op_notInT (hu : X.A.units + 65 < cLine) : OpR X (compareOp .NotIn) (rInT X.K true) := by
  intro pins s σ H x y v u Q I rx ry h
  obtain ⟨d, ds, hd, he, sd, se, q⟩ := h
  obtain ⟨as, r1⟩ := Dp.reads I d x v hd rx
  obtain ⟨bs, r2⟩ := Dp.reads I (.tuple ds) y u he ry
  exact SeqAt.notIn_tuple_reads r2 r1 (SeqAt.canLay_of_shaped se) (SeqAt.canLay_of_shaped sd) (room_in_shaped sd hu) ⟨.bl _, H, I, rfl, q⟩
def rInK (neg : Bool) : R2 := fun x y H Q => ∃ a o, y = .ref a ∧ DGet H a x o ∧ Q (.bl (if neg then !o.isSome else o.isSome)) H
theorem op_inK (hu : X.A.units + 1 < cLine) : OpR X (compareOp .In) (rInK false) := by
  intro pins s σ H x y v u Q I rx ry h
  obtain ⟨a, o, rfl, g, q⟩ := h
  cases ry
  exact d_in hu I g rx fun s' I' => ⟨.bl _, H, I', rfl, q⟩
theorem op_notInK (hu : X.A.units + 1 < cLine) : OpR X (compareOp .NotIn) (rInK true) := by
  intro pins s σ H x y v u Q I rx ry h
  obtain ⟨a, o, rfl, g, q⟩ := h
  cases ry
  exact d_notIn hu I g rx fun s' I' => ⟨.bl _, H, I', rfl, q⟩
end
def opC : COp → CmpOp
  | .eq => .Eq
  | .ne => .NotEq
  | .lt => .Lt
  | .le => .LtE
  | .gt => .Gt
  | .ge => .GtE
  | .isIn => .In
  | .notIn => .NotIn
  | .is => .Is
  | .isNot => .IsNot
def rLtS : R2 := fun x y H Q => ∃ i j, x = .str i ∧ y = .str j ∧ Q (.bl (decide (i.cps.toList < j.cps.toList))) H
def rLeS : R2 := fun x y H Q => ∃ i j, x = .str i ∧ y = .str j ∧ Q (.bl (!decide (j.cps.toList < i.cps.toList))) H
def rInC : R2 := fun x y H Q => ∃ (c : Nat) (z : Str), x = .str ⟨#[c]⟩ ∧ y = .str z ∧ Q (.bl (decide (c ∈ z.cps.toList))) H
def rNotInC : R2 := fun x y H Q => ∃ (c : Nat) (z : Str), x = .str ⟨#[c]⟩ ∧ y = .str z ∧ Q (.bl (!decide (c ∈ z.cps.toList))) H
def rC (K : PySem.W.Frag) : COp → R2
  | .eq => R2.or (rEqD K) (R2.or (rLenL K false) (rDictE K false))
  | .ne => R2.or (rNeD K) (R2.or (rLenL K true) (rDictE K true))
  | .lt => R2.or (rI0 fun i j => .bl (decide (i < j))) (R2.or rLtS (rCmpD K fun a b => PySem.W.dataLt a b))
  | .le => R2.or (rI0 fun i j => .bl (decide (i ≤ j))) (R2.or rLeS (rCmpD K fun a b => !PySem.W.dataLt b a))
  | .gt => R2.or (rI0 fun i j => .bl (decide (j < i))) (rCmpD K fun a b => PySem.W.dataLt b a)
  | .ge => R2.or (rI0 fun i j => .bl (decide (j ≤ i))) (rCmpD K fun a b => !PySem.W.dataLt a b)
  | .isIn => R2.or (rInK false) (R2.or (rInT K false) (R2.or (rInD K) rInC))
  | .notIn => R2.or (rInK true) (R2.or (rInT K true) (R2.or (rNotInD K) rNotInC))
  | .is => R2.or (fun x y H Q => y = .non ∧ Q (.bl (decide (x = .non))) H) rIsB
  | .isNot => R2.or (fun x y H Q => y = .non ∧ Q (.bl (!decide (x = .non))) H) rNotB
theorem or_c {X : Cx} (hu : X.A.units + 65 < cLine) : ∀ op, OpR X (compareOp (opC op)) (rC X.K op)
  | .eq => (op_eqD (by omega)).or ((op_lenEq (by omega)).or (op_dictEq hu))
  | .ne => (op_neD (by omega)).or ((op_lenNe (by omega)).or (op_dictNe hu))
  | .lt => op_lt.or (op_lt_str.or (op_ltD hu))
  | .le => op_le.or (op_le_str.or (op_leD hu))
  | .gt => op_gt.or (op_gtD hu)
  | .ge => op_ge.or (op_geD hu)
  | .isIn => (op_inK (by omega)).or ((op_inT hu).or ((op_inD hu).or op_in_sign))
  | .notIn => (op_notInK (by omega)).or ((op_notInT hu).or ((op_notInD hu).or op_notIn_sign))
  | .is => op_isN.or op_isBl
  | .isNot => op_notN.or op_notBl
section
variable {K : PySem.W.Frag} {φ : List Addr} {h : AH} {H : Hp} {M : Addr → Prop}
theorem any_toD (p : PV) (hp : plainD p = true) : ∀ (xs : List PV), plainDs xs = true → ((toDs xs).any fun z => PyData.eqv z (toD p)) = xs.any fun y => eqv y p
  | [], _ => rfl
  | x :: xs, h => by
    simp only [plainDs, Bool.and_eq_true] at h
    simp only [toDs, List.any_cons, eqv_toD x p h.1 hp, any_toD p hp xs h.2]
theorem okD_plain {p : PV} (h : okD p = true) : plainD p = true := by
  unfold okD at h
  rw [Bool.and_eq_true] at h
  exact h.1
theorem KRs.hits {ls : List (Key × V)} {lvs : List (PV × PV)} (rl : KRs K (Mt φ h) H ls lvs) (ol : okDict lvs = true) : ∀ {ks : List (Key × V)} {kvs : List (PV × PV)}, KRs K (Mt φ h) H ks kvs → okDict kvs = true →
    Hits K H ls ks (kvs.all fun kv => match dlook lvs kv.1 with | some y => eqv kv.2 y | none => false)
  | _, _, .nil, _ => .nil
  | _, _, .cons (k := k) (v := v) (q := a) (p := p) (ks := ks) (ps := ps) kk e ik ek r t, o => by
    unfold okDict at o
    rw [List.all_cons, Bool.and_eq_true] at o
    rw [List.all_cons]
    rcases KRs.look ik rl with ⟨h1, h2⟩ | ⟨p', v', h1, h2, h3⟩
    · simp only [h1, Bool.false_and]
      exact .miss (by rw [ek]; exact h2)
    · simp only [h1]
      have op' : okD p' = true := by
        have : ∀ {lvs : List (PV × PV)}, okDict lvs = true → dlook lvs a = some p' → okD p' = true := by
          intro lvs
          induction lvs with
          | nil => intro _ z; cases z
          | cons x r ih =>
            intro o z
            obtain ⟨x1, x2⟩ := x
            unfold okDict at o
            rw [List.all_cons, Bool.and_eq_true] at o
            unfold dlook at z
            split at z
            · cases z; exact o.1
            · exact ih o.2 z
        exact this ol h1
      obtain ⟨d1, s1⟩ := CV.dp (CV.v r) o.1
      obtain ⟨d2, s2⟩ := CV.dp (CV.v h3) op'
      rw [← eqv_toD p p' (okD_plain o.1) (okD_plain op')]
      exact .hit (by rw [ek]; exact h2) d1 d2 s1 s2 (KRs.hits rl ol t o.2)
theorem eq_sound (R : HR K φ h H) {x y : V} {p q : PV} {b : Bool} {Q : VK} (e : eqP p q = some b) (cx : CV K φ h H x p) (cy : CV K φ h H y q) (neg : Bool) (k : Q (.bl (if neg then !b else b)) H) :
    if neg then R2.or (rNeD K) (R2.or (rLenL K true) (rDictE K true)) x y H Q else R2.or (rEqD K) (R2.or (rLenL K false) (rDictE K false)) x y H Q := by
  have data : okD p = true → okD q = true → b = eqv p q → if neg then R2.or (rNeD K) (R2.or (rLenL K true) (rDictE K true)) x y H Q else R2.or (rEqD K) (R2.or (rLenL K false) (rDictE K false)) x y H Q := fun h1 h2 hb => by
    obtain ⟨d1, s1⟩ := CV.dp cx h1
    obtain ⟨d2, s2⟩ := CV.dp cy h2
    have eb : PyData.eqv (toD p) (toD q) = b := by rw [eqv_toD p q (okD_plain h1) (okD_plain h2), hb]
    cases neg with
    | true => exact .inl ⟨_, _, d1, d2, s1, s2, by rw [eb]; exact k⟩
    | false => exact .inl ⟨_, _, d1, d2, s1, s2, by rw [eb]; exact k⟩
  unfold eqP at e
  split at e
  · split at e
    · rename_i ho
      rw [Bool.and_eq_true] at ho
      cases e
      obtain ⟨a, ks, rfl, ea, ra, _⟩ := cx.dic
      obtain ⟨c, ls, rfl, ec, rc, _⟩ := cy.dic
      have hh := KRs.hits rc ho.2 ra ho.1
      unfold dictEq at k
      rw [← ra.length, ← rc.length] at k
      cases neg with
      | true => exact .inr (.inr ⟨a, c, ks, ls, _, rfl, rfl, ea, ec, hh, k⟩)
      | false => exact .inr (.inr ⟨a, c, ks, ls, _, rfl, rfl, ea, ec, hh, k⟩)
    · cases e
  · split at e
    · rename_i hn
      cases e
      obtain ⟨a, vs, rfl, ea, ra, _⟩ := cx.list
      obtain ⟨c, ws, rfl, ec, rc, _⟩ := cy.list
      have hn' : vs.length ≠ ws.length := by rw [ra.length, rc.length]; exact hn
      cases neg with
      | true => exact .inr (.inl ⟨a, c, vs, ws, rfl, rfl, SqL.of ea, SqL.of ec, hn', k⟩)
      | false => exact .inr (.inl ⟨a, c, vs, ws, rfl, rfl, SqL.of ea, SqL.of ec, hn', k⟩)
    · split at e
      · rename_i ho
        rw [Bool.and_eq_true] at ho
        cases e
        exact data ho.1 ho.2 rfl
      · cases e
  · split at e
    · rename_i ho
      rw [Bool.and_eq_true] at ho
      cases e
      exact data ho.1 ho.2 rfl
    · cases e
theorem in_sound (R : HR K φ h H) {x y : V} {p q : PV} {b : Bool} {Q : VK} (e : inP p q = some b) (cx : CV K φ h H x p) (cy : CV K φ h H y q) (neg : Bool) (k : Q (.bl (if neg then !b else b)) H) :
    if neg then rC K .notIn x y H Q else rC K .isIn x y H Q := by
  unfold inP at e
  split at e
  · split at e
    · rename_i kvs hk
      cases e
      obtain ⟨c, ls, rfl, ec, rc, _⟩ := cy.dic
      have rx : VR K (Mt φ h) H x p := by
        cases cx with
        | v r => exact r
        | lst _ _ _ => cases hk
        | dict _ _ _ => cases hk
      have g := DGet.at_ ec hk rx
      have eb : (valV ls (keyV p)).isSome = dhas kvs p := by
        unfold dhas
        rcases KRs.look hk rc with ⟨h1, h2⟩ | ⟨p', v', h1, h2, h3⟩
        · rw [h1, h2]; rfl
        · rw [h1, h2]; rfl
      cases neg with
      | true => exact .inl ⟨c, _, rfl, g, by rw [eb]; exact k⟩
      | false => exact .inl ⟨c, _, rfl, g, by rw [eb]; exact k⟩
    · cases e
  · rename_i s
    split at e
    · rename_i c
      cases e
      obtain ⟨rfl, _⟩ := cx.str
      obtain ⟨rfl, _⟩ := cy.str
      have eb : decide (c ∈ (strV s).cps.toList) = s.contains c := by
        rw [Bool.eq_iff_iff]
        simp [strV]
        exact decide_eq_true_iff
      cases neg with
      | true => exact .inr (.inr (.inr ⟨c, _, rfl, rfl, by rw [eb]; exact k⟩))
      | false => exact .inr (.inr (.inr ⟨c, _, rfl, rfl, by rw [eb]; exact k⟩))
    · cases e
  · split at e
    · rename_i ys ho
      rw [Bool.and_eq_true] at ho
      cases e
      obtain ⟨d1, s1⟩ := CV.dp cx ho.1
      obtain ⟨d2, s2⟩ := CV.dp cy ho.2
      have hy := okD_plain ho.2
      simp only [plainD] at hy
      simp only [toD] at d2 s2
      have eb := any_toD p (okD_plain ho.1) ys hy
      cases neg with
      | true => exact .inr (.inl ⟨_, _, d1, d2, s1, s2, by rw [eb]; exact k⟩)
      | false => exact .inr (.inl ⟨_, _, d1, d2, s1, s2, by rw [eb]; exact k⟩)
    · cases e
  · split at e
    · rename_i ys ho
      rw [Bool.and_eq_true] at ho
      cases e
      obtain ⟨d1, s1⟩ := CV.dp cx ho.1
      obtain ⟨d2, s2⟩ := CV.dp cy ho.2
      have hy := okD_plain ho.2
      simp only [plainD] at hy
      simp only [toD] at d2 s2
      have eb := any_toD p (okD_plain ho.1) ys hy
      cases neg with
      | true => exact .inr (.inr (.inl ⟨_, _, d1, d2, s1, s2, by rw [eb]; exact k⟩))
      | false => exact .inr (.inr (.inl ⟨_, _, d1, d2, s1, s2, by rw [eb]; exact k⟩))
    · cases e
  · cases e
theorem non_iff {x : V} {p : PV} (cx : CV K φ h H x p) : decide (x = .non) = isNon p := by
  cases cx with
  | v r => cases r <;> simp [isNon]
  | lst _ _ _ => simp [isNon]
  | dict _ _ _ => simp [isNon]
theorem is_sound (R : HR K φ h H) {x y : V} {p q : PV} {b : Bool} {Q : VK} (e : isP p q = some b) (cx : CV K φ h H x p) (cy : CV K φ h H y q) (neg : Bool) (k : Q (.bl (if neg then !b else b)) H) :
    if neg then rC K .isNot x y H Q else rC K .is x y H Q := by
  unfold isP at e
  split at e
  · cases e
    obtain rfl := cy.non
    rw [← non_iff cx] at k
    cases neg with
    | true => exact .inl ⟨rfl, k⟩
    | false => exact .inl ⟨rfl, k⟩
  · rename_i c
    cases p <;> first | cases e | skip
    rename_i a
    obtain rfl := cx.bl
    obtain rfl := cy.bl
    rw [Bool.beq_eq_decide_eq] at k
    cases neg with
    | true => exact .inr ⟨_, _, rfl, rfl, k⟩
    | false => exact .inr ⟨_, _, rfl, rfl, k⟩
  · cases e
mutual
theorem ak_symm : ∀ (p q : PV), ak p q = true → ak q p = true
  | .non, q, h => by cases q <;> first | rfl | (simp [ak] at h)
  | .bl b, q, h => by cases q <;> first | rfl | (simp [ak] at h)
  | .int i, q, h => by cases q <;> first | rfl | (simp [ak] at h)
  | .str s, q, h => by cases q <;> first | rfl | (simp [ak] at h)
  | .tup xs, q, h => by
    cases q <;> first | (simp [ak] at h; done) | skip
    simp only [ak] at h ⊢
    exact aks_symm xs _ h
  | .lst xs, q, h => by
    cases q <;> first | (simp [ak] at h; done) | skip
    simp only [ak] at h ⊢
    exact aks_symm xs _ h
  | .frl xs, q, h => by cases q <;> simp [ak] at h
  | .dict xs, q, h => by cases q <;> simp [ak] at h
theorem aks_symm : ∀ (p q : List PV), aks p q = true → aks q p = true
  | [], [], _ => by simp [aks]
  | [], _ :: _, _ => by simp [aks]
  | _ :: _, [], _ => by simp [aks]
  | x :: xs, y :: ys, h => by
    simp only [aks, Bool.and_eq_true] at h ⊢
    exact ⟨ak_symm x y h.1, aks_symm xs ys h.2⟩
end
theorem okC_data {x y : V} {p q : PV} (cx : CV K φ h H x p) (cy : CV K φ h H y q) (ho : okC p q = true) : Dp K H x (toD p) ∧ Dp K H y (toD q) ∧ PySem.W.alike (toD p) (toD q) = true ∧ toD p ≠ .none ∧ (toD p).depth ≤ 64 ∧
    PySem.W.dataLt (toD p) (toD q) = plt p q ∧ PySem.W.dataLt (toD q) (toD p) = plt q p := by
  unfold okC at ho
  simp only [Bool.and_eq_true, decide_eq_true_eq, Bool.not_eq_true'] at ho
  obtain ⟨⟨⟨⟨h1, h2⟩, h3⟩, h4⟩, h5⟩ := ho
  exact ⟨CV.dpl cx h1, CV.dpl cy h2, by rw [ak_toD p q h1 h2]; exact h4, toD_non h1 h5, by rw [dep_toD p h1]; omega, plt_toD p q h1 h2 h4, plt_toD q p h2 h1 (ak_symm p q h4)⟩
theorem cmp_sound (R : HR K φ h H) {op : COp} {x y : V} {p q : PV} {b : Bool} {Q : VK} (e : cmpP op p q = some b) (cx : CV K φ h H x p) (cy : CV K φ h H y q) (k : Q (.bl b) H) : rC K op x y H Q := by
  cases op with
  | eq => exact eq_sound R e cx cy false k
  | ne =>
    unfold cmpP at e
    rw [Option.map_eq_some_iff] at e
    obtain ⟨c, e, rfl⟩ := e
    exact eq_sound R e cx cy true k
  | lt =>
    simp only [cmpP] at e
    split at e
    · cases e; obtain rfl := cx.int; obtain rfl := cy.int; exact .inl ⟨_, _, rfl, rfl, k⟩
    · cases e
      obtain ⟨rfl, _⟩ := cx.str
      obtain ⟨rfl, _⟩ := cy.str
      exact .inr (.inl ⟨_, _, rfl, rfl, k⟩)
    · split at e
      · rename_i ho
        cases e
        obtain ⟨d1, d2, h1, h2, h3, h4, _⟩ := okC_data cx cy ho
        exact .inr (.inr ⟨_, _, d1, d2, h1, h2, h3, by dsimp only; rw [h4]; exact k⟩)
      · cases e
  | le =>
    simp only [cmpP] at e
    split at e
    · cases e; obtain rfl := cx.int; obtain rfl := cy.int; exact .inl ⟨_, _, rfl, rfl, k⟩
    · cases e
      obtain ⟨rfl, _⟩ := cx.str
      obtain ⟨rfl, _⟩ := cy.str
      exact .inr (.inl ⟨_, _, rfl, rfl, k⟩)
    · split at e
      · rename_i ho
        cases e
        obtain ⟨d1, d2, h1, h2, h3, _, h4⟩ := okC_data cx cy ho
        exact .inr (.inr ⟨_, _, d1, d2, h1, h2, h3, by dsimp only; rw [h4]; exact k⟩)
      · cases e
  | gt =>
    simp only [cmpP] at e
    split at e
    · cases e; obtain rfl := cx.int; obtain rfl := cy.int; exact .inl ⟨_, _, rfl, rfl, k⟩
    · split at e
      · rename_i ho
        cases e
        obtain ⟨d1, d2, h1, h2, h3, _, h4⟩ := okC_data cx cy ho
        exact .inr ⟨_, _, d1, d2, h1, h2, h3, by dsimp only; rw [h4]; exact k⟩
      · cases e
  | ge =>
    simp only [cmpP] at e
    split at e
    · cases e; obtain rfl := cx.int; obtain rfl := cy.int; exact .inl ⟨_, _, rfl, rfl, k⟩
    · split at e
      · rename_i ho
        cases e
        obtain ⟨d1, d2, h1, h2, h3, h4, _⟩ := okC_data cx cy ho
        exact .inr ⟨_, _, d1, d2, h1, h2, h3, by dsimp only; rw [h4]; exact k⟩
      · cases e
  | isIn => exact in_sound R e cx cy false k
  | notIn =>
    unfold cmpP at e
    rw [Option.map_eq_some_iff] at e
    obtain ⟨c, e, rfl⟩ := e
    exact in_sound R e cx cy true k
  | is => exact is_sound R e cx cy false k
  | isNot =>
    unfold cmpP at e
    rw [Option.map_eq_some_iff] at e
    obtain ⟨c, e, rfl⟩ := e
    exact is_sound R e cx cy true k
end
end Ev

set_option Elab.async false
set_option linter.all false
set_option maxRecDepth 100000
set_option maxHeartbeats 2000000
namespace Ev
open PySem PySem.Spec PyProof.Rows L2

/-! ### the text and its own form are the same -/
def plainX : Expr → Bool
  | .Starred .. => false
  | .Slice .. => false
  | .Set .. => false
  | _ => true
def visB (sc : Scope) (x : Str) : Bool :=
  (match sc.names.lookup x with | some .local => true | some .cell => true | some .free => true | _ => false) && !(x == ("__debug__" : Str)) && !(x == ("__classdict__" : Str))
def glB (sc : Scope) (x : Str) : Bool :=
  (match sc.names.lookup x with | some .globalImplicit => true | _ => false) && !(x == ("__debug__" : Str)) && !(x == ("__name__" : Str))
def locB (sc : Scope) (x : Str) : Bool :=
  match sc.names.lookup x with | some .local => true | some .cell => true | _ => false
def litB : PV → Const → Bool
  | .non, .none => true
  | .bl a, .bool b => a == b
  | .int i, .int j => i == j
  | .str s, .str z => decide (z = strV s) && decide (s.length ≤ SZ) && s.all fun c => decide (c < 0x110000)
  | _, _ => false
def opbB : BOp → Operator → Bool
  | .add, .Add => true
  | .sub, .Sub => true
  | .mul, .Mult => true
  | .fdiv, .FloorDiv => true
  | .mod, .Mod => true
  | .pow, .Pow => true
  | _, _ => false
def opcB : COp → CmpOp → Bool
  | .eq, .Eq => true
  | .ne, .NotEq => true
  | .lt, .Lt => true
  | .le, .LtE => true
  | .gt, .Gt => true
  | .ge, .GtE => true
  | .isIn, .In => true
  | .notIn, .NotIn => true
  | .is, .Is => true
  | .isNot, .IsNot => true
  | _, _ => false
def booB : Bool → BoolOp → Bool
  | true, .And => true
  | false, .Or => true
  | _, _ => false
def tyS : Ty → String
  | .int => "int"
  | .bool => "bool"
  | .str => "str"
  | .tuple => "tuple"
  | .list => "list"
  | .dict => "dict"
def bltS : Blt → String
  | .len => "len"
  | .abs => "abs"
  | .int => "int"
  | .min2 => "min"
  | .max2 => "max"
  | .min1 => "min"
  | .max1 => "max"
  | .sum => "sum"
  | .any => "any"
  | .all => "all"
  | .tuple => "tuple"
  | .list => "list"
  | .sorted => "sorted"
  | .dict => "dict"
  | .str => "str"
  | .min3 => "min"
  | .max3 => "max"
def bltN : Blt → Nat
  | .min2 => 2
  | .max2 => 2
  | .min3 => 3
  | .max3 => 3
  | _ => 1
def mthS : Mth → String
  | .append => "append"
  | .extend => "extend"
  | .pop => "pop"
  | .popAt => "pop"
  | .insert => "insert"
  | .get1 => "get"
  | .get2 => "get"
  | .lower => "lower"
  | .join => "join"
  | .count => "count"
  | .index => "index"
  | .tindex => "index"
  | .tcount => "count"
  | .scount => "count"
def mthN : Mth → Nat
  | .append => 1
  | .extend => 1
  | .pop => 0
  | .popAt => 1
  | .insert => 2
  | .get1 => 1
  | .get2 => 2
  | .lower => 0
  | .join => 1
  | .count => 1
  | .index => 1
  | .tindex => 1
  | .tcount => 1
  | .scount => 1
def noSup : Expr → Bool
  | .Call (.Name _ _) [] [] _ => false
  | _ => true
def Exs.len : Exs → Nat
  | .nil => 0
  | .cons _ es => es.len + 1
/-- its test is its value's truth -/
def plainT : Expr → Bool
  | .UnaryOp .Not _ _ => false
  | .BoolOp .. => false
  | .IfExp .. => false
  | .Compare .. => false
  | _ => true
def isCmp : Ex → Bool
  | .cmp .. => true
  | .cmp2 .. => true
  | _ => false

def tgB (N : List Str) (sc : Scope) : Tg → Expr → Bool
  | .nm i, .Name x _ => decide (N[i]? = some x) && locB sc x
  | .tp is, .Tuple es _ _ => go is es
  | _, _ => false
where go : List Nat → List Expr → Bool
  | [], [] => true
  | i :: is, .Name x _ :: es => decide (N[i]? = some x) && locB sc x && go is es
  | _, _ => false

/-- a constant of the module stands among the defs as one without names -/
def Fn.lit (fn : Fn) : Option PV :=
  match fn.body with
  | .cons (.ret (.lit p)) .nil => some p
  | _ => none
def notVarI : Itr → Bool
  | .var .. => false
  | _ => true
def tupOk : Itr → Expr → Bool
  | .enum _, .Tuple .. => true
  | .enum _, _ => false
  | .zip _ _, .Tuple .. => true
  | .zip _ _, _ => false
  | _, _ => true
section
variable (P : List Fn) (N : List Str)
mutual
def mE (sc : Scope) : Ex → Expr → Bool
  | .var i _, e => match e with
    | .Name x _ => decide (N[i]? = some x) && visB sc x
    | _ => false
  | .lit p, e => match e with
    | .Constant c _ _ => litB p c
    | _ => false
  | .glob i p, e => match e with
    | .Name x _ => (match P[i]? with | some fn => fn.ps.isEmpty && decide (x = strV fn.name) && (match fn.lit with | some q => same q p | none => false) | none => false) && glB sc x
    | _ => false
  | .bin op a b, e => match e with
    | .BinOp l o r _ => opbB op o && mE sc a l && mE sc b r
    | _ => false
  | .neg a, e => match e with
    | .UnaryOp .USub l _ => mE sc a l
    | _ => false
  | .cmp op a b, e => match e with
    | .Compare l [o] [r] _ => opcB op o && mE sc a l && mE sc b r && plainX r
    | _ => false
  | .cmp2 op op2 a b c, e => match e with
    | .Compare l [o, o2] [r, r2] _ => opcB op o && opcB op2 o2 && mE sc a l && mE sc b r && mE sc c r2 && plainX r && plainX r2
    | _ => false
  | .boo isAnd a b, e => match e with
    | .BoolOp o (l :: r :: rs) p => booB isAnd o && mE sc a l && (match rs with
      | [] => mE sc b r
      | _ :: _ => mE sc b (.BoolOp o (r :: rs) p))
    | _ => false
  | .not a, e => match e with
    | .UnaryOp .Not l _ => mE sc a l
    | _ => false
  | .ite c a b, e => match e with
    | .IfExp t l r _ => mT sc c t && mE sc a l && mE sc b r
    | _ => false
  | .tup es, e => match e with
    | .Tuple ls _ _ => mL sc es ls
    | _ => false
  | .lst _ es, e => match e with
    | .List ls _ => mL sc es ls
    | _ => false
  | .dict _ ks, e => match e with
    | .Dict [] [] _ => (match ks with | .nil => true | _ => false)
    | .Dict (k :: kk) vv _ => decide ((k :: kk).length ≤ 15) && mD sc ks (k :: kk) vv
    | _ => false
  | .idx a i, e => match e with
    | .Subscript l r _ => mE sc a l && mE sc i r && plainX r
    | _ => false
  | .slc a lo hi, e => match e with
    | .Subscript l (.Slice x y none _) _ => mE sc a l && mO sc lo x && mO sc hi y
    | _ => false
  | .rev a, e => match e with
    | .Subscript l (.Slice none none (some (.UnaryOp .USub (.Constant (.int j) _ _) _)) _) _ => (j == 1) && mE sc a l
    | _ => false
  | .call f es, e => match e with
    | .Call (.Name x _) ls [] _ => (match P[f]? with | some fn => decide (x = strV fn.name) && !fn.ps.isEmpty | none => false) && glB sc x && mL sc es ls && !ls.isEmpty
    | _ => false
  | .blt m b es, e => match e with
    | .Call (.Name x _) ls [] _ => decide (x = Str.ofString (bltS b)) && glB sc x && decide (ls.length = bltN b) && mL sc es ls && (match b with | .str => false | _ => true)
    | _ => false
  | .mth m o es, e => match e with
    | .Call (.Attribute l x apos) ls [] cpos => decide (x = Str.ofString (mthS m)) && decide (ls.length = mthN m) && (apos.endLine == cpos.line) && noSup l && mE sc o l && mL sc es ls && (match m with | .insert => false | .tindex => false | .tcount => false | .scount => false | _ => true)
    | _ => false
  | .isi a t, e => match e with
    | .Call (.Name x _) [l, .Name y _] [] _ => decide (x = Str.ofString "isinstance") && glB sc x && decide (y = Str.ofString (tyS t)) && glB sc y && mE sc a l && plainX l
    | _ => false
  | .comp _ elt own tg it ifs, e => match e with
    | .ListComp el [⟨t, i, fs, 0⟩] sc2 _ => (blkC N sc sc2 (own.map fun j => (N.getD j Str.empty, j))) && (mI sc it i && tupOk it t) && tgB N sc2 tg t && mE sc2 elt el && (match fs with
      | [] => (match ifs with | .yes => true | _ => false)
      | [c] => mT sc2 ifs c
      | _ => false) && (match tg with | .nm j => own.contains j | .tp js => js.all own.contains)
    | _ => false
  | .comp2 _ elt own tg it own2 tg2 it2 ifs, e => match e with
    | .ListComp el [⟨t, i, [], 0⟩, ⟨t2, i2, fs, 0⟩] sc2 _ => (blkC N sc sc2 (own.map fun j => (N.getD j Str.empty, j))) && (mI sc it i && tupOk it t) && tgB N sc2 tg t && notVarI it2 && (mI sc2 it2 i2 && tupOk it2 t2) && tgB N sc2 tg2 t2 && mE sc2 elt el && (match fs with
      | [] => (match ifs with | .yes => true | _ => false)
      | [c] => mT sc2 ifs c
      | _ => false) && (match tg with | .nm j => own.contains j | .tp js => js.all own.contains) && (match tg2 with | .nm j => own2.contains j | .tp js => js.all own2.contains) && own2.all own.contains
    | _ => false
def mL (sc : Scope) : Exs → List Expr → Bool
  | .nil, ls => match ls with
    | [] => true
    | _ => false
  | .cons a es, ls => match ls with
    | l :: ls => mE sc a l && plainX l && mL sc es ls
    | _ => false
def mO (sc : Scope) : Exs → Option Expr → Bool
  | .nil, o => match o with
    | none => true
    | _ => false
  | .cons a .nil, o => match o with
    | some l => mE sc a l && plainX l
    | _ => false
  | .cons _ (.cons _ _), _ => false
def mD (sc : Scope) : Prs → List (Option Expr) → List Expr → Bool
  | .nil, ks, vs => match ks, vs with
    | [], [] => true
    | _, _ => false
  | .cons k v r, ks, vs => match ks, vs with
    | some k' :: ks, v' :: vs => mE sc k k' && mE sc v v' && mD sc r ks vs
    | _, _ => false
def mT (sc : Scope) : Ts → Expr → Bool
  | .yes, _ => false
  | .of a, e => mE sc a e && (plainT e || isCmp a)
  | .not t, e => match e with
    | .UnaryOp .Not l _ => mT sc t l
    | _ => false
  | .boo isAnd a b, e => match e with
    | .BoolOp o (l :: r :: rs) p => booB isAnd o && mT sc a l && (match rs with
      | [] => mT sc b r
      | _ :: _ => mT sc b (.BoolOp o (r :: rs) p))
    | _ => false
def mI (sc : Scope) : Itr → Expr → Bool
  | .var i _, e => match e with
    | .Name x _ => decide (N[i]? = some x) && visB sc x
    | _ => false
  | .ex a, e => mE sc a e && plainX e
  | .rng1 a, e => match e with
    | .Call (.Name x _) [l] [] _ => decide (x = Str.ofString "range") && glB sc x && mE sc a l && plainX l
    | _ => false
  | .rng2 a b, e => match e with
    | .Call (.Name x _) [l, r] [] _ => decide (x = Str.ofString "range") && glB sc x && mE sc a l && plainX l && mE sc b r && plainX r
    | _ => false
  | .rng3 a b c, e => match e with
    | .Call (.Name x _) [l, r, t] [] _ => decide (x = Str.ofString "range") && glB sc x && mE sc a l && plainX l && mE sc b r && plainX r && mE sc c t && plainX t
    | _ => false
  | .enum a, e => match e with
    | .Call (.Name x _) [l] [] _ => decide (x = Str.ofString "enumerate") && glB sc x && mE sc a l && plainX l
    | _ => false
  | .zip a b, e => match e with
    | .Call (.Name x _) [l, r] [] _ => decide (x = Str.ofString "zip") && glB sc x && mE sc a l && plainX l && mE sc b r && plainX r
    | _ => false
end
end

/-! the equations are made here -/
theorem mE_eq0 (P : List Fn) (N : List Str) (sc : Scope) (x : Str) (p : Pos) : mE P N sc (.neg (.lit .non)) (.Name x p) = false := by simp only [mE]
theorem mT_eq0 (P : List Fn) (N : List Str) (sc : Scope) (e : Expr) : mT P N sc .yes e = false := by simp only [mT]
theorem mI_eq0 (P : List Fn) (N : List Str) (sc : Scope) (e : Expr) : mI P N sc (.ex (.lit .non)) e = (mE P N sc (.lit .non) e && plainX e) := by simp only [mI]

/-! ### what is asked of where one stands -/
def bltNames : List String := ["len", "abs", "int", "min", "max", "sum", "any", "all", "tuple", "list", "sorted", "dict", "str", "range", "isinstance", "bool", "enumerate", "zip", "set"]

structure ScOk (sc : Scope) (X : Cx) : Prop where
  vis : ∀ x, visB sc x = true → Vis X.env.scope x
  gl : ∀ x, glB sc x = true → Gl X x
  loc : ∀ x, locB sc x = true → Loc X.env.scope x ∧ (X.fn x = true ∨ X.env.scope.names.lookup x = some .local)
  lcl : ∀ x, sc.names.lookup x = some .local → X.env.scope.names.lookup x = some .local
  cel : ∀ x, sc.names.lookup x = some .cell → X.env.scope.names.lookup x = some .cell
  fc : ∀ x, sc.names.lookup x = some .cell ∨ sc.names.lookup x = some .free → X.env.scope.names.lookup x = some .cell ∨ X.env.scope.names.lookup x = some .free
  kind : X.env.scope.kind = .function

def spN (K : PySem.W.Frag) (P : List Fn) (n i : Nat) : Sp := fun vs H Q _ => ∃ φ h ss sv h' fn, P[i]? = some fn ∧ vs.length = fn.ps.length ∧ HR K φ h H ∧ SRs K φ h H vs ss ∧ callN P n i ss h = some (sv, h') ∧ Kont K φ h H h' sv Q

structure Gd (P : List Fn) (N : List Str) (n : Nat) (X : Cx) : Prop where
  calm : X.calm = true
  nd : N.Nodup
  hN : X.N = N
  room : Room n X.A
  xe : X.xe = fun _ _ => False
  glb : ∀ (i : Nat) (fn : Fn) (p : PV), P[i]? = some fn → fn.ps = [] → fn.lit = some p → ∃ v u, X.mg (strV fn.name) = some u ∧ RelV v u ∧ ∀ (K : PySem.W.Frag) M H, VR K M H v p
  fns : ∀ (i : Nat) (fn : Fn), P[i]? = some fn → fn.ps ≠ [] → ∃ f fd, X.mg (strV fn.name) = some (.ref f) ∧ PySem.W.keepIn X.K (.ref f) = true ∧ Binds X.K fd (fn.ps.map strV) [] ∧ FnOk X.prog X.w X.K X.mg X.base CX0 n f fd (fn.ps.map strV) (spN X.K P n i)
  blt : ∀ x ∈ bltNames, X.mg (Str.ofString x) = none
theorem Gd.units {P N n X} (G : Gd P N n X) : X.A.units + 65 < cLine := by
  have := G.room.un
  omega
theorem Gd.blk {P N n X} (G : Gd P N n X) (s : Shared) (H : Hp) (scope : Scope) (cenv : Env) (fp : List Addr) : Gd P N n (X.blk s H scope cenv fp) :=
  ⟨G.calm, G.nd, G.hN, G.room, rfl, G.glb, G.fns, G.blt⟩
theorem Gd.pass {P N n X} (G : Gd P N n X) : PassesOwn (model X.prog X.w) X.A X.env X.xe := by
  rw [G.xe]; exact PassesOwn.never

theorem ScOk.blk {sc sc2 : Scope} {X : Cx} (S : ScOk sc X) (hk : sc2.kind = .function) (s : Shared) (H : Hp) (C : Addr) (cl : List (Str × Addr)) (fp : List Addr) : ScOk sc2 (X.blk s H sc2 (compEnvC sc2 cl C X.env) fp) := by
  have key : ∀ x k, k ≠ .free → sc2.names.lookup x = some k → (compEnvC sc2 cl C X.env).scope.names.lookup x = some k := fun x k hk e => lookup_relS_keep hk e
  have keyf : ∀ x, sc2.names.lookup x = some .free → (compEnvC sc2 cl C X.env).scope.names.lookup x = some .cell ∨ (compEnvC sc2 cl C X.env).scope.names.lookup x = some .free := fun x e => by
    show (relS sc2 X.env.scope).names.lookup x = _ ∨ (relS sc2 X.env.scope).names.lookup x = _
    have gen : ∀ (names : List (Str × NameKind)), names.lookup x = some .free → 
        (names.map fun (n, k) => if (k == NameKind.free && X.env.scope.kind == .function && X.env.scope.names.lookup n == some .cell) then (n, NameKind.cell) else (n, k)).lookup x = some .cell ∨
        (names.map fun (n, k) => if (k == NameKind.free && X.env.scope.kind == .function && X.env.scope.names.lookup n == some .cell) then (n, NameKind.cell) else (n, k)).lookup x = some .free := by
      intro names
      induction names with
      | nil => intro z; cases z
      | cons p r ih =>
        obtain ⟨n, k⟩ := p
        intro z
        rw [List.lookup_cons] at z
        rw [List.map_cons]
        dsimp only
        cases hb : x == n with
        | true =>
          rw [hb] at z
          cases z
          split
          · left; rw [List.lookup_cons, hb]
          · right; rw [List.lookup_cons, hb]
        | false =>
          rw [hb] at z
          split
          · rw [List.lookup_cons, hb]; exact ih z
          · rw [List.lookup_cons, hb]; exact ih z
    exact gen _ e
  refine ⟨fun x hx => ?_, fun x hx => ?_, fun x hx => ?_, fun x hx => key x _ (by decide) hx, fun x hx => key x _ (by decide) hx, fun x hx => ?_, hk⟩
  · unfold visB at hx
    simp only [Bool.and_eq_true] at hx
    have h1 := hx.1.1
    cases hl : sc2.names.lookup x with
    | none => rw [hl] at h1; cases h1
    | some k =>
      rw [hl] at h1
      cases k <;> first | cases h1 | skip
      · exact .inl (key x _ (by decide) hl)
      · exact .inr (.inl (key x _ (by decide) hl))
      · exact (keyf x hl).elim (fun z => .inr (.inl z)) fun z => .inr (.inr z)
  · unfold glB at hx
    simp only [Bool.and_eq_true] at hx
    have h1 := hx.1.1
    cases hl : sc2.names.lookup x with
    | none => rw [hl] at h1; cases h1
    | some k =>
      rw [hl] at h1
      cases k <;> first | cases h1 | skip
      exact key x _ (by decide) hl
  · unfold locB at hx
    cases hl : sc2.names.lookup x with
    | none => rw [hl] at hx; cases hx
    | some k =>
      rw [hl] at hx
      cases k <;> first | cases hx | skip
      · exact ⟨.inl (key x _ (by decide) hl), .inr (key x _ (by decide) hl)⟩
      · refine ⟨.inr (key x _ (by decide) hl), .inl ?_⟩
        show (sc2.names.lookup x == some .cell) = true
        rw [hl]; rfl
  · rcases hx with hx | hx
    · exact .inl (key x _ (by decide) hx)
    · exact keyf x hx

/-! ### side conditions of the tree -/
theorem starEach_cons {e : Expr} {es : List Expr} {env : Env} (h : plainX e = true) : starEach (e :: es) env = (false, eval e env) :: starEach es env := by
  cases e <;> first | rfl | cases h
theorem plain_ix {e : Expr} (h : plainX e = true) : PlainIx e := by
  intro o i
  cases e <;> first | rfl | cases h
theorem plain_mark {op : CmpOp} {e : Expr} (h : plainX e = true) : behindInMarks op e = false := by
  cases e <;> first | rfl | cases h
theorem plain_fold {e : Expr} {env : Env} (h : plainX e = true) : ∀ x, foldedSetIterable e env x = pure x := by
  intro x
  cases e <;> first | rfl | cases h
theorem plain_true {e : Expr} {env : Env} (h : plainT e = true) : ∀ whole, isTrue e env whole = (do let v ← whole; standAt e.pos; holding [v] (truthy v)) := by
  intro w
  cases e <;> first | rfl | skip
  · cases h
  · rename_i op x pos
    cases op <;> first | rfl | cases h
  · cases h
  · cases h
theorem any_false {es : List Expr} {env : Env} {pos : Pos} : (∀ e ∈ es, plainX e = true) → (backTo pos (starEach es env)).any (·.1) = false := by
  induction es with
  | nil => intro _; rfl
  | cons e es ih =>
    intro h
    rw [starEach_cons (h e List.mem_cons_self)]
    show (false || (backTo pos (starEach es env)).any (·.1)) = false
    rw [ih fun x hx => h x (List.mem_cons_of_mem _ hx)]
    rfl
theorem mL_plain {P N sc} : ∀ {es : Exs} {ls : List Expr}, mL P N sc es ls = true → ∀ e ∈ ls, plainX e = true
  | .nil, [], _ => fun e he => nomatch he
  | .nil, _ :: _, h => by simp [mL] at h
  | .cons _ _, [], h => by simp [mL] at h
  | .cons a es, l :: ls, h => by
    simp only [mL, Bool.and_eq_true] at h
    intro e he
    rcases List.mem_cons.mp he with rfl | he
    · exact h.1.2
    · exact mL_plain h.2 e he
theorem noSup_base {o : Expr} {m : Str} {env : Env} (h : noSup o = true) : attributeBase o m env (eval o env) = eval o env := by
  unfold attributeBase
  split
  · cases h
  · rfl

/-! ### readings by evaluation -/
section
variable (K : PySem.W.Frag) (C : Calls)
def tE (e : Ex) : TE := fun σ H Q => ∃ φ h env sv h', HR K φ h H ∧ ER K φ h H env σ ∧ evE C e env h = some (sv, h') ∧ Kont K φ h H h' sv Q
def tT (t : Ts) : TT := fun σ H Q => ∃ φ h env b h', HR K φ h H ∧ ER K φ h H env σ ∧ evT C t env h = some (b, h') ∧ ∀ (H' : Hp) (φ' : List Addr), HR K φ' h' H' → Ext φ h H φ' h' H' → Q b H'
def tL (es : Exs) : TA := fun σ H Q => ∃ φ h env ss h', HR K φ h H ∧ ER K φ h H env σ ∧ evL C es env h = some (ss, h') ∧ ∀ (vs : List V) (H' : Hp) (φ' : List Addr), HR K φ' h' H' → Ext φ h H φ' h' H' → SRs K φ' h' H' vs ss → Q vs H'
end
end Ev

set_option Elab.async false
set_option linter.all false
set_option maxRecDepth 100000
namespace Ev
open PySem PySem.Spec PyProof.Rows L2

mutual
theorem same_eq : ∀ {p q : PV}, same p q = true → p = q
  | .non, q, h => by cases q <;> simp_all [same]
  | .bl a, q, h => by cases q <;> simp_all [same]
  | .int a, q, h => by cases q <;> simp_all [same]
  | .str a, q, h => by cases q <;> simp_all [same]
  | .tup xs, q, h => by
    cases q with
    | tup ys => rw [sames_eq (p := xs) (q := ys) (by simpa [same] using h)]
    | _ => simp [same] at h
  | .lst xs, q, h => by
    cases q with
    | lst ys => rw [sames_eq (p := xs) (q := ys) (by simpa [same] using h)]
    | _ => simp [same] at h
  | .frl xs, q, h => by
    cases q with
    | frl ys => rw [sames_eq (p := xs) (q := ys) (by simpa [same] using h)]
    | _ => simp [same] at h
  | .dict xs, q, h => by
    cases q with
    | dict ys => rw [samed_eq (p := xs) (q := ys) (by simpa [same] using h)]
    | _ => simp [same] at h
theorem sames_eq : ∀ {p q : List PV}, sames p q = true → p = q
  | [], [], _ => rfl
  | [], _ :: _, h => by simp [sames] at h
  | _ :: _, [], h => by simp [sames] at h
  | x :: xs, y :: ys, h => by
    simp only [sames, Bool.and_eq_true] at h
    rw [same_eq h.1, sames_eq h.2]
theorem samed_eq : ∀ {p q : List (PV × PV)}, samed p q = true → p = q
  | [], [], _ => rfl
  | [], _ :: _, h => by simp [samed] at h
  | _ :: _, [], h => by simp [samed] at h
  | (k, x) :: xs, (k', y) :: ys, h => by
    simp only [samed, Bool.and_eq_true] at h
    rw [same_eq h.1.1, same_eq h.1.2, samed_eq h.2]
end

section
variable {X : Cx} {K : PySem.W.Frag} {C : Calls} {P : List Fn} {N : List Str} {n : Nat}

theorem two {a b : Ex} {σ : L2.St} {H : Hp} {φ : List Addr} {h h1 h2 : AH} {env : En} {x y : SV} {S : V → V → Hp → Prop} (R : HR K φ h H) (E : ER K φ h H env σ) (hx : evE C a env h = some (x, h1)) (hy : evE C b env h1 = some (y, h2))
    (F : ∀ v1 v2 H2 φ2, HR K φ2 h2 H2 → Ext φ h H φ2 h2 H2 → SR K φ2 h2 H2 v1 x → SR K φ2 h2 H2 v2 y → S v1 v2 H2) : tE K C a σ H fun v1 H1 => tE K C b σ H1 fun v2 H2 => S v1 v2 H2 :=
  ⟨φ, h, env, x, h1, R, E, hx, fun v1 H1 φ1 R1 X1 s1 => ⟨φ1, h1, env, y, h2, R1, E.mono X1, hy, fun v2 H2 φ2 R2 X2 s2 => F v1 v2 H2 φ2 R2 (X1.trans X2) (s1.mono X2) s2⟩⟩

theorem Kont.keep {φ : List Addr} {h : AH} {H : Hp} {φ2 : List Addr} {h2 h' : AH} {H2 : Hp} {s : SV} {Q : VK} (k : Kont K φ h H h' s Q) (x : Ext φ h H φ2 h2 H2) : Kont K φ2 h2 H2 h' s Q :=
  fun v H' φ' R X2 r => k v H' φ' R (x.trans X2) r

/-! ### names, constants -/
theorem var_core {i : Nat} {z : Bool} {φ : List Addr} {h h' : AH} {H : Hp} {env : En} {σ : L2.St} {s t : SV} (R : HR K φ h H) (E : ER K φ h H env σ) (hs : env[i]? = some (some s)) (ev : rdVar z h s = some (t, h')) :
    ∃ v, σ[i]? = some (some v) ∧ HR K φ h' H ∧ Ext φ h H φ h' H ∧ SR K φ h' H v t := by
  obtain ⟨v, e1, r⟩ := E.at_ i s hs
  cases s with
  | v p => cases ev; exact ⟨v, e1, R, Ext.refl, r⟩
  | o j =>
    obtain ⟨a, rfl, ea⟩ := id r
    simp only [rdVar] at ev
    split at ev
    · rename_i p hc
      cases ev
      exact ⟨_, e1, R, Ext.refl, (R.cell j _ a hc ea).1⟩
    · rename_i xs hc
      split at ev
      · cases ev
        obtain ⟨vs, q, rv, hz⟩ := R.cell j _ a hc ea
        have m := R.frzM (p := .lst xs) hc rfl ea
        have xx := Ext.frzX (p := .lst xs) R hc rfl
        have vr : VR K (Mt φ (h.set j (.frz (.lst xs)))) H (.ref a) (.lst xs) := .lst q m hz (rv.mono xx.1)
        exact ⟨_, e1, R.frz hc rfl ea vr, xx, vr⟩
      · cases ev; exact ⟨_, e1, R, Ext.refl, r⟩
    · rename_i xs hc
      split at ev
      · cases ev
        obtain ⟨vs, q, rv, hz⟩ := R.cell j _ a hc ea
        have m := R.frzM (p := .dict xs) hc rfl ea
        have xx := Ext.frzX (p := .dict xs) R hc rfl
        have vr : VR K (Mt φ (h.set j (.frz (.dict xs)))) H (.ref a) (.dict xs) := .dict (.inl q) m hz (rv.mono xx.1)
        exact ⟨_, e1, R.frz hc rfl ea vr, xx, vr⟩
      · cases ev; exact ⟨_, e1, R, Ext.refl, r⟩
    · cases ev
theorem l_var {i : Nat} {z : Bool} {x : Str} {pos : Pos} (hN : X.N[i]? = some x) (hv : Vis X.env.scope x) (hd : (x == ("__debug__" : Str)) = false) (hcd : (x == ("__classdict__" : Str)) = false) : PE X (.Name x pos) (tE K C (.var i z)) := by
  refine PE.imp (pe_var (i := i) hN hv hd hcd) fun σ H Q ⟨φ, h, env, sv, h', R, E, ev, k⟩ => ?_
  simp only [evE] at ev
  split at ev
  · rename_i s hs
    obtain ⟨v, e1, R1, X1, s1⟩ := var_core R E hs ev
    exact ⟨v, e1, k v H φ R1 X1 s1⟩
  · cases ev
theorem l_lit {p : PV} {c : Const} {j : Nat} {pos : Pos} (h : litB p c = true) : PE X (.Constant c j pos) (tE K C (.lit p)) := by
  have go : ∀ (v : V), (∀ M H, VR K M H v p) → PE X (.Constant c j pos) (tC v) → PE X (.Constant c j pos) (tE K C (.lit p)) := fun v r hp =>
    PE.imp hp fun σ H Q ⟨φ, h, env, sv, h', R, E, ev, k⟩ => by
      cases ev
      exact k v H φ R Ext.refl (r _ _)
  cases p <;> cases c <;> first | (exact absurd h Bool.false_ne_true) | skip
  · exact go _ (fun _ _ => .non) pe_non
  · have e := of_decide_eq_true (by simpa [litB] using h : decide (_ = _) = true)
    subst e
    exact go _ (fun _ _ => .bl _) pe_bl
  · have e := eq_of_beq (show (_ == _) = true from h)
    subst e
    exact go _ (fun _ _ => .int _) pe_int
  · simp only [litB, Bool.and_eq_true, decide_eq_true_eq, List.all_eq_true] at h
    obtain ⟨⟨rfl, h1⟩, h2⟩ := h
    exact go _ (fun _ _ => .str h1 h2) pe_str

theorem l_glob {i : Nat} {fn : Fn} {p : PV} {x : Str} {pos : Pos} (G : Gd P N n X) (hf : P[i]? = some fn) (hps : fn.ps = []) (hl : fn.lit = some p) (hx : x = strV fn.name) (hg : Gl X x) (hd : (x == ("__debug__" : Str)) = false) : PE X (.Name x pos) (tE X.K C (.glob i p)) := by
  obtain ⟨v, u, hm, r, vr⟩ := G.glb i fn p hf hps hl
  subst hx
  refine PE.imp (pe_glob hg hm r hd) fun σ H Q ⟨φ, h, env, sv, h', R, E, ev, k⟩ => ?_
  cases ev
  exact k v H φ R Ext.refl (vr _ _ _)

/-! ### operators -/
theorem opb_eq {op : BOp} {o : Operator} (h : opbB op o = true) : o = opB op := by
  cases op <;> cases o <;> first | rfl | cases h
theorem opc_eq {op : COp} {o : CmpOp} (h : opcB op o = true) : o = opC op := by
  cases op <;> cases o <;> first | rfl | cases h
theorem l_bin {op : BOp} {a b : Ex} {l r : Expr} {pos : Pos} (ha : PE X l (tE X.K C a)) (hb : PE X r (tE X.K C b)) : PE X (.BinOp l (opB op) r pos) (tE X.K C (.bin op a b)) := by
  refine PE.imp (pe_op (or_b op) ha hb) fun σ H Q ⟨φ, h, env, sv, h', R, E, ev, k⟩ => ?_
  simp only [evE] at ev
  split at ev
  · cases ev
  · rename_i x h1 hx
    split at ev
    · cases ev
    · rename_i y h2 hy
      split at ev
      · rename_i p q hp hq
        rw [Option.map_eq_some_iff] at ev
        obtain ⟨z, ez, e⟩ := ev
        cases e
        exact two R E hx hy fun v1 v2 H2 φ2 R2 X2 s1 s2 => bin_sound R2 ez (peek_cv R2 s1 hp) (peek_cv R2 s2 hq) (k.keep X2)
      · cases ev
theorem l_neg {a : Ex} {l : Expr} {pos : Pos} (ha : PE X l (tE X.K C a)) : PE X (.UnaryOp .USub l pos) (tE X.K C (.neg a)) := by
  refine PE.imp (pe_un un_neg ha) fun σ H Q ⟨φ, h, env, sv, h', R, E, ev, k⟩ => ?_
  simp only [evE] at ev
  split at ev
  · rename_i i h1 hx
    cases ev
    refine ⟨φ, h, env, _, _, R, E, hx, fun v H1 φ1 R1 X1 s1 => ?_⟩
    cases s1
    exact ⟨i, rfl, k _ H1 φ1 R1 X1 (.int _)⟩
  · cases ev
theorem l_cmp {op : COp} {a b : Ex} {l r : Expr} {pos : Pos} (hu : X.A.units + 65 < cLine) (ha : PE X l (tE X.K C a)) (hb : PE X r (tE X.K C b)) (hp : plainX r = true) : PE X (.Compare l [opC op] [r] pos) (tE X.K C (.cmp op a b)) := by
  refine PE.imp (pe_cmpR (or_c hu op) ha hb (plain_mark hp)) fun σ H Q ⟨φ, h, env, sv, h', R, E, ev, k⟩ => ?_
  simp only [evE] at ev
  split at ev
  · cases ev
  · rename_i x h1 hx
    split at ev
    · cases ev
    · rename_i y h2 hy
      split at ev
      · rename_i p q hp hq
        rw [Option.map_eq_some_iff] at ev
        obtain ⟨z, ez, e⟩ := ev
        cases e
        exact two R E hx hy fun v1 v2 H2 φ2 R2 X2 s1 s2 => cmp_sound R2 ez (peek_cv R2 s1 hp) (peek_cv R2 s2 hq) (k _ H2 φ2 R2 X2 (.bl _))
      · cases ev
theorem l_cmpT {op : COp} {a b : Ex} {l r : Expr} {pos : Pos} (hu : X.A.units + 65 < cLine) (ha : PE X l (tE X.K C a)) (hb : PE X r (tE X.K C b)) (hp : plainX r = true) : PT X (.Compare l [opC op] [r] pos) (tT X.K C (.of (.cmp op a b))) := by
  refine PT.imp (pt_cmpR (or_c hu op) ha hb (plain_mark hp)) fun σ H Q ⟨φ, h, env, sv, h', R, E, ev, k⟩ => ?_
  simp only [evT, evE] at ev
  split at ev
  · cases ev
  · rename_i s hs0 hs
    split at hs
    · cases hs
    · rename_i x h1 hx
      split at hs
      · cases hs
      · rename_i y h2 hy
        split at hs
        · rename_i p q hp hq
          rw [Option.map_eq_some_iff] at hs
          obtain ⟨z, ez, e⟩ := hs
          cases e
          simp only [peek, truP, Option.map_some] at ev
          cases ev
          exact two R E hx hy fun v1 v2 H2 φ2 R2 X2 s1 s2 => cmp_sound R2 ez (peek_cv R2 s1 hp) (peek_cv R2 s2 hq) ⟨_, rfl, k H2 φ2 R2 X2⟩
        · cases hs
theorem chain_go {op op2 : COp} {a b c : Ex} {σ : L2.St} {H : Hp} {φ : List Addr} {h h' : AH} {env : En} {sv : SV} {Q : VK} (R : HR K φ h H) (E : ER K φ h H env σ) (ev : evE C (.cmp2 op op2 a b c) env h = some (sv, h'))
    (k : ∀ (b : Bool) (H' : Hp) (φ' : List Addr), HR K φ' h' H' → Ext φ h H φ' h' H' → sv = .v (.bl b) → Q (.bl b) H') : tChain (rC K op) (rC K op2) (tE K C a) (tE K C b) (tE K C c) σ H Q := by
  simp only [evE] at ev
  split at ev
  · cases ev
  · rename_i x h1 hx
    split at ev
    · cases ev
    · rename_i y h2 hy
      split at ev
      · rename_i p q hp hq
        split at ev
        · cases ev
        · rename_i hc
          cases ev
          exact two R E hx hy fun v1 v2 H2 φ2 R2 X2 s1 s2 => cmp_sound R2 hc (peek_cv R2 s1 hp) (peek_cv R2 s2 hq) ⟨false, rfl, by rw [if_neg Bool.false_ne_true]; exact k _ H2 φ2 R2 X2 rfl⟩
        · rename_i hc
          split at ev
          · cases ev
          · rename_i z h3 hz
            split at ev
            · rename_i q' r hq' hr
              rw [Option.map_eq_some_iff] at ev
              obtain ⟨w, ew, e⟩ := ev
              cases e
              refine two R E hx hy fun v1 v2 H2 φ2 R2 X2 s1 s2 => cmp_sound R2 hc (peek_cv R2 s1 hp) (peek_cv R2 s2 hq) ⟨true, rfl, ?_⟩
              rw [if_pos rfl]
              exact ⟨φ2, h2, env, z, _, R2, E.mono X2, hz, fun v3 H3 φ3 R3 X3 s3 => cmp_sound R3 ew (peek_cv R3 (s2.mono X3) hq') (peek_cv R3 s3 hr) (k _ H3 φ3 R3 (X2.trans X3) rfl)⟩
            · cases ev
      · cases ev
theorem lastM {o o2 : CmpOp} {r r2 : Expr} (h : plainX r2 = true) : lastMarks [o, o2] [r, r2] = false := by
  show behindInMarks o2 r2 = false
  exact plain_mark h
theorem l_cmp2 {op op2 : COp} {a b c : Ex} {l r r2 : Expr} {pos : Pos} (hu : X.A.units + 65 < cLine) (ha : PE X l (tE X.K C a)) (hb : PE X r (tE X.K C b)) (hc : PE X r2 (tE X.K C c)) (hp : plainX r2 = true) :
    PE X (.Compare l [opC op, opC op2] [r, r2] pos) (tE X.K C (.cmp2 op op2 a b c)) := by
  refine PE.imp (pe_chain (or_c hu op) (or_c hu op2) ha hb hc (lastM hp)) fun σ H Q ⟨φ, h, env, sv, h', R, E, ev, k⟩ => ?_
  exact chain_go R E ev fun b H' φ' R' X' e => by
    subst e
    exact k _ H' φ' R' X' (.bl _)
theorem l_cmp2T {op op2 : COp} {a b c : Ex} {l r r2 : Expr} {pos : Pos} (hu : X.A.units + 65 < cLine) (ha : PE X l (tE X.K C a)) (hb : PE X r (tE X.K C b)) (hc : PE X r2 (tE X.K C c)) (hp : plainX r2 = true) :
    PT X (.Compare l [opC op, opC op2] [r, r2] pos) (tT X.K C (.of (.cmp2 op op2 a b c))) := by
  refine PT.imp (pt_chain (or_c hu op) (or_c hu op2) ha hb hc (lastM hp)) fun σ H Q ⟨φ, h, env, sv, h', R, E, ev, k⟩ => ?_
  simp only [evT] at ev
  split at ev
  · cases ev
  · rename_i s h1 hs
    refine chain_go R E hs fun bb H' φ' R' X' e => ?_
    subst e
    simp only [peek, truP, Option.map_some] at ev
    cases ev
    exact ⟨_, rfl, k H' φ' R' X'⟩
theorem l_boo {isAnd : Bool} {o : BoolOp} (ho : booB isAnd o = true) {a b : Ex} {l : Expr} {r : Expr} {rs : List Expr} {pos : Pos} (ha : PE X l (tE X.K C a)) (hb : PE X (.BoolOp o (r :: rs) pos) (tE X.K C b)) :
    PE X (.BoolOp o (l :: r :: rs) pos) (tE X.K C (.boo isAnd a b)) := by
  cases isAnd <;> cases o <;> first | cases ho | skip
  · refine PE.imp (pe_or ha hb) fun σ H Q ⟨φ, h, env, sv, h', R, E, ev, k⟩ => ?_
    simp only [evE] at ev
    split at ev
    · rename_i c h1 hx
      refine ⟨φ, h, env, _, _, R, E, hx, fun v H1 φ1 R1 X1 s1 => ?_⟩
      cases s1
      refine ⟨c, rfl, ?_⟩
      cases c with
      | true => cases ev; rw [if_pos rfl]; exact k _ H1 φ1 R1 X1 (.bl _)
      | false =>
        rw [if_neg Bool.false_ne_true]
        exact ⟨φ1, h1, env, sv, h', R1, E.mono X1, ev, k.keep X1⟩
    · cases ev
  · refine PE.imp (pe_and ha hb) fun σ H Q ⟨φ, h, env, sv, h', R, E, ev, k⟩ => ?_
    simp only [evE] at ev
    split at ev
    · rename_i c h1 hx
      refine ⟨φ, h, env, _, _, R, E, hx, fun v H1 φ1 R1 X1 s1 => ?_⟩
      cases s1
      refine ⟨c, rfl, ?_⟩
      cases c with
      | false => cases ev; rw [if_neg Bool.false_ne_true]; exact k _ H1 φ1 R1 X1 (.bl _)
      | true =>
        rw [if_pos rfl]
        exact ⟨φ1, h1, env, sv, h', R1, E.mono X1, ev, k.keep X1⟩
    · cases ev
theorem l_not {a : Ex} {l : Expr} {pos : Pos} (ha : PE X l (tE X.K C a)) : PE X (.UnaryOp .Not l pos) (tE X.K C (.not a)) := by
  refine PE.imp (pe_not ha) fun σ H Q ⟨φ, h, env, sv, h', R, E, ev, k⟩ => ?_
  simp only [evE] at ev
  split at ev
  · rename_i i h1 hx
    cases ev
    refine ⟨φ, h, env, _, _, R, E, hx, fun v H1 φ1 R1 X1 s1 => ?_⟩
    cases s1
    exact ⟨i, rfl, k _ H1 φ1 R1 X1 (.bl _)⟩
  · cases ev
theorem l_ite {c : Ts} {a b : Ex} {t l r : Expr} {pos : Pos} (hc : PT X t (tT X.K C c)) (ha : PE X l (tE X.K C a)) (hb : PE X r (tE X.K C b)) : PE X (.IfExp t l r pos) (tE X.K C (.ite c a b)) := by
  refine PE.imp (pe_ifExp hc ha hb) fun σ H Q ⟨φ, h, env, sv, h', R, E, ev, k⟩ => ?_
  simp only [evE] at ev
  split at ev
  · rename_i h1 hx
    refine ⟨φ, h, env, _, _, R, E, hx, fun H1 φ1 R1 X1 => ?_⟩
    exact iteT (A := tE X.K C a σ H1 Q) (B := tE X.K C b σ H1 Q) ⟨φ1, h1, env, sv, h', R1, E.mono X1, ev, k.keep X1⟩
  · rename_i h1 hx
    refine ⟨φ, h, env, _, _, R, E, hx, fun H1 φ1 R1 X1 => ?_⟩
    exact iteF (A := tE X.K C a σ H1 Q) (B := tE X.K C b σ H1 Q) ⟨φ1, h1, env, sv, h', R1, E.mono X1, ev, k.keep X1⟩
  · cases ev

/-! ### tests -/
/-- a value's truth, dicts that are locked too -/
def TruW (K : PySem.W.Frag) (x : V) (H : Hp) (k : Bool) : Prop := TruV K x H k ∨ ∃ a kvs, x = .ref a ∧ Rd H a (.dK kvs) ∧ k = !kvs.isEmpty
theorem tru_okW : TruR X (fun x H Q => ∃ k, TruW X.K x H k ∧ Q k H) := by
  intro pins s σ H x v Q I r h
  obtain ⟨k, hk, q⟩ := h
  rcases hk with hk | ⟨a, kvs, rfl, e, rfl⟩
  · exact tru_ok pins s σ H x v Q I r ⟨k, hk, q⟩
  · cases r
    exact d_truth I e fun s' I' => ⟨H, I', q⟩
theorem pt_truthW {a : Expr} {ta : TE} (ha : PE X a ta) (he : ∀ whole, isTrue a X.env whole = (do let v ← whole; standAt a.pos; holding [v] (truthy v))) :
    PT X a (fun σ H Q => ta σ H fun x H' => ∃ k, TruW X.K x H' k ∧ Q k H') :=
  ⟨fun pins s σ H Q I h => isTrue_plain (thn (ha.run pins s σ H _ I h) fun v s1 ⟨x, H1, I1, r1, q1⟩ => tru_okW pins s1 σ H1 x v Q I1 r1 q1) (he _)⟩
theorem emptyVs {M : Addr → Prop} {H : Hp} {vs : List V} {xs : List PV} (r : VRs K M H vs xs) : vs.isEmpty = xs.isEmpty := by
  cases r <;> rfl
theorem emptyKs {M : Addr → Prop} {H : Hp} {vs : List (Key × V)} {xs : List (PV × PV)} (r : KRs K M H vs xs) : vs.isEmpty = xs.isEmpty := by
  cases r <;> rfl
theorem truW_sound {φ : List Addr} {h : AH} {H : Hp} {v : V} {p : PV} {b : Bool} (cv : CV K φ h H v p) (e : truP p = some b) : TruW K v H b := by
  cases p with
  | non => cases e; rw [cv.non]; exact .inl rfl
  | bl c => cases e; rw [cv.bl]; exact .inl rfl
  | int i => cases e; rw [cv.int]; exact .inl rfl
  | str s =>
    cases e
    obtain ⟨rfl, hz, _⟩ := cv.str
    refine .inl ⟨by rw [strV_len]; exact hz, ?_⟩
    rw [strV_len]
    cases s with
    | nil => rfl
    | cons c r =>
      show true = _
      rw [Eq.comm, bne_iff_ne]
      simp only [List.length_cons]
      omega
  | tup xs =>
    cases e
    obtain ⟨a, vs, rfl, ea, r, _⟩ := cv.tup
    exact .inl (.inr (.inl ⟨vs, SqT.of ea, by rw [emptyVs r]⟩))
  | lst xs =>
    cases e
    obtain ⟨a, vs, rfl, ea, r, _⟩ := cv.list
    exact .inl (.inl ⟨vs, SqL.of ea, by rw [emptyVs r]⟩)
  | frl xs =>
    cases e
    obtain ⟨a, vs, rfl, ea, r, _⟩ := cv.frl
    exact .inl (.inl ⟨vs, ea, by rw [emptyVs r]⟩)
  | dict xs =>
    cases e
    obtain ⟨a, ks, rfl, ea, r, _⟩ := cv.dic
    exact .inr ⟨a, ks, rfl, ea, by rw [emptyKs r]⟩
theorem l_of {a : Ex} {l : Expr} (ha : PE X l (tE X.K C a)) (hp : plainT l = true) : PT X l (tT X.K C (.of a)) := by
  refine PT.imp (pt_truthW ha (plain_true hp)) fun σ H Q ⟨φ, h, env, sv, h', R, E, ev, k⟩ => ?_
  simp only [evT] at ev
  split at ev
  · cases ev
  · rename_i x h1 hx
    split at ev
    · rename_i p hp
      rw [Option.map_eq_some_iff] at ev
      obtain ⟨b, eb, e⟩ := ev
      cases e
      exact ⟨φ, h, env, x, h', R, E, hx, fun v H1 φ1 R1 X1 s1 => ⟨_, truW_sound (peek_cv R1 s1 hp) eb, k H1 φ1 R1 X1⟩⟩
    · cases ev
theorem l_notT {t : Ts} {l : Expr} {pos : Pos} (ha : PT X l (tT X.K C t)) : PT X (.UnaryOp .Not l pos) (tT X.K C (.not t)) := by
  refine PT.imp (pt_not ha) fun σ H Q ⟨φ, h, env, sv, h', R, E, ev, k⟩ => ?_
  simp only [evT] at ev
  split at ev
  · cases ev
  · rename_i b h1 hx
    cases ev
    exact ⟨φ, h, env, b, h', R, E, hx, k⟩
theorem l_booT1 {isAnd : Bool} {o : BoolOp} (ho : booB isAnd o = true) {a b : Ts} {l r : Expr} {rs : List Expr} {pos : Pos} (ha : PT X l (tT X.K C a)) (hb : PW X (.BoolOp o (r :: rs) pos) (tT X.K C b)) :
    PW X (.BoolOp o (l :: r :: rs) pos) (tT X.K C (.boo isAnd a b)) := by
  cases isAnd <;> cases o <;> first | cases ho | skip
  · refine ⟨fun whole pins s σ H Q I hw => (pw_or ha hb).run whole pins s σ H Q I ?_⟩
    obtain ⟨φ, h, env, sv, h', R, E, ev, k⟩ := hw
    simp only [evT] at ev
    split at ev
    · cases ev
    · rename_i c h1 hx
      refine ⟨φ, h, env, c, h1, R, E, hx, fun H1 φ1 R1 X1 => ?_⟩
      cases c with
      | true => cases ev; rw [if_pos rfl]; exact k H1 φ1 R1 X1
      | false =>
        rw [if_neg Bool.false_ne_true]
        exact ⟨φ1, h1, env, sv, h', R1, E.mono X1, ev, fun H2 φ2 R2 X2 => k H2 φ2 R2 (X1.trans X2)⟩
  · refine ⟨fun whole pins s σ H Q I hw => (pw_and ha hb).run whole pins s σ H Q I ?_⟩
    obtain ⟨φ, h, env, sv, h', R, E, ev, k⟩ := hw
    simp only [evT] at ev
    split at ev
    · cases ev
    · rename_i c h1 hx
      refine ⟨φ, h, env, c, h1, R, E, hx, fun H1 φ1 R1 X1 => ?_⟩
      cases c with
      | false => cases ev; rw [if_neg Bool.false_ne_true]; exact k H1 φ1 R1 X1
      | true =>
        rw [if_pos rfl]
        exact ⟨φ1, h1, env, sv, h', R1, E.mono X1, ev, fun H2 φ2 R2 X2 => k H2 φ2 R2 (X1.trans X2)⟩

/-! ### rows of expressions -/
theorem l_nil : PA X [] (tL X.K C .nil) := ⟨fun pos pins s σ H Q I h => pa_nil.run pos pins s σ H Q I (by
  obtain ⟨φ, h, env, ss, h', R, E, ev, k⟩ := h
  cases ev
  exact k [] H φ R Ext.refl .nil)⟩
theorem l_cons {a : Ex} {es : Exs} {l : Expr} {ls : List Expr} (ha : PE X l (tE X.K C a)) (hp : plainX l = true) (hs : PA X ls (tL X.K C es)) : PA X (l :: ls) (tL X.K C (.cons a es)) :=
  ⟨fun pos pins s σ H Q I h => (pa_cons ha hs (starEach_cons hp)).run pos pins s σ H Q I (by
    obtain ⟨φ, h, env, ss, h', R, E, ev, k⟩ := h
    simp only [evL] at ev
    split at ev
    · cases ev
    · rename_i x h1 hx
      split at ev
      · cases ev
      · rename_i xs h2 hxs
        cases ev
        exact ⟨φ, h, env, x, h1, R, E, hx, fun v H1 φ1 R1 X1 s1 => ⟨φ1, h1, env, xs, _, R1, E.mono X1, hxs, fun vs H2 φ2 R2 X2 s2 => k _ H2 φ2 R2 (X1.trans X2) (.cons (s1.mono X2) s2)⟩⟩)⟩
theorem l_tup {es : Exs} {ls : List Expr} {k : Nat} {pos : Pos} (hs : PA X ls (tL X.K C es)) : PE X (.Tuple ls k pos) (tE X.K C (.tup es)) := by
  refine PE.imp (pe_tup hs) fun σ H Q ⟨φ, h, env, sv, h', R, E, ev, k⟩ => ?_
  simp only [evE] at ev
  split at ev
  · cases ev
  · rename_i ss h1 hx
    split at ev
    · rename_i ps hp
      split at ev
      · rename_i hz
        cases ev
        refine ⟨φ, h, env, ss, _, R, E, hx, fun vs H1 φ1 R1 X1 s1 => ?_⟩
        have r := s1.pvs hp
        exact ⟨by rw [r.length]; exact hz, new_tup R1 r hz (k.keep X1)⟩
      · cases ev
    · cases ev
theorem l_lst {m : Bool} {es : Exs} {ls : List Expr} {pos : Pos} (hs : PA X ls (tL X.K C es)) : PE X (.List ls pos) (tE X.K C (.lst m es)) := by
  refine PE.imp (pe_lst hs) fun σ H Q ⟨φ, h, env, sv, h', R, E, ev, k⟩ => ?_
  simp only [evE] at ev
  split at ev
  · cases ev
  · rename_i ss h1 hx
    split at ev
    · rename_i ps hp
      split at ev
      · rename_i hz
        refine ⟨φ, h, env, ss, h1, R, E, hx, fun vs H1 φ1 R1 X1 s1 => ?_⟩
        have r := s1.pvs hp
        exact ⟨by rw [r.length]; exact hz, new_lstM R1 r hz ev (k.keep X1)⟩
      · cases ev
    · cases ev

/-! ### places -/
theorem at_get {vs : List V} {xs : List PV} {M : Addr → Prop} {H : Hp} {i : Int} {p : PV} (r : VRs K M H vs xs) (e : atI xs i = some p) : ∃ v, L2.atI vs i = some v ∧ VR K M H v p := by
  unfold atI at e
  rw [Option.bind_eq_some_iff] at e
  obtain ⟨j, e1, e2⟩ := e
  have r' := r
  obtain ⟨v, e3, r⟩ := r.get e2
  refine ⟨v, ?_, r⟩
  show (L2.ixN vs.length i).bind (fun j => vs[j]?) = some v
  rw [r'.length, Option.bind_eq_some_iff]
  exact ⟨j, e1, e3⟩

def rIxD : R2 := fun x y H Q => ∃ a v, x = .ref a ∧ DGet H a y (some v) ∧ Q v H
theorem ix_dict (hu : X.A.units + 1 < cLine) : IxR X rIxD := by
  intro value slice pins s σ H x y v u Q I rx ry h hs
  obtain ⟨a, w, rfl, g, q⟩ := h
  cases rx
  exact tail_any (dict_typeIs I g) PySem.F.slot_dict_getitem.lookup (d_getItem hu I g ry fun w' s3 I3 rw' => ⟨w, H, I3, rw', q⟩) hs
theorem idx_sound {φ : List Addr} {h : AH} {H : Hp} (R : HR K φ h H) {x y : V} {p q r : PV} {Q : VK} (e : idxP p q = some r) (cx : CV K φ h H x p) (ry : VR K (Mt φ h) H y q) (k : Kont K φ h H h (.v r) Q) :
    rIx K x y H Q ∨ rIxD x y H Q := by
  unfold idxP at e
  split at e
  · obtain ⟨a, vs, rfl, ea, rr, _⟩ := cx.tup
    cases ry
    obtain ⟨v, e1, e2⟩ := at_get rr e
    exact .inl (.inr (.inl ⟨a, vs, _, v, rfl, rfl, SqT.of ea, e1, Kont.val R k e2⟩))
  · obtain ⟨a, vs, rfl, ea, rr, _⟩ := cx.list
    cases ry
    obtain ⟨v, e1, e2⟩ := at_get rr e
    exact .inl (.inl ⟨a, vs, _, v, rfl, rfl, SqL.of ea, e1, Kont.val R k e2⟩)
  · obtain ⟨a, vs, rfl, ea, rr, _⟩ := cx.frl
    cases ry
    obtain ⟨v, e1, e2⟩ := at_get rr e
    exact .inl (.inl ⟨a, vs, _, v, rfl, rfl, ea, e1, Kont.val R k e2⟩)
  · obtain ⟨rfl, hz, hc⟩ := cx.str
    cases ry
    rw [Option.map_eq_some_iff] at e
    obtain ⟨c, e1, rfl⟩ := e
    refine .inl (.inr (.inr ⟨_, _, c, rfl, rfl, by rw [strV_len]; exact hz, ?_, ?_⟩))
    · exact e1
    · refine Kont.val R k (show VR K (Mt φ h) H (.str (strV [c])) (.str [c]) from .str (by show 1 ≤ 16777216; decide) fun d hd => ?_)
      have : d = c := by simpa using hd
      subst this
      unfold atI at e1
      rw [Option.bind_eq_some_iff] at e1
      obtain ⟨j, _, e2⟩ := e1
      exact hc _ (List.mem_of_getElem? e2)
  · split at e
    · rename_i kvs q' hk
      obtain ⟨a, ks, rfl, ea, rr, _⟩ := cx.dic
      have g := DGet.at_ ea hk ry
      rcases KRs.look hk rr with ⟨h1, h2⟩ | ⟨p', v', h1, h2, h3⟩
      · rw [h1] at e; cases e
      · rw [h1] at e; cases e
        rw [h2] at g
        exact .inr ⟨a, v', rfl, g, Kont.val R k h3⟩
    · cases e
  · cases e
theorem l_idx {a i : Ex} {l r : Expr} {pos : Pos} (hu : X.A.units + 65 < cLine) (ha : PE X l (tE X.K C a)) (hb : PE X r (tE X.K C i)) (hp : plainX r = true) : PE X (.Subscript l r pos) (tE X.K C (.idx a i)) := by
  have rule : PE X (.Subscript l r pos) (tOp (fun x y H Q => rIx X.K x y H Q ∨ rIxD x y H Q) (tE X.K C a) (tE X.K C i)) := pe_ix (ix_seq.or (ix_dict (by omega))) ha hb (plain_ix hp)
  refine PE.imp rule fun σ H Q ⟨φ, h, env, sv, h', R, E, ev, k⟩ => ?_
  simp only [evE] at ev
  split at ev
  · cases ev
  · rename_i x h1 hx
    split at ev
    · cases ev
    · rename_i y h2 hy
      split at ev
      · rename_i p q hp
        rw [Option.map_eq_some_iff] at ev
        obtain ⟨z, ez, e⟩ := ev
        cases e
        exact two R E hx hy fun v1 v2 H2 φ2 R2 X2 s1 s2 => idx_sound R2 ez (peek_cv R2 s1 hp) s2 (k.keep X2)
      · cases ev


/-! ### slices -/
def tO (K : PySem.W.Frag) (C : Calls) (es : Exs) : TO := fun σ H Q => ∃ φ h env ss h' o, HR K φ h H ∧ ER K φ h H env σ ∧ evL C es env h = some (ss, h') ∧ part ss = some o ∧ ∀ (H' : Hp) (φ' : List Addr), HR K φ' h' H' → Ext φ h H φ' h' H' → Q o H'
theorem l_rev {a : Ex} {l : Expr} {j : Nat} {p1 p2 p3 pos : Pos} (ha : PE X l (tE X.K C a)) : PE X (.Subscript l (.Slice none none (some (.UnaryOp .USub (.Constant (.int 1) j p1) p2)) p3) pos) (tE X.K C (.rev a)) := by
  refine PE.imp (PE.or (pe_revL ha) (pe_revT ha)) fun σ H Q ⟨φ, h, env, sv, h', R, E, ev, k⟩ => ?_
  simp only [evE] at ev
  split at ev
  · cases ev
  · rename_i x h1 hx
    split at ev
    · rename_i p hp
      rw [Option.map_eq_some_iff] at ev
      obtain ⟨r, e1, e2⟩ := ev
      cases e2
      cases p <;> first | cases e1 | skip
      · right
        refine ⟨φ, h, env, x, _, R, E, hx, fun v1 H1 φ1 R1 X1 s1 => ?_⟩
        obtain ⟨ad, vs, rfl, ea, rr, hz⟩ := (peek_cv R1 s1 hp).tup
        exact ⟨ad, vs, rfl, SqT.of ea, new_tup R1 rr.reverse (by rw [List.length_reverse]; exact hz) (k.keep X1)⟩
      · left
        refine ⟨φ, h, env, x, _, R, E, hx, fun v1 H1 φ1 R1 X1 s1 => ?_⟩
        obtain ⟨ad, vs, rfl, ea, rr, hz⟩ := (peek_cv R1 s1 hp).list
        exact ⟨ad, vs, rfl, SqL.of ea, new_lst R1 rr.reverse (by rw [List.length_reverse]; exact hz) (k.keep X1)⟩
    · cases ev
theorem PO.imp {e : Option Expr} {t t' : TO} (h : PO X e t) (i : ∀ σ H Q, t' σ H Q → t σ H Q) : PO X e t' := ⟨fun pins s σ H Q I w => h.run pins s σ H Q I (i σ H Q w)⟩
theorem l_o0 : PO X none (tO X.K C .nil) := PO.imp po_none fun σ H Q ⟨φ, h, env, ss, h', o, R, E, ev, eo, k⟩ => by
  cases ev
  cases eo
  exact k H φ R Ext.refl
theorem l_o1 {a : Ex} {l : Expr} (ha : PE X l (tE X.K C a)) : PO X (some l) (tO X.K C (.cons a .nil)) := PO.imp (po_some ha) fun σ H Q ⟨φ, h, env, ss, h', o, R, E, ev, eo, k⟩ => by
  simp only [evL] at ev
  split at ev
  · cases ev
  · rename_i x h1 hx
    cases ev
    refine ⟨φ, h, env, x, _, R, E, hx, fun v H1 φ1 R1 X1 s1 => ?_⟩
    unfold part at eo
    split at eo
    · rename_i he; cases he
    · rename_i i he
      cases he
      cases eo
      cases s1
      exact ⟨i, rfl, k H1 φ1 R1 X1⟩
    · cases eo
theorem cut_len {α : Type} (xs : List α) (lo hi : Option Int) : (cut xs lo hi).length ≤ xs.length := by
  unfold cut
  rw [List.length_take, List.length_drop]
  omega
theorem cut_mem {α : Type} {xs : List α} {lo hi : Option Int} {c : α} (h : c ∈ cut xs lo hi) : c ∈ xs := List.mem_of_mem_drop (List.mem_of_mem_take h)
theorem cut_vs {vs : List V} {xs : List PV} {M : Addr → Prop} {H : Hp} (r : VRs K M H vs xs) (lo hi : Option Int) : VRs K M H (cutV vs lo hi) (cut xs lo hi) := by
  show VRs K M H ((vs.drop (HT.sIx vs.length 0 lo)).take (HT.sIx vs.length vs.length hi - HT.sIx vs.length 0 lo)) _
  rw [r.length]
  exact (r.drop _).take _
theorem cut_whole {α : Type} {xs : List α} {lo hi : Option Int} (h : HT.sIx xs.length 0 lo = 0 ∧ HT.sIx xs.length xs.length hi = xs.length) : cut xs lo hi = xs := by
  show (xs.drop (HT.sIx xs.length 0 lo)).take (HT.sIx xs.length xs.length hi - HT.sIx xs.length 0 lo) = xs
  rw [h.1, h.2]
  simp
theorem slice_sound {φ : List Addr} {h : AH} {H : Hp} (R : HR K φ h H) {x : V} {p r : PV} {lo hi : Option Int} {Q : VK} (e : sliceP p lo hi = some r) (cx : CV K φ h H x p) (k : Kont K φ h H h (.v r) Q) :
    rSlL K x lo hi H Q ∨ (rSlA K x lo hi H Q ∨ rSlS x lo hi H Q) := by
  unfold sliceP at e
  split at e
  · cases e
    obtain ⟨a, vs, rfl, ea, rr, hz⟩ := cx.tup
    refine .inr (.inl ⟨a, vs, rfl, SqT.of ea, fun hw => ?_, fun hw => new_tup R (cut_vs rr lo hi) (Nat.le_trans (cut_len _ _ _) hz) k⟩)
    rw [rr.length] at hw
    rw [cut_whole hw] at k
    cases cx with
    | v r => exact Kont.val R k r
  · cases e
    obtain ⟨a, vs, rfl, ea, rr, hz⟩ := cx.list
    exact .inl ⟨a, vs, rfl, SqL.of ea, new_lst R (cut_vs rr lo hi) (Nat.le_trans (cut_len _ _ _) hz) k⟩
  · cases e
    obtain ⟨a, vs, rfl, ea, rr, hz⟩ := cx.frl
    exact .inl ⟨a, vs, rfl, ea, new_lst R (cut_vs rr lo hi) (Nat.le_trans (cut_len _ _ _) hz) k⟩
  · cases e
    obtain ⟨rfl, hz, hc⟩ := cx.str
    refine .inr (.inr ⟨_, rfl, by rw [strV_len]; exact hz, ?_⟩)
    show Q (.str (strV (cut _ lo hi))) H
    exact Kont.val R k (.str (Nat.le_trans (cut_len _ _ _) hz) fun c h => hc c (cut_mem h))
  · cases e
theorem l_slc {a : Ex} {lo hi : Exs} {l : Expr} {x y : Option Expr} {pos p2 : Pos} (ha : PE X l (tE X.K C a)) (hl : PO X x (tO X.K C lo)) (hh : PO X y (tO X.K C hi)) : PE X (.Subscript l (.Slice x y none p2) pos) (tE X.K C (.slc a lo hi)) := by
  refine PE.imp (pe_slice (sl_list.or (sl_tupA.or sl_str)) ha hl hh) fun σ H Q ⟨φ, h, env, sv, h', R, E, ev, k⟩ => ?_
  simp only [evE] at ev
  split at ev
  · cases ev
  · rename_i x h1 hx
    split at ev
    · cases ev
    · rename_i l h2 hl
      split at ev
      · cases ev
      · rename_i u h3 hu
        split at ev
        · rename_i p a b hp ha hb
          rw [Option.map_eq_some_iff] at ev
          obtain ⟨z, ez, e⟩ := ev
          cases e
          refine ⟨φ, h, env, x, h1, R, E, hx, fun v1 H1 φ1 R1 X1 s1 => ⟨φ1, h1, env, l, h2, a, R1, E.mono X1, hl, ha, fun H2 φ2 R2 X2 => ⟨φ2, h2, env, u, _, b, R2, E.mono (X1.trans X2), hu, hb, fun H3 φ3 R3 X3 => ?_⟩⟩⟩
          exact slice_sound R3 ez (peek_cv R3 (s1.mono (X2.trans X3)) hp) (k.keep (X1.trans (X2.trans X3)))
        · cases ev

/-! ### calls -/
theorem l_call {f : Nat} {fn : Fn} {es : Exs} {ls : List Expr} {x : Str} {p pos : Pos} (G : Gd P N n X) (hf : P[f]? = some fn) (hps : fn.ps ≠ []) (hx : x = strV fn.name) (hg : Gl X x) (hd : (x == ("__debug__" : Str)) = false) (hs : PA X ls (tL X.K (callN P n) es)) (hp : ∀ e ∈ ls, plainX e = true) (hne : ls ≠ []) :
    PE X (.Call (.Name x p) ls [] pos) (tE X.K (callN P n) (.call f es)) := by
  obtain ⟨fa, fd, hm, hk, hb, F⟩ := G.fns f fn hf hps
  subst hx
  have rule : PE X (.Call (.Name (strV fn.name) p) ls [] pos) (tCall (spN X.K P n f) [] E0 (tL X.K (callN P n) es)) := by
    cases ls with
    | nil => exact absurd rfl hne
    | cons e es' => exact pe_call F G.room hg hm hk hb .nil pass0 hs (by exact hd) (starEach_cons (hp e List.mem_cons_self)) (any_false fun x hx => hp x (List.mem_cons_of_mem _ hx))
  refine PE.imp rule fun σ H Q ⟨φ, h, env, sv, h', R, E, ev, k⟩ => ?_
  simp only [evE] at ev
  split at ev
  · cases ev
  · rename_i ss h1 hss
    refine ⟨φ, h, env, ss, h1, R, E, hss, fun vs H1 φ1 R1 X1 s1 => ⟨φ1, h1, ss, sv, h', fn, hf, ?_, R1, ?_, ev, k.keep X1⟩⟩
    · cases n with
      | zero => cases ev
      | succ m =>
        unfold callN at ev
        rw [hf] at ev
        simp only at ev
        split at ev
        · rename_i hl
          rw [List.append_nil]
          exact (Paired.length s1).trans hl
        · cases ev
    · rw [List.append_nil]
      exact s1
end
end Ev

set_option Elab.async false
set_option linter.all false
set_option maxRecDepth 100000
namespace Ev
open PySem PySem.Spec PyProof.Rows L2

/-! ### sorting -/
section
variable {α : Type} {lt : α → α → Bool}
theorem insR_stb (O : SrtO.Swo lt) (x : α) : ∀ l : List α, SrtO.Stb lt (insR lt x l) (x :: l)
  | [] => SrtO.Stb.refl _
  | y :: r => by
    unfold insR
    by_cases h : lt y x = true
    · rw [if_pos h]
      have q : SrtO.Stb lt ([y] ++ [x]) ([x] ++ [y]) := SrtO.Stb.swap O fun a ha b hb => by
        rw [List.mem_singleton.mp ha, List.mem_singleton.mp hb]; exact h
      exact ((SrtO.Stb.refl [y]).app (insR_stb O x r)).trans (q.app (SrtO.Stb.refl r))
    · rw [if_neg h]
      exact SrtO.Stb.refl _
theorem insR_srtd (O : SrtO.Swo lt) (x : α) : ∀ l : List α, SrtO.Srtd lt l → SrtO.Srtd lt (insR lt x l)
  | [], _ => SrtO.srtd_one x
  | y :: r, hs => by
    unfold insR
    by_cases h : lt y x = true
    · rw [if_pos h]
      refine List.pairwise_cons.mpr ⟨fun z hz => ?_, insR_srtd O x r (List.pairwise_cons.mp hs).2⟩
      have := (insR_stb O x r).perm.mem_iff.mp hz
      rcases List.mem_cons.mp this with rfl | hz
      · exact O.asym _ _ h
      · exact (List.pairwise_cons.mp hs).1 z hz
    · rw [if_neg h]
      have hf : lt y x = false := by simpa using h
      refine List.pairwise_cons.mpr ⟨fun z hz => ?_, hs⟩
      rcases List.mem_cons.mp hz with rfl | hz
      · exact hf
      · exact O.tr x y z hf ((List.pairwise_cons.mp hs).1 z hz)
theorem insR_len (lt : α → α → Bool) (x : α) : ∀ l : List α, (insR lt x l).length = l.length + 1
  | [] => rfl
  | y :: r => by
    unfold insR
    split
    · rw [List.length_cons, insR_len lt x r, List.length_cons]
    · rfl
theorem isort_len (lt : α → α → Bool) : ∀ l : List α, (isort lt l).length = l.length
  | [] => rfl
  | x :: r => by
    unfold isort
    rw [insR_len, isort_len lt r, List.length_cons]
theorem isort_stb (O : SrtO.Swo lt) : ∀ l : List α, SrtO.Stb lt (isort lt l) l
  | [] => SrtO.Stb.refl _
  | x :: r => (insR_stb O x (isort lt r)).trans ((SrtO.Stb.refl [x]).app (isort_stb O r))
theorem isort_srtd (O : SrtO.Swo lt) : ∀ l : List α, SrtO.Srtd lt (isort lt l)
  | [] => List.Pairwise.nil
  | x :: r => insR_srtd O x _ (isort_srtd O r)
end
theorem swoI : SrtO.Swo (fun a b : Int => decide (a < b)) := ⟨fun x y h => by
  simp only [decide_eq_true_eq, decide_eq_false_iff_not] at *; omega, fun x y z h1 h2 => by
  simp only [decide_eq_true_eq, decide_eq_false_iff_not] at *; omega⟩
theorem swoS : SrtO.Swo (fun a b : List Nat => decide (a < b)) := ⟨fun x y h => by
  simp only [decide_eq_true_eq, decide_eq_false_iff_not] at *
  exact List.lt_asymm h, fun x y z h1 h2 => by
  simp only [decide_eq_true_eq, decide_eq_false_iff_not] at *
  exact List.not_lt.mpr (List.le_trans (List.not_lt.mp h1) (List.not_lt.mp h2))⟩
theorem lexI_eq : lexI = SrtO.lexB := rfl
theorem swoL : SrtO.Swo lexI := by
  have := SrtO.swo_lex (fun _ : Value => ((0 : Int), (0 : Int)))
  refine ⟨fun x y h => ?_, fun x y z h1 h2 => ?_⟩
  · rw [lexI_eq] at *
    have a := SrtO.lexB_iff.mp h
    refine SrtO.lexB_no.mpr ?_
    omega
  · rw [lexI_eq] at *
    have a := SrtO.lexB_no.mp h1
    have b := SrtO.lexB_no.mp h2
    refine SrtO.lexB_no.mpr ?_
    omega
theorem isort_uniqI {ns ms : List Int} (hp : ms.Perm ns) (hs : ms.Pairwise (· ≤ ·)) : ms = isort (fun a b => decide (a < b)) ns := by
  have h1 : (isort (fun a b : Int => decide (a < b)) ns).Pairwise (· ≤ ·) := (isort_srtd swoI ns).imp fun {a b} h => by
    have : ¬ b < a := of_decide_eq_false h
    omega
  exact List.Perm.eq_of_pairwise (fun x y _ _ h1 h2 => Int.le_antisymm h1 h2) hs h1 (hp.trans (isort_stb swoI ns).perm.symm)
theorem sortedS_pairwise : ∀ {l : List Str}, sortedS l = true → (l.map fun x => x.cps.toList).Pairwise (fun a b => decide (b < a) = false)
  | [], _ => List.Pairwise.nil
  | [x], _ => by simp
  | x :: y :: r, h => by
    have h' : (!ltCps y.cps.toList x.cps.toList && risingS y r) = true := h
    rw [Bool.and_eq_true] at h'
    have ih := sortedS_pairwise (l := y :: r) h'.2
    have hxy : decide (y.cps.toList < x.cps.toList) = false := by
      rw [← ltCps_eq]
      simpa using h'.1
    rw [List.map_cons]
    refine List.pairwise_cons.mpr ⟨fun z hz => ?_, ih⟩
    rw [List.map_cons] at ih hz
    rcases List.mem_cons.mp hz with rfl | hz
    · exact hxy
    · exact swoS.tr _ _ _ hxy ((List.pairwise_cons.mp ih).1 z hz)
theorem isort_uniqS {ss : List (List Nat)} {ys : List Str} (hp : ys.Perm (ss.map strV)) (hs : sortedS ys = true) : ys = (isort (fun a b => decide (a < b)) ss).map strV := by
  have e : ys.map (fun x => x.cps.toList) = isort (fun a b => decide (a < b)) ss := by
    refine List.Perm.eq_of_pairwise (le := fun a b => decide (b < a) = false) (fun x y _ _ h1 h2 => ?_) (sortedS_pairwise hs) (isort_srtd swoS ss) ?_
    · have a1 := of_decide_eq_false h1
      have a2 := of_decide_eq_false h2
      exact List.le_antisymm (List.not_lt.mp a1) (List.not_lt.mp a2)
    · have := hp.map (fun x : Str => x.cps.toList)
      rw [List.map_map] at this
      have e2 : (ss.map ((fun x : Str => x.cps.toList) ∘ strV)) = ss := by
        have : ((fun x : Str => x.cps.toList) ∘ strV) = id := by funext z; simp [strV]
        rw [this, List.map_id]
      rw [e2] at this
      exact this.trans (isort_stb swoS ss).perm.symm
  rw [← e, List.map_map]
  have : (strV ∘ fun x : Str => x.cps.toList) = id := by funext z; simp [strV]
  rw [this, List.map_id]

/-! ### lists of one kind -/
section
variable {K : PySem.W.Frag} {M : Addr → Prop} {H : Hp}
theorem intsOf_vs : ∀ {xs : List PV} {ns : List Int} {vs : List V}, intsOf xs = some ns → VRs K M H vs xs → vs = ns.map V.int
  | [], ns, vs, e, r => by cases e; cases r; rfl
  | x :: xs, ns, vs, e, r => by
    cases x <;> first | (simp [intsOf] at e; done) | skip
    simp only [intsOf] at e
    rw [Option.map_eq_some_iff] at e
    obtain ⟨ms, e1, rfl⟩ := e
    cases r with
    | cons r t =>
      cases r
      rw [intsOf_vs e1 t]
      rfl
theorem blsOf_vs : ∀ {xs : List PV} {ns : List Bool} {vs : List V}, blsOf xs = some ns → VRs K M H vs xs → vs = ns.map V.bl
  | [], ns, vs, e, r => by cases e; cases r; rfl
  | x :: xs, ns, vs, e, r => by
    cases x <;> first | (simp [blsOf] at e; done) | skip
    simp only [blsOf] at e
    rw [Option.map_eq_some_iff] at e
    obtain ⟨ms, e1, rfl⟩ := e
    cases r with
    | cons r t =>
      cases r
      rw [blsOf_vs e1 t]
      rfl
def okS (s : List Nat) : Prop := s.length ≤ SZ ∧ ∀ c ∈ s, c < 0x110000
theorem strsOf_vs : ∀ {xs : List PV} {ns : List (List Nat)} {vs : List V}, strsOf xs = some ns → VRs K M H vs xs → vs = (ns.map strV).map V.str ∧ ∀ s ∈ ns, okS s
  | [], ns, vs, e, r => by cases e; cases r; exact ⟨rfl, fun s hs => nomatch hs⟩
  | x :: xs, ns, vs, e, r => by
    cases x <;> first | (simp [strsOf] at e; done) | skip
    simp only [strsOf] at e
    rw [Option.map_eq_some_iff] at e
    obtain ⟨ms, e1, rfl⟩ := e
    cases r with
    | cons r t =>
      cases r with
      | str hz hc =>
        obtain ⟨e2, o⟩ := strsOf_vs e1 t
        subst e2
        exact ⟨rfl, fun s hs => (List.mem_cons.mp hs).elim (fun z => z ▸ ⟨hz, hc⟩) (o s)⟩
theorem ints_vs : ∀ ns : List Int, VRs K M H (ns.map V.int) (ns.map PV.int)
  | [] => .nil
  | n :: ns => .cons (.int n) (ints_vs ns)
theorem strs_vs : ∀ {ss : List (List Nat)}, (∀ s ∈ ss, okS s) → VRs K M H ((ss.map strV).map V.str) (ss.map PV.str)
  | [], _ => .nil
  | s :: ss, o => .cons (.str (o s List.mem_cons_self).1 (o s List.mem_cons_self).2) (strs_vs fun x hx => o x (List.mem_cons_of_mem _ hx))
theorem intsOf_len : ∀ {xs : List PV} {ns : List Int}, intsOf xs = some ns → ns.length = xs.length
  | [], ns, e => by cases e; rfl
  | x :: xs, ns, e => by
    cases x <;> first | (simp [intsOf] at e; done) | skip
    simp only [intsOf] at e
    rw [Option.map_eq_some_iff] at e
    obtain ⟨ms, e1, rfl⟩ := e
    rw [List.length_cons, List.length_cons, intsOf_len e1]
theorem strsOf_len : ∀ {xs : List PV} {ns : List (List Nat)}, strsOf xs = some ns → ns.length = xs.length
  | [], ns, e => by cases e; rfl
  | x :: xs, ns, e => by
    cases x <;> first | (simp [strsOf] at e; done) | skip
    simp only [strsOf] at e
    rw [Option.map_eq_some_iff] at e
    obtain ⟨ms, e1, rfl⟩ := e
    rw [List.length_cons, List.length_cons, strsOf_len e1]
end
theorem minL_spec : ∀ {ns : List Int} {m : Int}, minL ns = some m → m ∈ ns ∧ ∀ y ∈ ns, m ≤ y
  | [], _, e => by cases e
  | x :: r, m, e => by
    simp only [minL, Option.some.injEq] at e
    subst e
    have key : ∀ (r : List Int) (x : Int), (r.foldl min x ∈ x :: r) ∧ ∀ y ∈ x :: r, r.foldl min x ≤ y := by
      intro r
      induction r with
      | nil => intro x; simp
      | cons z r ih =>
        intro x
        obtain ⟨h1, h2⟩ := ih (min x z)
        rw [List.foldl_cons]
        have e : min x z = x ∨ min x z = z := by omega
        refine ⟨?_, fun y hy => ?_⟩
        · rcases List.mem_cons.mp h1 with h | h
          · rw [h]
            rcases e with e | e
            · rw [e]; exact List.mem_cons_self
            · rw [e]; exact List.mem_cons_of_mem _ List.mem_cons_self
          · exact List.mem_cons_of_mem _ (List.mem_cons_of_mem _ h)
        · have h3 := h2 (min x z) List.mem_cons_self
          rcases List.mem_cons.mp hy with rfl | hy
          · omega
          · rcases List.mem_cons.mp hy with rfl | hy
            · omega
            · exact h2 y (List.mem_cons_of_mem _ hy)
    exact key r x
theorem maxL_spec : ∀ {ns : List Int} {m : Int}, maxL ns = some m → m ∈ ns ∧ ∀ y ∈ ns, y ≤ m
  | [], _, e => by cases e
  | x :: r, m, e => by
    simp only [maxL, Option.some.injEq] at e
    subst e
    have key : ∀ (r : List Int) (x : Int), (r.foldl max x ∈ x :: r) ∧ ∀ y ∈ x :: r, y ≤ r.foldl max x := by
      intro r
      induction r with
      | nil => intro x; simp
      | cons z r ih =>
        intro x
        obtain ⟨h1, h2⟩ := ih (max x z)
        rw [List.foldl_cons]
        have e : max x z = x ∨ max x z = z := by omega
        refine ⟨?_, fun y hy => ?_⟩
        · rcases List.mem_cons.mp h1 with h | h
          · rw [h]
            rcases e with e | e
            · rw [e]; exact List.mem_cons_self
            · rw [e]; exact List.mem_cons_of_mem _ List.mem_cons_self
          · exact List.mem_cons_of_mem _ (List.mem_cons_of_mem _ h)
        · have h3 := h2 (max x z) List.mem_cons_self
          rcases List.mem_cons.mp hy with rfl | hy
          · omega
          · rcases List.mem_cons.mp hy with rfl | hy
            · omega
            · exact h2 y (List.mem_cons_of_mem _ hy)
    exact key r x

/-! ### builtins -/
section
variable {X : Cx} {K : PySem.W.Frag} {C : Calls} {φ : List Addr} {h : AH} {H : Hp}
def RB (K : PySem.W.Frag) (m : Bool) (b : Blt) (r : List V → Hp → VK → Prop) : Prop :=
  ∀ (φ : List Addr) (h : AH) (H : Hp) (vs : List V) (ss : List SV) (sv : SV) (h' : AH) (Q : VK), HR K φ h H → SRs K φ h H vs ss → bltE m b ss h = some (sv, h') → Kont K φ h H h' sv Q → r vs H Q
theorem l_blt {m : Bool} {b : Blt} {es : Exs} {e : Expr} {r : List V → Hp → VK → Prop} (hP : PE X e (tCB r (tL X.K C es))) (snd : RB X.K m b r) : PE X e (tE X.K C (.blt m b es)) := by
  refine PE.imp hP fun σ H Q ⟨φ, h, env, sv, h', R, E, ev, k⟩ => ?_
  simp only [evE] at ev
  split at ev
  · cases ev
  · rename_i ss h1 hss
    exact ⟨φ, h, env, ss, h1, R, E, hss, fun vs H1 φ1 R1 X1 s1 => snd φ1 h1 H1 vs ss sv h' Q R1 s1 ev (k.keep X1)⟩
theorem RB.one {m : Bool} {b : Blt} {r : List V → Hp → VK → Prop} (hb : ∀ p q, blt2 b p q = none) (hb3 : ∀ p q z, blt3 b p q z = none)
    (s : ∀ (φ : List Addr) (h : AH) (H : Hp) (x : V) (p r' : PV) (sv : SV) (h' : AH) (Q : VK), HR K φ h H → CV K φ h H x p → blt1 b p = some r' → mkR m b r' h = some (sv, h') → Kont K φ h H h' sv Q → r [x] H Q) : RB K m b r := by
  intro φ h H vs ss sv h' Q R rs e k
  unfold bltE at e
  split at e
  · cases rs with
    | cons r1 t =>
      cases t
      split at e
      · rename_i p hp
        split at e
        · rename_i r' hr
          exact s φ h H _ p r' sv h' Q R (peek_cv R r1 hp) hr e k
        · cases e
      · cases e
  · rename_i p q
    rw [hb] at e
    cases e
  · rename_i p q z
    rw [hb3] at e
    cases e
  · cases e
theorem mkR_val {b : Blt} {r : PV} {h : AH} {sv : SV} {h' : AH} {m : Bool} (hb : ∀ xs, r ≠ .lst xs) (hd : ∀ xs, r ≠ .dict xs) (e : mkR m b r h = some (sv, h')) : sv = .v r ∧ h' = h := by
  unfold mkR at e
  cases m with
  | false => cases e; exact ⟨rfl, rfl⟩
  | true =>
    rw [if_pos rfl] at e
    split at e
    · rename_i xs; exact absurd rfl (hb xs)
    · rename_i xs; exact absurd rfl (hb xs)
    · rename_i xs; exact absurd rfl (hd xs)
    · cases e
theorem mkR_lst {b : Blt} {xs : List PV} {h : AH} {sv : SV} {h' : AH} {m : Bool} (e : mkR m b (.lst xs) h = some (sv, h')) : mkL m xs h = some (sv, h') := by
  unfold mkR at e
  unfold mkL
  cases m with
  | false => exact e
  | true =>
    rw [if_pos rfl] at e
    split at e
    · rename_i h1; cases h1; exact e
    · rename_i h1; cases h1; exact e
    · rename_i h1; cases h1
    · cases e
theorem mkR_dic {b : Blt} {xs : List (PV × PV)} {h : AH} {sv : SV} {h' : AH} {m : Bool} (e : mkR m b (.dict xs) h = some (sv, h')) : mkD m xs h = some (sv, h') := by
  unfold mkR at e
  unfold mkD
  cases m with
  | false => exact e
  | true =>
    rw [if_pos rfl] at e
    split at e
    · rename_i h1; cases h1
    · rename_i h1; cases h1
    · rename_i h1; cases h1; exact e
    · cases e
theorem Kont.int {φ h H h' sv Q} {i : Int} {m b} (R : HR K φ h H) (e : mkR m b (.int i) h = some (sv, h')) (k : Kont K φ h H h' sv Q) : Q (.int i) H := by
  obtain ⟨rfl, rfl⟩ := mkR_val (by simp) (by simp) e
  exact Kont.val R k (.int _)
theorem Kont.bl {φ h H h' sv Q} {i : Bool} {m b} (R : HR K φ h H) (e : mkR m b (.bl i) h = some (sv, h')) (k : Kont K φ h H h' sv Q) : Q (.bl i) H := by
  obtain ⟨rfl, rfl⟩ := mkR_val (by simp) (by simp) e
  exact Kont.val R k (.bl _)
def rLen (K : PySem.W.Frag) : List V → Hp → VK → Prop := fun xs H Q => (∃ x n, xs = [x] ∧ LenV K x H n ∧ Q (.int n) H) ∨ ∃ a kvs, xs = [.ref a] ∧ Rd H a (.dK kvs) ∧ Q (.int kvs.length) H
theorem cr_len : CallR X (.builtin "len") (rLen X.K) := by
  intro pins s σ H xs us Q I r q
  rcases q with q | ⟨a, kvs, rfl, e, q⟩
  · exact call_len pins s σ H xs us Q I r q
  · obtain ⟨u, rfl, rx⟩ := vals1 r
    cases rx
    exact d_len I e fun t s' I' => ⟨.int _, H, I', ⟨_, rfl⟩, q⟩
theorem rb_len {m : Bool} : RB K m .len (rLen K) := RB.one (fun p q => rfl) (fun p q z => rfl) fun φ h H x p r' sv h' Q R cx er em k => by
  cases p <;> first | cases er | skip
  · obtain ⟨rfl, hz, _⟩ := cx.str
    refine .inl ⟨_, _, rfl, ⟨by rw [strV_len]; exact hz, rfl⟩, ?_⟩
    rw [strV_len]
    exact Kont.int R em k
  · obtain ⟨a, vs, rfl, ea, rr, _⟩ := cx.tup
    refine .inl ⟨_, _, rfl, .inr ⟨vs, SqT.of ea, rfl⟩, ?_⟩
    rw [rr.length]
    exact Kont.int R em k
  · obtain ⟨a, vs, rfl, ea, rr, _⟩ := cx.list
    refine .inl ⟨_, _, rfl, .inl ⟨vs, SqL.of ea, rfl⟩, ?_⟩
    rw [rr.length]
    exact Kont.int R em k
  · obtain ⟨a, vs, rfl, ea, rr, _⟩ := cx.frl
    refine .inl ⟨_, _, rfl, .inl ⟨vs, ea, rfl⟩, ?_⟩
    rw [rr.length]
    exact Kont.int R em k
  · obtain ⟨a, ks, rfl, ea, rr, _⟩ := cx.dic
    refine .inr ⟨a, ks, rfl, ea, ?_⟩
    rw [rr.length]
    exact Kont.int R em k
theorem rb_abs {m : Bool} : RB K m .abs (fun xs H Q => ∃ i, xs = [.int i] ∧ Q (.int (if i < 0 then -i else i)) H) := RB.one (fun p q => rfl) (fun p q z => rfl) fun φ h H x p r' sv h' Q R cx er em k => by
  cases p <;> first | cases er | skip
  obtain rfl := cx.int
  exact ⟨_, rfl, Kont.int R em k⟩
theorem rb_int {m : Bool} : RB K m .int (fun xs H Q => (∃ i, xs = [.int i] ∧ Q (.int i) H) ∨ ∃ k, xs = [.bl k] ∧ Q (.int (if k then 1 else 0)) H) := RB.one (fun p q => rfl) (fun p q z => rfl) fun φ h H x p r' sv h' Q R cx er em k => by
  cases p <;> first | cases er | skip
  · obtain rfl := cx.bl
    exact .inr ⟨_, rfl, Kont.int R em k⟩
  · obtain rfl := cx.int
    exact .inl ⟨_, rfl, Kont.int R em k⟩
theorem onS_some {f : List PV → Option PV} {p r : PV} (e : onS f p = some r) : ∃ xs, (p = .lst xs ∨ p = .tup xs) ∧ f xs = some r := by
  cases p <;> first | cases e | skip
  · exact ⟨_, .inr rfl, e⟩
  · exact ⟨_, .inl rfl, e⟩
theorem CV.seq {x : V} {p : PV} {xs : List PV} (cx : CV K φ h H x p) (e : p = .lst xs ∨ p = .tup xs) : ∃ a vs, x = .ref a ∧ (SqL K H a vs ∨ SqT K H a vs) ∧ VRs K (Mt φ h) H vs xs ∧ xs.length ≤ SZ := by
  rcases e with rfl | rfl
  · obtain ⟨a, vs, rfl, ea, rr, hz⟩ := cx.list
    exact ⟨a, vs, rfl, .inl (SqL.of ea), rr, hz⟩
  · obtain ⟨a, vs, rfl, ea, rr, hz⟩ := cx.tup
    exact ⟨a, vs, rfl, .inr (SqT.of ea), rr, hz⟩
theorem toDs_at {xs : List PV} {i : Nat} {e : PyData} (h : (toDs xs)[i]? = some e) : ∃ p, xs[i]? = some p ∧ e = toD p := by
  rw [toDs_map, List.getElem?_map, Option.map_eq_some_iff] at h
  obtain ⟨p, h1, h2⟩ := h
  exact ⟨p, h1, h2.symm⟩
theorem deps_lay {xs : List PV} (o : OkAll xs) : PyData.depthAll (toDs xs) ≤ 60 := by
  rw [deps_toD xs o.plain]
  have := o.dep
  omega
theorem pick_sound {M : Addr → Prop} {f : PyData → List PyData → PyData} {a : Addr} {vs : List V} {x r : PV} {xs : List PV} {Q : VK} (hs : SqL K H a vs ∨ SqT K H a vs) (rr : VRs K M H vs (x :: xs)) (o : OkAll (x :: xs)) (hr : r ∈ x :: xs)
    (hf : f (toD x) (toDs xs) = toD r) (q : ∀ v, VR K M H v r → Q v H) : rPickD K f [.ref a] H Q := by
  obtain ⟨d1, d2⟩ := VRs.dp (x :: xs) rr o.plain
  refine ⟨a, vs, toD x, toDs xs, rfl, hs, d1, o.alike, d2, deps_lay o, fun i v e hv he hef => ?_⟩
  obtain ⟨p, hp, rfl⟩ := toDs_at (xs := x :: xs) he
  obtain ⟨p', hp', rv⟩ := rr.getV hv
  rw [hp] at hp'
  cases hp'
  rw [hf] at hef
  have hm := List.mem_of_getElem? hp
  rw [toD_inj p r (plainDs_mem o.plain hm) (plainDs_mem o.plain hr) hef] at rv
  exact q v rv
theorem mkR_one {m : Bool} {b : Blt} {r : PV} {h h' : AH} {sv : SV} (hb : ∀ xs, mkR true b (.lst xs) h = none) (hd : ∀ xs, mkR true b (.dict xs) h = none) (e : mkR m b r h = some (sv, h')) : sv = .v r ∧ h' = h := by
  cases r with
  | lst xs =>
    cases m with
    | true => rw [hb] at e; cases e
    | false => cases e; exact ⟨rfl, rfl⟩
  | dict xs =>
    cases m with
    | true => rw [hd] at e; cases e
    | false => cases e; exact ⟨rfl, rfl⟩
  | _ => exact mkR_val (by simp) (by simp) e
theorem minV_some {xs : List PV} {r : PV} (e : minV xs = some r) : ∃ y ys, xs = y :: ys ∧ OkAll xs ∧ r ∈ y :: ys ∧ PySem.W.minD (toD y) (toDs ys) = toD r := by
  cases xs with
  | nil => cases e
  | cons y ys =>
    simp only [minV] at e
    split at e
    · rename_i ho
      cases e
      have o := okAll_iff ho
      exact ⟨y, ys, rfl, o, foldP_mem ys y, o.minD⟩
    · cases e
theorem maxV_some {xs : List PV} {r : PV} (e : maxV xs = some r) : ∃ y ys, xs = y :: ys ∧ OkAll xs ∧ r ∈ y :: ys ∧ PySem.W.maxD (toD y) (toDs ys) = toD r := by
  cases xs with
  | nil => cases e
  | cons y ys =>
    simp only [maxV] at e
    split at e
    · rename_i ho
      cases e
      have o := okAll_iff ho
      exact ⟨y, ys, rfl, o, foldP_mem (f := fun y a => plt a y) ys y, o.maxD⟩
    · cases e
theorem onL_some {f : List PV → Option PV} {p r : PV} (e : onL f p = some r) : ∃ xs, p = .lst xs ∧ f xs = some r := by
  cases p <;> first | cases e | skip
  exact ⟨_, rfl, e⟩
theorem rb_min1 {m : Bool} : RB K m .min1 (rPickD K PySem.W.minD) := RB.one (fun p q => rfl) (fun p q z => rfl) fun φ h H x p r' sv h' Q R cx er em k => by
  obtain ⟨xs, ep, er2⟩ := onS_some er
  obtain ⟨rfl, rfl⟩ := mkR_one (fun _ => rfl) (fun _ => rfl) em
  obtain ⟨a, vs, rfl, hs, rr, _⟩ := CV.seq cx ep
  obtain ⟨y, ys, rfl, o, hm, hf⟩ := minV_some er2
  exact pick_sound hs rr o hm hf fun v rv => Kont.val R k rv
theorem rb_max1 {m : Bool} : RB K m .max1 (rPickD K PySem.W.maxD) := RB.one (fun p q => rfl) (fun p q z => rfl) fun φ h H x p r' sv h' Q R cx er em k => by
  obtain ⟨xs, ep, er2⟩ := onS_some er
  obtain ⟨rfl, rfl⟩ := mkR_one (fun _ => rfl) (fun _ => rfl) em
  obtain ⟨a, vs, rfl, hs, rr, _⟩ := CV.seq cx ep
  obtain ⟨y, ys, rfl, o, hm, hf⟩ := maxV_some er2
  exact pick_sound hs rr o hm hf fun v rv => Kont.val R k rv
theorem rb_sum {m : Bool} : RB K m .sum (rSumT K) := RB.one (fun p q => rfl) (fun p q z => rfl) fun φ h H x p r' sv h' Q R cx er em k => by
  obtain ⟨xs, ep, er2⟩ := onS_some er
  rw [Option.map_eq_some_iff] at er2
  obtain ⟨ns, e1, rfl⟩ := er2
  obtain ⟨a, vs, rfl, hs, rr, _⟩ := CV.seq cx ep
  have := intsOf_vs e1 rr
  subst this
  exact ⟨a, ns, rfl, hs, Kont.int R em k⟩
theorem rb_any {m : Bool} : RB K m .any (rAny K) := RB.one (fun p q => rfl) (fun p q z => rfl) fun φ h H x p r' sv h' Q R cx er em k => by
  obtain ⟨xs, rfl, er2⟩ := onL_some er
  rw [Option.map_eq_some_iff] at er2
  obtain ⟨ns, e1, rfl⟩ := er2
  obtain ⟨a, vs, rfl, ea, rr, _⟩ := cx.list
  have := blsOf_vs e1 rr
  subst this
  exact ⟨a, ns, rfl, SqL.of ea, Kont.bl R em k⟩
theorem rb_all {m : Bool} : RB K m .all (rAll K) := RB.one (fun p q => rfl) (fun p q z => rfl) fun φ h H x p r' sv h' Q R cx er em k => by
  obtain ⟨xs, rfl, er2⟩ := onL_some er
  rw [Option.map_eq_some_iff] at er2
  obtain ⟨ns, e1, rfl⟩ := er2
  obtain ⟨a, vs, rfl, ea, rr, _⟩ := cx.list
  have := blsOf_vs e1 rr
  subst this
  exact ⟨a, ns, rfl, SqL.of ea, Kont.bl R em k⟩
def rTuple (K : PySem.W.Frag) : List V → Hp → VK → Prop := fun xs H Q => ∃ p ys, xs = [.ref p] ∧ ((SqL K H p ys ∧ ∀ l, H l = none → Q (.ref l) (upd H l (.tup ys))) ∨ (SqT K H p ys ∧ Q (.ref p) H))
theorem rb_tuple {m : Bool} : RB K m .tuple (rTuple K) := RB.one (fun p q => rfl) (fun p q z => rfl) fun φ h H x p r' sv h' Q R cx er em k => by
  cases p <;> first | cases er | skip
  · obtain ⟨a, vs, rfl, ea, rr, hz⟩ := cx.tup
    obtain ⟨rfl, rfl⟩ := mkR_val (by simp) (by simp) em
    refine ⟨a, vs, rfl, .inr ⟨SqT.of ea, ?_⟩⟩
    cases cx with
    | v r => exact Kont.val R k r
  · obtain ⟨a, vs, rfl, ea, rr, hz⟩ := cx.list
    obtain ⟨rfl, rfl⟩ := mkR_val (by simp) (by simp) em
    exact ⟨a, vs, rfl, .inl ⟨SqL.of ea, new_tup R rr hz k⟩⟩
  · obtain ⟨a, vs, rfl, ea, rr, hz⟩ := cx.frl
    obtain ⟨rfl, rfl⟩ := mkR_val (by simp) (by simp) em
    exact ⟨a, vs, rfl, .inl ⟨ea, new_tup R rr hz k⟩⟩
def rList (K : PySem.W.Frag) : List V → Hp → VK → Prop := fun xs H Q => ∃ p ys, xs = [.ref p] ∧ (SqL K H p ys ∨ SqT K H p ys) ∧ ∀ l, H l = none → Q (.ref l) (upd H l (.lst ys))
theorem rb_list {m : Bool} : RB K m .list (rList K) := RB.one (fun p q => rfl) (fun p q z => rfl) fun φ h H x p r' sv h' Q R cx er em k => by
  cases p <;> first | cases er | skip
  · obtain ⟨a, vs, rfl, ea, rr, hz⟩ := cx.tup
    exact ⟨a, vs, rfl, .inr (SqT.of ea), new_lstM R rr hz (mkR_lst em) k⟩
  · obtain ⟨a, vs, rfl, ea, rr, hz⟩ := cx.list
    exact ⟨a, vs, rfl, .inl (SqL.of ea), new_lstM R rr hz (mkR_lst em) k⟩
  · obtain ⟨a, vs, rfl, ea, rr, hz⟩ := cx.frl
    exact ⟨a, vs, rfl, .inl ea, new_lstM R rr hz (mkR_lst em) k⟩
/-! ### sorted data -/
theorem le_total (enc : PV → PyData) : PySem.W.TotalLe (PySem.W.dataLe false enc) := PySem.W.sortLe_total _ false _
theorem swoD (enc : PV → PyData) : SrtO.Swo (fun a b : PV => PySem.W.dataLt (enc a) (enc b)) := by
  have T := le_total enc
  have e : ∀ a b, PySem.W.dataLe false enc a b = !PySem.W.dataLt (enc b) (enc a) := fun a b => rfl
  refine ⟨fun x y h => ?_, fun x y z h1 h2 => ?_⟩
  · rcases T.total x y with t | t
    · rw [e, Bool.not_eq_true'] at t; exact t
    · rw [e, h] at t; cases t
  · have t := T.trans x y z (by rw [e, h1]; rfl) (by rw [e, h2]; rfl)
    rw [e, Bool.not_eq_true'] at t
    exact t
theorem insR_congr {α : Type} {f g : α → α → Bool} {x : α} : ∀ {l : List α}, (∀ y ∈ l, f y x = g y x) → insR f x l = insR g x l
  | [], _ => rfl
  | y :: r, h => by
    unfold insR
    rw [h y List.mem_cons_self, insR_congr fun z hz => h z (List.mem_cons_of_mem _ hz)]
theorem isort_congr {α : Type} {f g : α → α → Bool} (O : SrtO.Swo f) : ∀ {l : List α}, (∀ x ∈ l, ∀ y ∈ l, f x y = g x y) → isort f l = isort g l
  | [], _ => rfl
  | x :: r, h => by
    unfold isort
    rw [← isort_congr O fun y hy z hz => h y (List.mem_cons_of_mem _ hy) z (List.mem_cons_of_mem _ hz)]
    exact insR_congr fun y hy => h y (List.mem_cons_of_mem _ ((isort_stb O r).perm.mem_iff.mp hy)) x List.mem_cons_self
theorem isort_data {xs : List PV} (o : OkAll xs) : xs.mergeSort (PySem.W.dataLe false toD) = isort plt xs := by
  have O := swoD toD
  have e1 : isort plt xs = isort (fun a b : PV => PySem.W.dataLt (toD a) (toD b)) xs := (isort_congr O fun x hx y hy => plt_toD x y (plainDs_mem o.plain hx) (plainDs_mem o.plain hy) (o.al x hx y hy)).symm
  rw [e1]
  refine (PySem.W.sort_unique (le_total toD) ?_ fun c => ?_).symm
  · refine (isort_srtd O xs).imp fun {a b} h => ?_
    show (!PySem.W.dataLt (toD b) (toD a)) = true
    rw [show PySem.W.dataLt (toD b) (toD a) = false from h]; rfl
  · have e : PySem.W.sameRank (PySem.W.dataLe false toD) c = SrtO.eqv (fun a b : PV => PySem.W.dataLt (toD a) (toD b)) c := by
      funext a
      show (!PySem.W.dataLt (toD a) (toD c) && !PySem.W.dataLt (toD c) (toD a)) = (!PySem.W.dataLt (toD c) (toD a) && !PySem.W.dataLt (toD a) (toD c))
      rw [Bool.and_comm]
    rw [e]
    exact (isort_stb O xs).cls c
theorem zip_fst {α β : Type} : ∀ {xs : List α} {ys : List β}, xs.length = ys.length → (xs.zip ys).map (·.1) = xs
  | [], [], _ => rfl
  | x :: xs, y :: ys, h => by rw [List.zip_cons_cons, List.map_cons, zip_fst (by simpa using h)]
  | [], _ :: _, h => by cases h
  | _ :: _, [], h => by cases h
theorem zip_snd {α β : Type} : ∀ {xs : List α} {ys : List β}, xs.length = ys.length → (xs.zip ys).map (·.2) = ys
  | [], [], _ => rfl
  | x :: xs, y :: ys, h => by rw [List.zip_cons_cons, List.map_cons, zip_snd (by simpa using h)]
  | [], _ :: _, h => by cases h
  | _ :: _, [], h => by cases h
theorem zip_vr {M : Addr → Prop} : ∀ {vs : List V} {xs : List PV}, VRs K M H vs xs → ∀ c ∈ vs.zip xs, VR K M H c.1 c.2
  | _, _, .nil, c, hc => by cases hc
  | _, _, .cons r t, c, hc => by
    rw [List.zip_cons_cons] at hc
    rcases List.mem_cons.mp hc with rfl | hc
    · exact r
    · exact zip_vr t c hc
theorem vrs_of {M : Addr → Prop} : ∀ {cs : List (V × PV)}, (∀ c ∈ cs, VR K M H c.1 c.2) → VRs K M H (cs.map (·.1)) (cs.map (·.2))
  | [], _ => .nil
  | c :: cs, h => .cons (h c List.mem_cons_self) (vrs_of fun d hd => h d (List.mem_cons_of_mem _ hd))
theorem sort_sound {M : Addr → Prop} {a : Addr} {vs : List V} {xs : List PV} {Q : VK} (hs : SqL K H a vs) (rr : VRs K M H vs xs) (ho : srtOk xs = true)
    (q : ∀ ws, VRs K M H ws (isort plt xs) → ∀ p, H p = none → Q (.ref p) (upd H p (.lst ws))) : rSortD K [.ref a] H Q := by
  obtain ⟨o, so⟩ := srtOk_sortable ho
  have hl := rr.length
  let cs := vs.zip xs
  have hv := zip_vr rr
  have e1 : cs.map (·.1) = vs := zip_fst hl
  have e2 : cs.map (·.2) = xs := zip_snd hl
  have b2 : (cs.map fun c => (c.1, toD c.2)).map (·.2) = toDs xs := by
    rw [List.map_map, toDs_map, ← e2, List.map_map]; rfl
  have hpl : ∀ c ∈ cs, c.2 ∈ xs := fun c hc => by rw [← e2]; exact List.mem_map.mpr ⟨c, hc, rfl⟩
  refine ⟨a, cs.map fun c => (c.1, toD c.2), rfl, ?_, fun b hb => ?_, by rw [b2]; exact fun d hd e he => o.alike.1 d hd e he, by rw [b2]; exact so, fun b hb => ?_, fun p hp => ?_⟩
  · rw [List.map_map]
    exact e1.symm ▸ hs
  · obtain ⟨c, hc, rfl⟩ := List.mem_map.mp hb
    exact (VR.dp c.2 (hv c hc) (plainDs_mem o.plain (hpl c hc))).1
  · obtain ⟨c, hc, rfl⟩ := List.mem_map.mp hb
    show (toD c.2).depth ≤ 60
    rw [dep_toD c.2 (plainDs_mem o.plain (hpl c hc))]
    have := deps_mem (hpl c hc)
    have := o.dep
    omega
  · have m1 : (cs.map fun c => (c.1, toD c.2)).mergeSort (PySem.W.dataLe false (·.2)) = (cs.mergeSort (PySem.W.dataLe false fun c => toD c.2)).map fun c => (c.1, toD c.2) :=
      (PySem.W.sort_maps (fun c : V × PV => (c.1, toD c.2)) (r := PySem.W.dataLe false fun c => toD c.2) (s := PySem.W.dataLe false (·.2)) fun a _ b _ => rfl).symm
    have m2 : (cs.mergeSort (PySem.W.dataLe false fun c => toD c.2)).map (·.2) = isort plt xs := by
      rw [PySem.W.sort_maps (fun c : V × PV => c.2) (r := PySem.W.dataLe false fun c : V × PV => toD c.2) (s := PySem.W.dataLe false toD) fun a _ b _ => rfl, e2, isort_data o]
    rw [m1, List.map_map]
    refine q _ ?_ p hp
    rw [← m2]
    exact vrs_of fun c hc => hv c ((List.mergeSort_perm cs _).mem_iff.mp hc)
def rSort3 (K : PySem.W.Frag) : List V → Hp → VK → Prop := fun vs H Q => rSortD K vs H Q ∨ (∃ (a : Addr) (kvs : List (Key × V)) (ks : List Str), vs = [.ref a] ∧ Rd H a (.dK kvs) ∧ kvs.map (·.1) = ks.map Sum.inr ∧ ks.length < 64 ∧
    ∀ ys p, ys.Perm ks → sortedS ys = true → H p = none → Q (.ref p) (upd H p (.lst (ys.map V.str))))
theorem cr_sort3 (hc : X.calm = true) (hu : X.A.units + 65 < cLine) : CallR X (.builtin "sorted") (rSort3 X.K) := (cr_sortD hu).or (call_sortedD hc)
theorem KRs.strs : ∀ {ks : List (Key × V)} {kvs : List (PV × PV)} {ss : List (List Nat)} {M : Addr → Prop}, KRs K M H ks kvs → strsOf (kvs.map (·.1)) = some ss → ks.map (·.1) = (ss.map strV).map Sum.inr ∧ ∀ s ∈ ss, okS s
  | _, _, ss, _, .nil, e => by cases e; exact ⟨rfl, fun s hs => nomatch hs⟩
  | _, _, ss, _, .cons (k := k) (v := v) (q := a) (p := p) (ks := ks) (ps := ps) kk ee ik ek r t, e => by
    rw [List.map_cons] at e
    cases a <;> first | (simp [strsOf] at e; done) | skip
    simp only [strsOf] at e
    rw [Option.map_eq_some_iff] at e
    obtain ⟨ms, e1, rfl⟩ := e
    obtain ⟨h1, h2⟩ := KRs.strs t e1
    subst ek
    cases ee with
    | str hz hc =>
      rw [List.map_cons, h1]
      exact ⟨rfl, fun s hs => (List.mem_cons.mp hs).elim (fun z => z ▸ ⟨hz, hc⟩) (h2 s)⟩
theorem rb_sorted {m : Bool} : RB K m .sorted (rSort3 K) := RB.one (fun p q => rfl) (fun p q z => rfl) fun φ h H x p r' sv h' Q R cx er em k => by
  have er : sortP p = some r' := er
  cases p <;> first | cases er | skip
  · rename_i xs
    simp only [sortP, Option.map_eq_some_iff] at er
    obtain ⟨ys, er, rfl⟩ := er
    obtain ⟨a, vs, rfl, ea, rr, hz⟩ := cx.list
    unfold sortV at er
    split at er
    · rename_i ho
      cases er
      refine .inl (sort_sound (SqL.of ea) rr ho fun ws rw' p hp => ?_)
      exact new_lstM R rw' (by rw [isort_len]; exact hz) (mkR_lst em) k p hp
    · cases er
  · rename_i kvs
    simp only [sortP] at er
    obtain ⟨a, ks, rfl, ea, rr, hz⟩ := cx.dic
    split at er
    · rename_i ss e1
      split at er
      · rename_i h64
        cases er
        obtain ⟨h1, o⟩ := KRs.strs rr e1
        refine .inr ⟨a, ks, ss.map strV, rfl, ea, h1, by rw [List.length_map]; exact h64, fun ys p' hp hs => ?_⟩
        have := isort_uniqS hp hs
        subst this
        have perm := (isort_stb swoS ss).perm
        have hl := strsOf_len e1
        rw [List.length_map] at hl
        exact new_lstM R (strs_vs fun s hs => o s (perm.mem_iff.mp hs)) (by rw [List.length_map, perm.length_eq, hl]; exact hz) (mkR_lst em) k p'
      · cases er
    · cases er
end
end Ev

set_option Elab.async false
set_option linter.all false
set_option maxRecDepth 100000
namespace Ev
open PySem PySem.Spec PyProof.Rows L2

section
variable {X : Cx} {K : PySem.W.Frag} {C : Calls} {φ : List Addr} {h : AH} {H : Hp}

/-! ### min, max of two; dict(..) -/
theorem args_sound {M : Addr → Prop} {n : Nat} {f : PyData → List PyData → PyData} {vs : List V} {x r : PV} {xs : List PV} {Q : VK} (hn : xs.length + 1 = n) (rr : VRs K M H vs (x :: xs)) (o : OkAll (x :: xs)) (hr : r ∈ x :: xs)
    (hf : f (toD x) (toDs xs) = toD r) (q : ∀ v, VR K M H v r → Q v H) : rArgsD K n f vs H Q := by
  obtain ⟨d1, d2⟩ := VRs.dp (x :: xs) rr o.plain
  refine ⟨toD x, toDs xs, by rw [rr.length, List.length_cons, hn], d1, o.alike, d2, deps_lay o, fun i v e hv he hef => ?_⟩
  obtain ⟨p, hp, rfl⟩ := toDs_at (xs := x :: xs) he
  obtain ⟨p', hp', rv⟩ := rr.getV hv
  rw [hp] at hp'
  cases hp'
  rw [hf] at hef
  have hm := List.mem_of_getElem? hp
  rw [toD_inj p r (plainDs_mem o.plain hm) (plainDs_mem o.plain hr) hef] at rv
  exact q v rv
theorem RB.two {m : Bool} {b : Blt} {r : List V → Hp → VK → Prop} (hb : ∀ p, blt1 b p = none) (hb3 : ∀ p q z, blt3 b p q z = none)
    (s : ∀ (φ : List Addr) (h : AH) (H : Hp) (x y : V) (p q r' : PV) (Q : VK), HR K φ h H → VR K (Mt φ h) H x p → VR K (Mt φ h) H y q → blt2 b p q = some r' → Kont K φ h H h (.v r') Q → r [x, y] H Q) : RB K m b r := by
  intro φ h H vs ss sv h' Q R rs e k
  unfold bltE at e
  split at e
  · split at e
    · rename_i p hp
      rw [hb] at e
      cases e
    · cases e
  · cases rs with
    | cons r1 t =>
      cases t with
      | cons r2 t =>
        cases t
        rw [Option.map_eq_some_iff] at e
        obtain ⟨r', e1, e2⟩ := e
        cases e2
        exact s φ h H _ _ _ _ r' Q R r1 r2 e1 k
  · rename_i p q z
    rw [hb3] at e
    cases e
  · cases e
theorem RB.three {m : Bool} {b : Blt} {r : List V → Hp → VK → Prop} (hb : ∀ p, blt1 b p = none) (hb2 : ∀ p q, blt2 b p q = none)
    (s : ∀ (φ : List Addr) (h : AH) (H : Hp) (x y z : V) (p q t r' : PV) (Q : VK), HR K φ h H → VR K (Mt φ h) H x p → VR K (Mt φ h) H y q → VR K (Mt φ h) H z t → blt3 b p q t = some r' → Kont K φ h H h (.v r') Q → r [x, y, z] H Q) : RB K m b r := by
  intro φ h H vs ss sv h' Q R rs e k
  unfold bltE at e
  split at e
  · split at e
    · rename_i p hp
      rw [hb] at e
      cases e
    · cases e
  · rename_i p q
    rw [hb2] at e
    cases e
  · cases rs with
    | cons r1 t =>
      cases t with
      | cons r2 t =>
        cases t with
        | cons r3 t =>
          cases t
          rw [Option.map_eq_some_iff] at e
          obtain ⟨r', e1, e2⟩ := e
          cases e2
          exact s φ h H _ _ _ _ _ _ r' Q R r1 r2 r3 e1 k
  · cases e
def rMin2 (K : PySem.W.Frag) : List V → Hp → VK → Prop := fun xs H Q => (∃ i j, xs = [.int i, .int j] ∧ Q (.int (if j < i then j else i)) H) ∨ rArgsD K 2 PySem.W.minD xs H Q
def rMax2 (K : PySem.W.Frag) : List V → Hp → VK → Prop := fun xs H Q => (∃ i j, xs = [.int i, .int j] ∧ Q (.int (if j > i then j else i)) H) ∨ rArgsD K 2 PySem.W.maxD xs H Q
theorem cr_min2 (hc : X.calm = true) (hu : X.A.units + 65 < cLine) : CallR X (.builtin "min") (rMin2 X.K) := (call_min2 hc).or (call_min2D hc hu)
theorem cr_max2 (hc : X.calm = true) (hu : X.A.units + 65 < cLine) : CallR X (.builtin "max") (rMax2 X.K) := (call_max2 hc).or (call_max2D hc hu)
theorem rb_min2 {m : Bool} : RB K m .min2 (rMin2 K) := RB.two (fun p => rfl) (fun p q z => rfl) fun φ h H x y p q r' Q R rx ry e k => by
  have e : min2P p q = some r' := e
  unfold min2P at e
  split at e
  · cases rx; cases ry; cases e
    exact .inl ⟨_, _, rfl, Kont.val R k (.int _)⟩
  · obtain ⟨y0, ys, e0, o, hm, hf⟩ := minV_some e
    cases e0
    exact .inr (args_sound rfl (.cons rx (.cons ry .nil)) o hm hf fun v rv => Kont.val R k rv)
theorem rb_max2 {m : Bool} : RB K m .max2 (rMax2 K) := RB.two (fun p => rfl) (fun p q z => rfl) fun φ h H x y p q r' Q R rx ry e k => by
  have e : max2P p q = some r' := e
  unfold max2P at e
  split at e
  · cases rx; cases ry; cases e
    exact .inl ⟨_, _, rfl, Kont.val R k (.int _)⟩
  · obtain ⟨y0, ys, e0, o, hm, hf⟩ := maxV_some e
    cases e0
    exact .inr (args_sound rfl (.cons rx (.cons ry .nil)) o hm hf fun v rv => Kont.val R k rv)
theorem rb_min3 {m : Bool} : RB K m .min3 (rArgsD K 3 PySem.W.minD) := RB.three (fun p => rfl) (fun p q => rfl) fun φ h H x y z p q t r' Q R rx ry rz e k => by
  have e : minV [p, q, t] = some r' := e
  obtain ⟨y0, ys, e0, o, hm, hf⟩ := minV_some e
  cases e0
  exact args_sound rfl (.cons rx (.cons ry (.cons rz .nil))) o hm hf fun v rv => Kont.val R k rv
theorem rb_max3 {m : Bool} : RB K m .max3 (rArgsD K 3 PySem.W.maxD) := RB.three (fun p => rfl) (fun p q => rfl) fun φ h H x y z p q t r' Q R rx ry rz e k => by
  have e : maxV [p, q, t] = some r' := e
  obtain ⟨y0, ys, e0, o, hm, hf⟩ := maxV_some e
  cases e0
  exact args_sound rfl (.cons rx (.cons ry (.cons rz .nil))) o hm hf fun v rv => Kont.val R k rv
theorem merge_krs {M : Addr → Prop} : ∀ {more : List (Key × V)} {mo : List (PV × PV)} {ks : List (Key × V)} {kvs : List (PV × PV)}, KRs K M H more mo → KRs K M H ks kvs → KRs K M H (mergeK ks more) (mergeP kvs mo)
  | _, _, _, _, .nil, r => r
  | _, _, _, _, .cons (k := k) (v := v) (q := a) (p := p) (ks := more) (ps := mo) kk e ik ek r t, q => by
    show KRs K M H (mergeK (putK _ k v) more) (mergeP (dput _ a p) mo)
    rw [ek]
    exact merge_krs t (KRs.put (k := kV k) ik e r q)
theorem mergeP_len : ∀ (more kvs : List (PV × PV)), (mergeP kvs more).length ≤ kvs.length + more.length
  | [], kvs => by show kvs.length ≤ kvs.length + 0; omega
  | p :: r, kvs => by
    have h1 := mergeP_len r (dput kvs p.1 p.2)
    have h2 := dput_len kvs p.1 p.2
    show (mergeP (dput kvs p.1 p.2) r).length ≤ _
    rw [List.length_cons]
    omega
theorem pairsOf_krs {M : Addr → Prop} : ∀ {xs : List PV} {kvs : List (PV × PV)} {vs : List V}, pairsOf xs = some kvs → VRs K M H vs xs →
    kvs.length = xs.length ∧ ∃ (ps : List Addr) (ks : List (Key × V)), vs = ps.map V.ref ∧ Paired (fun p kv => SqT K H p [kV kv.1, kv.2]) ps ks ∧ KRs K M H ks kvs
  | [], kvs, vs, e, r => by cases e; cases r; exact ⟨rfl, [], [], rfl, .nil, .nil⟩
  | x :: xs, kvs, vs, e, r => by
    unfold pairsOf at e
    split at e
    · rename_i h1; cases h1
    · rename_i k v r' h1
      cases h1
      split at e
      · rename_i hk
        rw [Option.map_eq_some_iff] at e
        obtain ⟨qs, e1, rfl⟩ := e
        cases r with
        | cons r t =>
          obtain ⟨hl, ps, ks, rfl, hp, hk2⟩ := pairsOf_krs e1 t
          cases r with
          | tup e2 m2 z2 r2 =>
            rename_i a ws
            cases r2 with
            | cons ra t2 =>
              rename_i vk ws2
              cases t2 with
              | cons rb t3 =>
                rename_i vv ws3
                cases t3
                have ekk := kV_keyV hk ra
                subst ekk
                exact ⟨by rw [List.length_cons, List.length_cons, hl], a :: ps, (keyV k, vv) :: ks, rfl, .cons (SqT.of e2) hp, .cons rfl ra hk rfl rb hk2⟩
      · cases e
    · cases e
def rDict (K : PySem.W.Frag) : List V → Hp → VK → Prop := fun xs H Q => (∃ (a : Addr) (ps : List Addr) (kvs : List (Key × V)), xs = [.ref a] ∧ SqL K H a (ps.map V.ref) ∧ Paired (fun p kv => SqT K H p [kV kv.1, kv.2]) ps kvs ∧
    ∀ p, H p = none → Q (.ref p) (upd H p (.dK (mergeK [] kvs)))) ∨ ∃ a kvs, xs = [.ref a] ∧ Rd H a (.dK kvs) ∧ ∀ p, H p = none → Q (.ref p) (upd H p (.dK kvs))
theorem cr_dict (hc : X.calm = true) : CallR X (.type "dict") (rDict X.K) := by
  intro pins s σ H xs us Q I r q
  rcases q with q | ⟨a, kvs, rfl, e, q⟩
  · exact call_dictP hc pins s σ H xs us Q I r q
  · obtain ⟨u, rfl, rx⟩ := vals1 r
    cases rx
    exact d_copyOf I e fun p s' n I' => ⟨.ref p, _, I', rfl, q p n⟩
theorem rb_dict {m : Bool} : RB K m .dict (rDict K) := RB.one (fun p q => rfl) (fun p q z => rfl) fun φ h H x p r' sv h' Q R cx er em k => by
  have er : dicP p = some r' := er
  cases p <;> first | cases er | skip
  · simp only [dicP, Option.map_eq_some_iff] at er
    obtain ⟨kvs, e1, rfl⟩ := er
    obtain ⟨a, vs, rfl, ea, rr, hz⟩ := cx.list
    obtain ⟨hl, ps, ks, rfl, hp, hk⟩ := pairsOf_krs e1 rr
    refine .inl ⟨a, ps, ks, rfl, SqL.of ea, hp, new_dicM R (merge_krs hk .nil) ?_ (mkR_dic em) k⟩
    have := mergeP_len kvs []
    rw [List.length_nil] at this
    omega
  · obtain ⟨a, ks, rfl, ea, rr, hz⟩ := cx.dic
    exact .inr ⟨a, ks, rfl, ea, new_dicM R rr hz (mkR_dic em) k⟩

/-! ### isinstance -/
def kT : PV → String
  | .non => "NoneType"
  | .bl _ => "bool"
  | .int _ => "int"
  | .str _ => "str"
  | .tup _ => "tuple"
  | .lst _ => "list"
  | .frl _ => "list"
  | .dict _ => "dict"
theorem kitTab (p : PV) (t : Ty) : kitB (kT p) (tyS t) = some (isiTy p t) := by
  cases p <;> cases t <;> (simp only [kT, tyS, isiTy]; decide +kernel)
theorem tyX_of {v : V} {p : PV} (c : CV K φ h H v p) : TyX K H v (.type (kT p)) := by
  cases p with
  | non => rw [c.non]; exact .base .non
  | bl b => rw [c.bl]; exact .base (.bl b)
  | int i => rw [c.int]; exact .base (.int i)
  | str s => rw [c.str.1]; exact .base (.str _)
  | tup xs => obtain ⟨a, vs, rfl, e, _⟩ := c.tup; exact .base (.tup e)
  | lst xs => obtain ⟨a, vs, rfl, e, _⟩ := c.list; exact .base (.lst e)
  | frl xs =>
    obtain ⟨a, vs, rfl, e, _⟩ := c.frl
    rcases e with (e | ⟨o, e⟩) | ⟨o, its, n, e, hc, _⟩
    · exact .base (.lst e)
    · exact .base (.frz e)
    · exact .kList e hc
  | dict xs =>
    obtain ⟨a, vs, rfl, e, _⟩ := c.dic
    rcases e with e | ⟨o, e⟩
    · exact .base (.dK e)
    · exact .fDict e
theorem boot_ty (t : Ty) : bootBuiltins (Str.ofString (tyS t)) = some (.type (tyS t)) := by cases t <;> decide +kernel
theorem ty_names (t : Ty) : tyS t ∈ bltNames := by cases t <;> decide
theorem ne_name (t : Ty) : Str.ofString (tyS t) ≠ "__name__" ∧ (Str.ofString (tyS t) == ("__debug__" : Str)) = false := by cases t <;> decide +kernel
theorem l_isi {a : Ex} {t : Ty} {l : Expr} {x y : Str} {p p2 pos : Pos} (hx : x = Str.ofString "isinstance") (hy : y = Str.ofString (tyS t)) (gx : Gl X x) (gy : Gl X y) (mg : ∀ x ∈ bltNames, X.mg (Str.ofString x) = none) (ha : PE X l (tE X.K C a)) (hp : plainX l = true) :
    PE X (.Call (.Name x p) [l, .Name y p2] [] pos) (tE X.K C (.isi a t)) := by
  subst hx hy
  have hb : PE X (.Name (Str.ofString (tyS t)) p2) (tC (.ty (tyS t))) := pe_bltn gy (mg _ (ty_names t)) (boot_ty t) rfl (ne_name t).1 (ne_name t).2
  refine PE.imp (pe_callB call_isi gx (mg "isinstance" (by decide)) boot_isinstance (pa_cons ha (pa_cons hb pa_nil rfl) (starEach_cons hp)) (by decide +kernel) (by decide +kernel) (starEach_cons hp) rfl) fun σ H Q ⟨φ, h, env, sv, h', R, E, ev, k⟩ => ?_
  simp only [evE] at ev
  split at ev
  · cases ev
  · rename_i x h1 hx
    split at ev
    · rename_i q hq
      cases ev
      exact ⟨φ, h, env, x, _, R, E, hx, fun v H1 φ1 R1 X1 s1 => ⟨v, _, _, _, _, rfl, .ty _, tyX_of (peek_cv R1 s1 hq), kit_ty (kitTab q t), k _ H1 φ1 R1 X1 (.bl _)⟩⟩
    · cases ev

/-! ### methods -/
def RM (K : PySem.W.Frag) (m : Mth) (r : V → List V → Hp → VK → Prop) : Prop :=
  ∀ (φ : List Addr) (h : AH) (H : Hp) (j : Nat) (a : Addr) (vs : List V) (ss : List SV) (sv : SV) (h' : AH) (Q : VK), HR K φ h H → φ[j]? = some a → SRs K φ h H vs ss → mthE m j ss h = some (sv, h') → Kont K φ h H h' sv Q → r (.ref a) vs H Q
theorem mthE_some {m : Mth} {j : Nat} {ss : List SV} {h : AH} {sv : SV} {h' : AH} (e : mthE m j ss h = some (sv, h')) : ∃ xs ps p c, h[j]? = some (.lst xs) ∧ argsM m ss h = some ps ∧ mthC m (.lst xs) ps = some (p, c) ∧ sv = .v p ∧ h' = h.set j c := by
  unfold mthE at e
  split at e
  · rename_i c hc
    split at e
    · rename_i ps hp
      rw [Option.map_eq_some_iff] at e
      obtain ⟨⟨p, c'⟩, e1, e2⟩ := e
      cases e2
      cases c with
      | lst xs => exact ⟨xs, ps, p, c', hc, hp, e1, rfl, rfl⟩
      | dict _ => simp [mthC] at e1
      | frz _ => simp [mthC] at e1
    · cases e
  · cases e
theorem put_lst (R : HR K φ h H) {j : Nat} {a : Addr} {xs ys : List PV} {ws : List V} {p : PV} {v : V} {Q : VK} (e : h[j]? = some (.lst xs)) (ea : φ[j]? = some a) (r : VRs K (Mt φ h) H ws ys) (hz : ys.length ≤ SZ) (rv : VR K (Mt φ h) H v p)
    (k : Kont K φ h H (h.set j (.lst ys)) (.v p) Q) : Q v (upd H a (.lst ws)) := by
  have x := Ext.put (d := .lst ys) (o := .lst ws) R e rfl ea
  exact k v _ φ (R.put e rfl ea ⟨ws, upd_same, r.mono x.1, hz⟩) x (VR.mono x.1 rv)
theorem mthC_append {xs ps : List PV} {p : PV} {c : Cell} (e : mthC .append (.lst xs) ps = some (p, c)) : ∃ q, ps = [q] ∧ xs.length < SZ ∧ p = .non ∧ c = .lst (xs ++ [q]) := by
  simp only [mthC] at e
  split at e
  · split at e
    · rename_i hl; cases e; exact ⟨_, rfl, hl, rfl, rfl⟩
    · cases e
  · cases e
theorem args_pvs {m : Mth} (hm : m ≠ .extend) {ss : List SV} {h : AH} {ps : List PV} {vs : List V} (rs : SRs K φ h H vs ss) (e : argsM m ss h = some ps) : VRs K (Mt φ h) H vs ps := by
  have : argsM m ss h = pvs ss := by
    cases m <;> first | rfl | exact absurd rfl hm
  rw [this] at e
  exact rs.pvs e
theorem VRs.nil_of {M : Addr → Prop} {vs : List V} (r : VRs K M H vs []) : vs = [] := by cases r; rfl
theorem VRs.one_of {M : Addr → Prop} {vs : List V} {p : PV} (r : VRs K M H vs [p]) : ∃ v, vs = [v] ∧ VR K M H v p := by
  cases r with
  | cons r t => cases t; exact ⟨_, rfl, r⟩
theorem VRs.two_of {M : Addr → Prop} {vs : List V} {p q : PV} (r : VRs K M H vs [p, q]) : ∃ v w, vs = [v, w] ∧ VR K M H v p ∧ VR K M H w q := by
  cases r with
  | cons r t => obtain ⟨w, rfl, r2⟩ := t.one_of; exact ⟨_, w, rfl, r, r2⟩
/-- an item put into a list is a value -/
theorem rm_append : RM K .append rAppend := by
  intro φ h H j a vs ss sv h' Q R ea rs e k
  obtain ⟨xs, ps, p, c, e1, e2, e3, rfl, rfl⟩ := mthE_some e
  obtain ⟨q, rfl, hl, rfl, rfl⟩ := mthC_append e3
  obtain ⟨v, rfl, r⟩ := (args_pvs (m := .append) (by decide) rs e2).one_of
  obtain ⟨ws, q1, r1, z1⟩ := R.cell j _ a e1 ea
  exact ⟨a, ws, v, rfl, rfl, q1, by rw [r1.length]; exact hl, put_lst R e1 ea (r1.append (.cons r .nil)) (by rw [List.length_append]; exact hl) .non k⟩
theorem mthC_extend {xs ps : List PV} {p : PV} {c : Cell} (e : mthC .extend (.lst xs) ps = some (p, c)) : ∃ ys, ps = [.lst ys] ∧ xs.length + ys.length ≤ SZ ∧ p = .non ∧ c = .lst (xs ++ ys) := by
  simp only [mthC] at e
  split at e
  · split at e
    · rename_i hl; cases e; exact ⟨_, rfl, hl, rfl, rfl⟩
    · cases e
  · cases e
theorem args_ext {ss : List SV} {h : AH} {q : PV} {vs : List V} (R : HR K φ h H) (rs : SRs K φ h H vs ss) (e : argsM .extend ss h = some [q]) : ∃ v, vs = [v] ∧ CV K φ h H v q := by
  simp only [argsM] at e
  split at e
  · rename_i y
    rw [Option.map_eq_some_iff] at e
    obtain ⟨p, e1, e2⟩ := e
    cases e2
    cases rs with
    | cons r t =>
      cases t
      exact ⟨_, rfl, peek_cv R r e1⟩
  · cases e
theorem rm_extend : RM K .extend rExtend := by
  intro φ h H j a vs ss sv h' Q R ea rs e k
  obtain ⟨xs, ps, p, c, e1, e2, e3, rfl, rfl⟩ := mthE_some e
  obtain ⟨ys, rfl, hl, rfl, rfl⟩ := mthC_extend e3
  obtain ⟨v, rfl, cv⟩ := args_ext R rs e2
  obtain ⟨ws, q1, r1, z1⟩ := R.cell j _ a e1 ea
  obtain ⟨b, us, rfl, q2, r2, z2⟩ := cv.list
  exact ⟨a, b, ws, us, rfl, rfl, q1, q2, by rw [r1.length, r2.length]; exact hl, put_lst R e1 ea (r1.append r2) (by rw [List.length_append]; exact hl) .non k⟩
theorem mthC_pop {xs ps : List PV} {p : PV} {c : Cell} (e : mthC .pop (.lst xs) ps = some (p, c)) : ps = [] ∧ xs[xs.length - 1]? = some p ∧ c = .lst xs.dropLast := by
  simp only [mthC] at e
  split at e
  · split at e
    · rename_i hl; cases e; exact ⟨rfl, hl, rfl⟩
    · cases e
  · cases e
theorem rm_pop : RM K .pop rPop := by
  intro φ h H j a vs ss sv h' Q R ea rs e k
  obtain ⟨xs, ps, p, c, e1, e2, e3, rfl, rfl⟩ := mthE_some e
  obtain ⟨rfl, hl, rfl⟩ := mthC_pop e3
  obtain rfl := (args_pvs (m := .pop) (by decide) rs e2).nil_of
  obtain ⟨ws, q1, r1, z1⟩ := R.cell j _ a e1 ea
  obtain ⟨v, q2, r2⟩ := r1.get hl
  exact ⟨a, ws, v, rfl, rfl, q1, by rw [r1.length]; exact q2, put_lst R e1 ea r1.dropLast (by rw [List.length_dropLast]; omega) r2 k⟩
theorem mthC_popAt {xs ps : List PV} {p : PV} {c : Cell} (e : mthC .popAt (.lst xs) ps = some (p, c)) : ∃ i n, ps = [.int i] ∧ ixN xs.length i = some n ∧ xs[n]? = some p ∧ smallR i = true ∧ c = .lst (xs.eraseIdx n) := by
  simp only [mthC] at e
  split at e
  · split at e
    · rename_i n hn
      split at e
      · rename_i p' hp
        split at e
        · rename_i hs
          cases e
          exact ⟨_, n, rfl, hn, hp, hs, rfl⟩
        · cases e
      · cases e
    · cases e
  · cases e
theorem smallR_le {i : Int} (h : smallR i = true) : -(2 ^ 62) ≤ i ∧ i < 2 ^ 62 := by
  unfold smallR at h
  simpa using h
theorem rm_popAt : RM K .popAt rPopAt := by
  intro φ h H j a vs ss sv h' Q R ea rs e k
  obtain ⟨xs, ps, p, c, e1, e2, e3, rfl, rfl⟩ := mthE_some e
  obtain ⟨i, n, rfl, hn, hp, hs, rfl⟩ := mthC_popAt e3
  obtain ⟨v, rfl, r⟩ := (args_pvs (m := .popAt) (by decide) rs e2).one_of
  cases r
  obtain ⟨ws, q1, r1, z1⟩ := R.cell j _ a e1 ea
  obtain ⟨v, q2, r2⟩ := r1.get hp
  have h2 := smallR_le hs
  refine ⟨a, ws, i, n, v, rfl, rfl, q1, by omega, by omega, ?_, q2, put_lst R e1 ea (r1.eraseIdx n) (Nat.le_trans (List.length_eraseIdx_le _ _) z1) r2 k⟩
  rw [r1.length]
  exact (ixN_seq hn).1
end
end Ev

set_option Elab.async false
set_option linter.all false
set_option maxRecDepth 100000
namespace Ev
open PySem PySem.Spec PyProof.Rows L2

section
variable {X : Cx} {C : Calls}

/-! ### methods: what was evaluated -/
theorem mth_inv {m : Mth} {o : Ex} {es : Exs} {e : En} {h h' : AH} {sv : SV} (hm : changes m = false) (ev : evE C (.mth m o es) e h = some (sv, h')) :
    ∃ x h1 p0 vs p ps r, evE C o e h = some (x, h1) ∧ peek h1 x = some p0 ∧ mthT m p0 = true ∧ evL C es e h1 = some (vs, h') ∧ peek h' x = some p ∧ argsN m vs h' = some ps ∧ mthP m p ps = some r ∧ sv = .v r := by
  simp only [evE, hm, Bool.false_eq_true, if_false] at ev
  split at ev
  · cases ev
  · rename_i x h1 hx
    split at ev
    · cases ev
    · rename_i p0 hp0
      split at ev
      · rename_i ht
        split at ev
        · cases ev
        · rename_i vs h2 hvs
          split at ev
          · rename_i p ps hp hps
            rw [Option.map_eq_some_iff] at ev
            obtain ⟨r, er, e2⟩ := ev
            cases e2
            exact ⟨x, h1, p0, vs, p, ps, r, hx, hp0, ht, hvs, hp, hps, er, rfl⟩
          · cases ev
      · cases ev
theorem mthM_inv {m : Mth} {o : Ex} {es : Exs} {e : En} {h h' : AH} {sv : SV} (hm : changes m = true) (ev : evE C (.mth m o es) e h = some (sv, h')) :
    ∃ j h1 xs vs h2, evE C o e h = some (.o j, h1) ∧ h1[j]? = some (.lst xs) ∧ evL C es e h1 = some (vs, h2) ∧ mthE m j vs h2 = some (sv, h') := by
  simp only [evE, hm, if_true] at ev
  split at ev
  · cases ev
  · rename_i x h1 hx
    split at ev
    · rename_i j
      split at ev
      · rename_i hl
        split at ev
        · cases ev
        · rename_i vs h2 hvs
          have : ∃ xs, h1[j]? = some (.lst xs) := by
            unfold isLst at hl
            split at hl
            · rename_i xs e1; exact ⟨xs, e1⟩
            · cases hl
          obtain ⟨xs, e1⟩ := this
          exact ⟨j, h1, xs, vs, h2, hx, e1, hvs, ev⟩
      · cases ev
    · cases ev
theorem evL_one {a : Ex} {e : En} {h h' : AH} {vs : List SV} (ev : evL C (.cons a .nil) e h = some (vs, h')) : ∃ y, evE C a e h = some (y, h') ∧ vs = [y] := by
  simp only [evL] at ev
  split at ev
  · cases ev
  · rename_i x h1 hx
    cases ev
    exact ⟨x, hx, rfl⟩
theorem evL_two {a b : Ex} {e : En} {h h' : AH} {vs : List SV} (ev : evL C (.cons a (.cons b .nil)) e h = some (vs, h')) : ∃ y h1 z, evE C a e h = some (y, h1) ∧ evE C b e h1 = some (z, h') ∧ vs = [y, z] := by
  simp only [evL] at ev
  split at ev
  · cases ev
  · rename_i x h1 hx
    split at ev
    · cases ev
    · rename_i xs h2 hxs
      split at hxs
      · cases hxs
      · rename_i z h3 hz
        cases hxs
        cases ev
        exact ⟨x, h1, z, hx, hz, rfl⟩
theorem few1 {l : Expr} {cpos : Pos} {env : Env} (hp : plainX l = true) : ((backTo cpos (starEach [l] env)).all (fun x => !x.1) && (backToKw cpos (keywordEach [] env)).all (fun x => x.1.isSome)
      && decide (([l] : List Expr).length + ([] : List Keyword).length + (if ([] : List Keyword).isEmpty then 0 else 1) < 30)) = true := by
  rw [starEach_cons hp]; rfl
theorem few2 {l r : Expr} {cpos : Pos} {env : Env} (hp : plainX l = true) (hq : plainX r = true) : ((backTo cpos (starEach [l, r] env)).all (fun x => !x.1) && (backToKw cpos (keywordEach [] env)).all (fun x => x.1.isSome)
      && decide (([l, r] : List Expr).length + ([] : List Keyword).length + (if ([] : List Keyword).isEmpty then 0 else 1) < 30)) = true := by
  rw [starEach_cons hp, starEach_cons hq]; rfl

theorem pvs_one {y : SV} {ps : List PV} (e : pvs [y] = some ps) : ∃ q, y = .v q ∧ ps = [q] := by
  cases y with
  | v q => cases e; exact ⟨q, rfl, rfl⟩
  | o i => cases e
theorem pvs_two {y z : SV} {ps : List PV} (e : pvs [y, z] = some ps) : ∃ q r, y = .v q ∧ z = .v r ∧ ps = [q, r] := by
  cases y with
  | v q => cases z with
    | v r => cases e; exact ⟨q, r, rfl, rfl, rfl⟩
    | o i => cases e
  | o i => cases e
theorem dict_of {m : Mth} {p : PV} (hm : m = .get1 ∨ m = .get2) (h : mthT m p = true) : ∃ kvs, p = .dict kvs := by
  rcases hm with rfl | rfl <;> cases p <;> first | exact ⟨_, rfl⟩ | cases h
theorem look_getD {K : PySem.W.Frag} {M : Addr → Prop} {H : Hp} {q : PV} (hq : isKey q = true) {ks : List (Key × V)} {kvs : List (PV × PV)} (r : KRs K M H ks kvs) {d : PV} {v : V} (rd : VR K M H v d) : VR K M H ((valV ks (keyV q)).getD v) ((dlook kvs q).getD d) := by
  rcases KRs.look hq r with ⟨h1, h2⟩ | ⟨p, w, h1, h2, h3⟩
  · rw [h1, h2]; exact rd
  · rw [h1, h2]; exact h3
theorem l_get1 {o a : Ex} {l e : Expr} {apos cpos : Pos} (hu : X.A.units + 65 < cLine) (hl : (apos.endLine == cpos.line) = true) (hn : noSup l = true) (ho : PE X l (tE X.K C o)) (ha : PE X e (tE X.K C a)) (hp : plainX e = true) :
    PE X (.Call (.Attribute l "get" apos) [e] [] cpos) (tE X.K C (.mth .get1 o (.cons a .nil))) := by
  have m : M1 X l "get" apos e cpos := ⟨noSup_base hn, few1 hp, hl, by rw [starEach_cons hp]; rfl⟩
  refine PE.imp (pe_dget1 (by omega) ho ha m) fun σ H Q ⟨φ, h, env, sv, h', R, E, ev, k⟩ => ?_
  obtain ⟨x, h1, p0, vs, p, ps, r, e1, e2, e3, e4, e5, e6, e7, rfl⟩ := mth_inv rfl ev
  obtain ⟨y, e8, rfl⟩ := evL_one e4
  obtain ⟨q, rfl, rfl⟩ := pvs_one e6
  obtain ⟨kv0, rfl⟩ := dict_of (.inl rfl) e3
  refine ⟨φ, h, env, x, h1, R, E, e1, fun v1 H1 φ1 R1 X1 s1 => ?_⟩
  obtain ⟨ad, ks0, rfl, ea, _, _⟩ := (peek_cv R1 s1 e2).dic
  refine ⟨ad, rfl, .inl ⟨_, ea⟩, φ1, h1, env, _, _, R1, E.mono X1, e8, fun v2 H2 φ2 R2 X2 s2 => ?_⟩
  simp only [mthP] at e7
  split at e7
  · rename_i kvs q' he
    cases he
    split at e7
    · rename_i hk
      cases e7
      obtain ⟨ad', ks, e9, ea2, rr, _⟩ := (peek_cv R2 (s1.mono X2) e5).dic
      cases e9
      exact ⟨_, DGet.at_ ea2 hk s2, k.keep (X1.trans X2) _ H2 φ2 R2 Ext.refl (look_getD hk rr .non)⟩
    · cases e7
  · cases e7
theorem l_get2 {o a b : Ex} {l e f : Expr} {apos cpos : Pos} (hu : X.A.units + 65 < cLine) (hl : (apos.endLine == cpos.line) = true) (hn : noSup l = true) (ho : PE X l (tE X.K C o)) (ha : PE X e (tE X.K C a)) (hb : PE X f (tE X.K C b)) (hp : plainX e = true) (hq : plainX f = true) :
    PE X (.Call (.Attribute l "get" apos) [e, f] [] cpos) (tE X.K C (.mth .get2 o (.cons a (.cons b .nil)))) := by
  have m : M2 X l "get" apos e f cpos := ⟨noSup_base hn, few2 hp hq, hl, by rw [starEach_cons hp, starEach_cons hq]; rfl⟩
  refine PE.imp (pe_dget2 (by omega) ho ha hb m) fun σ H Q ⟨φ, h, env, sv, h', R, E, ev, k⟩ => ?_
  obtain ⟨x, h1, p0, vs, p, ps, r, e1, e2, e3, e4, e5, e6, e7, rfl⟩ := mth_inv rfl ev
  obtain ⟨y, h2, z, e8, e9, rfl⟩ := evL_two e4
  obtain ⟨q, d, rfl, rfl, rfl⟩ := pvs_two e6
  obtain ⟨kv0, rfl⟩ := dict_of (.inr rfl) e3
  refine ⟨φ, h, env, x, h1, R, E, e1, fun v1 H1 φ1 R1 X1 s1 => ?_⟩
  obtain ⟨ad, ks0, rfl, ea, _, _⟩ := (peek_cv R1 s1 e2).dic
  refine ⟨ad, rfl, .inl ⟨_, ea⟩, φ1, h1, env, _, _, R1, E.mono X1, e8, fun v2 H2 φ2 R2 X2 s2 => ⟨φ2, h2, env, _, _, R2, E.mono (X1.trans X2), e9, fun v3 H3 φ3 R3 X3 s3 => ?_⟩⟩
  simp only [mthP] at e7
  split at e7
  · rename_i kvs q' d' he
    cases he
    split at e7
    · rename_i hk
      cases e7
      obtain ⟨ad', ks, e10, ea2, rr, _⟩ := (peek_cv R3 (s1.mono (X2.trans X3)) e5).dic
      cases e10
      exact ⟨_, DGet.at_ ea2 hk (s2.mono X3), k.keep (X1.trans (X2.trans X3)) _ H3 φ3 R3 Ext.refl (look_getD hk rr s3)⟩
    · cases e7
  · cases e7
theorem low_ok {s t : List Nat} (h : lowP s = some t) : Txt.lower (strV s) = strV t ∧ t.length ≤ SZ ∧ s.length ≤ 5592405 ∧ ∀ c ∈ t, c < 0x110000 := by
  unfold lowP at h
  split at h <;> first | (cases h; done) | skip
  all_goals (cases h; refine ⟨by decide +kernel, by decide, by decide, by decide⟩)
theorem l_lower {o : Ex} {l : Expr} {apos cpos : Pos} (hl : (apos.endLine == cpos.line) = true) (hn : noSup l = true) (ho : PE X l (tE X.K C o)) : PE X (.Call (.Attribute l "lower" apos) [] [] cpos) (tE X.K C (.mth .lower o .nil)) := by
  refine PE.imp (pe_lower ho (noSup_base hn) hl) fun σ H Q ⟨φ, h, env, sv, h', R, E, ev, k⟩ => ?_
  obtain ⟨x, h1, p0, vs, p, ps, r, e1, e2, e3, e4, e5, e6, e7, rfl⟩ := mth_inv rfl ev
  cases e4
  cases e6
  refine ⟨φ, h, env, x, h', R, E, e1, fun v1 H1 φ1 R1 X1 s1 => ?_⟩
  have cv := peek_cv R1 s1 e5
  cases p <;> first | (simp [mthP] at e7; done) | skip
  simp only [mthP, Option.map_eq_some_iff] at e7
  obtain ⟨t, et, rfl⟩ := e7
  obtain ⟨rfl, hz, hc⟩ := cv.str
  obtain ⟨w1, w2, w3, w4⟩ := low_ok et
  refine ⟨⟨_, rfl⟩, _, rfl, rfl, by rw [strV_len]; exact w3, ?_⟩
  rw [w1]
  exact k _ H1 φ1 R1 X1 (.str w2 w4)

/-! ### texts put together, places and numbers of things in a list -/
theorem join_eq (s : List Nat) : ∀ ss : List (List Nat), Txt.join (strV s) (ss.map strV) = strV (joinL s ss) := by
  have e : ∀ ss : List (List Nat), Str.join (strV s) (ss.map strV) = strV (joinL s ss) := by
    intro ss
    induction ss with
    | nil => rfl
    | cons x r ih =>
      cases r with
      | nil => rfl
      | cons y r =>
        show strV x ++ strV s ++ Str.join (strV s) ((y :: r).map strV) = strV (x ++ s ++ joinL s (y :: r))
        rw [ih, strV_app, strV_app]
  intro ss
  show Builtin.Str.glued _ _ = _
  rw [StrLaws.glued_eq_join, e]
theorem joinL_len (s : List Nat) : ∀ ss : List (List Nat), (joinL s ss).length ≤ (ss.map (·.length)).sum + ss.length * s.length
  | [] => by simp [joinL]
  | [x] => by simp [joinL]
  | x :: y :: r => by
    have h := joinL_len s (y :: r)
    simp only [joinL, List.length_append, List.map_cons, List.sum_cons, List.length_cons] at *
    have : (r.length + 1 + 1) * s.length = (r.length + 1) * s.length + s.length := Nat.succ_mul _ _
    omega
theorem joinL_ok {s : List Nat} (hs : ∀ c ∈ s, c < 0x110000) : ∀ {ss : List (List Nat)}, (∀ x ∈ ss, okS x) → ∀ c ∈ joinL s ss, c < 0x110000
  | [], _, c, hc => by simp [joinL] at hc
  | [x], h, c, hc => (h x List.mem_cons_self).2 c hc
  | x :: y :: r, h, c, hc => by
    simp only [joinL, List.mem_append] at hc
    rcases hc with (hc | hc) | hc
    · exact (h x List.mem_cons_self).2 c hc
    · exact hs c hc
    · exact joinL_ok hs (fun z hz => h z (List.mem_cons_of_mem _ hz)) c hc
theorem l_join {o a : Ex} {l e : Expr} {apos cpos : Pos} (hl : (apos.endLine == cpos.line) = true) (hn : noSup l = true) (ho : PE X l (tE X.K C o)) (ha : PE X e (tE X.K C a)) (hp : plainX e = true) :
    PE X (.Call (.Attribute l "join" apos) [e] [] cpos) (tE X.K C (.mth .join o (.cons a .nil))) := by
  refine PE.imp (pe_join ho ha (by rw [starEach_cons hp]; rfl) (noSup_base hn) hl) fun σ H Q ⟨φ, h, env, sv, h', R, E, ev, k⟩ => ?_
  obtain ⟨x, h1, p0, vs, p, ps, r, e1, e2, e3, e4, e5, e6, e7, rfl⟩ := mth_inv rfl ev
  obtain ⟨y, e8, rfl⟩ := evL_one e4
  obtain ⟨s0, rfl⟩ : ∃ s, p0 = .str s := by cases p0 <;> first | exact ⟨_, rfl⟩ | cases e3
  simp only [argsN, Option.map_eq_some_iff] at e6
  obtain ⟨q, e6, rfl⟩ := e6
  refine ⟨φ, h, env, x, h1, R, E, e1, fun v1 H1 φ1 R1 X1 s1 => ?_⟩
  obtain ⟨rfl, _⟩ := (peek_cv R1 s1 e2).str
  refine ⟨⟨_, rfl⟩, φ1, h1, env, _, _, R1, E.mono X1, e8, fun v2 H2 φ2 R2 X2 s2 => ?_⟩
  have cq := peek_cv R2 s2 e6
  have cp := peek_cv R2 (s1.mono X2) e5
  have key : ∃ s xs, p = .str s ∧ (q = .lst xs ∨ q = .tup xs) ∧ joinP s xs = some r := by
    simp only [mthP] at e7
    split at e7
    · rename_i h1; cases h1; exact ⟨_, _, rfl, .inl rfl, e7⟩
    · rename_i h1; cases h1; exact ⟨_, _, rfl, .inr rfl, e7⟩
    · cases e7
  obtain ⟨s, xs, rfl, eq, e9⟩ := key
  obtain ⟨es, hz, hc⟩ := cp.str
  simp only [joinP, Option.bind_eq_some_iff] at e9
  obtain ⟨ss, e10, e11⟩ := e9
  split at e11
  · rename_i hd
    cases e11
    rw [decide_eq_true_eq] at hd
    obtain ⟨ad, ws, rfl, hs, rr, _⟩ := CV.seq cq eq
    obtain ⟨e12, ok⟩ := strsOf_vs e10 rr
    subst e12
    rw [es]
    refine ⟨strV s, ad, ss.map strV, rfl, rfl, hs, ?_, ?_⟩
    · rw [List.map_map, strV_len, List.length_map]
      have : ((fun x : Str => x.length) ∘ strV) = fun x : List Nat => x.length := by funext z; exact strV_len z
      rw [this]
      exact hd
    · rw [join_eq]
      refine k.keep (X1.trans X2) _ H2 φ2 R2 Ext.refl (.str ?_ (joinL_ok hc ok))
      have := joinL_len s ss
      show _ ≤ 16777216
      omega
  · cases e11
theorem findP_spec : ∀ {xs : List PV} {p : PV} {j : Nat}, findP xs p = some j → ∃ z, xs[j]? = some z ∧ eqv z p = true ∧ ∀ m z', m < j → xs[m]? = some z' → eqv z' p = false
  | [], _, _, e => by cases e
  | y :: ys, p, j, e => by
    unfold findP at e
    split at e
    · rename_i h
      cases e
      exact ⟨y, rfl, h, fun m z' hm => absurd hm (Nat.not_lt_zero m)⟩
    · rename_i h
      rw [Option.map_eq_some_iff] at e
      obtain ⟨i, e1, rfl⟩ := e
      obtain ⟨z, h1, h2, h3⟩ := findP_spec e1
      refine ⟨z, by simpa using h1, h2, fun m z' hm hz => ?_⟩
      cases m with
      | zero =>
        simp at hz
        subst hz
        simpa using h
      | succ m => exact h3 m z' (by omega) (by simpa using hz)
theorem okD_shaped {p : PV} (h : okD p = true) : plainD p = true ∧ dep p ≤ 64 := by
  unfold okD at h
  rwa [Bool.and_eq_true, decide_eq_true_eq] at h
theorem l_index {o a : Ex} {l e : Expr} {apos cpos : Pos} (hu : X.A.units + 65 < cLine) (hl : (apos.endLine == cpos.line) = true) (hn : noSup l = true) (ho : PE X l (tE X.K C o)) (ha : PE X e (tE X.K C a)) (hp : plainX e = true) :
    PE X (.Call (.Attribute l "index" apos) [e] [] cpos) (tE X.K C (.mth .index o (.cons a .nil))) := by
  refine PE.imp (pe_bm PySem.F.plainAttrs_list PySem.F.slot_list_index PySem.F.type_list_index (mt_indexD hu) ho (l_cons ha hp l_nil) (noSup_base hn) (few1 hp) hl (starEach_cons hp) rfl) fun σ H Q ⟨φ, h, env, sv, h', R, E, ev, k⟩ => ?_
  obtain ⟨x, h1, p0, vs, p, ps, r, e1, e2, e3, e4, e5, e6, e7, rfl⟩ := mth_inv rfl ev
  obtain ⟨y, e8, rfl⟩ := evL_one e4
  obtain ⟨q, rfl, rfl⟩ := pvs_one e6
  obtain ⟨kv0, rfl⟩ : ∃ s, p0 = .lst s := by cases p0 <;> first | exact ⟨_, rfl⟩ | cases e3
  refine ⟨φ, h, env, x, h1, R, E, e1, fun v1 H1 φ1 R1 X1 s1 => ?_⟩
  obtain ⟨ad, ks0, rfl, ea, _, _⟩ := (peek_cv R1 s1 e2).list
  refine ⟨.inl ⟨rfl, _, SqL.of ea⟩, φ1, h1, env, _, _, R1, E.mono X1, e4, fun v2 H2 φ2 R2 X2 s2 => ?_⟩
  cases s2 with
  | cons s2 t2 =>
    cases t2
    have cp := peek_cv R2 (s1.mono X2) e5
    simp only [mthP] at e7
    split at e7
    · rename_i xs q' he
      cases he
      split at e7
      · rename_i hk
        rw [Bool.and_eq_true] at hk
        rw [Option.map_eq_some_iff] at e7
        obtain ⟨j, e9, rfl⟩ := e7
        obtain ⟨z, g1, g2, g3⟩ := findP_spec e9
        obtain ⟨d1, s1'⟩ := CV.dp cp hk.1
        obtain ⟨d2, s2'⟩ := CV.dp (CV.v s2) hk.2
        have pl : plainDs xs = true := by have := okD_plain hk.1; simpa only [plainD] using this
        have hat : ∀ (m : Nat) (z' : PV), xs[m]? = some z' → PyData.eqv (toD z') (toD q) = eqv z' q := fun m z' hm => eqv_toD z' q (plainDs_mem pl (List.mem_of_getElem? hm)) (okD_plain hk.2)
        simp only [toD] at d1 s1'
        refine ⟨ad, _, toD q, toDs xs, j, toD z, rfl, rfl, d1, d2, s1', s2', ?_, ?_, fun m z' hm hz => ?_, k.keep (X1.trans X2) _ H2 φ2 R2 Ext.refl (.int _)⟩
        · rw [toDs_map, List.getElem?_map, g1]; rfl
        · rw [hat j z g1]; exact g2
        · obtain ⟨pz, hp1, rfl⟩ := toDs_at (xs := xs) hz
          rw [hat m pz hp1]
          exact g3 m pz hm hp1
      · cases e7
    · cases e7
theorem countP_toD {p : PV} (hp : plainD p = true) : ∀ {xs : List PV}, plainDs xs = true → ((toDs xs).countP fun y => PyData.eqv y (toD p)) = xs.countP fun y => eqv y p
  | [], _ => rfl
  | x :: xs, h => by
    simp only [plainDs, Bool.and_eq_true] at h
    simp only [toDs, List.countP_cons, eqv_toD x p h.1 hp, countP_toD hp h.2]
mutual
theorem plain_toD : ∀ (p : PV), (toD p).plain = true
  | .non => rfl
  | .bl _ => rfl
  | .int _ => rfl
  | .str _ => rfl
  | .tup xs => by simp only [toD, PyData.plain]; exact plains_toD xs
  | .lst xs => by simp only [toD, PyData.plain]; exact plains_toD xs
  | .frl _ => rfl
  | .dict _ => rfl
theorem plains_toD : ∀ (p : List PV), PyData.plainAll (toDs p) = true
  | [] => rfl
  | x :: xs => by simp only [toDs, PyData.plainAll, plain_toD x, plains_toD xs, Bool.and_self]
end
theorem l_count {o a : Ex} {l e : Expr} {apos cpos : Pos} (hu : X.A.units + 65 < cLine) (hl : (apos.endLine == cpos.line) = true) (hn : noSup l = true) (ho : PE X l (tE X.K C o)) (ha : PE X e (tE X.K C a)) (hp : plainX e = true) :
    PE X (.Call (.Attribute l "count" apos) [e] [] cpos) (tE X.K C (.mth .count o (.cons a .nil))) := by
  refine PE.imp (pe_bm PySem.F.plainAttrs_list PySem.F.slot_list_count PySem.F.type_list_count (mt_countL hu) ho (l_cons ha hp l_nil) (noSup_base hn) (few1 hp) hl (starEach_cons hp) rfl) fun σ H Q ⟨φ, h, env, sv, h', R, E, ev, k⟩ => ?_
  obtain ⟨x, h1, p0, vs, p, ps, r, e1, e2, e3, e4, e5, e6, e7, rfl⟩ := mth_inv rfl ev
  obtain ⟨y, e8, rfl⟩ := evL_one e4
  obtain ⟨q, rfl, rfl⟩ := pvs_one e6
  obtain ⟨kv0, rfl⟩ : ∃ s, p0 = .lst s := by cases p0 <;> first | exact ⟨_, rfl⟩ | cases e3
  refine ⟨φ, h, env, x, h1, R, E, e1, fun v1 H1 φ1 R1 X1 s1 => ?_⟩
  obtain ⟨ad, ks0, rfl, ea, _, _⟩ := (peek_cv R1 s1 e2).list
  refine ⟨.inl ⟨rfl, _, SqL.of ea⟩, φ1, h1, env, _, _, R1, E.mono X1, e4, fun v2 H2 φ2 R2 X2 s2 => ?_⟩
  cases s2 with
  | cons s2 t2 =>
    cases t2
    have cp := peek_cv R2 (s1.mono X2) e5
    simp only [mthP] at e7
    split at e7
    · rename_i xs q' he
      cases he
      split at e7
      · rename_i hk
        rw [Bool.and_eq_true] at hk
        cases e7
        obtain ⟨ad', ws, e10, ea2, rr, _⟩ := cp.list
        cases e10
        have pl : plainDs xs = true := by have := okD_plain hk.1; simpa only [plainD] using this
        obtain ⟨d2, s2'⟩ := CV.dp (CV.v s2) hk.2
        refine ⟨ad, _, ws, toD q, toDs xs, rfl, rfl, by rw [if_neg Bool.false_ne_true]; exact SqL.of ea2, (VRs.dp xs rr pl).1, d2, plains_toD xs, plain_toD q, ?_, ?_⟩
        · rw [dep_toD q (okD_plain hk.2)]
          exact (okD_shaped hk.2).2
        · rw [countP_toD (okD_plain hk.2) pl]
          exact k.keep (X1.trans X2) _ H2 φ2 R2 Ext.refl (.int _)
      · cases e7
    · cases e7

/-! ### methods that change a list -/
theorem l_chg0 {m : Mth} {r : V → List V → Hp → VK → Prop} {id : String} {name : Str} {o : Ex} {l : Expr} {apos cpos : Pos} (hm : changes m = true) (slot : Slot "list" name id) (hty : typeOf (.builtin id) = pure (.type "method_descriptor")) (rule : MtM X id r) (rm : RM X.K m r)
    (hl : (apos.endLine == cpos.line) = true) (hn : noSup l = true) (ho : PE X l (tE X.K C o)) : PE X (.Call (.Attribute l name apos) [] [] cpos) (tE X.K C (.mth m o .nil)) := by
  refine PE.imp (pe_bm0 (r := r) PySem.F.plainAttrs_list slot hty rule ho (noSup_base hn) hl) fun σ H Q ⟨φ, h, env, sv, h', R, E, ev, k⟩ => ?_
  obtain ⟨j, h1, xs, vs, h2, e1, e2, e3, e4⟩ := mthM_inv hm ev
  cases e3
  refine ⟨φ, h, env, _, _, R, E, e1, fun v1 H1 φ1 R1 X1 s1 => ?_⟩
  obtain ⟨a, rfl, ea⟩ := s1
  obtain ⟨ws, q1, _, _⟩ := R1.cell j _ a e2 ea
  exact ⟨.inl ⟨rfl, _, SqL.of q1⟩, rm φ1 _ H1 j a [] [] sv h' Q R1 ea .nil e4 (k.keep X1)⟩
theorem l_chg1 {m : Mth} {r : V → List V → Hp → VK → Prop} {id : String} {name : Str} {o a : Ex} {l e : Expr} {apos cpos : Pos} (hm : changes m = true) (slot : Slot "list" name id) (hty : typeOf (.builtin id) = pure (.type "method_descriptor")) (rule : MtM X id r) (rm : RM X.K m r)
    (hl : (apos.endLine == cpos.line) = true) (hn : noSup l = true) (ho : PE X l (tE X.K C o)) (ha : PE X e (tE X.K C a)) (hp : plainX e = true) : PE X (.Call (.Attribute l name apos) [e] [] cpos) (tE X.K C (.mth m o (.cons a .nil))) := by
  refine PE.imp (pe_bm (r := r) PySem.F.plainAttrs_list slot hty rule ho (l_cons ha hp l_nil) (noSup_base hn) (few1 hp) hl (starEach_cons hp) rfl) fun σ H Q ⟨φ, h, env, sv, h', R, E, ev, k⟩ => ?_
  obtain ⟨j, h1, xs, vs, h2, e1, e2, e3, e4⟩ := mthM_inv hm ev
  refine ⟨φ, h, env, _, _, R, E, e1, fun v1 H1 φ1 R1 X1 s1 => ?_⟩
  obtain ⟨a, rfl, ea⟩ := s1
  obtain ⟨ws, q1, _, _⟩ := R1.cell j _ a e2 ea
  refine ⟨.inl ⟨rfl, _, SqL.of q1⟩, φ1, h1, env, vs, h2, R1, E.mono X1, e3, fun us H2 φ2 R2 X2 s2 => ?_⟩
  obtain ⟨_, ⟨t, rfl⟩, _⟩ := _root_.id X2
  exact rm _ _ H2 j a us vs sv h' Q R2 (by rw [List.getElem?_append_left (List.getElem?_eq_some_iff.mp ea).1]; exact ea) s2 e4 (k.keep (X1.trans X2))

/-! ### builtins, one and all -/
theorem boot_of (x : String) (h : x ∈ bltNames) : Str.ofString x ≠ "__name__" ∧ (Str.ofString x == ("__debug__" : Str)) = false := by
  have : ∀ x ∈ bltNames, Str.ofString x ≠ "__name__" ∧ (Str.ofString x == ("__debug__" : Str)) = false := by decide +kernel
  exact this x h
theorem l_b1 {m : Bool} {b : Blt} {r : List V → Hp → VK → Prop} {es : Exs} {l : Expr} {ls : List Expr} {x : Str} {p pos : Pos} {id : String} (hx : x = Str.ofString (bltS b)) (hi : bltS b ∈ bltNames) (gx : Gl X x) (mg : ∀ x ∈ bltNames, X.mg (Str.ofString x) = none)
    (hv : bootBuiltins (Str.ofString (bltS b)) = some (.builtin id)) (rule : CallR X (.builtin id) r) (snd : RB X.K m b r) (hs : PA X (l :: ls) (tL X.K C es)) (hp : ∀ e ∈ l :: ls, plainX e = true) : PE X (.Call (.Name x p) (l :: ls) [] pos) (tE X.K C (.blt m b es)) := by
  subst hx
  exact l_blt (pe_callB rule gx (mg _ hi) hv hs (boot_of _ hi).1 (boot_of _ hi).2 (starEach_cons (hp l List.mem_cons_self)) (any_false fun e he => hp e (List.mem_cons_of_mem _ he))) snd
theorem l_bT {m : Bool} {b : Blt} {r : List V → Hp → VK → Prop} {es : Exs} {l : Expr} {ls : List Expr} {x : Str} {p pos : Pos} {id : String} (hx : x = Str.ofString (bltS b)) (hi : bltS b ∈ bltNames) (gx : Gl X x) (mg : ∀ x ∈ bltNames, X.mg (Str.ofString x) = none)
    (hv : bootBuiltins (Str.ofString (bltS b)) = some (.type id)) (rule : CallR X (.type id) r) (snd : RB X.K m b r) (hs : PA X (l :: ls) (tL X.K C es)) (hp : ∀ e ∈ l :: ls, plainX e = true) : PE X (.Call (.Name x p) (l :: ls) [] pos) (tE X.K C (.blt m b es)) := by
  subst hx
  exact l_blt (pe_callTy rule gx (mg _ hi) hv hs (boot_of _ hi).1 (boot_of _ hi).2 (starEach_cons (hp l List.mem_cons_self)) (any_false fun e he => hp e (List.mem_cons_of_mem _ he))) snd
end
end Ev

set_option Elab.async false
set_option linter.all false
set_option maxRecDepth 100000
namespace Ev
open PySem PySem.Spec PyProof.Rows L2

theorem PI.or {X : Cx} {tg it : Expr} {t t' : TI} (h : PI X tg it t) (h' : PI X tg it t') : PI X tg it (fun σ H R => t σ H R ∨ t' σ H R) :=
  ⟨fun pins s σ H R I w => w.elim (h.run pins s σ H R I) (h'.run pins s σ H R I)⟩
theorem PI.imp {X : Cx} {tg it : Expr} {t t' : TI} (h : PI X tg it t) (i : ∀ σ H R, t' σ H R → t σ H R) : PI X tg it t' := ⟨fun pins s σ H R I w => h.run pins s σ H R I (i σ H R w)⟩
theorem PG.imp {X : Cx} {tg : Expr} {t t' : TG} (h : PG X tg t) (i : ∀ v σ H R, t' v σ H R → t v σ H R) : PG X tg t' := ⟨fun pins s σ H v u R I r w => h.run pins s σ H v u R I r (i v σ H R w)⟩
theorem PTs.imp {X : Cx} {ifs : List Expr} {t t' : TT} (h : PTs X ifs t) (i : ∀ σ H R, t' σ H R → t σ H R) : PTs X ifs t' := ⟨fun pins s σ H R I w => h.run pins s σ H R I (i σ H R w)⟩

/-! ### what is walked -/
/-- J yields the items xs -/
def ItS (K : PySem.W.Frag) (J : It) (xs : List PV) (g : Option Nat) (φ : List Addr) (h : AH) (H : Hp) : Prop :=
  ∀ (φ2 : List Addr) (h2 : AH) (H2 : Hp), HR K φ2 h2 H2 → Ext φ h H φ2 h2 H2 → guardOk xs g h2 = true →
    (∀ (i : Nat) (p : PV), xs[i]? = some p → J.go i H2 ∧ ∀ (x : V) (H3 : Hp), J.yld i H2 x H3 → HR K φ2 h2 H3 ∧ Ext φ2 h2 H2 φ2 h2 H3 ∧ VR K (Mt φ2 h2) H3 x p) ∧ J.stop xs.length H2
section
variable {K : PySem.W.Frag} {φ : List Addr} {h : AH} {H : Hp}
theorem its_list {a : Addr} {xs : List PV} {g : Option Nat}
    (P : ∀ (φ2 : List Addr) (h2 : AH) (H2 : Hp), HR K φ2 h2 H2 → Ext φ h H φ2 h2 H2 → guardOk xs g h2 = true → ∃ vs, SqL K H2 a vs ∧ VRs K (Mt φ2 h2) H2 vs xs) : ItS K (Itl K a) xs g φ h H := by
  intro φ2 h2 H2 R2 X2 hg
  obtain ⟨vs, q, r⟩ := P φ2 h2 H2 R2 X2 hg
  refine ⟨fun i p hp => ?_, vs, q, by rw [r.length]; exact Nat.le_refl _⟩
  obtain ⟨v, e, rv⟩ := r.get hp
  refine ⟨⟨vs, v, q, e⟩, fun x H3 y => ?_⟩
  obtain ⟨rfl, y⟩ := y
  have := y vs q
  rw [e] at this
  cases this
  exact ⟨R2, Ext.refl, rv⟩
theorem its_tup {a : Addr} {xs : List PV} {vs : List V} (e : H a = some (.tup vs)) (r : VRs K (Mt φ h) H vs xs) : ItS K (Itt K a) xs none φ h H := by
  intro φ2 h2 H2 R2 X2 hg
  have q := X2.1.tup _ _ e
  have r := r.mono X2.1
  refine ⟨fun i p hp => ?_, vs, SqT.of q, by rw [r.length]; exact Nat.le_refl _⟩
  obtain ⟨v, e, rv⟩ := r.get hp
  refine ⟨⟨vs, v, SqT.of q, e⟩, fun x H3 y => ?_⟩
  obtain ⟨rfl, y⟩ := y
  have := y vs (SqT.of q)
  rw [e] at this
  cases this
  exact ⟨R2, Ext.refl, rv⟩
theorem its_str {s : List Nat} (hz : s.length ≤ SZ) (hc : ∀ c ∈ s, c < 0x110000) : ItS K (Its (strV s)) (s.map fun c => .str [c]) none φ h H := by
  intro φ2 h2 H2 R2 X2 hg
  have sz : (strV s).cps.size = s.length := by simp [strV]
  refine ⟨fun i p hp => ?_, by show (strV s).cps.size ≤ _; rw [List.length_map, sz]; exact Nat.le_refl _⟩
  rw [List.getElem?_map, Option.map_eq_some_iff] at hp
  obtain ⟨c, e, rfl⟩ := hp
  refine ⟨by show i < (strV s).cps.size; rw [sz]; exact (List.getElem?_eq_some_iff.mp e).1, fun x H3 y => ?_⟩
  obtain ⟨rfl, c', e2, rfl⟩ := y
  have : (strV s).cps[i]? = s[i]? := by simp [strV]
  rw [this, e] at e2
  cases e2
  exact ⟨R2, Ext.refl, .str (show [c].length ≤ SZ by show 1 ≤ 16777216; decide) fun d hd => by
    have : d = c := by simpa using hd
    subst this
    exact hc _ (List.mem_of_getElem? e)⟩
theorem its_range {lo : Int} {n : Nat} : ItS K (L2.Itr lo n) (rngs lo n) none φ h H := by
  intro φ2 h2 H2 R2 X2 hg
  have len : (rngs lo n).length = n := by simp [rngs]
  refine ⟨fun i p hp => ?_, by show n ≤ _; rw [len]; exact Nat.le_refl _⟩
  have hi : i < n := by
    have := (List.getElem?_eq_some_iff.mp hp).1
    rw [len] at this
    exact this
  refine ⟨hi, fun x H3 y => ?_⟩
  obtain ⟨rfl, rfl⟩ := y
  have e : (rngs lo n)[i]? = some (.int (lo + (i : Int))) := by
    unfold rngs
    rw [List.getElem?_map, List.getElem?_range hi]
    rfl
  rw [e] at hp
  cases hp
  exact ⟨R2, Ext.refl, .int _⟩
theorem KRs.get {M : Addr → Prop} : ∀ {ks : List (Key × V)} {kvs : List (PV × PV)} {i : Nat} {q p : PV}, KRs K M H ks kvs → kvs[i]? = some (q, p) → ∃ k v, ks[i]? = some (k, v) ∧ VR K M H (kV k) q ∧ VR K M H v p
  | _, _, _, _, _, .nil, e => by simp at e
  | _, _, 0, _, _, .cons kk ee ik ek r _, e => by
    simp at e
    obtain ⟨rfl, rfl⟩ := e
    exact ⟨_, _, rfl, ee, r⟩
  | _, _, i + 1, q, p, .cons _ _ _ _ _ t, e => by
    obtain ⟨k, v, h1, h2⟩ := KRs.get (i := i) (q := q) (p := p) t (by simpa using e)
    exact ⟨k, v, by simpa using h1, h2⟩
theorem its_keys (R : HR K φ h H) {d : Addr} {o : Obj} {ks : List (Key × V)} {kvs : List (PV × PV)} (e : H d = some (.frz o (.dK ks))) (m : ¬ Mt φ h d) (r : KRs K (Mt φ h) H ks kvs) : ItS K (Itk d o ks) (kvs.map (·.1)) none φ h H := by
  intro φ2 h2 H2 R2 X2 hg
  have q := X2.2.2 _ _ e m
  have r := r.mono X2.1
  refine ⟨fun i p hp => ?_, q, by show ks.length ≤ _; rw [List.length_map, r.length]; exact Nat.le_refl _⟩
  rw [List.getElem?_map, Option.map_eq_some_iff] at hp
  obtain ⟨⟨p', w⟩, e1, rfl⟩ := hp
  obtain ⟨k, v, e2, rk, rv⟩ := r.get e1
  refine ⟨⟨q, (List.getElem?_eq_some_iff.mp e2).1⟩, fun x H3 y => ?_⟩
  obtain ⟨rfl, k', v', e3, rfl⟩ := y
  rw [e2] at e3
  cases e3
  exact ⟨R2, Ext.refl, rk⟩

/-- what a walk begins with, of a value -/
def WkV (K : PySem.W.Frag) (v : V) (H : Hp) (R : It → Hp → Prop) : Prop :=
  (∃ a, v = .ref a ∧ (∃ xs, SqL K H a xs) ∧ R (Itl K a) H) ∨ (∃ a, v = .ref a ∧ (∃ xs, SqT K H a xs) ∧ R (Itt K a) H) ∨ ∃ x, v = .str x ∧ R (Its x) H
def WkK (v : V) (H : Hp) (R : It → Hp → Prop) : Prop := ∃ d o kvs, v = .ref d ∧ H d = some (.frz o (.dK kvs)) ∧ R (Itk d o kvs) H
theorem walk_sound (R : HR K φ h H) {v : V} {t : SV} {dk : Bool} {xs : List PV} {g : Option Nat} {h' : AH} {Q : It → Hp → Prop} (s : SR K φ h H v t) (e : walkOf dk t h = some (xs, g, h')) (hl : dk = true → ∀ d ks, v = .ref d → H d ≠ some (.dK ks)) (k : ∀ J, ItS K J xs g φ h H → Q J H) :
    h' = h ∧ (WkV K v H Q ∨ (dk = true ∧ WkK v H Q)) := by
  unfold walkOf at e
  split at e
  · rename_i p
    split at e
    · rename_i hd
      rw [Option.map_eq_some_iff] at e
      obtain ⟨ys, e1, e2⟩ := e
      cases e2
      refine ⟨rfl, ?_⟩
      have s' : VR K (Mt φ h) H v p := s
      cases s' with
      | non => cases e1
      | bl b => cases e1
      | int i => cases e1
      | str hz hc => cases e1; exact .inl (.inr (.inr ⟨_, rfl, k _ (its_str hz hc)⟩))
      | tup ea m hz r => cases e1; exact .inl (.inr (.inl ⟨_, rfl, ⟨_, SqT.of ea⟩, k _ (its_tup ea r)⟩))
      | lst ea m hz r =>
        cases e1
        exact .inl (.inl ⟨_, rfl, ⟨_, SqL.of ea⟩, k _ (its_list fun φ2 h2 H2 R2 X2 _ => ⟨_, SqL.of (X2.1.lst _ _ ea m), r.mono X2.1⟩)⟩)
      | frl ea hz r => cases e1
      | dict ea m hz r =>
        cases e1
        have hdk : dk = true := by simpa [notD] using hd
        rcases ea with ea | ⟨o, ea⟩
        · exact absurd ea (hl hdk _ _ rfl)
        · exact .inr ⟨hdk, _, o, _, rfl, ea, k _ (its_keys R ea m r)⟩
    · cases e
  · rename_i j
    split at e
    · rename_i ys hc
      cases e
      refine ⟨rfl, ?_⟩
      obtain ⟨a, rfl, ea⟩ := s
      obtain ⟨vs, q, r, z⟩ := R.cell j _ a hc ea
      refine .inl (.inl ⟨a, rfl, ⟨vs, SqL.of q⟩, k _ (its_list fun φ2 h2 H2 R2 X2 hg => ?_)⟩)
      simp only [guardOk] at hg
      split at hg
      · rename_i ys hc2
        obtain ⟨_, ⟨t, rfl⟩, _⟩ := X2
        obtain ⟨vs2, q2, r2, z2⟩ := R2.cell j _ a hc2 (by rw [List.getElem?_append_left (List.getElem?_eq_some_iff.mp ea).1]; exact ea)
        rw [sames_eq hg] at r2
        exact ⟨vs2, SqL.of q2, r2⟩
      · cases hg
    · cases e
end

/-- a dict that is walked is locked -/
def Lkd : Itr → L2.St → Hp → Prop
  | .var i _, σ, H => ∀ d ks, σ[i]? = some (some (.ref d)) → H d ≠ some (.dK ks)
  | _, _, _ => True
def tI (K : PySem.W.Frag) (C : Calls) (it : Itr) : TI := fun σ H R => ∃ φ h env xs g h', HR K φ h H ∧ ER K φ h H env σ ∧ evI C it env h = some (xs, g, h') ∧ Lkd it σ H ∧ ∀ (J : It) (H' : Hp) (φ' : List Addr), HR K φ' h' H' → Ext φ h H φ' h' H' → ItS K J xs g φ' h' H' → R J H'
section
variable {X : Cx} {K : PySem.W.Frag} {C : Calls} {tg : Expr}
theorem pi_wk {e : Expr} {te : TE} (he : PE X e te) : PI X tg e (fun σ H R => te σ H fun v H1 => WkV X.K v H1 R ∨ WkK v H1 R) := by
  refine ⟨fun pins s σ H R I h => ?_⟩
  have split : ∀ {v : Value} {s1 : Shared} {x : V} {H1 : Hp}, Inv X pins σ H1 s1 → RelV x v → WkV X.K x H1 R ∨ WkK x H1 R → wpAny (model X.prog X.w) X.A (pyIter v) (PIE X pins σ tg R) X.xe s1 := by
    intro v s1 x H1 I1 r1 q
    -- the value itself, read
    let T : TE := fun σ' H' Q => Q x H1
    have run : ∀ {wi : TI}, (∀ (pe : PE X e te), True) → True := fun _ => True.intro
    rcases q with (⟨a, rfl, ⟨xs, hq⟩, q⟩ | ⟨a, rfl, ⟨xs, hq⟩, q⟩ | ⟨z, rfl, q⟩) | ⟨d, o, kvs, rfl, hd, q⟩
    · cases r1
      obtain ⟨its, rv, p, hz⟩ := I1.list hq
      refine wpAny_pyIter_list p.isList ?_
      refine ⟨s1.heap.objs.size, [s1.heap.objs.size], _, _, H1, rfl, I1.kept (t' := s1.toks) fun b o e => Heap.get?_push_of_some _ e, turn_list a _, ⟨_, Heap.get?_push_size _ rfl, rfl, rfl⟩, fun b hb => ?_, q⟩
      have e : b = s1.heap.objs.size := by simpa using hb
      subst e
      exact I1.fpOk (Nat.le_refl _) (I1.hok.fresh (Nat.le_refl _))
    · cases r1
      obtain ⟨its, rv, p, hz⟩ := I1.tuple hq
      refine wpAny_pyIter_tuple (show s1.heap.IsTuple a its.toArray from p) ?_
      refine ⟨s1.heap.objs.size, [s1.heap.objs.size], _, _, H1, rfl, I1.kept (t' := s1.toks) fun b o e => Heap.get?_push_of_some _ e, turn_tuple a _, ⟨_, Heap.get?_push_size _ rfl, rfl, rfl⟩, fun b hb => ?_, q⟩
      have e : b = s1.heap.objs.size := by simpa using hb
      subst e
      exact I1.fpOk (Nat.le_refl _) (I1.hok.fresh (Nat.le_refl _))
    · obtain ⟨t, rfl⟩ := r1
      cases ha : z.cps.all (· < 128)
      · exact wpAny_pyIter_wide ha (pi_one (tk := s1.toks) I1 _ (turn_str _ z t "str_iterator" (.inr rfl)) ⟨_, Heap.get?_push_size _ rfl, rfl, rfl⟩ q)
      · exact wpAny_pyIter_ascii ha (pi_one (tk := s1.toks) I1 _ (turn_str _ z t "str_ascii_iterator" (.inl rfl)) ⟨_, Heap.get?_push_size _ rfl, rfl, rfl⟩ q)
    · obtain rfl : v = Value.ref d := r1
      obtain ⟨hs, hgd, hx, es, ep, vs, hdt, hsz, kv, hm⟩ := I1.frzK hd
      refine iter_keys hs hgd hx hdt (pi_one (tk := s1.toks) I1 _ (turn_keys _ hdt) ⟨_, Heap.get?_push_size _ rfl, rfl, ?_⟩ q)
      rw [hsz] <;> rfl
  exact thn (he.run pins s σ H _ I h) fun v s1 ⟨x, H1, I1, r1, q1⟩ => split I1 r1 q1
theorem l_iex {a : Ex} {l : Expr} (ha : PE X l (tE X.K C a)) : PI X tg l (tI X.K C (.ex a)) := by
  refine PI.imp (pi_wk ha) fun σ H Q ⟨φ, h, env, xs, g, h', R, E, ev, lk, k⟩ => ?_
  simp only [evI] at ev
  split at ev
  · rename_i t h1 hx
    refine ⟨φ, h, env, t, h1, R, E, hx, fun v H1 φ1 R1 X1 s1 => ?_⟩
    obtain ⟨rfl, w⟩ := walk_sound (Q := Q) R1 s1 ev (fun z => by cases z) fun J hJ => k J H1 φ1 (by
      obtain ⟨rfl, _⟩ := walk_sound (Q := fun _ _ => True) R1 s1 ev (fun z => by cases z) fun _ _ => True.intro
      exact R1) (by
      obtain ⟨rfl, _⟩ := walk_sound (Q := fun _ _ => True) R1 s1 ev (fun z => by cases z) fun _ _ => True.intro
      exact X1) (by
      obtain ⟨rfl, _⟩ := walk_sound (Q := fun _ _ => True) R1 s1 ev (fun z => by cases z) fun _ _ => True.intro
      exact hJ)
    rcases w with w | ⟨z, _⟩
    · exact .inl w
    · cases z
  · cases ev
theorem l_ivar {i : Nat} {z : Bool} {x : Str} {pos : Pos} (hN : X.N[i]? = some x) (hv : Vis X.env.scope x) (hd : (x == ("__debug__" : Str)) = false) (hcd : (x == ("__classdict__" : Str)) = false) : PI X tg (.Name x pos) (tI X.K C (.var i z)) := by
  refine PI.imp (pi_wk (pe_var (i := i) hN hv hd hcd)) fun σ H Q ⟨φ, h, env, xs, g, h', R, E, ev, lk, k⟩ => ?_
  simp only [evI] at ev
  split at ev
  · rename_i s hs
    split at ev
    · rename_i t h1 hr
      obtain ⟨v, e1, R1, X1, s1⟩ := var_core R E hs hr
      have hl : ∀ d ks, v = .ref d → H d ≠ some (.dK ks) := fun d ks e => lk d ks (by rw [e1, e])
      have e0 : h' = h1 := (walk_sound (Q := fun _ _ => True) R1 s1 ev (fun _ => hl) fun _ _ => True.intro).1
      subst e0
      obtain ⟨_, w⟩ := walk_sound (Q := Q) R1 s1 ev (fun _ => hl) fun J hJ => k J H φ R1 X1 hJ
      exact ⟨v, e1, w.imp id fun z => z.2⟩
    · cases ev
  · cases ev
theorem l_rng1 {a : Ex} {l : Expr} {x : Str} {p pos : Pos} (hx : x = Str.ofString "range") (hg : Gl X x) (mg : ∀ x ∈ bltNames, X.mg (Str.ofString x) = none) (ha : PE X l (tE X.K C a)) (hp : plainX l = true) : PI X tg (.Call (.Name x p) [l] [] pos) (tI X.K C (.rng1 a)) := by
  subst hx
  refine PI.imp (pi_range1 hg (mg "range" (by decide)) (l_cons (es := .nil) ha hp l_nil) (by rw [starEach_cons hp]; rfl)) fun σ H Q ⟨φ, h, env, xs, g, h', R, E, ev, lk, k⟩ => ?_
  simp only [evI] at ev
  split at ev
  · rename_i i h1 hx
    split at ev
    · rename_i hs
      cases ev
      have hs := smallR_le hs
      refine ⟨φ, h, env, [.v (.int i)], h', R, E, by simp only [evL, hx], fun vs H1 φ1 R1 X1 s1 => ?_⟩
      cases s1 with
      | cons r t =>
        cases t
        cases r
        exact ⟨i, rfl, hs.1, hs.2, k _ H1 φ1 R1 X1 its_range⟩
    · cases ev
  · cases ev
theorem l_rng2 {a b : Ex} {l r : Expr} {x : Str} {p pos : Pos} (hx : x = Str.ofString "range") (hg : Gl X x) (mg : ∀ x ∈ bltNames, X.mg (Str.ofString x) = none) (ha : PE X l (tE X.K C a)) (hb : PE X r (tE X.K C b)) (hp : plainX l = true) (hq : plainX r = true) : PI X tg (.Call (.Name x p) [l, r] [] pos) (tI X.K C (.rng2 a b)) := by
  subst hx
  refine PI.imp (pi_range2 hg (mg "range" (by decide)) (l_cons (es := .cons b .nil) ha hp (l_cons hb hq l_nil)) (by rw [starEach_cons hp, starEach_cons hq]; rfl) (by rw [starEach_cons hq]; rfl)) fun σ H Q ⟨φ, h, env, xs, g, h', R, E, ev, lk, k⟩ => ?_
  simp only [evI] at ev
  split at ev
  · rename_i i h1 hx
    split at ev
    · rename_i j h2 hy
      split at ev
      · rename_i hs
        cases ev
        rw [Bool.and_eq_true] at hs
        have h1 := smallR_le hs.1
        have h2 := smallR_le hs.2
        refine ⟨φ, h, env, [.v (.int i), .v (.int j)], h', R, E, by simp only [evL, hx, hy], fun vs H1 φ1 R1 X1 s1 => ?_⟩
        cases s1 with
        | cons r t =>
          cases t with
          | cons r2 t =>
            cases t
            cases r
            cases r2
            exact ⟨i, j, rfl, ⟨h1.1, h1.2, h2.1, h2.2⟩, k _ H1 φ1 R1 X1 its_range⟩
      · cases ev
    · cases ev
  · cases ev
theorem its_rangeC {K : PySem.W.Frag} {φ : List Addr} {h : AH} {H : Hp} {lo c : Int} {n : Nat} : ItS K (L2.Itc lo c n) (rngsC lo c n) none φ h H := by
  intro φ2 h2 H2 R2 X2 hg
  have len : (rngsC lo c n).length = n := by simp [rngsC]
  refine ⟨fun i p hp => ?_, by show n ≤ _; rw [len]; exact Nat.le_refl _⟩
  have hi : i < n := by
    have := (List.getElem?_eq_some_iff.mp hp).1
    rw [len] at this
    exact this
  refine ⟨hi, fun x H3 y => ?_⟩
  obtain ⟨rfl, rfl⟩ := y
  have e : (rngsC lo c n)[i]? = some (.int (lo + (i : Int) * c)) := by
    unfold rngsC
    rw [List.getElem?_map, List.getElem?_range hi]
    rfl
  rw [e] at hp
  cases hp
  exact ⟨R2, Ext.refl, .int _⟩
theorem l_rng3 {a b c : Ex} {l r t : Expr} {x : Str} {p pos : Pos} (hx : x = Str.ofString "range") (hg : Gl X x) (mg : ∀ x ∈ bltNames, X.mg (Str.ofString x) = none) (ha : PE X l (tE X.K C a)) (hb : PE X r (tE X.K C b)) (hc : PE X t (tE X.K C c)) (hp : plainX l = true) (hq : plainX r = true) (hr : plainX t = true) : PI X tg (.Call (.Name x p) [l, r, t] [] pos) (tI X.K C (.rng3 a b c)) := by
  subst hx
  refine PI.imp (pi_range3 hg (mg "range" (by decide)) (l_cons (es := .cons b (.cons c .nil)) ha hp (l_cons hb hq (l_cons hc hr l_nil))) (starEach_cons hp) (by rw [starEach_cons hq, starEach_cons hr]; rfl)) fun σ H Q ⟨φ, h, env, xs, g, h', R, E, ev, lk, k⟩ => ?_
  simp only [evI] at ev
  split at ev
  · rename_i i h1 hx
    split at ev
    · rename_i j h2 hy
      split at ev
      · rename_i d h3 hz
        split at ev
        · rename_i hs
          cases ev
          simp only [Bool.and_eq_true, decide_eq_true_eq] at hs
          obtain ⟨⟨hs1, hs2⟩, rfl⟩ := hs
          have h1 := smallR_le hs1
          have h2 := smallR_le hs2
          refine ⟨φ, h, env, [.v (.int i), .v (.int j), .v (.int (-1))], h', R, E, by simp only [evL, hx, hy, hz], fun vs H1 φ1 R1 X1 s1 => ?_⟩
          cases s1 with
          | cons r t =>
            cases t with
            | cons r2 t =>
              cases t with
              | cons r3 t =>
                cases t
                cases r
                cases r2
                cases r3
                exact ⟨i, j, -1, _, rfl, RgC.neg h1.1 h1.2 h2.1 h2.2, k _ H1 φ1 R1 X1 its_rangeC⟩
        · cases ev
      · cases ev
    · cases ev
  · cases ev
theorem vr_pair {K : PySem.W.Frag} {φ : List Addr} {h : AH} {H : Hp} (R : HR K φ h H) {T : Addr} (n : H T = none) {v w : V} {p q : PV} (r1 : VR K (Mt φ h) H v p) (r2 : VR K (Mt φ h) H w q) : VR K (Mt φ h) (upd H T (.tup [v, w])) (.ref T) (.tup [p, q]) :=
  .tup upd_same (R.new_not n) (show 2 ≤ SZ by decide) (.cons (r1.mono (Ext.new R n _).1) (.cons (r2.mono (Ext.new R n _).1) .nil))
theorem its_enum {K : PySem.W.Frag} {φ : List Addr} {h : AH} {H : Hp} {a : Addr} {vs : List V} {xs : List PV} (e : H a = some (.lst vs)) (m : ¬ Mt φ h a) (r : VRs K (Mt φ h) H vs xs) : ItS K (L2.Ite K a) (enumP xs) none φ h H := by
  intro φ2 h2 H2 R2 X2 hg
  have q := X2.1.lst _ _ e m
  have r := r.mono X2.1
  refine ⟨fun i p hp => ?_, vs, SqL.of q, by unfold enumP; rw [r.length, List.length_mapIdx]; exact Nat.le_refl _⟩
  unfold enumP at hp
  rw [List.getElem?_mapIdx, Option.map_eq_some_iff] at hp
  obtain ⟨x, hx, rfl⟩ := hp
  obtain ⟨v, hv, rv⟩ := r.get hx
  refine ⟨⟨vs, v, SqL.of q, hv⟩, fun y H3 yl => ?_⟩
  obtain ⟨T, x', rfl, nT, rfl, hxs⟩ := yl
  have := hxs vs (SqL.of q)
  rw [hv] at this
  cases this
  exact ⟨R2.new nT _, Ext.new R2 nT _, vr_pair R2 nT (.int _) rv⟩
theorem its_zip {K : PySem.W.Frag} {φ : List Addr} {h : AH} {H : Hp} {a b : Addr} {vs ws : List V} {xs ys : List PV} (e : H a = some (.lst vs)) (m : ¬ Mt φ h a) (r : VRs K (Mt φ h) H vs xs) (e' : H b = some (.lst ws)) (m' : ¬ Mt φ h b) (r' : VRs K (Mt φ h) H ws ys) : ItS K (L2.Itz K a b) (List.zipWith (fun x y => .tup [x, y]) xs ys) none φ h H := by
  intro φ2 h2 H2 R2 X2 hg
  have q := X2.1.lst _ _ e m
  have q' := X2.1.lst _ _ e' m'
  have r := r.mono X2.1
  have r' := r'.mono X2.1
  refine ⟨fun i p hp => ?_, vs, ws, SqL.of q, SqL.of q', by rw [r.length, r'.length, List.length_zipWith]; omega⟩
  rw [List.getElem?_zipWith] at hp
  cases hx : xs[i]? with
  | none => rw [hx] at hp; cases hp
  | some x =>
    cases hy : ys[i]? with
    | none => rw [hx, hy] at hp; cases hp
    | some y =>
      rw [hx, hy] at hp
      cases hp
      obtain ⟨v, hv, rv⟩ := r.get hx
      obtain ⟨w, hw, rw'⟩ := r'.get hy
      refine ⟨⟨vs, ws, v, w, SqL.of q, SqL.of q', hv, hw⟩, fun z H3 yl => ?_⟩
      obtain ⟨T, x', y', rfl, nT, rfl, hxs, hys⟩ := yl
      have t1 := hxs vs (SqL.of q)
      have t2 := hys ws (SqL.of q')
      rw [hv] at t1
      rw [hw] at t2
      cases t1
      cases t2
      exact ⟨R2.new nT _, Ext.new R2 nT _, vr_pair R2 nT rv rw'⟩
theorem its_zipT {K : PySem.W.Frag} {φ : List Addr} {h : AH} {H : Hp} {a b : Addr} {vs ws : List V} {xs ys : List PV} (e : H a = some (.tup vs)) (r : VRs K (Mt φ h) H vs xs) (e' : H b = some (.tup ws)) (r' : VRs K (Mt φ h) H ws ys) : ItS K (RZ.ItzT K a b) (List.zipWith (fun x y => .tup [x, y]) xs ys) none φ h H := by
  intro φ2 h2 H2 R2 X2 hg
  have q := X2.1.tup _ _ e
  have q' := X2.1.tup _ _ e'
  have r := r.mono X2.1
  have r' := r'.mono X2.1
  refine ⟨fun i p hp => ?_, vs, ws, SqT.of q, SqT.of q', by rw [r.length, r'.length, List.length_zipWith]; omega⟩
  rw [List.getElem?_zipWith] at hp
  cases hx : xs[i]? with
  | none => rw [hx] at hp; cases hp
  | some x =>
    cases hy : ys[i]? with
    | none => rw [hx, hy] at hp; cases hp
    | some y =>
      rw [hx, hy] at hp
      cases hp
      obtain ⟨v, hv, rv⟩ := r.get hx
      obtain ⟨w, hw, rw'⟩ := r'.get hy
      refine ⟨⟨vs, ws, v, w, SqT.of q, SqT.of q', hv, hw⟩, fun z H3 yl => ?_⟩
      obtain ⟨T, x', y', rfl, nT, rfl, hxs, hys⟩ := yl
      have t1 := hxs vs (SqT.of q)
      have t2 := hys ws (SqT.of q')
      rw [hv] at t1
      rw [hw] at t2
      cases t1
      cases t2
      exact ⟨R2.new nT _, Ext.new R2 nT _, vr_pair R2 nT rv rw'⟩
theorem l_enum {a : Ex} {l : Expr} {x : Str} {p pos tpos : Pos} {elts : List Expr} {kk : Nat} (hx : x = Str.ofString "enumerate") (hg : Gl X x) (mg : ∀ x ∈ bltNames, X.mg (Str.ofString x) = none) (ha : PE X l (tE X.K C a)) (hp : plainX l = true) : PI X (.Tuple elts kk tpos) (.Call (.Name x p) [l] [] pos) (tI X.K C (.enum a)) := by
  subst hx
  refine PI.imp (pi_enum hg (mg "enumerate" (by decide)) (l_cons (es := .nil) ha hp l_nil) (by rw [starEach_cons hp]; rfl)) fun σ H Q ⟨φ, h, env, xs, g, h', R, E, ev, lk, k⟩ => ?_
  simp only [evI] at ev
  split at ev
  · rename_i ys h1 hx
    cases ev
    refine ⟨φ, h, env, [.v (.lst ys)], h', R, E, by simp only [evL, hx], fun vs H1 φ1 R1 X1 s1 => ?_⟩
    cases s1 with
    | cons r t =>
      cases t
      have r : VR X.K (Mt φ1 h') H1 _ (.lst ys) := r
      cases r with
      | lst ea m hz rr => exact ⟨_, _, rfl, SqL.of ea, k _ H1 φ1 R1 X1 (its_enum ea m rr)⟩
  · cases ev
theorem l_zip {a b : Ex} {l r : Expr} {x : Str} {p pos tpos : Pos} {elts : List Expr} {kk : Nat} (hx : x = Str.ofString "zip") (hg : Gl X x) (mg : ∀ x ∈ bltNames, X.mg (Str.ofString x) = none) (ha : PE X l (tE X.K C a)) (hb : PE X r (tE X.K C b)) (hp : plainX l = true) (hq : plainX r = true) : PI X (.Tuple elts kk tpos) (.Call (.Name x p) [l, r] [] pos) (tI X.K C (.zip a b)) := by
  subst hx
  refine PI.imp (RZ.pi_zipA hg (mg "zip" (by decide)) (l_cons (es := .cons b .nil) ha hp (l_cons hb hq l_nil)) (starEach_cons hp) (by rw [starEach_cons hq]; rfl)) fun σ H Q ⟨φ, h, env, xs, g, h', R, E, ev, lk, k⟩ => ?_
  simp only [evI] at ev
  split at ev
  · rename_i u h1 hx
    split at ev
    · rename_i w h2 hy
      rw [Option.map_eq_some_iff] at ev
      obtain ⟨zs, ez, e2⟩ := ev
      cases e2
      refine ⟨φ, h, env, [.v u, .v w], h', R, E, by simp only [evL, hx, hy], fun vs H1 φ1 R1 X1 s1 => ?_⟩
      cases s1 with
      | cons r1 t =>
        cases t with
        | cons r2 t =>
          cases t
          have r1 : VR X.K (Mt φ1 h') H1 _ u := r1
          have r2 : VR X.K (Mt φ1 h') H1 _ w := r2
          unfold zipP at ez
          split at ez
          · cases ez
            cases r1 with
            | lst ea m hz rr =>
              cases r2 with
              | lst ea2 m2 hz2 rr2 => exact ⟨_, _, _, _, rfl, .inl ⟨SqL.of ea, SqL.of ea2, k _ H1 φ1 R1 X1 (its_zip ea m rr ea2 m2 rr2)⟩⟩
          · cases ez
            cases r1 with
            | tup ea m hz rr =>
              cases r2 with
              | tup ea2 m2 hz2 rr2 => exact ⟨_, _, _, _, rfl, .inr ⟨SqT.of ea, SqT.of ea2, k _ H1 φ1 R1 X1 (its_zipT ea rr ea2 rr2)⟩⟩
          · cases ez
    · cases ev
  · cases ev
end
end Ev

set_option Elab.async false
set_option linter.all false
set_option maxRecDepth 100000
namespace Ev
open PySem PySem.Spec PyProof.Rows L2

/-! ### slots forgotten -/
theorem wipe_set {σ : L2.St} {i : Nat} {x : Option V} : ∀ {vs : List Nat}, i ∈ vs → wipe (σ.set i x) vs = wipe σ vs
  | v :: vs, h => by
    unfold wipe
    by_cases hv : v = i
    · subst hv
      by_cases hm : v ∈ vs
      · rw [wipe_set hm]
      · have : ∀ (vs : List Nat), v ∉ vs → wipe (σ.set v x) vs = (wipe σ vs).set v x := by
          intro vs
          induction vs with
          | nil => intro _; rfl
          | cons w ws ih =>
            intro hn
            rw [List.mem_cons, not_or] at hn
            unfold wipe
            rw [ih hn.2, List.set_comm _ _ hn.1]
        rw [this vs hm, List.set_set]
    · have hm : i ∈ vs := by
        rcases List.mem_cons.mp h with e | h
        · exact absurd e.symm hv
        · exact h
      rw [wipe_set hm]
theorem wipe_idem {σ : L2.St} : ∀ (vs ws : List Nat), (∀ v ∈ vs, v ∈ ws) → wipe (wipe σ vs) ws = wipe σ ws
  | [], ws, _ => rfl
  | v :: vs, ws, h => by
    show wipe ((wipe σ vs).set v none) ws = _
    rw [wipe_set (h v List.mem_cons_self)]
    exact wipe_idem vs ws fun x hx => h x (List.mem_cons_of_mem _ hx)
section
variable {K : PySem.W.Frag} {φ : List Addr} {h : AH} {H : Hp}
theorem ER.wipe {e : En} {σ : L2.St} (E : ER K φ h H e σ) : ∀ vs : List Nat, ER K φ h H (wipeE e vs) (L2.wipe σ vs)
  | [] => E
  | v :: vs => by
    have := ER.wipe E vs
    unfold wipeE L2.wipe
    refine ⟨by simp [this.len], fun j t e1 => ?_⟩
    by_cases hj : v = j
    · subst hj
      by_cases hl : v < (wipeE e vs).length
      · rw [List.getElem?_set_self hl] at e1; cases e1
      · rw [List.getElem?_eq_none (by simpa using hl)] at e1; cases e1
    · rw [List.getElem?_set_ne hj] at e1
      rw [List.getElem?_set_ne hj]
      exact this.at_ j t e1
end

/-! ### targets -/
def tgN : Tg → List Nat
  | .nm i => [i]
  | .tp is => is
def gNames : List Nat → TGs
  | [] => gNil
  | i :: is => gCons (gName i) (gNames is)
def tG (K : PySem.W.Frag) (t : Tg) : TG := fun v σ H Q => ∃ φ h env s env', HR K φ h H ∧ ER K φ h H env σ ∧ SR K φ h H v s ∧ asgT t s env = some env' ∧
  ∀ σ', ER K φ h H env' σ' → (∀ own : List Nat, (∀ j ∈ tgN t, j ∈ own) → wipe σ' own = wipe σ own) → Q σ' H
theorem gNames_run {K : PySem.W.Frag} {φ : List Addr} {h : AH} {H : Hp} {Q : L2.St → Hp → Prop} : ∀ {is : List Nat} {vs : List V} {ps : List PV} {env : En} {σ : L2.St}, VRs K (Mt φ h) H vs ps → ps.length = is.length → ER K φ h H env σ →
    (∀ σ', ER K φ h H ((is.zip ps).foldl (fun e ip => e.set ip.1 (some (.v ip.2))) env) σ' → (∀ own : List Nat, (∀ j ∈ is, j ∈ own) → wipe σ' own = wipe σ own) → Q σ' H) → gNames is vs σ H Q
  | [], vs, ps, env, σ, r, hl, E, k => by
    have : ps = [] := List.eq_nil_of_length_eq_zero hl
    subst this
    cases r
    exact ⟨rfl, k σ E fun _ _ => rfl⟩
  | i :: is, vs, ps, env, σ, r, hl, E, k => by
    cases r with
    | nil => cases hl
    | @cons v p vs ps r t =>
      refine ⟨v, vs, rfl, ?_⟩
      show gNames is vs (σ.set i (some v)) H Q
      refine gNames_run t (by simpa using hl) (E.set i (s := .v p) r) fun σ' E' hw => k σ' E' fun own ho => ?_
      rw [hw own fun j hj => ho j (List.mem_cons_of_mem _ hj), wipe_set (ho i List.mem_cons_self)]
section
variable {X : Cx} {C : Calls} {sc : Scope} {N : List Str}
theorem names_ok (S : ScOk sc X) (hN : X.N = N) (nd : N.Nodup) : ∀ {is : List Nat} {es : List Expr}, tgB.go N sc is es = true →
    PGs X es (gNames is) ∧ (assignEach es X.env).length = is.length ∧ (assignEach es X.env).findIdx? (·.1) = none
  | [], [], _ => ⟨pgs_nil, rfl, rfl⟩
  | [], _ :: _, h => by simp [tgB.go] at h
  | _ :: _, [], h => by simp [tgB.go] at h
  | i :: is, e :: es, h => by
    cases e <;> first | (simp [tgB.go] at h; done) | skip
    rename_i x p
    simp only [tgB.go, Bool.and_eq_true, decide_eq_true_eq] at h
    obtain ⟨⟨h1, h2⟩, h3⟩ := h
    obtain ⟨a, b, c⟩ := names_ok S hN nd h3
    obtain ⟨l1, l2⟩ := S.loc x h2
    subst hN
    refine ⟨pgs_cons (pg_name nd h1 l1 l2) a rfl, ?_, ?_⟩
    · show (assignEach es X.env).length + 1 = _
      rw [b]; rfl
    · show List.findIdx? (fun x => x.1) ((false, assign (.Name x p) X.env) :: assignEach es X.env) = none
      rw [List.findIdx?_cons, c]
      rfl
theorem asgT_tp {is : List Nat} {s : SV} {e e' : En} (ev : asgT (.tp is) s e = some e') : ∃ ps, (s = .v (.tup ps) ∨ s = .v (.lst ps)) ∧ ps.length = is.length ∧ e' = (is.zip ps).foldl (fun e ip => e.set ip.1 (some (.v ip.2))) e := by
  cases s with
  | o i => simp [asgT] at ev
  | v p =>
    cases p <;> first | (simp [asgT] at ev; done) | skip
    · rename_i ps
      simp only [asgT] at ev
      split at ev
      · rename_i hl; cases ev; exact ⟨ps, .inl rfl, hl, rfl⟩
      · cases ev
    · rename_i ps
      simp only [asgT] at ev
      split at ev
      · rename_i hl; cases ev; exact ⟨ps, .inr rfl, hl, rfl⟩
      · cases ev
theorem tpB {is : List Nat} {es : List Expr} {k : Nat} {p : Pos} (h : tgB N sc (.tp is) (.Tuple es k p) = true) : tgB.go N sc is es = true := h
theorem l_tg (G : X.calm = true) (S : ScOk sc X) (hN : X.N = N) (nd : N.Nodup) {t : Tg} {e : Expr} (hm : tgB N sc t e = true) : PG X e (tG X.K t) := by
  cases t with
  | nm i =>
    cases e <;> first | (simp [tgB] at hm; done) | skip
    rename_i x p
    simp only [tgB, Bool.and_eq_true, decide_eq_true_eq] at hm
    obtain ⟨l1, l2⟩ := S.loc x hm.2
    subst hN
    refine PG.imp (pg_name nd hm.1 l1 l2) fun v σ H Q ⟨φ, h, env, s, env', R, E, r, ev, k⟩ => ?_
    cases ev
    exact k _ (E.set i r) fun own ho => wipe_set (ho i (by simp [tgN]))
  | tp is =>
    cases e <;> first | (simp [tgB] at hm; done) | skip
    rename_i es kk p
    obtain ⟨a, b, c⟩ := names_ok S hN nd (tpB hm)
    have two : PG X (.Tuple es kk p) (fun v σ H Q => gTup X.K is.length (gNames is) v σ H Q ∨ gUnl X.K is.length (gNames is) v σ H Q) :=
      ⟨fun pins s σ H v u R I r w => w.elim ((pg_tup G a b c).run pins s σ H v u R I r) ((pg_unl G a b c).run pins s σ H v u R I r)⟩
    refine PG.imp two fun v σ H Q ⟨φ, h, env, s, env', R, E, r, ev, k⟩ => ?_
    obtain ⟨ps, hs, hl, rfl⟩ := asgT_tp ev
    rcases hs with rfl | rfl
    · have r : VR X.K (Mt φ h) H v (.tup ps) := r
      cases r with
      | tup ea m hz rr => exact .inl ⟨_, _, rfl, SqT.of ea, by rw [rr.length]; exact hl, gNames_run rr hl E k⟩
    · have r : VR X.K (Mt φ h) H v (.lst ps) := r
      cases r with
      | lst ea m hz rr => exact .inr ⟨_, _, rfl, SqL.of ea, by rw [rr.length]; exact hl, gNames_run rr hl E k⟩
end

/-! ### locking a dict -/
section
variable {K : PySem.W.Frag} {φ : List Addr} {h : AH} {H : Hp}
/-- the same things, another heap -/
theorem HR.swap (R : HR K φ h H) {H' : Hp} (x : Ex1 (Mt φ h) H (Mt φ h) H') (hm : ∀ a o, Mt φ h a → H a = some o → H' a = some o) : HR K φ h H' := by
  refine ⟨R.len, fun i c a e ea => ?_, R.inj⟩
  have q := R.cell i c a e ea
  cases c with
  | lst xs => obtain ⟨vs, q, r, z⟩ := q; exact ⟨vs, hm a _ ⟨i, _, e, rfl, ea⟩ q, r.mono x, z⟩
  | dict xs => obtain ⟨vs, q, r, z⟩ := q; exact ⟨vs, hm a _ ⟨i, _, e, rfl, ea⟩ q, r.mono x, z⟩
  | frz p => obtain ⟨r, m, z⟩ := q; exact ⟨VR.mono x r, m, x.ne a z m⟩
theorem SR.swap {v : V} {s : SV} {H' : Hp} (r : SR K φ h H v s) (x : Ex1 (Mt φ h) H (Mt φ h) H') : SR K φ h H' v s := by
  cases s with
  | v p => exact VR.mono x r
  | o i => exact r
theorem ER.swap {e : En} {σ : L2.St} {H' : Hp} (E : ER K φ h H e σ) (x : Ex1 (Mt φ h) H (Mt φ h) H') : ER K φ h H' e σ :=
  ⟨E.len, fun i s q => let ⟨v, a, b⟩ := E.at_ i s q; ⟨v, a, b.swap x⟩⟩
theorem lock_ex {d : Addr} {od : Obj} {ks : List (Key × V)} (e : H d = some (.dK ks)) : Ex1 (Mt φ h) H (Mt φ h) (upd H d (.frz od (.dK ks))) where
  rdl := fun a xs r m => by
    by_cases ha : a = d
    · subst ha
      rcases r with r | ⟨o, r⟩ <;> rw [e] at r <;> cases r
    · rcases r with r | ⟨o, r⟩
      · exact .inl (by rw [upd_ne ha]; exact r)
      · exact .inr ⟨o, by rw [upd_ne ha]; exact r⟩
  rdk := fun a xs r m => by
    by_cases ha : a = d
    · subst ha
      rcases r with r | ⟨o, r⟩ <;> rw [e] at r <;> cases r
      exact .inr ⟨od, upd_same⟩
    · rcases r with r | ⟨o, r⟩
      · exact .inl (by rw [upd_ne ha]; exact r)
      · exact .inr ⟨o, by rw [upd_ne ha]; exact r⟩
  lst := fun a xs r m => by rw [upd_ne (fun z => by subst z; rw [e] at r; cases r)]; exact r
  tup := fun a xs r => by rw [upd_ne (fun z => by subst z; rw [e] at r; cases r)]; exact r
  ne := fun a r m => by
    by_cases ha : a = d
    · subst ha; rw [upd_same]; simp
    · rw [upd_ne ha]; exact r
  mt := fun a z => .inl z
theorem unlock_ex {d : Addr} {od : Obj} {ks : List (Key × V)} (e : H d = some (.frz od (.dK ks))) : Ex1 (Mt φ h) H (Mt φ h) (upd H d (.dK ks)) where
  rdl := fun a xs r m => by
    by_cases ha : a = d
    · subst ha
      rcases r with r | ⟨o, r⟩ <;> rw [e] at r <;> cases r
    · rcases r with r | ⟨o, r⟩
      · exact .inl (by rw [upd_ne ha]; exact r)
      · exact .inr ⟨o, by rw [upd_ne ha]; exact r⟩
  rdk := fun a xs r m => by
    by_cases ha : a = d
    · subst ha
      rcases r with r | ⟨o, r⟩ <;> rw [e] at r <;> cases r
      exact .inl upd_same
    · rcases r with r | ⟨o, r⟩
      · exact .inl (by rw [upd_ne ha]; exact r)
      · exact .inr ⟨o, by rw [upd_ne ha]; exact r⟩
  lst := fun a xs r m => by rw [upd_ne (fun z => by subst z; rw [e] at r; cases r)]; exact r
  tup := fun a xs r => by rw [upd_ne (fun z => by subst z; rw [e] at r; cases r)]; exact r
  ne := fun a r m => by
    by_cases ha : a = d
    · subst ha; rw [upd_same]; simp
    · rw [upd_ne ha]; exact r
  mt := fun a z => .inl z
/-- from the heap with d locked back to the one with d not -/
theorem unlock_all {φ' : List Addr} {h' : AH} {H' : Hp} {d : Addr} {od : Obj} {ks : List (Key × V)} (ed : H d = some (.dK ks)) (md : ¬ Mt φ h d) (R' : HR K φ' h' H') (X' : Ext φ h (upd H d (.frz od (.dK ks))) φ' h' H') :
    H' d = some (.frz od (.dK ks)) ∧ HR K φ' h' (upd H' d (.dK ks)) ∧ Ext φ h H φ' h' (upd H' d (.dK ks)) ∧ (∀ v s, SR K φ' h' H' v s → SR K φ' h' (upd H' d (.dK ks)) v s) ∧ ∀ e σ, ER K φ' h' H' e σ → ER K φ' h' (upd H' d (.dK ks)) e σ := by
  have e1 : H' d = some (.frz od (.dK ks)) := X'.2.2 d _ upd_same md
  have md' : ¬ Mt φ' h' d := fun z => (X'.1.mt d z).elim md fun n => by rw [upd_same] at n; cases n
  have ux := unlock_ex (φ := φ') (h := h') e1
  refine ⟨e1, R'.swap ux fun a o m q => ?_, ⟨?_, X'.2.1, fun a o q m => ?_⟩, fun v s r => r.swap ux, fun e σ E => E.swap ux⟩
  · rw [upd_ne (fun z => by subst z; exact md' m)]; exact q
  · exact ((lock_ex (φ := φ) (h := h) (od := od) ed).trans X'.1).trans ux
  · by_cases ha : a = d
    · subst ha; rw [ed] at q; cases q; exact upd_same
    · rw [upd_ne ha]
      exact X'.2.2 a o (by rw [upd_ne ha]; exact q) m
end
end Ev

set_option Elab.async false
set_option linter.all false
set_option maxRecDepth 100000
namespace Ev
open PySem PySem.Spec PyProof.Rows L2

section
variable {X : Cx} {C : Calls}
theorem wipe_tgs {own : List Nat} : ∀ {σ : L2.St}, wipe (wipe σ own) own = wipe σ own := fun {σ} => wipe_idem own own fun _ h => h
theorem rdVar_idem {z : Bool} {h h0 : AH} {s t : SV} (e : rdVar z h s = some (t, h0)) : rdVar z h0 s = some (t, h0) := by
  cases s with
  | v p => cases e; rfl
  | o j =>
    simp only [rdVar] at e
    split at e
    · rename_i p hc; cases e; simp only [rdVar, hc]
    · rename_i xs hc
      split at e
      · cases e
        simp only [rdVar, List.getElem?_set_self (List.getElem?_eq_some_iff.mp hc).1]
      · rename_i hz; cases e; simp only [rdVar, hc, hz]; rfl
    · rename_i xs hc
      split at e
      · cases e
        simp only [rdVar, List.getElem?_set_self (List.getElem?_eq_some_iff.mp hc).1]
      · rename_i hz; cases e; simp only [rdVar, hc, hz]; rfl
    · cases e
/-- the turns of a comprehension -/
def turnE (C : Calls) (elt : Ex) (own : List Nat) (tg : Tg) (ifs : Ts) (e : En) (x : PV) (h : AH) : Option (Option PV × AH) :=
  match asgT tg (.v x) (wipeE e own) with
  | none => none
  | some e2 => match evT C ifs e2 h with
    | none => none
    | some (false, h2) => some (none, h2)
    | some (true, h2) => match evE C elt e2 h2 with
      | some (.v y, h3) => some (some y, h3)
      | _ => none
theorem comp_inv {m : Bool} {elt : Ex} {own : List Nat} {tg : Tg} {it : Itr} {ifs : Ts} {e : En} {h h' : AH} {sv : SV} (ev : evE C (.comp m elt own tg it ifs) e h = some (sv, h')) :
    ∃ xs g h1 h2, evI C it e h = some (xs, g, h1) ∧ loopC (turnE C elt own tg ifs e) (guardOk xs g) h1.length xs (h1 ++ [.lst []]) = some h2 ∧ finL m h1.length h2 = some (sv, h') := by
  simp only [evE] at ev
  split at ev
  · cases ev
  · rename_i xs g h1 hI
    split at ev
    · cases ev
    · rename_i h2 hl
      exact ⟨xs, g, h1, h2, hI, hl, ev⟩
theorem turn_inv {elt : Ex} {own : List Nat} {tg : Tg} {ifs : Ts} {e : En} {x : PV} {h h' : AH} {r : Option PV} (ev : turnE C elt own tg ifs e x h = some (r, h')) :
    ∃ e2, asgT tg (.v x) (wipeE e own) = some e2 ∧ ((r = none ∧ evT C ifs e2 h = some (false, h')) ∨ ∃ y h2, r = some y ∧ evT C ifs e2 h = some (true, h2) ∧ evE C elt e2 h2 = some (.v y, h')) := by
  unfold turnE at ev
  split at ev
  · cases ev
  · rename_i e2 ha
    refine ⟨e2, ha, ?_⟩
    split at ev
    · cases ev
    · rename_i h2 ht; cases ev; exact .inl ⟨rfl, ht⟩
    · rename_i h2 ht
      split at ev
      · rename_i y h3 he; cases ev; exact .inr ⟨y, h2, rfl, ht, he⟩
      · cases ev
theorem cell_j {φ φ2 : List Addr} {h h2 : AH} {H H2 : Hp} {j : Nat} {D : Addr} (x : Ext φ h H φ2 h2 H2) (e : φ[j]? = some D) : φ2[j]? = some D := by
  obtain ⟨_, ⟨t, rfl⟩, _⟩ := x
  rw [List.getElem?_append_left (List.getElem?_eq_some_iff.mp e).1]; exact e
theorem comp_fin {K : PySem.W.Frag} {φ φ2 : List Addr} {h h1 h2 h' : AH} {H H2 : Hp} {m : Bool} {D : Addr} {sv : SV} {Q : VK} (R2 : HR K φ2 h2 H2) (X2 : Ext φ h H φ2 h2 H2) (hl : φ.length ≤ h1.length) (ej : φ2[h1.length]? = some D) (ev : finL m h1.length h2 = some (sv, h')) (k : Kont K φ h H h' sv Q) : Q (.ref D) H2 := by
  unfold finL at ev
  split at ev
  · rename_i ys hc
    obtain ⟨ws, q, r, z⟩ := R2.cell _ _ D hc ej
    cases m with
    | true =>
      rw [if_pos rfl] at ev
      cases ev
      refine k _ H2 _ (R2.take (h1.length + 1)) (X2.take (by omega)) ⟨D, rfl, ?_⟩
      rw [List.getElem?_take, if_pos (by omega)]
      exact ej
    | false =>
      rw [if_neg Bool.false_ne_true] at ev
      cases ev
      refine k _ H2 _ (R2.take h1.length) (X2.take hl) (.lst q ?_ z ?_)
      · rintro ⟨i, c, e1, m1, a1⟩
        rw [List.getElem?_take] at e1 a1
        split at e1
        · rename_i hi
          rw [if_pos hi] at a1
          have := R2.inj i h1.length c _ D e1 hc m1 rfl a1 ej
          omega
        · cases e1
      · exact r.mono ⟨fun _ _ q _ => q, fun _ _ q _ => q, fun _ _ q _ => q, fun _ _ q => q, fun _ q _ => q, fun _ z => .inl (Mt.take z)⟩
  · cases ev
theorem comp_sound {K : PySem.W.Frag} {m : Bool} {elt : Ex} {own : List Nat} {tg : Tg} {it : Itr} {ifs : Ts} {σ : L2.St} {H : Hp} {Q : VK} (ho : ∀ j ∈ tgN tg, j ∈ own) (w : tE K C (.comp m elt own tg it ifs) σ H Q) (lk : Lkd it σ H) :
    tLc (tI K C it) (tG K tg) (tT K C ifs) (tE K C elt) own σ H Q := by
  obtain ⟨φ, h, env, sv, h', R, E, ev, k⟩ := w
  obtain ⟨xs, g, h1, h2, hI, hL, hF⟩ := comp_inv ev
  refine ⟨φ, h, env, xs, g, h1, R, E, hI, lk, fun J H1 φ1 R1 X1 its D nD => ?_⟩
  have xp := Ext.push R1 nD (.lst []) (.lst [])
  have Rp := R1.push nD (.lst []) (.lst []) ⟨[], upd_same, .nil, Nat.zero_le _⟩
  have ejp : (φ1 ++ [D])[h1.length]? = some D := by
    rw [List.getElem?_append_right (by rw [R1.len]; exact Nat.le_refl _), R1.len, Nat.sub_self]; rfl
  let W : Nat → Nat → Hp → Prop := fun i mm Hc => mm = xs.length - i ∧ i ≤ xs.length ∧ ∃ φc hc, HR K φc hc Hc ∧ Ext φ1 h1 H1 φc hc Hc ∧ φc[h1.length]? = some D ∧ loopC (turnE C elt own tg ifs env) (guardOk xs g) h1.length (xs.drop i) hc = some h2
  refine ⟨W, ⟨xs.length, by simp, Nat.zero_le _, _, _, Rp, xp, ejp, by rw [List.drop_zero]; exact hL⟩, ?_⟩
  rintro i mm Hc ⟨rfl, hi, φc, hc, Rc, Xc, ej, hLc⟩
  have hl1 : φ.length ≤ h1.length := by
    obtain ⟨_, ⟨t, ht⟩, _⟩ := X1
    rw [← R1.len, ht, List.length_append]; omega
  by_cases hlt : i < xs.length
  · right
    rw [List.drop_eq_getElem_cons hlt] at hLc
    simp only [loopC] at hLc
    split at hLc
    · rename_i hok
      obtain ⟨it1, it2⟩ := its φc hc Hc Rc Xc hok
      obtain ⟨go, yl⟩ := it1 i xs[i] (List.getElem?_eq_getElem hlt)
      refine ⟨go, fun H' => W (i + 1) (xs.length - (i + 1)) H', fun H' w => ⟨xs.length - (i + 1), by omega, w⟩, fun x H3 y => ?_⟩
      obtain ⟨R3, X3, r3⟩ := yl x H3 y
      split at hLc
      · cases hLc
      · rename_i h4 hturn
        obtain ⟨e2, ha, hb⟩ := turn_inv hturn
        rcases hb with ⟨_, ht⟩ | ⟨y, h5, hy, _⟩
        · refine ⟨φc, hc, _, .v _, e2, R3, (E.mono (X1.trans (Xc.trans X3))).wipe own, r3, ha, fun σ2 E2 hw => ⟨(hw own ho).trans wipe_tgs, φc, hc, e2, false, h4, R3, E2, ht, fun H4 φ4 R4 X4 => ?_⟩⟩
          refine iteF (A := tE K C elt σ2 H4 _) (B := W (i + 1) (xs.length - (i + 1)) H4) ?_
          exact ⟨rfl, hlt, φ4, h4, R4, Xc.trans (X3.trans X4), cell_j (X3.trans X4) ej, hLc⟩
        · cases hy
      · rename_i yv h4 hturn
        obtain ⟨e2, ha, hb⟩ := turn_inv hturn
        rcases hb with ⟨hy, _⟩ | ⟨y, h5, hy, ht, he⟩
        · cases hy
        · cases hy
          split at hLc
          · rename_i acc hacc
            split at hLc
            · rename_i hsz
              refine ⟨φc, hc, _, .v _, e2, R3, (E.mono (X1.trans (Xc.trans X3))).wipe own, r3, ha, fun σ2 E2 hw => ⟨(hw own ho).trans wipe_tgs, φc, hc, e2, true, h5, R3, E2, ht, fun H4 φ4 R4 X4 => ?_⟩⟩
              refine iteT (A := tE K C elt σ2 H4 _) (B := W (i + 1) (xs.length - (i + 1)) H4) ?_
              refine ⟨φ4, h5, e2, .v yv, h4, R4, E2.mono X4, he, fun v H5 φ5 R5 X5 s5 => ?_⟩
              have ej5 := cell_j (X3.trans (X4.trans X5)) ej
              obtain ⟨ws, q, r, z⟩ := R5.cell _ _ D hacc ej5
              have xx := Ext.put (d := .lst (acc ++ [yv])) (o := .lst (ws ++ [v])) R5 hacc rfl ej5
              have rr := (r.append (.cons s5 .nil)).mono xx.1
              refine ⟨ws, q, by rw [r.length]; exact hsz, rfl, hlt, φ5, _, R5.put (d := .lst (acc ++ [yv])) (o := .lst (ws ++ [v])) hacc rfl ej5 ⟨ws ++ [v], upd_same, rr, by rw [List.length_append]; exact hsz⟩, Xc.trans (X3.trans (X4.trans (X5.trans xx))), ej5, hLc⟩
            · cases hLc
          · cases hLc
    · cases hLc
  · left
    have e : i = xs.length := by omega
    subst e
    rw [List.drop_length] at hLc
    simp only [loopC] at hLc
    split at hLc
    · rename_i hok
      cases hLc
      exact ⟨(its φc _ Hc Rc Xc hok).2, comp_fin Rc (X1.trans Xc) hl1 ej hF k⟩
    · cases hLc
/-- a dict that is walked is not locked yet -/
theorem walk_dict {K : PySem.W.Frag} {i : Nat} {z : Bool} {σ : L2.St} {H : Hp} {φ : List Addr} {h : AH} {env : En} {xs : List PV} {g : Option Nat} {h1 : AH} {d : Addr} {ks : List (Key × V)} (R : HR K φ h H) (E : ER K φ h H env σ) (ev : evI C (.var i z) env h = some (xs, g, h1)) (e1 : σ[i]? = some (some (.ref d))) (e2 : H d = some (.dK ks)) :
    HR K φ h1 H ∧ Ext φ h H φ h1 H ∧ ¬ Mt φ h1 d ∧ evI C (.var i z) env h1 = some (xs, g, h1) := by
  simp only [evI] at ev
  split at ev
  · rename_i s hs
    split at ev
    · rename_i t h0 hr
      obtain ⟨v, e3, R1, X1, s1⟩ := var_core R E hs hr
      rw [e1] at e3
      cases e3
      cases t with
      | v p =>
        simp only [walkOf, Bool.true_or, if_true, Option.map_eq_some_iff] at ev
        obtain ⟨ys, e4, e5⟩ := ev
        cases e5
        refine ⟨R1, X1, ?_, ?_⟩
        · have s1 : VR K (Mt φ h1) H (.ref d) p := s1
          cases s1 with
          | tup ea m hz r => exact m
          | lst ea m hz r => exact m
          | frl ea hz r => cases e4
          | dict ea m hz r => exact m
        · simp only [evI, hs, rdVar_idem hr, walkOf, Bool.true_or, if_true, e4, Option.map_some]
      | o j =>
        simp only [walkOf] at ev
        split at ev
        · rename_i ys hc
          cases ev
          obtain ⟨a, ea, eb⟩ := s1
          cases ea
          obtain ⟨vs, q, _⟩ := R1.cell j _ _ hc eb
          rw [e2] at q
          cases q
        · cases ev
    · cases ev
  · cases ev
theorem lock_hr {K : PySem.W.Frag} {φ : List Addr} {h : AH} {H : Hp} {d : Addr} {ks : List (Key × V)} {od : Obj} (R : HR K φ h H) (ed : H d = some (.dK ks)) (md : ¬ Mt φ h d) : HR K φ h (upd H d (.frz od (.dK ks))) :=
  R.swap (lock_ex ed) fun a o m q => by rw [upd_ne (fun z => by subst z; exact md m)]; exact q
theorem comp_lock {K : PySem.W.Frag} {m : Bool} {elt : Ex} {own : List Nat} {tg : Tg} {it : Itr} {ifs : Ts} {σ : L2.St} {H : Hp} {Q : VK} (ho : ∀ j ∈ tgN tg, j ∈ own) (w : tE K C (.comp m elt own tg it ifs) σ H Q) (lk : ¬ Lkd it σ H) :
    ∃ d ks, H d = some (.dK ks) ∧ ∀ od, tLc (tI K C it) (tG K tg) (tT K C ifs) (tE K C elt) own σ (upd H d (.frz od (.dK ks))) fun v H' => H' d = some (.frz od (.dK ks)) ∧ Q v (upd H' d (.dK ks)) := by
  cases it <;> first | exact absurd True.intro lk | skip
  rename_i i z
  simp only [Lkd, Classical.not_forall, Classical.not_not] at lk
  obtain ⟨d, ks, e1, e2⟩ := lk
  obtain ⟨φ, h, env, sv, h', R, E, ev, k⟩ := w
  obtain ⟨xs, g, h1, h2, hI, hL, hF⟩ := comp_inv ev
  obtain ⟨R1, X1, md, hI2⟩ := walk_dict R E hI e1 e2
  refine ⟨d, ks, e2, fun od => comp_sound (m := m) ho ⟨φ, h1, env, sv, h', lock_hr R1 e2 md, (E.mono X1).swap (lock_ex e2), ?_, ?_⟩ ?_⟩
  · simp only [evE, hI] at ev
    simp only [evE, hI2]
    exact ev
  · intro v H' φ' R' X' s'
    obtain ⟨a1, a2, a3, a4, a5⟩ := unlock_all e2 md R' X'
    exact ⟨a1, k v _ φ' a2 (X1.trans a3) (a4 v sv s')⟩
  · intro d' ks' e3 e4
    rw [e1] at e3
    cases e3
    rw [upd_same] at e4
    cases e4
theorem l_comp {m : Bool} {elt : Ex} {own : List Nat} {tg : Tg} {it : Itr} {ifs : Ts} {el t i : Expr} {fs : List Expr} {sc2 : Scope} {pos : Pos} {ow : List (Str × Nat)} (hc : X.calm = true) (nd : X.N.Nodup) (eo : ow.map (·.2) = own) (ho : ∀ j ∈ tgN tg, j ∈ own) (hi : PI X t i (tI X.K C it)) (ok : BlkOk X.N X.env.scope sc2 ow)
    (hg : ∀ (s : Shared) (H : Hp) (D : Addr) (cl : List (Str × Addr)) (fp : List Addr), PG (X.blk s H sc2 (compEnvC sc2 cl D X.env) fp) t (tG X.K tg)) (ht : ∀ (s : Shared) (H : Hp) (D : Addr) (cl : List (Str × Addr)) (fp : List Addr), PTs (X.blk s H sc2 (compEnvC sc2 cl D X.env) fp) fs (tT X.K C ifs))
    (he : ∀ (s : Shared) (H : Hp) (D : Addr) (cl : List (Str × Addr)) (fp : List Addr), PE (X.blk s H sc2 (compEnvC sc2 cl D X.env) fp) el (tE X.K C elt)) (hp : plainX i = true) : PE X (.ListComp el [⟨t, i, fs, 0⟩] sc2 pos) (tE X.K C (.comp m elt own tg it ifs)) := by
  have rule := pe_lc (pos := pos) hc nd hi ok hg ht he (plain_fold hp)
  rw [eo] at rule
  refine PE.imp (PE.or rule (pe_lock rule)) fun σ H Q w => ?_
  by_cases lk : Lkd it σ H
  · exact .inl (comp_sound ho w lk)
  · obtain ⟨d, ks, e, f⟩ := comp_lock ho w lk
    exact .inr ⟨d, _, e, True.intro, f⟩

/-! ### comprehensions of two clauses -/
def turn2E (C : Calls) (j : Nat) (elt : Ex) (own own2 : List Nat) (tg tg2 : Tg) (it2 : Itr) (ifs : Ts) (e : En) (x : PV) (h : AH) : Option AH :=
  match asgT tg (.v x) (wipeE e own) with
  | none => none
  | some e2 => match evI C it2 e2 h with
    | none => none
    | some (ys, g2, h2) => loopC (turnE C elt own2 tg2 ifs e2) (guardOk ys g2) j ys h2
theorem comp2_inv {m : Bool} {elt : Ex} {own own2 : List Nat} {tg tg2 : Tg} {it it2 : Itr} {ifs : Ts} {e : En} {h h' : AH} {sv : SV} (ev : evE C (.comp2 m elt own tg it own2 tg2 it2 ifs) e h = some (sv, h')) :
    ∃ xs g h1 h2, evI C it e h = some (xs, g, h1) ∧ loop2 (turn2E C h1.length elt own own2 tg tg2 it2 ifs e) (guardOk xs g) xs (h1 ++ [.lst []]) = some h2 ∧ finL m h1.length h2 = some (sv, h') := by
  simp only [evE] at ev
  split at ev
  · cases ev
  · rename_i xs g h1 hI
    split at ev
    · cases ev
    · rename_i h2 hl
      exact ⟨xs, g, h1, h2, hI, hl, ev⟩
theorem comp2_sound {K : PySem.W.Frag} {m : Bool} {elt : Ex} {own own2 : List Nat} {tg tg2 : Tg} {it it2 : Itr} {ifs : Ts} {σ : L2.St} {H : Hp} {Q : VK} (ho : ∀ j ∈ tgN tg, j ∈ own) (ho2 : ∀ j ∈ tgN tg2, j ∈ own2) (hv2 : ∀ σ H, Lkd it2 σ H) (w : tE K C (.comp2 m elt own tg it own2 tg2 it2 ifs) σ H Q) (lk : Lkd it σ H) :
    tLc2 (tI K C it) (tG K tg) tYes (tI K C it2) (tG K tg2) (tT K C ifs) (tE K C elt) own own2 σ H Q := by
  obtain ⟨φ, h, env, sv, h', R, E, ev, k⟩ := w
  obtain ⟨xs, g, h1, h2, hI, hL, hF⟩ := comp2_inv ev
  refine ⟨φ, h, env, xs, g, h1, R, E, hI, lk, fun J H1 φ1 R1 X1 its D nD => ?_⟩
  have xp := Ext.push R1 nD (.lst []) (.lst [])
  have Rp := R1.push nD (.lst []) (.lst []) ⟨[], upd_same, .nil, Nat.zero_le _⟩
  have ejp : (φ1 ++ [D])[h1.length]? = some D := by
    rw [List.getElem?_append_right (by rw [R1.len]; exact Nat.le_refl _), R1.len, Nat.sub_self]; rfl
  let W : Nat → Nat → Hp → Prop := fun i mm Hc => mm = xs.length - i ∧ i ≤ xs.length ∧ ∃ φc hc, HR K φc hc Hc ∧ Ext φ1 h1 H1 φc hc Hc ∧ φc[h1.length]? = some D ∧ loop2 (turn2E C h1.length elt own own2 tg tg2 it2 ifs env) (guardOk xs g) (xs.drop i) hc = some h2
  refine ⟨W, ⟨xs.length, by simp, Nat.zero_le _, _, _, Rp, xp, ejp, by rw [List.drop_zero]; exact hL⟩, ?_⟩
  rintro i mm Hc ⟨rfl, hi, φc, hc, Rc, Xc, ej, hLc⟩
  have hl1 : φ.length ≤ h1.length := by
    obtain ⟨_, ⟨t, ht⟩, _⟩ := X1
    rw [← R1.len, ht, List.length_append]; omega
  by_cases hlt : i < xs.length
  · right
    rw [List.drop_eq_getElem_cons hlt] at hLc
    simp only [loop2] at hLc
    split at hLc
    · rename_i hok
      obtain ⟨it1, it2'⟩ := its φc hc Hc Rc Xc hok
      obtain ⟨go, yl⟩ := it1 i xs[i] (List.getElem?_eq_getElem hlt)
      refine ⟨go, fun H' => W (i + 1) (xs.length - (i + 1)) H', fun H' w => ⟨xs.length - (i + 1), by omega, w⟩, fun x H3 y => ?_⟩
      obtain ⟨R3, X3, r3⟩ := yl x H3 y
      split at hLc
      · cases hLc
      · rename_i h4 hturn
        unfold turn2E at hturn
        split at hturn
        · cases hturn
        · rename_i e2 ha
          split at hturn
          · cases hturn
          · rename_i ys g2 h5 hI2
            refine ⟨φc, hc, _, .v _, e2, R3, (E.mono (X1.trans (Xc.trans X3))).wipe own, r3, ha, fun σ2 E2 hw => ⟨(hw own ho).trans wipe_tgs, ?_⟩⟩
            refine iteT (A := tI K C it2 σ2 H3 _) (B := W (i + 1) (xs.length - (i + 1)) H3) ?_
            refine ⟨φc, hc, e2, ys, g2, h5, R3, E2, hI2, hv2 _ _, fun J1 H5 φ5 R5 X5 its1 => ?_⟩
            have Xc5 := Xc.trans (X3.trans X5)
            refine ⟨fun j mm Hd => mm = ys.length - j ∧ j ≤ ys.length ∧ ∃ φd hd, HR K φd hd Hd ∧ Ext φ5 h5 H5 φd hd Hd ∧ φd[h1.length]? = some D ∧ loopC (turnE C elt own2 tg2 ifs e2) (guardOk ys g2) h1.length (ys.drop j) hd = some h4,
              ⟨ys.length, by simp, Nat.zero_le _, φ5, h5, R5, Ext.refl, cell_j (X3.trans X5) ej, by rw [List.drop_zero]; exact hturn⟩, ?_⟩
            rintro j mm Hd ⟨rfl, hj, φd, hd, Rd', Xd, ejd, hLd⟩
            have E2d := (E2.mono (X5.trans Xd)).wipe own2
            by_cases hjt : j < ys.length
            · right
              rw [List.drop_eq_getElem_cons hjt] at hLd
              simp only [loopC] at hLd
              split at hLd
              · rename_i hok2
                obtain ⟨jt1, jt2⟩ := its1 φd hd Hd Rd' Xd hok2
                obtain ⟨go2, yl2⟩ := jt1 j ys[j] (List.getElem?_eq_getElem hjt)
                refine ⟨go2, fun H' => (ys.length - (j + 1)) = ys.length - (j + 1) ∧ j + 1 ≤ ys.length ∧ ∃ φd hd, HR K φd hd H' ∧ Ext φ5 h5 H5 φd hd H' ∧ φd[h1.length]? = some D ∧ loopC (turnE C elt own2 tg2 ifs e2) (guardOk ys g2) h1.length (ys.drop (j + 1)) hd = some h4, fun H' w => ⟨ys.length - (j + 1), by omega, w⟩, fun z H6 y2 => ?_⟩
                obtain ⟨R6, X6, r6⟩ := yl2 z H6 y2
                split at hLd
                · cases hLd
                · rename_i h7 hturn2
                  obtain ⟨e3, ha3, hb3⟩ := turn_inv hturn2
                  rcases hb3 with ⟨_, ht⟩ | ⟨yy, h8, hy, _⟩
                  · refine ⟨φd, hd, _, .v _, e3, R6, E2d.mono X6, r6, ha3, fun σ3 E3 hw3 => ⟨(hw3 own2 ho2).trans wipe_tgs, φd, hd, e3, false, h7, R6, E3, ht, fun H7 φ7 R7 X7 => ?_⟩⟩
                    simp only [Bool.false_eq_true, if_false]
                    exact ⟨trivial, hjt, φ7, h7, R7, Xd.trans (X6.trans X7), cell_j (X6.trans X7) ejd, hLd⟩
                  · cases hy
                · rename_i yv h7 hturn2
                  obtain ⟨e3, ha3, hb3⟩ := turn_inv hturn2
                  rcases hb3 with ⟨hy, _⟩ | ⟨yy, h8, hy, ht, he⟩
                  · cases hy
                  · cases hy
                    split at hLd
                    · rename_i acc hacc
                      split at hLd
                      · rename_i hsz
                        refine ⟨φd, hd, _, .v _, e3, R6, E2d.mono X6, r6, ha3, fun σ3 E3 hw3 => ⟨(hw3 own2 ho2).trans wipe_tgs, φd, hd, e3, true, h8, R6, E3, ht, fun H7 φ7 R7 X7 => ?_⟩⟩
                        simp only [if_true]
                        refine ⟨φ7, h8, e3, .v yv, h7, R7, E3.mono X7, he, fun v H8 φ8 R8 X8 s8 => ?_⟩
                        have ej8 := cell_j (X6.trans (X7.trans X8)) ejd
                        obtain ⟨ws, q, r, z⟩ := R8.cell _ _ D hacc ej8
                        have xx := Ext.put (d := .lst (acc ++ [yv])) (o := .lst (ws ++ [v])) R8 hacc rfl ej8
                        have rr := (r.append (.cons s8 .nil)).mono xx.1
                        exact ⟨ws, q, by rw [r.length]; exact hsz, trivial, hjt, φ8, _, R8.put (d := .lst (acc ++ [yv])) (o := .lst (ws ++ [v])) hacc rfl ej8 ⟨ws ++ [v], upd_same, rr, by rw [List.length_append]; exact hsz⟩, Xd.trans (X6.trans (X7.trans (X8.trans xx))), ej8, hLd⟩
                      · cases hLd
                    · cases hLd
              · cases hLd
            · left
              have e : j = ys.length := by omega
              subst e
              rw [List.drop_length] at hLd
              simp only [loopC] at hLd
              split at hLd
              · rename_i hok2
                cases hLd
                exact ⟨(its1 φd _ Hd Rd' Xd hok2).2, rfl, hlt, φd, _, Rd', Xc5.trans Xd, ejd, hLc⟩
              · cases hLd
    · cases hLc
  · left
    have e : i = xs.length := by omega
    subst e
    rw [List.drop_length] at hLc
    simp only [loop2] at hLc
    split at hLc
    · rename_i hok
      cases hLc
      exact ⟨(its φc _ Hc Rc Xc hok).2, comp_fin Rc (X1.trans Xc) hl1 ej hF k⟩
    · cases hLc

theorem comp2_lock {K : PySem.W.Frag} {m : Bool} {elt : Ex} {own own2 : List Nat} {tg tg2 : Tg} {it it2 : Itr} {ifs : Ts} {σ : L2.St} {H : Hp} {Q : VK} (ho : ∀ j ∈ tgN tg, j ∈ own) (ho2 : ∀ j ∈ tgN tg2, j ∈ own2) (hv2 : ∀ σ H, Lkd it2 σ H) (w : tE K C (.comp2 m elt own tg it own2 tg2 it2 ifs) σ H Q) (lk : ¬ Lkd it σ H) :
    ∃ d ks, H d = some (.dK ks) ∧ ∀ od, tLc2 (tI K C it) (tG K tg) tYes (tI K C it2) (tG K tg2) (tT K C ifs) (tE K C elt) own own2 σ (upd H d (.frz od (.dK ks))) fun v H' => H' d = some (.frz od (.dK ks)) ∧ Q v (upd H' d (.dK ks)) := by
  cases it <;> first | exact absurd True.intro lk | skip
  rename_i i z
  simp only [Lkd, Classical.not_forall, Classical.not_not] at lk
  obtain ⟨d, ks, e1, e2⟩ := lk
  obtain ⟨φ, h, env, sv, h', R, E, ev, k⟩ := w
  obtain ⟨xs, g, h1, h2, hI, hL, hF⟩ := comp2_inv ev
  obtain ⟨R1, X1, md, hI2⟩ := walk_dict R E hI e1 e2
  refine ⟨d, ks, e2, fun od => comp2_sound (m := m) ho ho2 hv2 ⟨φ, h1, env, sv, h', lock_hr R1 e2 md, (E.mono X1).swap (lock_ex e2), ?_, ?_⟩ ?_⟩
  · simp only [evE, hI] at ev
    simp only [evE, hI2]
    exact ev
  · intro v H' φ' R' X' s'
    obtain ⟨a1, a2, a3, a4, a5⟩ := unlock_all e2 md R' X'
    exact ⟨a1, k v _ φ' a2 (X1.trans a3) (a4 v sv s')⟩
  · intro d' ks' e3 e4
    rw [e1] at e3
    cases e3
    rw [upd_same] at e4
    cases e4
theorem l_comp2 {m : Bool} {elt : Ex} {own own2 : List Nat} {tg tg2 : Tg} {it it2 : Itr} {ifs : Ts} {el t i t2 i2 : Expr} {fs : List Expr} {sc2 : Scope} {pos : Pos} {ow : List (Str × Nat)} (hc : X.calm = true) (nd : X.N.Nodup) (eo : ow.map (·.2) = own) (ho : ∀ j ∈ tgN tg, j ∈ own) (ho2 : ∀ j ∈ tgN tg2, j ∈ own2) (hoo : ∀ j ∈ own2, j ∈ own) (hv2 : ∀ σ H, Lkd it2 σ H) (hi : PI X t i (tI X.K C it)) (ok : BlkOk X.N X.env.scope sc2 ow)
    (hg : ∀ (s : Shared) (H : Hp) (D : Addr) (cl : List (Str × Addr)) (fp : List Addr), PG (X.blk s H sc2 (compEnvC sc2 cl D X.env) fp) t (tG X.K tg))
    (hi2 : ∀ (s : Shared) (H : Hp) (D : Addr) (cl : List (Str × Addr)) (fp : List Addr), PI (X.blk s H sc2 (compEnvC sc2 cl D X.env) fp) t2 i2 (tI X.K C it2))
    (hg2 : ∀ (s : Shared) (H : Hp) (D : Addr) (cl : List (Str × Addr)) (fp : List Addr), PG (X.blk s H sc2 (compEnvC sc2 cl D X.env) fp) t2 (tG X.K tg2)) (ht : ∀ (s : Shared) (H : Hp) (D : Addr) (cl : List (Str × Addr)) (fp : List Addr), PTs (X.blk s H sc2 (compEnvC sc2 cl D X.env) fp) fs (tT X.K C ifs))
    (he : ∀ (s : Shared) (H : Hp) (D : Addr) (cl : List (Str × Addr)) (fp : List Addr), PE (X.blk s H sc2 (compEnvC sc2 cl D X.env) fp) el (tE X.K C elt)) (hp : plainX i = true) (hp2 : plainX i2 = true) : PE X (.ListComp el [⟨t, i, [], 0⟩, ⟨t2, i2, fs, 0⟩] sc2 pos) (tE X.K C (.comp2 m elt own tg it own2 tg2 it2 ifs)) := by
  have rule := pe_lc2 (pos := pos) (vs1 := own2) hc nd hi ok (by rw [eo]; exact hoo) hg (fun _ _ _ _ _ => pts_nil) hi2 hg2 ht he (plain_fold hp) (fun env => plain_fold (env := env) hp2)
  rw [eo] at rule
  refine PE.imp (PE.or rule (pe_lock rule)) fun σ H Q w => ?_
  by_cases lk : Lkd it σ H
  · exact .inl (comp2_sound ho ho2 hv2 w lk)
  · obtain ⟨d, ks, e, f⟩ := comp2_lock ho ho2 hv2 w lk
    exact .inr ⟨d, _, e, True.intro, f⟩

/-! ### displays of dicts -/
def prsT (K : PySem.W.Frag) (C : Calls) : Prs → List (TE × TE)
  | .nil => []
  | .cons k v r => (tE K C k, tE K C v) :: prsT K C r
def PRs (K : PySem.W.Frag) (M : Addr → Prop) (H : Hp) : List (V × V) → List (PV × PV) → Prop := Paired fun p q => VR K M H p.1 q.1 ∧ VR K M H p.2 q.2
theorem PRs.mono {K : PySem.W.Frag} {M M' : Addr → Prop} {H H' : Hp} (x : Ex1 M H M' H') : ∀ {ps : List (V × V)} {qs : List (PV × PV)}, PRs K M H ps qs → PRs K M' H' ps qs
  | _, _, .nil => .nil
  | _, _, .cons r t => .cons ⟨r.1.mono x, r.2.mono x⟩ (PRs.mono x t)
theorem pairs_run {K : PySem.W.Frag} {env : En} {σ : L2.St} : ∀ {ks : Prs} {φ : List Addr} {h h' : AH} {H : Hp} {kvs : List (PV × PV)} {Q : List (V × V) → Hp → Prop}, HR K φ h H → ER K φ h H env σ → evD C ks env h = some (kvs, h') →
    (∀ ps H' φ', HR K φ' h' H' → Ext φ h H φ' h' H' → PRs K (Mt φ' h') H' ps kvs → Q ps H') → tPairs (prsT K C ks) σ H Q
  | .nil, φ, h, h', H, kvs, Q, R, E, ev, k => by
    simp only [evD] at ev
    cases ev
    exact k [] H φ R Ext.refl .nil
  | .cons a b r, φ, h, h', H, kvs, Q, R, E, ev, k => by
    simp only [evD] at ev
    split at ev
    · rename_i p h0 hp
      split at ev
      · rename_i x h1 hx
        split at ev
        · cases ev
        · rename_i ys h2 hr
          cases ev
          exact ⟨φ, h, env, _, _, R, E, hp, fun v1 H1 φ1 R1 X1 s1 => ⟨φ1, h0, env, _, _, R1, E.mono X1, hx, fun v2 H2 φ2 R2 X2 s2 => pairs_run R2 (E.mono (X1.trans X2)) hr fun ps H3 φ3 R3 X3 rs =>
            k _ H3 φ3 R3 (X1.trans (X2.trans X3)) (.cons ⟨VR.mono (X2.trans X3).1 s1, VR.mono X3.1 s2⟩ rs)⟩⟩
      · cases ev
    · cases ev
theorem PRs.keys {K : PySem.W.Frag} {M : Addr → Prop} {H : Hp} : ∀ {ps : List (V × V)} {kvs : List (PV × PV)}, PRs K M H ps kvs → (kvs.all fun kv => isKey kv.1) = true → ∃ ks : List (Key × V), ps = ks.map (fun kv => (kV kv.1, kv.2)) ∧ KRs K M H ks kvs
  | _, _, .nil, _ => ⟨[], rfl, .nil⟩
  | _, _, .cons (a := a) (b := b) r t, h => by
    rw [List.all_cons, Bool.and_eq_true] at h
    obtain ⟨ks, rfl, q⟩ := PRs.keys t h.2
    obtain ⟨a1, a2⟩ := a
    obtain ⟨b1, b2⟩ := b
    have e := kV_keyV h.1 r.1
    have e : a1 = kV (keyV b1) := e
    subst e
    exact ⟨(keyV b1, a2) :: ks, rfl, .cons rfl r.1 h.1 rfl r.2 q⟩
theorem l_dnil {m : Bool} {pos : Pos} : PE X (.Dict [] [] pos) (tE X.K C (.dict m .nil)) := by
  refine PE.imp pe_dnewK fun σ H Q ⟨φ, h, env, sv, h', R, E, ev, k⟩ => ?_
  simp only [evE] at ev
  exact new_dicM R .nil (Nat.zero_le _) ev k
theorem l_dict {m : Bool} {a b : Ex} {r : Prs} {keys : List (Option Expr)} {values : List Expr} {pos : Pos} (h : PPs X pos keys values (prsT X.K C (.cons a b r))) (hall : keys.all (·.isSome) = true) (hl : keys.length = values.length) (h0 : keys ≠ [])
    (h15 : keys.length ≤ 15) : PE X (.Dict keys values pos) (tE X.K C (.dict m (.cons a b r))) := by
  refine PE.imp (pe_disp h hall hl h0 h15) fun σ H Q ⟨φ, h, env, sv, h', R, E, ev, k⟩ => ?_
  simp only [evE] at ev
  split at ev
  · cases ev
  · rename_i kvs h1 hD
    split at ev
    · rename_i hk
      rw [Bool.and_eq_true, decide_eq_true_eq] at hk
      intro p n
      have xp := Ext.push R n (.dK []) (.dict [])
      have Rp := R.push n (.dK []) (.dict []) ⟨[], upd_same, .nil, Nat.zero_le _⟩
      have ejp : (φ ++ [p])[h.length]? = some p := by
        rw [List.getElem?_append_right (by rw [R.len]; exact Nat.le_refl _), R.len, Nat.sub_self]; rfl
      refine pairs_run Rp (E.mono xp) hD fun ps H2 φ2 R2 X2 rs => ?_
      obtain ⟨ks, rfl, rk⟩ := rs.keys hk.1
      have ej := cell_j X2 ejp
      unfold finD at ev
      split at ev
      · rename_i hc
        obtain ⟨ks0, q, r0, _⟩ := R2.cell _ _ p hc ej
        cases r0
        refine ⟨q, ks, rfl, by rw [rk.length]; exact hk.2, ?_⟩
        have rm := merge_krs (H := H2) rk (.nil (K := X.K) (M := Mt φ2 h1) (H := H2))
        have lm : (mergeP [] kvs).length ≤ SZ := by
          have h1 := mergeP_len kvs []
          rw [List.length_nil] at h1
          have : SZ = 16777216 := rfl
          omega
        have xx := Ext.put (d := .dict (mergeP [] kvs)) (o := .dK (mergeK [] ks)) R2 hc rfl ej
        have R3 := R2.put (d := .dict (mergeP [] kvs)) hc rfl ej ⟨_, upd_same, rm.mono xx.1, lm⟩
        have X3 := xp.trans (X2.trans xx)
        cases m with
        | true =>
          rw [if_pos rfl] at ev
          cases ev
          refine k _ _ _ (R3.take (h.length + 1)) (X3.take (by have := R.len; omega)) ⟨p, rfl, ?_⟩
          rw [List.getElem?_take, if_pos (by omega)]
          exact ej
        | false =>
          rw [if_neg Bool.false_ne_true] at ev
          cases ev
          have tk : (h1.set h.length (.dict (mergeP [] kvs))).take h.length = h1.take h.length := by
            rw [List.take_set, List.set_eq_of_length_le]
            rw [List.length_take]; omega
          have R4 := R3.take h.length
          have X4 := X3.take (n := h.length) (by have := R.len; omega)
          have m0 : ¬ Mt (φ2.take h.length) ((h1.set h.length (.dict (mergeP [] kvs))).take h.length) p := by
            rintro ⟨i, c, e1, m1, a1⟩
            rw [List.getElem?_take] at e1 a1
            split at e1
            · rename_i hi
              rw [if_pos hi] at a1
              have hlen : h.length < (h1.set h.length (.dict (mergeP [] kvs))).length := by
                rw [List.length_set]; exact (List.getElem?_eq_some_iff.mp hc).1
              have := R3.inj i h.length c (.dict (mergeP [] kvs)) p e1 (by rw [List.getElem?_set_self (by rw [List.length_set] at hlen; exact hlen)]) m1 rfl a1 ej
              omega
            · cases e1
          have rv : VR X.K (Mt (φ2.take h.length) ((h1.set h.length (.dict (mergeP [] kvs))).take h.length)) (upd H2 p (.dK (mergeK [] ks))) (.ref p) (.dict (mergeP [] kvs)) :=
            .dict (.inl upd_same) m0 lm ((rm.mono xx.1).mono ⟨fun _ _ q _ => q, fun _ _ q _ => q, fun _ _ q _ => q, fun _ _ q => q, fun _ q _ => q, fun _ z => .inl (Mt.take z)⟩)
          rw [tk] at R4 X4 rv
          exact k _ _ _ R4 X4 rv
      · cases ev
    · cases ev
end
end Ev

set_option Elab.async false
set_option linter.all false
set_option maxRecDepth 100000
namespace Ev
open PySem PySem.Spec PyProof.Rows L2

section
variable {X : Cx} {C : Calls}
/-- where a statement ends -/
def KF (K : PySem.W.Frag) (φ : List Addr) (h : AH) (H : Hp) (D : Ends) : Fl → Prop
  | .nx e h' => ∀ σ' H' φ', HR K φ' h' H' → Ext φ h H φ' h' H' → ER K φ' h' H' e σ' → D.nx σ' H'
  | .rt sv h' => Kont K φ h H h' sv D.rt
  | .bk e h' => ∀ σ' H' φ', HR K φ' h' H' → Ext φ h H φ' h' H' → ER K φ' h' H' e σ' → D.bk σ' H'
  | .ct e h' => ∀ σ' H' φ', HR K φ' h' H' → Ext φ h H φ' h' H' → ER K φ' h' H' e σ' → D.ct σ' H'
theorem KF.keep {K : PySem.W.Frag} {φ φ2 : List Addr} {h h2 : AH} {H H2 : Hp} {D : Ends} {f : Fl} (k : KF K φ h H D f) (x : Ext φ h H φ2 h2 H2) : KF K φ2 h2 H2 D f := by
  cases f with
  | nx e h' => exact fun σ' H' φ' R X' E => k σ' H' φ' R (x.trans X') E
  | rt v h' => exact Kont.keep k x
  | bk e h' => exact fun σ' H' φ' R X' E => k σ' H' φ' R (x.trans X') E
  | ct e h' => exact fun σ' H' φ' R X' E => k σ' H' φ' R (x.trans X') E
def tS (K : PySem.W.Frag) (C : Calls) (st : Stm) : TS := fun D σ H => ∃ φ h env fl, HR K φ h H ∧ ER K φ h H env σ ∧ evS C st env h = some fl ∧ KF K φ h H D fl
def tSs (K : PySem.W.Frag) (C : Calls) (st : Sts) : TS := fun D σ H => ∃ φ h env fl, HR K φ h H ∧ ER K φ h H env σ ∧ evSs C st env h = some fl ∧ KF K φ h H D fl

/-! ### rows of statements -/
theorem l_snil : PSs X [] (tSs X.K C .nil) := PSs.imp pss_nil fun D σ H ⟨φ, h, env, fl, R, E, ev, k⟩ => by
  simp only [evSs] at ev
  cases ev
  exact k σ H φ R Ext.refl E
theorem l_scons {s : Stm} {ss : Sts} {st : Stmt} {rest : List Stmt} (hs : PS X st (tS X.K C s)) (hr : PSs X rest (tSs X.K C ss)) : PSs X (st :: rest) (tSs X.K C (.cons s ss)) := PSs.imp (pss_cons hs hr) fun D σ H ⟨φ, h, env, fl, R, E, ev, k⟩ => by
  simp only [evSs] at ev
  split at ev
  · cases ev
  · rename_i e' h' he
    exact ⟨φ, h, env, _, R, E, he, fun σ' H' φ' R' X' E' => ⟨φ', h', e', fl, R', E', ev, k.keep X'⟩⟩
  · rename_i f hn he
    cases ev
    refine ⟨φ, h, env, _, R, E, he, ?_⟩
    cases fl with
    | nx e h' => exact absurd rfl (hn _ _)
    | rt v h' => exact k
    | bk e h' => exact k
    | ct e h' => exact k

/-! ### small statements -/
def notComp : Expr → Bool
  | .ListComp .. => false
  | .SetComp .. => false
  | .DictComp .. => false
  | _ => true
theorem sw_not {e : Expr} {t : Option Expr} {l : Nat} {env : Env} (h : notComp e = true) : swapsWith e t l env = pure false := by
  cases e <;> first | rfl | cases h
theorem sw_sub {e a b : Expr} {p : Pos} {l : Nat} {env : Env} : swapsWith e (some (.Subscript a b p)) l env = pure false := by
  cases e <;> rfl
theorem sw_tup {e : Expr} {es : List Expr} {k : Nat} {p : Pos} {l : Nat} {env : Env} : swapsWith e (some (.Tuple es k p)) l env = pure false := by
  cases e <;> rfl
theorem sws_tup {e : Expr} {es : List Expr} {k : Nat} {p : Pos} {l : Nat} {env : Env} : swapsWithSole [.Tuple es k p] e l env = pure false := by cases e <;> rfl
theorem sws_sub {e a b : Expr} {p : Pos} {l : Nat} {env : Env} : swapsWithSole [.Subscript a b p] e l env = pure false := by cases e <;> rfl
def notTup : Expr → Bool
  | .Tuple .. => false
  | _ => true
theorem ss_not {es : List Expr} {k : Nat} {p : Pos} {e : Expr} {env : Env} (h : notTup e = true) : swappedStores [.Tuple es k p] e env = pure none := by
  cases e <;> first | rfl | cases h
theorem l_expr {a : Ex} {e : Expr} {pos : Pos} (ha : PE X e (tE X.K C a)) (hn : notComp e = true) : PS X (.Expr e pos) (tS X.K C (.expr a)) := PS.imp (ps_expr ha (sw_not hn)) fun D σ H ⟨φ, h, env, fl, R, E, ev, k⟩ => by
  simp only [evS, Option.map_eq_some_iff] at ev
  obtain ⟨⟨v, h'⟩, e1, rfl⟩ := ev
  exact ⟨φ, h, env, v, h', R, E, e1, fun v1 H1 φ1 R1 X1 s1 => k σ H1 φ1 R1 X1 (E.mono X1)⟩
theorem l_ret {a : Ex} {e : Expr} {pos : Pos} (ha : PE X e (tE X.K C a)) : PS X (.Return (some e) pos) (tS X.K C (.ret a)) := PS.imp (ps_ret ha) fun D σ H ⟨φ, h, env, fl, R, E, ev, k⟩ => by
  simp only [evS, Option.map_eq_some_iff] at ev
  obtain ⟨⟨v, h'⟩, e1, rfl⟩ := ev
  exact ⟨φ, h, env, v, h', R, E, e1, k⟩
theorem l_brk {pos : Pos} : PS X (.Break pos) (tS X.K C .brk) := PS.imp ps_break fun D σ H ⟨φ, h, env, fl, R, E, ev, k⟩ => by
  simp only [evS] at ev
  cases ev
  exact k σ H φ R Ext.refl E
theorem l_cont {pos : Pos} : PS X (.Continue pos) (tS X.K C .cont) := PS.imp ps_continue fun D σ H ⟨φ, h, env, fl, R, E, ev, k⟩ => by
  simp only [evS] at ev
  cases ev
  exact k σ H φ R Ext.refl E
theorem l_pass {pos : Pos} : PS X (.Pass pos) (tS X.K C .pass) := PS.imp ps_pass fun D σ H ⟨φ, h, env, fl, R, E, ev, k⟩ => by
  simp only [evS] at ev
  cases ev
  exact k σ H φ R Ext.refl E
theorem l_if {c : Ts} {a b : Sts} {t : Expr} {x y : List Stmt} {pos : Pos} (hc : PT X t (tT X.K C c)) (ha : PSs X x (tSs X.K C a)) (hb : PSs X y (tSs X.K C b)) : PS X (.If t x y pos) (tS X.K C (.ifs c a b)) := PS.imp (ps_if hc ha hb) fun D σ H ⟨φ, h, env, fl, R, E, ev, k⟩ => by
  simp only [evS] at ev
  split at ev
  · cases ev
  · rename_i h1 hx
    refine ⟨φ, h, env, _, _, R, E, hx, fun H1 φ1 R1 X1 => ?_⟩
    exact iteT (A := tSs X.K C a D σ H1) (B := tSs X.K C b D σ H1) ⟨φ1, h1, env, fl, R1, E.mono X1, ev, k.keep X1⟩
  · rename_i h1 hx
    refine ⟨φ, h, env, _, _, R, E, hx, fun H1 φ1 R1 X1 => ?_⟩
    exact iteF (A := tSs X.K C a D σ H1) (B := tSs X.K C b D σ H1) ⟨φ1, h1, env, fl, R1, E.mono X1, ev, k.keep X1⟩

/-! ### a name is set -/
theorem asg_nm {i : Nat} {a : Ex} {D : Ends} {σ : L2.St} {H : Hp} {K : PySem.W.Frag} (w : tS K C (.asg (.nm i) a) D σ H) : tE K C a σ H fun x H1 => D.nx (σ.set i (some x)) H1 := by
  obtain ⟨φ, h, env, fl, R, E, ev, k⟩ := w
  simp only [evS] at ev
  split at ev
  · cases ev
  · rename_i x h1 hx
    simp only [asgT, Option.map_some] at ev
    cases ev
    exact ⟨φ, h, env, x, h1, R, E, hx, fun v1 H1 φ1 R1 X1 s1 => k _ H1 φ1 R1 X1 ((E.mono X1).set i s1)⟩
theorem l_set {i : Nat} {a : Ex} {e : Expr} {x : Str} {p pos : Pos} (nd : X.N.Nodup) (hi : X.N[i]? = some x) (hx : Loc X.env.scope x) (hf : X.fn x = true ∨ X.env.scope.names.lookup x = some .local) (ha : PE X e (tE X.K C a)) (hs : swapsWith e (some (.Name x p)) pos.line X.env = pure false) :
    PS X (.Assign [.Name x p] e pos) (tS X.K C (.asg (.nm i) a)) := PS.imp (ps_set nd hi hx ha hs hf) fun D σ H w => asg_nm w
/-- name = [..], the name a local: the list is stored ahead of the block's end -/
theorem l_setc {n : Nat} {m : Bool} {elt : Ex} {own : List Nat} {tg : Tg} {it : Itr} {ifs : Ts} {el t i : Expr} {fs : List Expr} {sc2 : Scope} {y : Str} {py pos spos : Pos} {ow : List (Str × Nat)} (hc : X.calm = true) (nd : X.N.Nodup) (hy : X.N[n]? = some y) (hyl : X.env.scope.names.lookup y = some .local) (hsw : swapsWith (.ListComp el [⟨t, i, fs, 0⟩] sc2 pos) (some (.Name y py)) spos.line X.env = pure true)
    (eo : ow.map (·.2) = own) (ho : ∀ j ∈ tgN tg, j ∈ own) (hi : PI X t i (tI X.K C it)) (ok : BlkOk X.N X.env.scope sc2 ow)
    (hg : ∀ (s : Shared) (H : Hp) (D : Addr) (cl : List (Str × Addr)) (fp : List Addr), PG (X.blk s H sc2 (compEnvC sc2 cl D X.env) fp) t (tG X.K tg)) (ht : ∀ (s : Shared) (H : Hp) (D : Addr) (cl : List (Str × Addr)) (fp : List Addr), PTs (X.blk s H sc2 (compEnvC sc2 cl D X.env) fp) fs (tT X.K C ifs))
    (he : ∀ (s : Shared) (H : Hp) (D : Addr) (cl : List (Str × Addr)) (fp : List Addr), PE (X.blk s H sc2 (compEnvC sc2 cl D X.env) fp) el (tE X.K C elt)) (hp : plainX i = true) : PS X (.Assign [.Name y py] (.ListComp el [⟨t, i, fs, 0⟩] sc2 pos) spos) (tS X.K C (.asg (.nm n) (.comp m elt own tg it ifs))) := by
  have rule := ps_setLc (pos := pos) (py := py) (spos := spos) hc nd hy hyl hsw hi ok hg ht he (plain_fold hp)
  rw [eo] at rule
  have both : PS X (.Assign [.Name y py] (.ListComp el [⟨t, i, fs, 0⟩] sc2 pos) spos) (fun D σ H => tAsg (tLc (tI X.K C it) (tG X.K tg) (tT X.K C ifs) (tE X.K C elt) own) (gName n) D σ H ∨ tLock (tAsg (tLc (tI X.K C it) (tG X.K tg) (tT X.K C ifs) (tE X.K C elt) own) (gName n)) D σ H) :=
    ⟨fun pins s σ H D I w => w.elim (rule.run pins s σ H D I) ((ps_lock rule).run pins s σ H D I)⟩
  refine PS.imp both fun D σ H w => ?_
  have w := asg_nm w
  by_cases lk : Lkd it σ H
  · exact .inl (comp_sound ho w lk)
  · obtain ⟨d, ks, e, f⟩ := comp_lock ho w lk
    exact .inr ⟨d, _, e, True.intro, fun od => f od⟩

theorem l_setc2 {n : Nat} {m : Bool} {elt : Ex} {own own2 : List Nat} {tg tg2 : Tg} {it it2 : Itr} {ifs : Ts} {el t i t2 i2 : Expr} {fs : List Expr} {sc2 : Scope} {y : Str} {py pos spos : Pos} {ow : List (Str × Nat)} (hc : X.calm = true) (nd : X.N.Nodup) (hy : X.N[n]? = some y) (hyl : X.env.scope.names.lookup y = some .local) (hsw : swapsWith (.ListComp el [⟨t, i, [], 0⟩, ⟨t2, i2, fs, 0⟩] sc2 pos) (some (.Name y py)) spos.line X.env = pure true)
    (eo : ow.map (·.2) = own) (ho : ∀ j ∈ tgN tg, j ∈ own) (ho2 : ∀ j ∈ tgN tg2, j ∈ own2) (hoo : ∀ j ∈ own2, j ∈ own) (hv2 : ∀ σ H, Lkd it2 σ H) (hi : PI X t i (tI X.K C it)) (ok : BlkOk X.N X.env.scope sc2 ow)
    (hg : ∀ (s : Shared) (H : Hp) (D : Addr) (cl : List (Str × Addr)) (fp : List Addr), PG (X.blk s H sc2 (compEnvC sc2 cl D X.env) fp) t (tG X.K tg))
    (hi2 : ∀ (s : Shared) (H : Hp) (D : Addr) (cl : List (Str × Addr)) (fp : List Addr), PI (X.blk s H sc2 (compEnvC sc2 cl D X.env) fp) t2 i2 (tI X.K C it2))
    (hg2 : ∀ (s : Shared) (H : Hp) (D : Addr) (cl : List (Str × Addr)) (fp : List Addr), PG (X.blk s H sc2 (compEnvC sc2 cl D X.env) fp) t2 (tG X.K tg2)) (ht : ∀ (s : Shared) (H : Hp) (D : Addr) (cl : List (Str × Addr)) (fp : List Addr), PTs (X.blk s H sc2 (compEnvC sc2 cl D X.env) fp) fs (tT X.K C ifs))
    (he : ∀ (s : Shared) (H : Hp) (D : Addr) (cl : List (Str × Addr)) (fp : List Addr), PE (X.blk s H sc2 (compEnvC sc2 cl D X.env) fp) el (tE X.K C elt)) (hp : plainX i = true) (hp2 : plainX i2 = true) : PS X (.Assign [.Name y py] (.ListComp el [⟨t, i, [], 0⟩, ⟨t2, i2, fs, 0⟩] sc2 pos) spos) (tS X.K C (.asg (.nm n) (.comp2 m elt own tg it own2 tg2 it2 ifs))) := by
  have rule := ps_setLc2 (pos := pos) (py := py) (spos := spos) (vs1 := own2) hc nd hy hyl hsw hi ok (by rw [eo]; exact hoo) hg (fun _ _ _ _ _ => pts_nil) hi2 hg2 ht he (plain_fold hp) (fun env => plain_fold (env := env) hp2)
  rw [eo] at rule
  have both : PS X (.Assign [.Name y py] (.ListComp el [⟨t, i, [], 0⟩, ⟨t2, i2, fs, 0⟩] sc2 pos) spos) (fun D σ H => tAsg (tLc2 (tI X.K C it) (tG X.K tg) tYes (tI X.K C it2) (tG X.K tg2) (tT X.K C ifs) (tE X.K C elt) own own2) (gName n) D σ H ∨ tLock (tAsg (tLc2 (tI X.K C it) (tG X.K tg) tYes (tI X.K C it2) (tG X.K tg2) (tT X.K C ifs) (tE X.K C elt) own own2) (gName n)) D σ H) :=
    ⟨fun pins s σ H D I w => w.elim (rule.run pins s σ H D I) ((ps_lock rule).run pins s σ H D I)⟩
  refine PS.imp both fun D σ H w => ?_
  have w := asg_nm w
  by_cases lk : Lkd it σ H
  · exact .inl (comp2_sound ho ho2 hv2 w lk)
  · obtain ⟨d, ks, e, f⟩ := comp2_lock ho ho2 hv2 w lk
    exact .inr ⟨d, _, e, True.intro, fun od => f od⟩

/-! ### a, b = a tuple or a list -/
theorem l_unp {is : List Nat} {a : Ex} {es : List Expr} {k : Nat} {e : Expr} {p pos : Pos} (hg : PG X (.Tuple es k p) (tG X.K (.tp is))) (ha : PE X e (tE X.K C a)) (hn : notTup e = true) : PS X (.Assign [.Tuple es k p] e pos) (tS X.K C (.asg (.tp is) a)) :=
  PS.imp (ps_asg ha hg sws_tup (ss_not hn) rfl) fun D σ H ⟨φ, h, env, fl, R, E, ev, k⟩ => by
    simp only [evS] at ev
    split at ev
    · cases ev
    · rename_i x h1 hx
      rw [Option.map_eq_some_iff] at ev
      obtain ⟨e', e1, rfl⟩ := ev
      exact ⟨φ, h, env, x, h1, R, E, hx, fun v1 H1 φ1 R1 X1 s1 => ⟨φ1, h1, env, x, e', R1, E.mono X1, s1, e1, fun σ' E' _ => k σ' H1 φ1 R1 X1 E'⟩⟩

/-! ### a, b = x, y -/
theorem gNames_sv {K : PySem.W.Frag} {φ : List Addr} {h : AH} {H : Hp} {Q : L2.St → Hp → Prop} : ∀ {is : List Nat} {vs : List V} {ps : List SV} {env : En} {σ : L2.St}, SRs K φ h H vs ps → ps.length = is.length → ER K φ h H env σ →
    (∀ σ', ER K φ h H ((is.zip ps).foldl (fun e ip => e.set ip.1 (some ip.2)) env) σ' → Q σ' H) → gNames is vs σ H Q
  | [], vs, ps, env, σ, r, hl, E, k => by
    have : ps = [] := List.eq_nil_of_length_eq_zero hl
    subst this
    cases r
    exact ⟨rfl, k σ E⟩
  | i :: is, vs, ps, env, σ, r, hl, E, k => by
    cases r with
    | nil => cases hl
    | @cons v p vs ps r t =>
      refine ⟨v, vs, rfl, ?_⟩
      show gNames is vs (σ.set i (some v)) H Q
      exact gNames_sv t (by simpa using hl) (E.set i (s := p) r) fun σ' E' => k σ' E'
theorem l_parT {is : List Nat} {es : Exs} {ns vs : List Expr} {k k2 : Nat} {p p2 pos : Pos} (hc : X.calm = true) (hs : PGs X ns (gNames is)) (hn : (assignEach ns X.env).length = is.length) (hst : (assignEach ns X.env).findIdx? (·.1) = none) (ha : PA X vs (tL X.K C es)) (hz : is.length ≤ sizeLine)
    (hw : swappedStores [.Tuple ns k p] (.Tuple vs k2 p2) X.env = pure none) : PS X (.Assign [.Tuple ns k p] (.Tuple vs k2 p2) pos) (tS X.K C (.par is es)) :=
  PS.imp (ps_asg (pe_tup ha) (pg_tup hc hs hn hst) sws_tup hw rfl) fun D σ H ⟨φ, h, env, fl, R, E, ev, k⟩ => by
    simp only [evS] at ev
    split at ev
    · cases ev
    · rename_i ss h1 hx
      split at ev
      · rename_i hl
        cases ev
        refine ⟨φ, h, env, ss, h1, R, E, hx, fun us H1 φ1 R1 X1 s1 => ⟨by rw [Paired.length s1, hl]; exact hz, fun q n => ⟨q, us, rfl, SqT.of upd_same, (Paired.length s1).trans hl, ?_⟩⟩⟩
        have X2 := Ext.new R1 n (.tup us)
        exact gNames_sv (s1.mono X2) hl (E.mono (X1.trans X2)) fun σ' E' => k σ' _ φ1 (R1.new n _) (X1.trans X2) E'
      · cases ev
theorem l_par2 {i j : Nat} {es : Exs} {a b : Expr} {x y : Str} {px py pt pt2 pos : Pos} {kt k2 : Nat} (hc : X.calm = true) (nd : X.N.Nodup) (hi : X.N[i]? = some x) (hj : X.N[j]? = some y) (hij : i ≠ j) (hx : X.env.scope.names.lookup x = some .local) (hy : X.env.scope.names.lookup y = some .local) (ha : PA X [a, b] (tL X.K C es))
    (hw : swappedStores [.Tuple [.Name x px, .Name y py] kt pt] (.Tuple [a, b] k2 pt2) X.env = pure (some [x, y])) : PS X (.Assign [.Tuple [.Name x px, .Name y py] kt pt] (.Tuple [a, b] k2 pt2) pos) (tS X.K C (.par [i, j] es)) :=
  PS.imp (ps_par hc nd hi hj hij hx hy ha hw sws_tup) fun D σ H ⟨φ, h, env, fl, R, E, ev, k⟩ => by
    simp only [evS] at ev
    split at ev
    · cases ev
    · rename_i ss h1 hx
      split at ev
      · rename_i hl
        cases ev
        refine ⟨φ, h, env, ss, h1, R, E, hx, fun us H1 φ1 R1 X1 s1 => ?_⟩
        cases s1 with
        | nil => cases hl
        | cons r1 t =>
          cases t with
          | nil => cases hl
          | cons r2 t =>
            cases t with
            | cons _ _ => simp at hl
            | nil => exact ⟨_, _, rfl, k _ H1 φ1 R1 X1 (((E.mono X1).set i r1).set j r2)⟩
      · cases ev
theorem l_par3 {i j l : Nat} {es : Exs} {a b c : Expr} {x y z : Str} {px py pz pt pt2 pos : Pos} {kt k2 : Nat} (hc : X.calm = true) (nd : X.N.Nodup) (hi : X.N[i]? = some x) (hj : X.N[j]? = some y) (hl : X.N[l]? = some z) (hij : i ≠ j) (hil : i ≠ l) (hjl : j ≠ l) (hx : X.env.scope.names.lookup x = some .local) (hy : X.env.scope.names.lookup y = some .local) (hz : X.env.scope.names.lookup z = some .local) (ha : PA X [a, b, c] (tL X.K C es))
    (hw : swappedStores [.Tuple [.Name x px, .Name y py, .Name z pz] kt pt] (.Tuple [a, b, c] k2 pt2) X.env = pure (some [x, y, z])) : PS X (.Assign [.Tuple [.Name x px, .Name y py, .Name z pz] kt pt] (.Tuple [a, b, c] k2 pt2) pos) (tS X.K C (.par [i, j, l] es)) :=
  PS.imp (ps_par3 hc nd hi hj hl hij hil hjl hx hy hz ha hw sws_tup) fun D σ H ⟨φ, h, env, fl, R, E, ev, k⟩ => by
    simp only [evS] at ev
    split at ev
    · cases ev
    · rename_i ss h1 hx
      split at ev
      · rename_i hl
        cases ev
        refine ⟨φ, h, env, ss, h1, R, E, hx, fun us H1 φ1 R1 X1 s1 => ?_⟩
        cases s1 with
        | nil => cases hl
        | cons r1 t =>
          cases t with
          | nil => cases hl
          | cons r2 t =>
            cases t with
            | nil => cases hl
            | cons r3 t =>
              cases t with
              | cons _ _ => simp at hl
              | nil => exact ⟨_, _, _, rfl, k _ H1 φ1 R1 X1 ((((E.mono X1).set i r1).set j r2).set l r3)⟩
      · cases ev

/-! ### name op= e -/
def ipB : BOp → TIp
  | .add => fun x y H Q => ipI (fun i j => i + j) x y H Q ∨ ∃ i j, x = .str i ∧ y = .str j ∧ i.length + j.length ≤ sizeLine ∧ Q (.str (i ++ j)) H
  | .sub => ipI fun i j => i - j
  | _ => fun _ _ _ _ => False
theorem ip_b : ∀ op, PIp X (opB op) (ipB op)
  | .add => fun pins s σ H x y v u Q I rx ry w => w.elim (ip_add pins s σ H x y v u Q I rx ry) (iop_add_str pins s σ H x y v u Q I rx ry)
  | .sub => ip_sub
  | .mul => fun _ _ _ _ _ _ _ _ _ _ _ _ w => w.elim
  | .fdiv => fun _ _ _ _ _ _ _ _ _ _ _ _ w => w.elim
  | .mod => fun _ _ _ _ _ _ _ _ _ _ _ _ w => w.elim
  | .pow => fun _ _ _ _ _ _ _ _ _ _ _ _ w => w.elim
theorem ipB_sound {K : PySem.W.Frag} {op : BOp} {p q r : PV} {x y : V} {M : Addr → Prop} {H : Hp} {Q : VK} (e : binA op p q = some r) (rx : VR K M H x p) (ry : VR K M H y q) (k : ∀ v, VR K M H v r → Q v H) : ipB op x y H Q := by
  unfold binA at e
  split at e
  · cases e; cases rx; cases ry; exact .inl ⟨_, _, rfl, rfl, k _ (.int _)⟩
  · cases e; cases rx; cases ry; exact ⟨_, _, rfl, rfl, k _ (.int _)⟩
  · split at e
    · rename_i hl
      cases e
      cases rx with
      | str z1 c1 =>
        cases ry with
        | str z2 c2 =>
          refine .inr ⟨_, _, rfl, rfl, by rw [strV_len, strV_len]; exact hl, ?_⟩
          rw [strV_app]
          exact k _ (.str (by rw [List.length_append]; exact hl) fun c hc => (List.mem_append.mp hc).elim (c1 c) (c2 c))
    · cases e
  · cases e
theorem l_aug {i : Nat} {op : BOp} {a : Ex} {e : Expr} {x : Str} {p pos : Pos} (nd : X.N.Nodup) (hi : X.N[i]? = some x) (hx : Loc X.env.scope x) (hf : X.fn x = true ∨ X.env.scope.names.lookup x = some .local) (ha : PE X e (tE X.K C a)) :
    PS X (.AugAssign (.Name x p) (opB op) e pos) (tS X.K C (.aug i op a)) := PS.imp (ps_aug nd hi hx ha (ip_b op) hf) fun D σ H ⟨φ, h, env, fl, R, E, ev, k⟩ => by
  simp only [evS] at ev
  split at ev
  · rename_i q hq
    obtain ⟨v, e1, r⟩ := E.at_ i _ hq
    split at ev
    · rename_i q2 h1 hx
      rw [Option.map_eq_some_iff] at ev
      obtain ⟨z, ez, rfl⟩ := ev
      refine ⟨v, e1, φ, h, env, _, h1, R, E, hx, fun v1 H1 φ1 R1 X1 s1 => ?_⟩
      have r1 : VR X.K (Mt φ1 h1) H1 v q := SR.mono (s := .v q) X1 r
      exact ipB_sound ez r1 s1 fun w rw' => k _ H1 φ1 R1 X1 ((E.mono X1).set i (s := .v z) rw')
    · cases ev
  · cases ev

/-! ### o[k] = e, o[k] op= e -/
theorem l_put {o k a : Ex} {l i e : Expr} {p pos : Pos} (hu : X.A.units + 65 < cLine) (ho : PE X l (tE X.K C o)) (hk : PE X i (tE X.K C k)) (ha : PE X e (tE X.K C a)) (hp : plainX i = true) : PS X (.Assign [.Subscript l i p] e pos) (tS X.K C (.put o k a)) := by
  have r1 := ps_dput (pos := pos) (pos' := p) (by omega : X.A.units + 1 < cLine) ho hk ha sw_sub
  have r2 := ps_asg (pos := pos) ha (pg_sub (pos := p) ho hk set_list (by
    intro v
    cases i <;> first | rfl | cases hp)) sws_sub rfl rfl
  have both : PS X (.Assign [.Subscript l i p] e pos) (fun D σ H => sDPut (tE X.K C o) (tE X.K C k) (tE X.K C a) D σ H ∨ tAsg (tE X.K C a) (gSub (tE X.K C o) (tE X.K C k) rSetL) D σ H) :=
    ⟨fun pins s σ H D I w => w.elim (r1.run pins s σ H D I) (r2.run pins s σ H D I)⟩
  refine PS.imp both fun D σ H ⟨φ, h, env, fl, R, E, ev, kk⟩ => ?_
  simp only [evS] at ev
  split at ev
  · rename_i x h1 hx
    split at ev
    · rename_i j h2 ho
      split at ev
      · rename_i q h3 hk
        split at ev
        · rename_i xs hc
          split at ev
          · rename_i n
            rw [Option.map_eq_some_iff] at ev
            obtain ⟨m, em, rfl⟩ := ev
            refine .inr ⟨φ, h, env, _, h1, R, E, hx, fun v1 H1 φ1 R1 X1 s1 => ⟨φ1, h1, env, _, h2, R1, E.mono X1, ho, fun v2 H2 φ2 R2 X2 s2 => ⟨φ2, h2, env, _, h3, R2, E.mono (X1.trans X2), hk, fun v3 H3 φ3 R3 X3 s3 => ?_⟩⟩⟩
            obtain ⟨ad, rfl, ea⟩ := s2.mono X3
            have s1' : VR X.K (Mt φ3 h3) H3 v1 x := SR.mono (s := .v x) (X2.trans X3) s1
            cases s3
            obtain ⟨vs, q, r, z⟩ := R3.cell j _ ad hc ea
            have xx := Ext.put (d := .lst (xs.set m x)) (o := .lst (vs.set m v1)) R3 hc rfl ea
            have X4 := X1.trans (X2.trans (X3.trans xx))
            exact ⟨ad, vs, n, m, rfl, rfl, q, by rw [r.length]; exact em, kk σ _ φ3 (R3.put hc rfl ea ⟨_, upd_same, (VRs.set s1' m r).mono xx.1, by rw [List.length_set]; exact z⟩) X4 (E.mono X4)⟩
          · cases ev
        · rename_i kvs hc
          split at ev
          · rename_i hq
            rw [Bool.and_eq_true, decide_eq_true_eq] at hq
            cases ev
            refine .inl ⟨φ, h, env, _, h1, R, E, hx, fun v1 H1 φ1 R1 X1 s1 => ⟨φ1, h1, env, _, h2, R1, E.mono X1, ho, fun v2 H2 φ2 R2 X2 s2 => ⟨φ2, h2, env, _, h3, R2, E.mono (X1.trans X2), hk, fun v3 H3 φ3 R3 X3 s3 => ?_⟩⟩⟩
            obtain ⟨ad, rfl, ea⟩ := s2.mono X3
            have s1' : VR X.K (Mt φ3 h3) H3 v1 x := SR.mono (s := .v x) (X2.trans X3) s1
            have s3 : VR X.K (Mt φ3 h3) H3 v3 q := s3
            obtain ⟨ks, q2, r, z⟩ := R3.cell j _ ad hc ea
            have xx := Ext.put (d := .dict (dput kvs q x)) (o := .dK (putK ks (keyV q) v1)) R3 hc rfl ea
            have X4 := X1.trans (X2.trans (X3.trans xx))
            have e3 := kV_keyV hq.1 s3
            subst e3
            have hz := dput_len kvs q x
            exact ⟨ad, _, rfl, DPut.k q2 (by rw [r.length]; exact hq.2), kk σ _ φ3 (R3.put hc rfl ea ⟨_, upd_same, (KRs.put hq.1 s3 s1' r).mono xx.1, by omega⟩) X4 (E.mono X4)⟩
          · cases ev
        · cases ev
      · cases ev
    · cases ev
  · cases ev
def ioB : BOp → V → V → Hp → VK → Prop
  | .add => fun x y H Q => rAdd x y H Q ∨ rAddS x y H Q
  | .sub => rSub
  | _ => fun _ _ _ _ => False
theorem io_b : ∀ op, InOp X (opB op) (ioB op)
  | .add => fun pins s σ H x y v u Q I rx ry w => w.elim (in_add pins s σ H x y v u Q I rx ry) (iop_add_str pins s σ H x y v u Q I rx ry)
  | .sub => in_sub
  | .mul => fun _ _ _ _ _ _ _ _ _ _ _ _ w => w.elim
  | .fdiv => fun _ _ _ _ _ _ _ _ _ _ _ _ w => w.elim
  | .mod => fun _ _ _ _ _ _ _ _ _ _ _ _ w => w.elim
  | .pow => fun _ _ _ _ _ _ _ _ _ _ _ _ w => w.elim
theorem ioB_sound {K : PySem.W.Frag} {op : BOp} {p q r : PV} {x y : V} {M : Addr → Prop} {H : Hp} {Q : VK} (e : binA op p q = some r) (rx : VR K M H x p) (ry : VR K M H y q) (k : ∀ v, VR K M H v r → Q v H) : ioB op x y H Q := by
  have := ipB_sound e rx ry k
  cases op <;> exact this
theorem l_augput {o k a : Ex} {op : BOp} {l i e : Expr} {p pos : Pos} (hu : X.A.units + 65 < cLine) (ho : PE X l (tE X.K C o)) (hk : PE X i (tE X.K C k)) (ha : PE X e (tE X.K C a)) (hp : plainX i = true) : PS X (.AugAssign (.Subscript l i p) (opB op) e pos) (tS X.K C (.augput o k op a)) :=
  PS.imp (ps_daug (by omega : X.A.units + 1 < cLine) ho hk ha (io_b op) (by
    intro ov iv new
    cases i <;> first | rfl | cases hp)) fun D σ H ⟨φ, h, env, fl, R, E, ev, kk⟩ => by
  simp only [evS] at ev
  split at ev
  · rename_i j h1 ho
    split at ev
    · rename_i q h2 hk
      split at ev
      · rename_i kvs hc
        split at ev
        · rename_i hq
          rw [Bool.and_eq_true, decide_eq_true_eq] at hq
          split at ev
          · rename_i old hold
            split at ev
            · rename_i y h3 hx
              split at ev
              · rename_i z hz
                split at ev
                · rename_i kvs' hc'
                  split at ev
                  · rename_i hl
                    rw [decide_eq_true_eq] at hl
                    cases ev
                    refine ⟨φ, h, env, _, h1, R, E, ho, fun v1 H1 φ1 R1 X1 s1 => ⟨φ1, h1, env, _, h2, R1, E.mono X1, hk, fun v2 H2 φ2 R2 X2 s2 => ?_⟩⟩
                    obtain ⟨ad, rfl, ea⟩ := s1.mono X2
                    have s2 : VR X.K (Mt φ2 h2) H2 v2 q := s2
                    obtain ⟨ks, q2, r, _⟩ := R2.cell j _ ad hc ea
                    have g := DGet.at_ (.inl q2) hq.1 s2
                    rcases KRs.look hq.1 r with ⟨n1, n2⟩ | ⟨p', v', n1, n2, rv⟩
                    · rw [n1] at hold; cases hold
                    · rw [n1] at hold
                      cases hold
                      rw [n2] at g
                      refine ⟨ad, v', rfl, g, φ2, h2, env, _, h3, R2, E.mono (X1.trans X2), hx, fun v3 H3 φ3 R3 X3 s3 => ?_⟩
                      refine ioB_sound (M := Mt φ3 h3) hz (rv.mono X3.1) s3 fun w rw' => ?_
                      have ea3 := cell_j X3 ea
                      obtain ⟨ks', q3, r3, z3⟩ := R3.cell j _ ad hc' ea3
                      have xx := Ext.put (d := .dict (dput kvs' q z)) (o := .dK (putK ks' (keyV q) w)) R3 hc' rfl ea3
                      have X4 := X1.trans (X2.trans (X3.trans xx))
                      have s2' := s2.mono X3.1
                      have e3 := kV_keyV hq.1 s2
                      subst e3
                      have hz := dput_len kvs' q z
                      exact ⟨_, DPut.k q3 (by rw [r3.length]; exact hl), kk σ _ φ3 (R3.put hc' rfl ea3 ⟨_, upd_same, (KRs.put hq.1 s2' rw' r3).mono xx.1, by omega⟩) X4 (E.mono X4)⟩
                  · cases ev
                · cases ev
              · cases ev
            · cases ev
          · cases ev
        · cases ev
      · cases ev
    · cases ev
  · cases ev
end
end Ev

set_option Elab.async false
set_option linter.all false
set_option maxRecDepth 100000
namespace Ev
open PySem PySem.Spec PyProof.Rows L2

section
variable {X : Cx} {C : Calls}
/-! ### loops -/
theorem l_whil {c : Ts} {b : Sts} {t : Expr} {body : List Stmt} {pos : Pos} (hp : PassesOwn (model X.prog X.w) X.A X.env X.xe) (hc : PT X t (tT X.K C c)) (hb : PSs X body (tSs X.K C b)) : PS X (.While t body [] pos) (tS X.K C (.whil c b)) := by
  refine PS.imp (ps_while hp hc hb) fun D σ H ⟨φ, h, env, fl, R, E, ev, k⟩ => ?_
  simp only [evS] at ev
  refine ⟨fun m σ1 H1 => ∃ φ1 h1 env1, HR X.K φ1 h1 H1 ∧ ER X.K φ1 h1 H1 env1 σ1 ∧ Ext φ h H φ1 h1 H1 ∧ whileF (evT C c) (evSs C b) m env1 h1 = some fl, ⟨FUEL, φ, h, env, R, E, Ext.refl, ev⟩, ?_⟩
  rintro m σ1 H1 ⟨φ1, h1, env1, R1, E1, X1, ew⟩
  cases m with
  | zero => cases ew
  | succ m =>
    simp only [whileF] at ew
    split at ew
    · cases ew
    · rename_i h2 ht
      cases ew
      refine ⟨φ1, h1, env1, false, h2, R1, E1, ht, fun H2 φ2 R2 X2 => ?_⟩
      exact iteF (k σ1 H2 φ2 R2 (X1.trans X2) (E1.mono X2))
    · rename_i h2 ht
      refine ⟨φ1, h1, env1, true, h2, R1, E1, ht, fun H2 φ2 R2 X2 => ?_⟩
      refine iteT (B := D.nx σ1 H2) ⟨fun σ' H' => ∃ φ' h' e', HR X.K φ' h' H' ∧ ER X.K φ' h' H' e' σ' ∧ Ext φ h H φ' h' H' ∧ whileF (evT C c) (evSs C b) m e' h' = some fl, fun σ' H' w => ⟨m, Nat.lt_succ_self m, w⟩, ?_⟩
      have E2 := E1.mono X2
      have X12 := X1.trans X2
      split at ew
      · cases ew
      · rename_i e' h' hb
        exact ⟨φ2, h2, env1, _, R2, E2, hb, fun σ' H' φ' R' X' E' => ⟨φ', h', e', R', E', X12.trans X', ew⟩⟩
      · rename_i e' h' hb
        exact ⟨φ2, h2, env1, _, R2, E2, hb, fun σ' H' φ' R' X' E' => ⟨φ', h', e', R', E', X12.trans X', ew⟩⟩
      · rename_i e' h' hb
        cases ew
        exact ⟨φ2, h2, env1, _, R2, E2, hb, fun σ' H' φ' R' X' E' => k σ' H' φ' R' (X12.trans X') E'⟩
      · rename_i v h' hb
        cases ew
        exact ⟨φ2, h2, env1, _, R2, E2, hb, Kont.keep k X12⟩

def bodyF (C : Calls) (t : Tg) (b : Sts) (x : PV) (e : En) (h : AH) : Option Fl :=
  match asgT t (.v x) e with
  | none => none
  | some e' => evSs C b e' h
theorem for_inv {t : Tg} {it : Itr} {b : Sts} {env : En} {h : AH} {fl : Fl} (ev : evS C (.for t it b) env h = some fl) : ∃ xs g h1, evI C it env h = some (xs, g, h1) ∧ loopF (bodyF C t b) (guardOk xs g) xs env h1 = some fl := by
  simp only [evS] at ev
  split at ev
  · cases ev
  · rename_i xs g h1 hI
    exact ⟨xs, g, h1, hI, ev⟩
theorem for_sound {K : PySem.W.Frag} {t : Tg} {it : Itr} {b : Sts} {D : Ends} {σ : L2.St} {H : Hp} (w : tS K C (.for t it b) D σ H) (lk : Lkd it σ H) : tFor (tI K C it) (tG K t) (tSs K C b) D σ H := by
  obtain ⟨φ, h, env, fl, R, E, ev, k⟩ := w
  obtain ⟨xs, g, h1, hI, hL⟩ := for_inv ev
  refine ⟨φ, h, env, xs, g, h1, R, E, hI, lk, fun J H1 φ1 R1 X1 its => ?_⟩
  refine ⟨fun i m σc Hc => m = xs.length - i ∧ i ≤ xs.length ∧ ∃ φc hc ec, HR K φc hc Hc ∧ ER K φc hc Hc ec σc ∧ Ext φ1 h1 H1 φc hc Hc ∧ loopF (bodyF C t b) (guardOk xs g) (xs.drop i) ec hc = some fl,
    ⟨xs.length, by simp, Nat.zero_le _, φ1, h1, env, R1, E.mono X1, Ext.refl, by rw [List.drop_zero]; exact hL⟩, ?_⟩
  rintro i mm σc Hc ⟨rfl, hi, φc, hc, ec, Rc, Ec, Xc, hLc⟩
  by_cases hlt : i < xs.length
  · right
    rw [List.drop_eq_getElem_cons hlt] at hLc
    simp only [loopF] at hLc
    split at hLc
    · rename_i hok
      obtain ⟨it1, it2⟩ := its φc hc Hc Rc Xc hok
      obtain ⟨go, yl⟩ := it1 i xs[i] (List.getElem?_eq_getElem hlt)
      refine ⟨go, fun σ' H' => ∃ φ' h' e', HR K φ' h' H' ∧ ER K φ' h' H' e' σ' ∧ Ext φ1 h1 H1 φ' h' H' ∧ loopF (bodyF C t b) (guardOk xs g) (xs.drop (i + 1)) e' h' = some fl, fun σ' H' w => ⟨xs.length - (i + 1), by omega, rfl, hlt, w⟩, fun x H3 y => ?_⟩
      obtain ⟨R3, X3, r3⟩ := yl x H3 y
      have Xc3 := Xc.trans X3
      have fin : ∀ {fb : Fl}, bodyF C t b xs[i] ec hc = some fb → (∀ (D' : Ends) φ2 h2 H2, D' = { D with nx := fun σ' H' => ∃ φ' h' e', HR K φ' h' H' ∧ ER K φ' h' H' e' σ' ∧ Ext φ1 h1 H1 φ' h' H' ∧ loopF (bodyF C t b) (guardOk xs g) (xs.drop (i + 1)) e' h' = some fl, ct := fun σ' H' => ∃ φ' h' e', HR K φ' h' H' ∧ ER K φ' h' H' e' σ' ∧ Ext φ1 h1 H1 φ' h' H' ∧ loopF (bodyF C t b) (guardOk xs g) (xs.drop (i + 1)) e' h' = some fl, bk := D.nx } → Ext φ1 h1 H1 φ2 h2 H2 → KF K φ2 h2 H2 D' fb) →
          tG K t x σc H3 fun σ2 H2 => tSs K C b { D with nx := fun σ' H' => ∃ φ' h' e', HR K φ' h' H' ∧ ER K φ' h' H' e' σ' ∧ Ext φ1 h1 H1 φ' h' H' ∧ loopF (bodyF C t b) (guardOk xs g) (xs.drop (i + 1)) e' h' = some fl, ct := fun σ' H' => ∃ φ' h' e', HR K φ' h' H' ∧ ER K φ' h' H' e' σ' ∧ Ext φ1 h1 H1 φ' h' H' ∧ loopF (bodyF C t b) (guardOk xs g) (xs.drop (i + 1)) e' h' = some fl, bk := D.nx } σ2 H2 := by
        intro fb hb kk
        unfold bodyF at hb
        split at hb
        · cases hb
        · rename_i e' ha
          exact ⟨φc, hc, ec, .v xs[i], e', R3, Ec.mono X3, r3, ha, fun σ2 E2 _ => ⟨φc, hc, e', fb, R3, E2, hb, kk _ _ _ _ rfl Xc3⟩⟩
      split at hLc
      · cases hLc
      · rename_i e' h' hb
        refine fin hb fun D' φ2 h2 H2 eD X2 => ?_
        subst eD
        exact fun σ' H' φ' R' X' E' => ⟨φ', h', e', R', E', X2.trans X', hLc⟩
      · rename_i e' h' hb
        refine fin hb fun D' φ2 h2 H2 eD X2 => ?_
        subst eD
        exact fun σ' H' φ' R' X' E' => ⟨φ', h', e', R', E', X2.trans X', hLc⟩
      · rename_i e' h' hb
        cases hLc
        refine fin hb fun D' φ2 h2 H2 eD X2 => ?_
        subst eD
        exact fun σ' H' φ' R' X' E' => k σ' H' φ' R' (X1.trans (X2.trans X')) E'
      · rename_i v h' hb
        cases hLc
        refine fin hb fun D' φ2 h2 H2 eD X2 => ?_
        subst eD
        exact Kont.keep (Kont.keep k X1) X2
    · cases hLc
  · left
    have e : i = xs.length := by omega
    subst e
    rw [List.drop_length] at hLc
    simp only [loopF] at hLc
    split at hLc
    · rename_i hok
      cases hLc
      exact ⟨(its φc hc Hc Rc Xc hok).2, k σc Hc φc Rc (X1.trans Xc) Ec⟩
    · cases hLc
theorem for_lock {K : PySem.W.Frag} {t : Tg} {it : Itr} {b : Sts} {D : Ends} {σ : L2.St} {H : Hp} (w : tS K C (.for t it b) D σ H) (lk : ¬ Lkd it σ H) : tLock (tFor (tI K C it) (tG K t) (tSs K C b)) D σ H := by
  cases it <;> first | exact absurd True.intro lk | skip
  rename_i i z
  simp only [Lkd, Classical.not_forall, Classical.not_not] at lk
  obtain ⟨d, ks, e1, e2⟩ := lk
  obtain ⟨φ, h, env, fl, R, E, ev, k⟩ := w
  obtain ⟨xs, g, h1, hI, hL⟩ := for_inv ev
  obtain ⟨R1, X1, md, hI2⟩ := walk_dict R E hI e1 e2
  refine ⟨d, _, e2, True.intro, fun od => for_sound ⟨φ, h1, env, fl, lock_hr R1 e2 md, (E.mono X1).swap (lock_ex e2), ?_, ?_⟩ ?_⟩
  · simp only [evS, hI] at ev
    simp only [evS, hI2]
    exact ev
  · cases fl with
    | nx e h' =>
      intro σ' H' φ' R' X' E'
      obtain ⟨a1, a2, a3, a4, a5⟩ := unlock_all e2 md R' X'
      exact ⟨a1, k σ' _ φ' a2 (X1.trans a3) (a5 e σ' E')⟩
    | rt sv h' =>
      intro v H' φ' R' X' s'
      obtain ⟨a1, a2, a3, a4, a5⟩ := unlock_all e2 md R' X'
      exact ⟨a1, k v _ φ' a2 (X1.trans a3) (a4 v sv s')⟩
    | bk e h' =>
      intro σ' H' φ' R' X' E'
      obtain ⟨a1, a2, a3, a4, a5⟩ := unlock_all e2 md R' X'
      exact ⟨a1, k σ' _ φ' a2 (X1.trans a3) (a5 e σ' E')⟩
    | ct e h' =>
      intro σ' H' φ' R' X' E'
      obtain ⟨a1, a2, a3, a4, a5⟩ := unlock_all e2 md R' X'
      exact ⟨a1, k σ' _ φ' a2 (X1.trans a3) (a5 e σ' E')⟩
  · intro d' ks' e3 e4
    rw [e1] at e3
    cases e3
    rw [upd_same] at e4
    cases e4
theorem l_for {t : Tg} {it : Itr} {b : Sts} {tg iter : Expr} {body : List Stmt} {pos : Pos} (hp : PassesOwn (model X.prog X.w) X.A X.env X.xe) (hc : X.calm = true) (hi : PI X tg iter (tI X.K C it)) (hg : PG X tg (tG X.K t)) (hb : PSs X body (tSs X.K C b)) (hx : plainX iter = true) : PS X (.For tg iter body [] pos) (tS X.K C (.for t it b)) := by
  have rule := ps_for (pos := pos) hp hc hi hg hb (plain_fold hx)
  have both : PS X (.For tg iter body [] pos) (fun D σ H => tFor (tI X.K C it) (tG X.K t) (tSs X.K C b) D σ H ∨ tLock (tFor (tI X.K C it) (tG X.K t) (tSs X.K C b)) D σ H) :=
    ⟨fun pins s σ H D I w => w.elim (rule.run pins s σ H D I) ((ps_lock rule).run pins s σ H D I)⟩
  refine PS.imp both fun D σ H w => ?_
  by_cases lk : Lkd it σ H
  · exact .inl (for_sound w lk)
  · exact .inr (for_lock w lk)
end
end Ev

set_option Elab.async false
set_option linter.all false
set_option maxRecDepth 100000
namespace Ev
open PySem PySem.Spec PyProof.Rows L2

/-! ### stores that are exchanged -/
def nameLoc (sc : Scope) : Expr → Bool
  | .Name x _ => match sc.names.lookup x with | some .local => true | _ => false
  | _ => false
def nameCel (sc : Scope) : Expr → Bool
  | .Name x _ => match sc.names.lookup x with | some .cell => true | _ => false
  | _ => false
def swNo (sc : Scope) (ns vs : List Expr) : Bool := !(ns.length == 2 || ns.length == 3) || vs.all (foldedForSure 8) || ns.any (nameCel sc)
def swYes2 (sc : Scope) : List Expr → List Expr → Bool
  | [.Name x px, .Name y py], [a, b] => nameLoc sc (.Name x px) && nameLoc sc (.Name y py) && (py.line == px.line) && decide (x ≠ y) && !([a, b].all (foldedForSure 8)) && !([a, b].all (constantsAlone 8))
  | _, _ => false
def swYes3 (sc : Scope) : List Expr → List Expr → Bool
  | [.Name x px, .Name y py, .Name z pz], [a, b, c] => nameLoc sc (.Name x px) && nameLoc sc (.Name y py) && nameLoc sc (.Name z pz) && (py.line == px.line) && (pz.line == px.line) && decide (x ≠ y) && decide (x ≠ z) && decide (y ≠ z) && !([a, b, c].all (foldedForSure 8)) && !([a, b, c].all (constantsAlone 8))
  | _, _ => false
theorem fm_cel {env : Env} {line : Nat} {es : List Expr} (h : ∃ e ∈ es, ∃ x p, e = .Name x p ∧ env.kindOf x = some .cell) :
    (es.filterMap fun | .Name id pos => if env.kindOf id == some .local && pos.line == line then some id else none | _ => none).length < es.length := by
  induction es with
  | nil => obtain ⟨_, h, _⟩ := h; cases h
  | cons e es ih =>
    obtain ⟨e', hm, x, p, rfl, hk⟩ := h
    rcases List.mem_cons.mp hm with rfl | hm
    · rw [List.filterMap_cons]
      simp only [hk]
      exact Nat.lt_succ_of_le (List.length_filterMap_le _ _)
    · have := ih ⟨_, hm, x, p, rfl, hk⟩
      rw [List.filterMap_cons]
      split
      · exact Nat.lt_succ_of_lt this
      · rw [List.length_cons, List.length_cons]; exact Nat.succ_lt_succ this
theorem ss_no {sc : Scope} {X : Cx} (S : ScOk sc X) {ns vs : List Expr} {k k2 : Nat} {p p2 : Pos} (h : swNo sc ns vs = true) : swappedStores [.Tuple ns k p] (.Tuple vs k2 p2) X.env = pure none := by
  unfold swappedStores
  simp only []
  split
  · rfl
  · rename_i h1
    split
    · rfl
    · split
      · rfl
      · rename_i h3
        split
        · rfl
        · rename_i h4
          exfalso
          unfold swNo at h
          simp only [Bool.or_eq_true] at h
          rcases h with (h | h) | h
          · apply h1; rw [h]; rfl
          · exact h4 h
          · apply h3
            rw [List.any_eq_true] at h
            obtain ⟨e, he, hc⟩ := h
            have : ∃ e ∈ ns, ∃ x p, e = .Name x p ∧ X.env.kindOf x = some .cell := by
              unfold nameCel at hc
              split at hc
              · rename_i x pp
                split at hc
                · rename_i hk; exact ⟨_, he, x, pp, rfl, S.cel x hk⟩
                · cases hc
              · cases hc
            have := fm_cel (line := (ns.head?.map (·.pos.line)).getD 0) this
            rw [Bool.or_eq_true]
            left
            rw [bne_iff_ne]
            exact Nat.ne_of_lt this
theorem loc_of {sc : Scope} {X : Cx} (S : ScOk sc X) {x : Str} {p : Pos} (h : nameLoc sc (.Name x p) = true) : X.env.scope.names.lookup x = some .local := by
  simp only [nameLoc] at h
  split at h
  · rename_i hk; exact S.lcl x hk
  · cases h
theorem ss_yes2 {env : Env} {x y : Str} {px py kt2 pt2 : Pos} {k k2 : Nat} {a b : Expr} (hk : env.scope.kind = .function) (hx : env.scope.names.lookup x = some .local) (hy : env.scope.names.lookup y = some .local) (hxy : x ≠ y) (hl : (py.line == px.line) = true)
    (hf : [a, b].all (foldedForSure 8) = false) (hc : [a, b].all (constantsAlone 8) = false) (pa : plainX a = true) (pb : plainX b = true) : swappedStores [.Tuple [.Name x px, .Name y py] k kt2] (.Tuple [a, b] k2 pt2) env = pure (some [x, y]) := by
  have kx : env.kindOf x = some .local := hx
  have ky : env.kindOf y = some .local := hy
  have hb : env.blockKind = .function := by unfold Env.blockKind; rw [hk]; rfl
  have noS : ∀ e : Expr, plainX e = true → (match e with | .Starred .. => true | _ => false) = false := fun e h => by
    cases e <;> first | rfl | cases h
  have st : ([a, b].any fun | .Starred .. => true | _ => false) = false := by
    rw [List.any_cons, List.any_cons, List.any_nil]
    rw [noS a pa, noS b pb]
    rfl
  have e1 : ([Expr.Name x px, Expr.Name y py].filterMap fun | .Name id pos => if env.kindOf id == some .local && pos.line == px.line then some id else none | _ => none) = [x, y] := by
    simp only [List.filterMap_cons, List.filterMap_nil, kx, ky, hl]
    simp
  have e2 : [x, y].eraseDups = [x, y] := by
    have : (y == x) = false := by rw [beq_eq_false_iff_ne]; exact fun z => hxy z.symm
    simp [List.eraseDups_cons, this]
  unfold swappedStores
  simp only [hb, hf, hc]
  have e3 : (([Expr.Name x px, Expr.Name y py].head?.map (·.pos.line)).getD 0) = px.line := rfl
  simp only [e3]
  generalize hG : List.filterMap _ [Expr.Name x px, Expr.Name y py] = names
  have e4 := hG.symm.trans e1
  subst e4
  refine (if_neg (by simp)).trans ((if_neg fun h => Bool.false_ne_true (st.symm.trans h)).trans ?_)
  refine (if_neg ?_).trans ?_
  · rw [e2]; simp
  · rfl
theorem ss_yes3 {env : Env} {x y z : Str} {px py pz kt2 pt2 : Pos} {k k2 : Nat} {a b c : Expr} (hk : env.scope.kind = .function) (hx : env.scope.names.lookup x = some .local) (hy : env.scope.names.lookup y = some .local) (hz : env.scope.names.lookup z = some .local) (hxy : x ≠ y) (hxz : x ≠ z) (hyz : y ≠ z) (hl : (py.line == px.line) = true) (hl2 : (pz.line == px.line) = true)
    (hf : [a, b, c].all (foldedForSure 8) = false) (hc : [a, b, c].all (constantsAlone 8) = false) (pa : plainX a = true) (pb : plainX b = true) (pc : plainX c = true) : swappedStores [.Tuple [.Name x px, .Name y py, .Name z pz] k kt2] (.Tuple [a, b, c] k2 pt2) env = pure (some [x, y, z]) := by
  have kx : env.kindOf x = some .local := hx
  have ky : env.kindOf y = some .local := hy
  have kz : env.kindOf z = some .local := hz
  have hb : env.blockKind = .function := by unfold Env.blockKind; rw [hk]; rfl
  have noS : ∀ e : Expr, plainX e = true → (match e with | .Starred .. => true | _ => false) = false := fun e h => by
    cases e <;> first | rfl | cases h
  have st : ([a, b, c].any fun | .Starred .. => true | _ => false) = false := by
    rw [List.any_cons, List.any_cons, List.any_cons, List.any_nil]
    rw [noS a pa, noS b pb, noS c pc]
    rfl
  have e1 : ([Expr.Name x px, Expr.Name y py, Expr.Name z pz].filterMap fun | .Name id pos => if env.kindOf id == some .local && pos.line == px.line then some id else none | _ => none) = [x, y, z] := by
    simp only [List.filterMap_cons, List.filterMap_nil, kx, ky, kz, hl, hl2]
    simp
  have e2 : [x, y, z].eraseDups = [x, y, z] := by
    have h1 : (y == x) = false := by rw [beq_eq_false_iff_ne]; exact fun z => hxy z.symm
    have h2 : (z == x) = false := by rw [beq_eq_false_iff_ne]; exact fun z => hxz z.symm
    have h3 : (z == y) = false := by rw [beq_eq_false_iff_ne]; exact fun z => hyz z.symm
    simp [List.eraseDups_cons, h1, h2, h3]
  unfold swappedStores
  simp only [hb, hf, hc]
  have e3 : (([Expr.Name x px, Expr.Name y py, Expr.Name z pz].head?.map (·.pos.line)).getD 0) = px.line := rfl
  simp only [e3]
  generalize hG : List.filterMap _ [Expr.Name x px, Expr.Name y py, Expr.Name z pz] = names
  have e4 := hG.symm.trans e1
  subst e4
  refine (if_neg (by simp)).trans ((if_neg fun h => Bool.false_ne_true (st.symm.trans h)).trans ?_)
  refine (if_neg ?_).trans ?_
  · rw [e2]; simp
  · rfl

/-! ### the statements and their own form -/
section
variable (P : List Fn) (N : List Str)
mutual
def mS (sc : Scope) : Stm → Stmt → Bool
  | .expr a, s => match s with
    | .Expr e _ => mE P N sc a e && notComp e
    | _ => false
  | .asg (.nm i) a, s => match s with
    | .Assign [.Name x _] e _ => decide (N[i]? = some x) && locB sc x && mE P N sc a e
    | _ => false
  | .asg (.tp is) a, s => match s with
    | .Assign [.Tuple es k p] e _ => tgB N sc (.tp is) (.Tuple es k p) && mE P N sc a e && notTup e
    | _ => false
  | .par is es, s => match s with
    | .Assign [.Tuple ns _ _] (.Tuple vs _ _) _ => tgB.go N sc is ns && mL P N sc es vs && decide (is.length ≤ 1000) && (swNo sc ns vs || swYes2 sc ns vs || swYes3 sc ns vs)
    | _ => false
  | .aug i op a, s => match s with
    | .AugAssign (.Name x _) o e _ => decide (N[i]? = some x) && locB sc x && opbB op o && mE P N sc a e
    | _ => false
  | .put o k a, s => match s with
    | .Assign [.Subscript l i _] e _ => mE P N sc o l && mE P N sc k i && plainX i && mE P N sc a e
    | _ => false
  | .augput o k op a, s => match s with
    | .AugAssign (.Subscript l i _) o2 e _ => mE P N sc o l && mE P N sc k i && plainX i && opbB op o2 && mE P N sc a e
    | _ => false
  | .ret a, s => match s with
    | .Return (some e) _ => mE P N sc a e
    | _ => false
  | .ifs c a b, s => match s with
    | .If t x y _ => mT P N sc c t && mSs sc a x && mSs sc b y
    | _ => false
  | .whil c b, s => match s with
    | .While t x [] _ => mT P N sc c t && mSs sc b x
    | _ => false
  | .for t it b, s => match s with
    | .For tg iter x [] _ => (mI P N sc it iter && tupOk it tg) && tgB N sc t tg && mSs sc b x
    | _ => false
  | .brk, s => match s with
    | .Break _ => true
    | _ => false
  | .cont, s => match s with
    | .Continue _ => true
    | _ => false
  | .pass, s => match s with
    | .Pass _ => true
    | _ => false
def mSs (sc : Scope) : Sts → List Stmt → Bool
  | .nil, ss => match ss with
    | [] => true
    | _ => false
  | .cons a r, ss => match ss with
    | s :: ss => mS sc a s && mSs sc r ss
    | _ => false
end
end
end Ev

set_option Elab.async false
set_option linter.all false
set_option maxRecDepth 100000
set_option maxHeartbeats 2000000
namespace Ev
open PySem PySem.Spec PyProof.Rows L2

theorem vis_of {sc : Scope} {X : Cx} (S : ScOk sc X) {x : Str} (h : visB sc x = true) : Vis X.env.scope x ∧ (x == ("__debug__" : Str)) = false ∧ (x == ("__classdict__" : Str)) = false := by
  refine ⟨S.vis x h, ?_⟩
  unfold visB at h
  simp only [Bool.and_eq_true, Bool.not_eq_true'] at h
  exact ⟨h.1.2, h.2⟩
theorem gl_of {sc : Scope} {X : Cx} (S : ScOk sc X) {x : Str} (h : glB sc x = true) : Gl X x ∧ (x == ("__debug__" : Str)) = false := by
  refine ⟨S.gl x h, ?_⟩
  unfold glB at h
  simp only [Bool.and_eq_true, Bool.not_eq_true'] at h
  exact h.1.2
theorem mD_sh {P N sc} : ∀ {ks : Prs} {keys : List (Option Expr)} {vals : List Expr}, mD P N sc ks keys vals = true → keys.all (·.isSome) = true ∧ keys.length = vals.length ∧ (keys ≠ [] → ∃ a b r, ks = .cons a b r)
  | .nil, [], [], _ => ⟨rfl, rfl, fun h => absurd rfl h⟩
  | .nil, [], _ :: _, h => by simp [mD] at h
  | .nil, _ :: _, _, h => by simp [mD] at h
  | .cons a b r, [], _, h => by simp [mD] at h
  | .cons a b r, none :: _, _, h => by simp [mD] at h
  | .cons a b r, some _ :: _, [], h => by simp [mD] at h
  | .cons a b r, some k :: ks, v :: vs, h => by
    simp only [mD, Bool.and_eq_true] at h
    obtain ⟨h1, h2, _⟩ := mD_sh h.2
    exact ⟨by rw [List.all_cons, h1]; rfl, by rw [List.length_cons, List.length_cons, h2], fun _ => ⟨a, b, r, rfl⟩⟩
theorem mI_plain {P N sc} {it : Itr} {x : Expr} (h : mI P N sc it x = true) : plainX x = true := by
  cases it with
  | var i z => cases x <;> first | rfl | (simp [mI] at h)
  | ex a => simp only [mI, Bool.and_eq_true] at h; exact h.2
  | rng1 a => cases x <;> first | rfl | (simp [mI] at h)
  | rng2 a b => cases x <;> first | rfl | (simp [mI] at h)
  | rng3 a b c => cases x <;> first | rfl | (simp [mI] at h)
  | enum a => cases x <;> first | rfl | (simp [mI] at h)
  | zip a b => cases x <;> first | rfl | (simp [mI] at h)
theorem blk_conv {N : List Str} {sc sc2 : Scope} {X : Cx} {own : List (Str × Nat)} (S : ScOk sc X) (b : BlkOk N sc sc2 own) : BlkOk N X.env.scope sc2 own := ⟨b.kind, b.uniq, b.ix, fun y hy e => S.fc _ (b.free y hy e), b.own⟩
theorem own_map {N : List Str} (own : List Nat) : (own.map fun j => (N.getD j Str.empty, j)).map (·.2) = own := by
  induction own with
  | nil => rfl
  | cons a r ih => rw [List.map_cons, List.map_cons, ih]
theorem own_tg {tg : Tg} {own : List Nat} (h : (match tg with | .nm j => own.contains j | .tp js => js.all own.contains) = true) : ∀ j ∈ tgN tg, j ∈ own := by
  intro j hj
  cases tg with
  | nm i =>
    have : j = i := by simpa [tgN] using hj
    subst this
    simpa using h
  | tp js =>
    rw [List.all_eq_true] at h
    have := h j hj
    simpa using this

section
variable {P : List Fn} {N : List Str} {n : Nat}
theorem s_blt {X : Cx} {sc : Scope} (G : Gd P N n X) (S : ScOk sc X) {m : Bool} {b : Blt} {es : Exs} {l : Expr} {ls : List Expr} {x : Str} {p pos : Pos} (hx : x = Str.ofString (bltS b)) (hg : glB sc x = true) (hs : PA X (l :: ls) (tL X.K (callN P n) es)) (hp : ∀ e ∈ l :: ls, plainX e = true) (hb : b ≠ .str) :
    PE X (.Call (.Name x p) (l :: ls) [] pos) (tE X.K (callN P n) (.blt m b es)) := by
  have g := (gl_of S hg).1
  have mg := G.blt
  have hc := G.calm
  cases b with
  | len => exact l_b1 hx (by decide) g mg boot_len cr_len rb_len hs hp
  | abs => exact l_b1 hx (by decide) g mg PyProof.Rows.boot_abs call_abs rb_abs hs hp
  | int => exact l_bT hx (by decide) g mg boot_int call_int1 rb_int hs hp
  | min2 => exact l_b1 hx (by decide) g mg boot_min (cr_min2 hc G.units) rb_min2 hs hp
  | max2 => exact l_b1 hx (by decide) g mg boot_max (cr_max2 hc G.units) rb_max2 hs hp
  | min3 => exact l_b1 hx (by decide) g mg boot_min (call_min3D hc G.units) rb_min3 hs hp
  | max3 => exact l_b1 hx (by decide) g mg boot_max (call_max3D hc G.units) rb_max3 hs hp
  | min1 => exact l_b1 hx (by decide) g mg boot_min (cr_minD hc G.units) rb_min1 hs hp
  | max1 => exact l_b1 hx (by decide) g mg boot_max (cr_maxD hc G.units) rb_max1 hs hp
  | sum => exact l_b1 hx (by decide) g mg boot_sum (cr_sumT hc) rb_sum hs hp
  | any => exact l_b1 hx (by decide) g mg boot_any (cr_any hc) rb_any hs hp
  | all => exact l_b1 hx (by decide) g mg boot_all (cr_all hc) rb_all hs hp
  | tuple => exact l_bT hx (by decide) g mg boot_tuple call_tuple_of rb_tuple hs hp
  | list => exact l_bT hx (by decide) g mg boot_list call_list_of rb_list hs hp
  | sorted => exact l_b1 hx (by decide) g mg boot_sorted (cr_sort3 hc G.units) rb_sorted hs hp
  | dict => exact l_bT hx (by decide) g mg boot_dict (cr_dict hc) rb_dict hs hp
  | str => exact absurd rfl hb


mutual
theorem sE : ∀ (e : Ex) {X : Cx} {sc : Scope} (G : Gd P N n X) (S : ScOk sc X) {x : Expr} (h : mE P N sc e x = true), PE X x (tE X.K (callN P n) e)
  | .var i z, X, sc, G, S, x, h => by
    simp only [mE] at h
    split at h
    · simp only [Bool.and_eq_true, decide_eq_true_eq] at h
      obtain ⟨h1, h2, h3⟩ := vis_of S h.2
      exact l_var (by rw [G.hN]; exact h.1) h1 h2 h3
    · cases h
  | .lit p, X, sc, G, S, x, h => by
    simp only [mE] at h
    split at h
    · exact l_lit h
    · cases h
  | .glob i p, X, sc, G, S, x, h => by
    simp only [mE] at h
    split at h
    · rw [Bool.and_eq_true] at h
      obtain ⟨h1, h2⟩ := h
      split at h1
      · rename_i fn hf
        simp only [Bool.and_eq_true, decide_eq_true_eq] at h1
        obtain ⟨⟨h3, h4⟩, h5⟩ := h1
        split at h5
        · rename_i q hq
          rw [same_eq h5] at hq
          obtain ⟨g1, g2⟩ := gl_of S h2
          exact l_glob G hf (by simpa using h3) hq h4 g1 g2
        · cases h5
      · cases h1
    · cases h
  | .bin op a b, X, sc, G, S, x, h => by
    simp only [mE] at h
    split at h
    · simp only [Bool.and_eq_true] at h
      obtain rfl := opb_eq h.1.1
      exact l_bin (sE a G S h.1.2) (sE b G S h.2)
    · cases h
  | .neg a, X, sc, G, S, x, h => by
    simp only [mE] at h
    split at h
    · exact l_neg (sE a G S h)
    · cases h
  | .cmp op a b, X, sc, G, S, x, h => by
    simp only [mE] at h
    split at h
    · simp only [Bool.and_eq_true] at h
      obtain ⟨⟨⟨h1, h2⟩, h3⟩, h4⟩ := h
      obtain rfl := opc_eq h1
      exact l_cmp G.units (sE a G S h2) (sE b G S h3) h4
    · cases h
  | .cmp2 op op2 a b c, X, sc, G, S, x, h => by
    simp only [mE] at h
    split at h
    · simp only [Bool.and_eq_true] at h
      obtain ⟨⟨⟨⟨⟨⟨h1, h2⟩, h3⟩, h4⟩, h5⟩, h6⟩, h7⟩ := h
      obtain rfl := opc_eq h1
      obtain rfl := opc_eq h2
      exact l_cmp2 G.units (sE a G S h3) (sE b G S h4) (sE c G S h5) h7
    · cases h
  | .boo isAnd a b, X, sc, G, S, x, h => by
    simp only [mE] at h
    split at h
    · rename_i o l r rs p
      simp only [Bool.and_eq_true] at h
      obtain ⟨⟨h1, h2⟩, h3⟩ := h
      cases rs with
      | nil => exact l_boo h1 (sE a G S h2) (pe_one (sE b G S h3))
      | cons r2 rs => exact l_boo h1 (sE a G S h2) (sE b G S h3)
    · cases h
  | .not a, X, sc, G, S, x, h => by
    simp only [mE] at h
    split at h
    · exact l_not (sE a G S h)
    · cases h
  | .ite c a b, X, sc, G, S, x, h => by
    simp only [mE] at h
    split at h
    · simp only [Bool.and_eq_true] at h
      exact l_ite (sT c G S h.1.1).1 (sE a G S h.1.2) (sE b G S h.2)
    · cases h
  | .tup es, X, sc, G, S, x, h => by
    simp only [mE] at h
    split at h
    · exact l_tup (sL es G S h)
    · cases h
  | .lst m es, X, sc, G, S, x, h => by
    simp only [mE] at h
    split at h
    · exact l_lst (sL es G S h)
    · cases h
  | .dict m ks, X, sc, G, S, x, h => by
    simp only [mE] at h
    split at h
    · split at h
      · exact l_dnil
      · cases h
    · rename_i k kk vv p
      simp only [Bool.and_eq_true, decide_eq_true_eq] at h
      obtain ⟨h1, h2, h3⟩ := mD_sh h.2
      have pps := sD ks G S (pos := p) h.2
      obtain ⟨a, b, r, rfl⟩ := h3 (List.cons_ne_nil _ _)
      exact l_dict pps h1 h2 (List.cons_ne_nil _ _) h.1
    · cases h
  | .idx a i, X, sc, G, S, x, h => by
    simp only [mE] at h
    split at h
    · simp only [Bool.and_eq_true] at h
      exact l_idx G.units (sE a G S h.1.1) (sE i G S h.1.2) h.2
    · cases h
  | .slc a lo hi, X, sc, G, S, x, h => by
    simp only [mE] at h
    split at h
    · simp only [Bool.and_eq_true] at h
      exact l_slc (sE a G S h.1.1) (sO lo G S h.1.2) (sO hi G S h.2)
    · cases h
  | .rev a, X, sc, G, S, x, h => by
    simp only [mE] at h
    split at h
    · rw [Bool.and_eq_true, beq_iff_eq] at h
      obtain ⟨rfl, h⟩ := h
      exact l_rev (sE a G S h)
    · cases h
  | .call f es, X, sc, G, S, x, h => by
    simp only [mE] at h
    split at h
    · rename_i y p ls p2
      simp only [Bool.and_eq_true] at h
      obtain ⟨⟨⟨h1, h2⟩, h3⟩, h4⟩ := h
      split at h1
      · rename_i fn hf
        rw [Bool.and_eq_true, decide_eq_true_eq] at h1
        obtain ⟨g1, g2⟩ := gl_of S h2
        exact l_call G hf (by simpa using h1.2) h1.1 g1 g2 (sL es G S h3) (mL_plain h3) (by
          intro e
          subst e
          cases h4)
      · cases h1
    · cases h
  | .blt m b es, X, sc, G, S, x, h => by
    simp only [mE] at h
    split at h
    · rename_i y p ls p2
      simp only [Bool.and_eq_true, decide_eq_true_eq] at h
      obtain ⟨⟨⟨⟨h1, h2⟩, h3⟩, h4⟩, h5⟩ := h
      have hs := sL es G S h4
      have hp := mL_plain h4
      have hb : b ≠ .str := by
        rintro rfl
        cases h5
      cases ls with
      | nil => cases b <;> cases h3
      | cons l ls => exact s_blt G S h1 h2 hs hp hb
    · cases h
  | .mth m o es, X, sc, G, S, x, h => by
    simp only [mE] at h
    split at h
    · rename_i l y apos ls cpos
      simp only [Bool.and_eq_true, decide_eq_true_eq] at h
      obtain ⟨⟨⟨⟨⟨⟨h1, h2⟩, h3⟩, h4⟩, h5⟩, h6⟩, h7⟩ := h
      subst h1
      have ho := sE o G S h5
      have hp := mL_plain h6
      have one : mthN m = 1 → ∃ e a, ls = [e] ∧ es = .cons a .nil := fun hm => by
        rw [hm] at h2
        match ls, es, h2, h6 with
        | [e], .cons a .nil, _, _ => exact ⟨e, a, rfl, rfl⟩
        | [e], .nil, _, h6 => simp [mL] at h6
        | [e], .cons a (.cons b c), _, h6 => simp [mL] at h6
      have two : mthN m = 2 → ∃ e f a b, ls = [e, f] ∧ es = .cons a (.cons b .nil) := fun hm => by
        rw [hm] at h2
        match ls, es, h2, h6 with
        | [e, f], .cons a (.cons b .nil), _, _ => exact ⟨e, f, a, b, rfl, rfl⟩
        | [e, f], .nil, _, h6 => simp [mL] at h6
        | [e, f], .cons a .nil, _, h6 => simp [mL] at h6
        | [e, f], .cons a (.cons b (.cons c d)), _, h6 => simp [mL] at h6
      have zero : mthN m = 0 → ls = [] ∧ es = .nil := fun hm => by
        rw [hm] at h2
        match ls, es, h2, h6 with
        | [], .nil, _, _ => exact ⟨rfl, rfl⟩
        | [], .cons a b, _, h6 => simp [mL] at h6
      cases m with
      | append =>
        obtain ⟨e, a, rfl, rfl⟩ := one rfl
        simp only [mL, Bool.and_eq_true] at h6
        exact l_chg1 rfl PySem.F.slot_list_append PySem.F.type_list_append mt_append rm_append h3 h4 ho (sE a G S h6.1.1) h6.1.2
      | extend =>
        obtain ⟨e, a, rfl, rfl⟩ := one rfl
        simp only [mL, Bool.and_eq_true] at h6
        exact l_chg1 rfl PySem.F.slot_list_extend PySem.F.type_list_extend mt_extend rm_extend h3 h4 ho (sE a G S h6.1.1) h6.1.2
      | pop =>
        obtain ⟨rfl, rfl⟩ := zero rfl
        exact l_chg0 rfl PySem.F.slot_list_pop PySem.F.type_list_pop mt_pop rm_pop h3 h4 ho
      | popAt =>
        obtain ⟨e, a, rfl, rfl⟩ := one rfl
        simp only [mL, Bool.and_eq_true] at h6
        exact l_chg1 rfl PySem.F.slot_list_pop PySem.F.type_list_pop mt_popAt rm_popAt h3 h4 ho (sE a G S h6.1.1) h6.1.2
      | get1 =>
        obtain ⟨e, a, rfl, rfl⟩ := one rfl
        simp only [mL, Bool.and_eq_true] at h6
        exact l_get1 G.units h3 h4 ho (sE a G S h6.1.1) h6.1.2
      | get2 =>
        obtain ⟨e, f, a, b, rfl, rfl⟩ := two rfl
        simp only [mL, Bool.and_eq_true] at h6
        exact l_get2 G.units h3 h4 ho (sE a G S h6.1.1) (sE b G S h6.2.1.1) h6.1.2 h6.2.1.2
      | lower =>
        obtain ⟨rfl, rfl⟩ := zero rfl
        exact l_lower h3 h4 ho
      | insert => cases h7
      | join =>
        obtain ⟨e, a, rfl, rfl⟩ := one rfl
        simp only [mL, Bool.and_eq_true] at h6
        exact l_join h3 h4 ho (sE a G S h6.1.1) h6.1.2
      | count =>
        obtain ⟨e, a, rfl, rfl⟩ := one rfl
        simp only [mL, Bool.and_eq_true] at h6
        exact l_count G.units h3 h4 ho (sE a G S h6.1.1) h6.1.2
      | index =>
        obtain ⟨e, a, rfl, rfl⟩ := one rfl
        simp only [mL, Bool.and_eq_true] at h6
        exact l_index G.units h3 h4 ho (sE a G S h6.1.1) h6.1.2
      | tindex => cases h7
      | tcount => cases h7
      | scount => cases h7
    · cases h
  | .isi a t, X, sc, G, S, x, h => by
    simp only [mE] at h
    split at h
    · simp only [Bool.and_eq_true, decide_eq_true_eq] at h
      obtain ⟨⟨⟨⟨⟨h1, h2⟩, h3⟩, h4⟩, h5⟩, h6⟩ := h
      exact l_isi h1 h3 (gl_of S h2).1 (gl_of S h4).1 G.blt (sE a G S h5) h6
    · cases h
  | .comp m elt own tg it ifs, X, sc, G, S, x, h => by
    simp only [mE] at h
    split at h
    · rename_i el t i fs sc2 p
      rw [Bool.and_eq_true, Bool.and_eq_true, Bool.and_eq_true, Bool.and_eq_true, Bool.and_eq_true] at h
      obtain ⟨⟨⟨⟨⟨h1, h2⟩, h3⟩, h4⟩, h5⟩, h6⟩ := h
      have h2' := (Bool.and_eq_true _ _ ▸ h2).1
      have b0 := blkOk_by h1
      have S2 : ∀ (s : Shared) (H : Hp) (D : Addr) (cl : List (Str × Addr)) (fp : List Addr), ScOk sc2 (X.blk s H sc2 (compEnvC sc2 cl D X.env) fp) := fun s H D cl fp => S.blk b0.kind s H D cl fp
      have G2 : ∀ (s : Shared) (H : Hp) (D : Addr) (cl : List (Str × Addr)) (fp : List Addr), Gd P N n (X.blk s H sc2 (compEnvC sc2 cl D X.env) fp) := fun s H D cl fp => G.blk s H sc2 _ fp
      refine l_comp G.calm (by rw [G.hN]; exact G.nd) (own_map (N := N) own) (own_tg h6) (sI it G S h2) (by rw [G.hN]; exact blk_conv S b0) (fun s H D cl fp => ?_) (fun s H D cl fp => ?_) (fun s H D cl fp => sE elt (G2 s H D cl fp) (S2 s H D cl fp) h4) (mI_plain h2')
      · exact l_tg (G2 s H D cl fp).calm (S2 s H D cl fp) G.hN G.nd h3
      · cases fs with
        | nil =>
          simp only at h5
          split at h5
          · exact PTs.imp pts_nil fun σ H Q ⟨φ, h, env, b, h', R, E, ev, k⟩ => by
              simp only [evT] at ev
              cases ev
              exact k H φ R Ext.refl
          · cases h5
        | cons c fs =>
          cases fs with
          | nil => exact pts_one (sT ifs (G2 s H D cl fp) (S2 s H D cl fp) h5).1
          | cons c2 fs => cases h5
    · cases h
  | .comp2 m elt own tg it own2 tg2 it2 ifs, X, sc, G, S, x, h => by
    simp only [mE] at h
    split at h
    · rename_i el t i t2 i2 fs sc2 p
      rw [Bool.and_eq_true, Bool.and_eq_true, Bool.and_eq_true, Bool.and_eq_true, Bool.and_eq_true, Bool.and_eq_true, Bool.and_eq_true, Bool.and_eq_true, Bool.and_eq_true, Bool.and_eq_true] at h
      obtain ⟨⟨⟨⟨⟨⟨⟨⟨⟨⟨h1, h2⟩, h3⟩, hnv⟩, hi2⟩, hg2⟩, h4⟩, h5⟩, h6⟩, h7⟩, h8⟩ := h
      have h2' := (Bool.and_eq_true _ _ ▸ h2).1
      have hi2' := (Bool.and_eq_true _ _ ▸ hi2).1
      have b0 := blkOk_by h1
      have S2 : ∀ (s : Shared) (H : Hp) (D : Addr) (cl : List (Str × Addr)) (fp : List Addr), ScOk sc2 (X.blk s H sc2 (compEnvC sc2 cl D X.env) fp) := fun s H D cl fp => S.blk b0.kind s H D cl fp
      have G2 : ∀ (s : Shared) (H : Hp) (D : Addr) (cl : List (Str × Addr)) (fp : List Addr), Gd P N n (X.blk s H sc2 (compEnvC sc2 cl D X.env) fp) := fun s H D cl fp => G.blk s H sc2 _ fp
      have hv2 : ∀ σ H, Lkd it2 σ H := by
        intro σ H
        cases it2 <;> first | exact True.intro | cases hnv
      have hoo : ∀ j ∈ own2, j ∈ own := fun j hj => by
        rw [List.all_eq_true] at h8
        have := h8 j hj
        simpa using this
      refine l_comp2 G.calm (by rw [G.hN]; exact G.nd) (own_map (N := N) own) (own_tg h6) (own_tg h7) hoo hv2 (sI it G S h2) (by rw [G.hN]; exact blk_conv S b0) (fun s H D cl fp => ?_) (fun s H D cl fp => sI it2 (G2 s H D cl fp) (S2 s H D cl fp) hi2) (fun s H D cl fp => ?_) (fun s H D cl fp => ?_) (fun s H D cl fp => sE elt (G2 s H D cl fp) (S2 s H D cl fp) h4) (mI_plain h2') (mI_plain hi2')
      · exact l_tg (G2 s H D cl fp).calm (S2 s H D cl fp) G.hN G.nd h3
      · exact l_tg (G2 s H D cl fp).calm (S2 s H D cl fp) G.hN G.nd hg2
      · cases fs with
        | nil =>
          simp only at h5
          split at h5
          · exact PTs.imp pts_nil fun σ H Q ⟨φ, h, env, b, h', R, E, ev, k⟩ => by
              simp only [evT] at ev
              cases ev
              exact k H φ R Ext.refl
          · cases h5
        | cons c fs =>
          cases fs with
          | nil => exact pts_one (sT ifs (G2 s H D cl fp) (S2 s H D cl fp) h5).1
          | cons c2 fs => cases h5
    · cases h
theorem sL : ∀ (es : Exs) {X : Cx} {sc : Scope} (G : Gd P N n X) (S : ScOk sc X) {ls : List Expr} (h : mL P N sc es ls = true), PA X ls (tL X.K (callN P n) es)
  | .nil, X, sc, G, S, ls, h => by
    simp only [mL] at h
    split at h
    · exact l_nil
    · cases h
  | .cons a es, X, sc, G, S, ls, h => by
    simp only [mL] at h
    split at h
    · simp only [Bool.and_eq_true] at h
      exact l_cons (sE a G S h.1.1) h.1.2 (sL es G S h.2)
    · cases h
theorem sO : ∀ (es : Exs) {X : Cx} {sc : Scope} (G : Gd P N n X) (S : ScOk sc X) {o : Option Expr} (h : mO P N sc es o = true), PO X o (tO X.K (callN P n) es)
  | .nil, X, sc, G, S, o, h => by
    simp only [mO] at h
    split at h
    · exact l_o0
    · cases h
  | .cons a .nil, X, sc, G, S, o, h => by
    simp only [mO] at h
    split at h
    · simp only [Bool.and_eq_true] at h
      exact l_o1 (sE a G S h.1)
    · cases h
  | .cons a (.cons b c), X, sc, G, S, o, h => by simp [mO] at h
theorem sD : ∀ (ks : Prs) {X : Cx} {sc : Scope} (G : Gd P N n X) (S : ScOk sc X) {keys : List (Option Expr)} {vals : List Expr} {pos : Pos} (h : mD P N sc ks keys vals = true), PPs X pos keys vals (prsT X.K (callN P n) ks)
  | .nil, X, sc, G, S, keys, vals, pos, h => by
    simp only [mD] at h
    split at h
    · exact pps_nil
    · cases h
  | .cons k v r, X, sc, G, S, keys, vals, pos, h => by
    simp only [mD] at h
    split at h
    · simp only [Bool.and_eq_true] at h
      exact pps_cons (sE k G S h.1.1) (sE v G S h.1.2) (sD r G S h.2)
    · cases h
theorem sT : ∀ (t : Ts) {X : Cx} {sc : Scope} (G : Gd P N n X) (S : ScOk sc X) {x : Expr} (h : mT P N sc t x = true), PT X x (tT X.K (callN P n) t) ∧ ∀ o vs p, x = .BoolOp o vs p → PW X x (tT X.K (callN P n) t)
  | .yes, X, sc, G, S, x, h => by simp [mT] at h
  | .of (.cmp op a b), X, sc, G, S, x, h => by
    simp only [mT, mE, Bool.and_eq_true] at h
    obtain ⟨h, _⟩ := h
    split at h
    · simp only [Bool.and_eq_true] at h
      obtain ⟨⟨⟨h1, h2⟩, h3⟩, h4⟩ := h
      obtain rfl := opc_eq h1
      exact ⟨l_cmpT G.units (sE a G S h2) (sE b G S h3) h4, fun o vs p e => by cases e⟩
    · cases h
  | .of (.cmp2 op op2 a b c), X, sc, G, S, x, h => by
    simp only [mT, mE, Bool.and_eq_true] at h
    obtain ⟨h, _⟩ := h
    split at h
    · simp only [Bool.and_eq_true] at h
      obtain ⟨⟨⟨⟨⟨⟨h1, h2⟩, h3⟩, h4⟩, h5⟩, h6⟩, h7⟩ := h
      obtain rfl := opc_eq h1
      obtain rfl := opc_eq h2
      exact ⟨l_cmp2T G.units (sE a G S h3) (sE b G S h4) (sE c G S h5) h7, fun o vs p e => by cases e⟩
    · cases h
  | .of a, X, sc, G, S, x, h => by
    simp only [mT, Bool.and_eq_true, Bool.or_eq_true] at h
    by_cases hc : isCmp a = true
    · cases a <;> first | (simp [isCmp] at hc; done) | skip
      · rename_i op a b
        simp only [mE] at h
        obtain ⟨h, _⟩ := h
        split at h
        · simp only [Bool.and_eq_true] at h
          obtain ⟨⟨⟨h1, h2⟩, h3⟩, h4⟩ := h
          obtain rfl := opc_eq h1
          exact ⟨l_cmpT G.units (sE a G S h2) (sE b G S h3) h4, fun o vs p e => by cases e⟩
        · cases h
      · rename_i op op2 a b c
        simp only [mE] at h
        obtain ⟨h, _⟩ := h
        split at h
        · simp only [Bool.and_eq_true] at h
          obtain ⟨⟨⟨⟨⟨⟨h1, h2⟩, h3⟩, h4⟩, h5⟩, h6⟩, h7⟩ := h
          obtain rfl := opc_eq h1
          obtain rfl := opc_eq h2
          exact ⟨l_cmp2T G.units (sE a G S h3) (sE b G S h4) (sE c G S h5) h7, fun o vs p e => by cases e⟩
        · cases h
    · have hp : plainT x = true := h.2.resolve_right hc
      exact ⟨l_of (sE a G S h.1) hp, fun o vs p e => by subst e; cases hp⟩
  | .not t, X, sc, G, S, x, h => by
    simp only [mT] at h
    split at h
    · exact ⟨l_notT (sT t G S h).1, fun o vs p e => by cases e⟩
    · cases h
  | .boo isAnd a b, X, sc, G, S, x, h => by
    simp only [mT] at h
    split at h
    · rename_i o l r rs p
      simp only [Bool.and_eq_true] at h
      obtain ⟨⟨h1, h2⟩, h3⟩ := h
      have w : PW X (.BoolOp o (l :: r :: rs) p) (tT X.K (callN P n) (.boo isAnd a b)) := by
        cases rs with
        | nil =>
          refine l_booT1 h1 (sT a G S h2).1 ?_
          cases o with
          | And => exact pw_and1 (sT b G S h3).1
          | Or => exact pw_or1 (sT b G S h3).1
        | cons r2 rs => exact l_booT1 h1 (sT a G S h2).1 ((sT b G S h3).2 _ _ _ rfl)
      exact ⟨w.pt, fun _ _ _ _ => w⟩
    · cases h
theorem sI : ∀ (it : Itr) {X : Cx} {sc : Scope} (G : Gd P N n X) (S : ScOk sc X) {x tg : Expr} (h : (mI P N sc it x && tupOk it tg) = true), PI X tg x (tI X.K (callN P n) it)
  | .var i z, X, sc, G, S, x, tg, h => by
    rw [Bool.and_eq_true] at h
    obtain ⟨h, ht⟩ := h
    simp only [mI] at h
    split at h
    · simp only [Bool.and_eq_true, decide_eq_true_eq] at h
      obtain ⟨h1, h2, h3⟩ := vis_of S h.2
      exact l_ivar (by rw [G.hN]; exact h.1) h1 h2 h3
    · cases h
  | .ex a, X, sc, G, S, x, tg, h => by
    rw [Bool.and_eq_true] at h
    obtain ⟨h, ht⟩ := h
    simp only [mI, Bool.and_eq_true] at h
    exact l_iex (sE a G S h.1)
  | .rng1 a, X, sc, G, S, x, tg, h => by
    rw [Bool.and_eq_true] at h
    obtain ⟨h, ht⟩ := h
    simp only [mI] at h
    split at h
    · simp only [Bool.and_eq_true, decide_eq_true_eq] at h
      obtain ⟨⟨⟨h1, h2⟩, h3⟩, h4⟩ := h
      exact l_rng1 h1 (gl_of S h2).1 G.blt (sE a G S h3) h4
    · cases h
  | .rng2 a b, X, sc, G, S, x, tg, h => by
    rw [Bool.and_eq_true] at h
    obtain ⟨h, ht⟩ := h
    simp only [mI] at h
    split at h
    · simp only [Bool.and_eq_true, decide_eq_true_eq] at h
      obtain ⟨⟨⟨⟨⟨h1, h2⟩, h3⟩, h4⟩, h5⟩, h6⟩ := h
      exact l_rng2 h1 (gl_of S h2).1 G.blt (sE a G S h3) (sE b G S h5) h4 h6
    · cases h
  | .rng3 a b c, X, sc, G, S, x, tg, h => by
    rw [Bool.and_eq_true] at h
    obtain ⟨h, ht⟩ := h
    simp only [mI] at h
    split at h
    · simp only [Bool.and_eq_true, decide_eq_true_eq] at h
      obtain ⟨⟨⟨⟨⟨⟨⟨h1, h2⟩, h3⟩, h4⟩, h5⟩, h6⟩, h7⟩, h8⟩ := h
      exact l_rng3 h1 (gl_of S h2).1 G.blt (sE a G S h3) (sE b G S h5) (sE c G S h7) h4 h6 h8
    · cases h
  | .enum a, X, sc, G, S, x, tg, h => by
    rw [Bool.and_eq_true] at h
    obtain ⟨h, ht⟩ := h
    cases tg <;> first | (simp [tupOk] at ht; done) | skip
    simp only [mI] at h
    split at h
    · simp only [Bool.and_eq_true, decide_eq_true_eq] at h
      obtain ⟨⟨⟨h1, h2⟩, h3⟩, h4⟩ := h
      exact l_enum h1 (gl_of S h2).1 G.blt (sE a G S h3) h4
    · cases h
  | .zip a b, X, sc, G, S, x, tg, h => by
    rw [Bool.and_eq_true] at h
    obtain ⟨h, ht⟩ := h
    cases tg <;> first | (simp [tupOk] at ht; done) | skip
    simp only [mI] at h
    split at h
    · simp only [Bool.and_eq_true, decide_eq_true_eq] at h
      obtain ⟨⟨⟨⟨⟨h1, h2⟩, h3⟩, h4⟩, h5⟩, h6⟩ := h
      exact l_zip h1 (gl_of S h2).1 G.blt (sE a G S h3) (sE b G S h5) h4 h6
    · cases h
end
end
end Ev

set_option Elab.async false
set_option linter.all false
set_option maxRecDepth 100000
set_option maxHeartbeats 2000000
namespace Ev
open PySem PySem.Spec PyProof.Rows L2

theorem sw_comp {el : Expr} {gs : List Comprehension} {sc sc2 : Scope} {p pos : Pos} {y : Str} {l : Nat} {X : Cx} (S : ScOk sc X) (hl : locB sc y = true) :
    (X.env.scope.names.lookup y = some .local ∧ swapsWith (.ListComp el gs sc2 pos) (some (.Name y p)) l X.env = pure true) ∨ swapsWith (.ListComp el gs sc2 pos) (some (.Name y p)) l X.env = pure false := by
  unfold locB at hl
  have hb : X.env.blockKind = .function := by unfold Env.blockKind; rw [S.kind]; rfl
  cases hk : sc.names.lookup y with
  | none => rw [hk] at hl; cases hl
  | some k =>
    rw [hk] at hl
    cases k <;> first | cases hl | skip
    · have h1 := S.lcl y hk
      have ky : X.env.kindOf y = some .local := h1
      by_cases hc : (p.line == pos.line) = true ∧ (sc2.names.any fun (n, k) => n == y && (k == .local || k == .cell)) = false
      · exact .inl ⟨h1, sw_true S.kind h1 hc.1 hc.2⟩
      · right
        unfold swapsWith
        simp only [hb, ky, Expr.pos]
        by_cases h2 : (p.line == pos.line) = true
        · have h3 : (sc2.names.any fun (n, k) => n == y && (k == .local || k == .cell)) = true := by
            rw [← Bool.not_eq_false]
            exact fun z => hc ⟨h2, z⟩
          rw [h2]
          show pure (_ && !(sc2.names.any fun (n, k) => n == y && (k == .local || k == .cell))) = pure false
          rw [h3]
          simp
        · have h2 : (p.line == pos.line) = false := by simpa using h2
          rw [h2]
          simp
    · right
      have ky : X.env.kindOf y = some .cell := S.cel y hk
      unfold swapsWith
      simp only [hb, ky]
      rfl
section
variable {P : List Fn} {N : List Str} {n : Nat}
theorem mE_comp {sc : Scope} {a : Ex} {x : Expr} (h : mE P N sc a x = true) (hn : notComp x = false) : (∃ m elt own tg it ifs el t i fs sc2 p, a = .comp m elt own tg it ifs ∧ x = .ListComp el [⟨t, i, fs, 0⟩] sc2 p) ∨
    ∃ m elt own tg it own2 tg2 it2 ifs el t i t2 i2 fs sc2 p, a = .comp2 m elt own tg it own2 tg2 it2 ifs ∧ x = .ListComp el [⟨t, i, [], 0⟩, ⟨t2, i2, fs, 0⟩] sc2 p := by
  cases a <;> simp only [mE] at h <;> first
    | (split at h <;> first | (cases hn; done) | (cases h; done) | skip)
    | (cases h; done)
    | skip
  all_goals first
    | exact .inl ⟨_, _, _, _, _, _, _, _, _, _, _, _, rfl, rfl⟩
    | exact .inr ⟨_, _, _, _, _, _, _, _, _, _, _, _, _, _, _, _, _, rfl, rfl⟩
    | skip
theorem s_asg1 {X : Cx} {sc : Scope} (G : Gd P N n X) (S : ScOk sc X) {i : Nat} {y : Str} {p pos : Pos} {m : Bool} {elt : Ex} {own : List Nat} {tg : Tg} {it : Itr} {ifs : Ts} {el t ii : Expr} {fs : List Expr} {sc2 : Scope} {pp : Pos} (h1 : N[i]? = some y) (h2 : locB sc y = true)
    (h3 : mE P N sc (.comp m elt own tg it ifs) (.ListComp el [⟨t, ii, fs, 0⟩] sc2 pp) = true) : PS X (.Assign [.Name y p] (.ListComp el [⟨t, ii, fs, 0⟩] sc2 pp) pos) (tS X.K (callN P n) (.asg (.nm i) (.comp m elt own tg it ifs))) := by
  obtain ⟨l1, l2⟩ := S.loc y h2
  have nd : X.N.Nodup := by rw [G.hN]; exact G.nd
  have hy : X.N[i]? = some y := by rw [G.hN]; exact h1
  rcases sw_comp (el := el) (gs := [⟨t, ii, fs, 0⟩]) (sc2 := sc2) (p := p) (pos := pp) (l := pos.line) S h2 with ⟨hl, hsw⟩ | hsw
  · simp only [mE, Bool.and_eq_true] at h3
    obtain ⟨⟨⟨⟨⟨h1, h2⟩, h3⟩, h4⟩, h5⟩, h6⟩ := h3
    have b0 := blkOk_by h1
    have S2 : ∀ (s : Shared) (H : Hp) (D : Addr) (cl : List (Str × Addr)) (fp : List Addr), ScOk sc2 (X.blk s H sc2 (compEnvC sc2 cl D X.env) fp) := fun s H D cl fp => S.blk b0.kind s H D cl fp
    have G2 : ∀ (s : Shared) (H : Hp) (D : Addr) (cl : List (Str × Addr)) (fp : List Addr), Gd P N n (X.blk s H sc2 (compEnvC sc2 cl D X.env) fp) := fun s H D cl fp => G.blk s H sc2 _ fp
    refine l_setc G.calm nd hy hl hsw (own_map (N := N) own) (own_tg h6) (sI it G S (by rw [Bool.and_eq_true]; exact h2)) (by rw [G.hN]; exact blk_conv S b0) (fun s H D cl fp => ?_) (fun s H D cl fp => ?_) (fun s H D cl fp => sE elt (G2 s H D cl fp) (S2 s H D cl fp) h4) (mI_plain h2.1)
    · exact l_tg (G2 s H D cl fp).calm (S2 s H D cl fp) G.hN G.nd h3
    · cases fs with
      | nil =>
        simp only at h5
        split at h5
        · exact PTs.imp pts_nil fun σ H Q ⟨φ, h, env, b, h', R, E, ev, k⟩ => by
            simp only [evT] at ev
            cases ev
            exact k H φ R Ext.refl
        · cases h5
      | cons c fs =>
        cases fs with
        | nil => exact pts_one (sT ifs (G2 s H D cl fp) (S2 s H D cl fp) h5).1
        | cons c2 fs => cases h5
  · exact l_set nd hy l1 l2 (sE _ G S h3) hsw
theorem s_asg2 {X : Cx} {sc : Scope} (G : Gd P N n X) (S : ScOk sc X) {i : Nat} {y : Str} {p pos : Pos} {m : Bool} {elt : Ex} {own own2 : List Nat} {tg tg2 : Tg} {it it2 : Itr} {ifs : Ts} {el t ii t2 i2 : Expr} {fs : List Expr} {sc2 : Scope} {pp : Pos} (h1 : N[i]? = some y) (h2 : locB sc y = true)
    (h3 : mE P N sc (.comp2 m elt own tg it own2 tg2 it2 ifs) (.ListComp el [⟨t, ii, [], 0⟩, ⟨t2, i2, fs, 0⟩] sc2 pp) = true) : PS X (.Assign [.Name y p] (.ListComp el [⟨t, ii, [], 0⟩, ⟨t2, i2, fs, 0⟩] sc2 pp) pos) (tS X.K (callN P n) (.asg (.nm i) (.comp2 m elt own tg it own2 tg2 it2 ifs))) := by
  obtain ⟨l1, l2⟩ := S.loc y h2
  have nd : X.N.Nodup := by rw [G.hN]; exact G.nd
  have hy : X.N[i]? = some y := by rw [G.hN]; exact h1
  rcases sw_comp (el := el) (gs := [⟨t, ii, [], 0⟩, ⟨t2, i2, fs, 0⟩]) (sc2 := sc2) (p := p) (pos := pp) (l := pos.line) S h2 with ⟨hl, hsw⟩ | hsw
  · simp only [mE] at h3
    rw [Bool.and_eq_true, Bool.and_eq_true, Bool.and_eq_true, Bool.and_eq_true, Bool.and_eq_true, Bool.and_eq_true, Bool.and_eq_true, Bool.and_eq_true, Bool.and_eq_true, Bool.and_eq_true] at h3
    obtain ⟨⟨⟨⟨⟨⟨⟨⟨⟨⟨h1, h2⟩, h3⟩, hnv⟩, hi2⟩, hg2⟩, h4⟩, h5⟩, h6⟩, h7⟩, h8⟩ := h3
    have h2' := (Bool.and_eq_true _ _ ▸ h2).1
    have hi2' := (Bool.and_eq_true _ _ ▸ hi2).1
    have b0 := blkOk_by h1
    have S2 : ∀ (s : Shared) (H : Hp) (D : Addr) (cl : List (Str × Addr)) (fp : List Addr), ScOk sc2 (X.blk s H sc2 (compEnvC sc2 cl D X.env) fp) := fun s H D cl fp => S.blk b0.kind s H D cl fp
    have G2 : ∀ (s : Shared) (H : Hp) (D : Addr) (cl : List (Str × Addr)) (fp : List Addr), Gd P N n (X.blk s H sc2 (compEnvC sc2 cl D X.env) fp) := fun s H D cl fp => G.blk s H sc2 _ fp
    have hv2 : ∀ σ H, Lkd it2 σ H := by
      intro σ H
      cases it2 <;> first | exact True.intro | cases hnv
    have hoo : ∀ j ∈ own2, j ∈ own := fun j hj => by
      rw [List.all_eq_true] at h8
      have := h8 j hj
      simpa using this
    refine l_setc2 G.calm nd hy hl hsw (own_map (N := N) own) (own_tg h6) (own_tg h7) hoo hv2 (sI it G S h2) (by rw [G.hN]; exact blk_conv S b0) (fun s H D cl fp => ?_) (fun s H D cl fp => sI it2 (G2 s H D cl fp) (S2 s H D cl fp) hi2) (fun s H D cl fp => ?_) (fun s H D cl fp => ?_) (fun s H D cl fp => sE elt (G2 s H D cl fp) (S2 s H D cl fp) h4) (mI_plain h2') (mI_plain hi2')
    · exact l_tg (G2 s H D cl fp).calm (S2 s H D cl fp) G.hN G.nd h3
    · exact l_tg (G2 s H D cl fp).calm (S2 s H D cl fp) G.hN G.nd hg2
    · cases fs with
      | nil =>
        simp only at h5
        split at h5
        · exact PTs.imp pts_nil fun σ H Q ⟨φ, h, env, b, h', R, E, ev, k⟩ => by
            simp only [evT] at ev
            cases ev
            exact k H φ R Ext.refl
        · cases h5
      | cons c fs =>
        cases fs with
        | nil => exact pts_one (sT ifs (G2 s H D cl fp) (S2 s H D cl fp) h5).1
        | cons c2 fs => cases h5
  · exact l_set nd hy l1 l2 (sE _ G S h3) hsw
theorem s_asg {X : Cx} {sc : Scope} (G : Gd P N n X) (S : ScOk sc X) {i : Nat} {a : Ex} {y : Str} {p pos : Pos} {e : Expr} (h1 : N[i]? = some y) (h2 : locB sc y = true) (h3 : mE P N sc a e = true) : PS X (.Assign [.Name y p] e pos) (tS X.K (callN P n) (.asg (.nm i) a)) := by
  obtain ⟨l1, l2⟩ := S.loc y h2
  have nd : X.N.Nodup := by rw [G.hN]; exact G.nd
  have hy : X.N[i]? = some y := by rw [G.hN]; exact h1
  cases hn : notComp e with
  | true => exact l_set nd hy l1 l2 (sE a G S h3) (sw_not hn)
  | false =>
    rcases mE_comp h3 hn with ⟨m, elt, own, tg, it, ifs, el, t, ii, fs, sc2, pp, rfl, rfl⟩ | ⟨m, elt, own, tg, it, own2, tg2, it2, ifs, el, t, ii, t2, i2, fs, sc2, pp, rfl, rfl⟩
    · exact s_asg1 G S h1 h2 h3
    · exact s_asg2 G S h1 h2 h3
theorem go_two {sc : Scope} {is : List Nat} {x y : Str} {px py : Pos} (h : tgB.go N sc is [.Name x px, .Name y py] = true) : ∃ i j, is = [i, j] ∧ N[i]? = some x ∧ N[j]? = some y := by
  match is, h with
  | [i, j], h =>
    simp only [tgB.go, Bool.and_eq_true, decide_eq_true_eq] at h
    exact ⟨i, j, rfl, h.1.1, h.2.1.1⟩
  | [], h => simp [tgB.go] at h
  | [_], h => simp [tgB.go] at h
  | _ :: _ :: _ :: _, h => simp [tgB.go] at h
theorem go_three {sc : Scope} {is : List Nat} {x y z : Str} {px py pz : Pos} (h : tgB.go N sc is [.Name x px, .Name y py, .Name z pz] = true) : ∃ i j l, is = [i, j, l] ∧ N[i]? = some x ∧ N[j]? = some y ∧ N[l]? = some z := by
  match is, h with
  | [i, j, l], h =>
    simp only [tgB.go, Bool.and_eq_true, decide_eq_true_eq] at h
    exact ⟨i, j, l, rfl, h.1.1, h.2.1.1, h.2.2.1.1⟩
  | [], h => simp [tgB.go] at h
  | [_], h => simp [tgB.go] at h
  | [_, _], h => simp [tgB.go] at h
  | _ :: _ :: _ :: _ :: _, h => simp [tgB.go] at h
theorem s_par {X : Cx} {sc : Scope} (G : Gd P N n X) (S : ScOk sc X) {is : List Nat} {es : Exs} {ns vs : List Expr} {k k2 : Nat} {p p2 pos : Pos} (h1 : tgB.go N sc is ns = true) (h2 : mL P N sc es vs = true) (h3 : is.length ≤ 1000) (h4 : (swNo sc ns vs || swYes2 sc ns vs || swYes3 sc ns vs) = true) :
    PS X (.Assign [.Tuple ns k p] (.Tuple vs k2 p2) pos) (tS X.K (callN P n) (.par is es)) := by
  have nd : X.N.Nodup := by rw [G.hN]; exact G.nd
  have hs := sL es G S h2
  have hp := mL_plain h2
  simp only [Bool.or_eq_true] at h4
  rcases h4 with (h4 | h4) | h4
  · obtain ⟨a, b, c⟩ := names_ok S G.hN G.nd h1
    exact l_parT G.calm a b c hs (by rw [sizeLine_eq]; omega) (ss_no S h4)
  · unfold swYes2 at h4
    split at h4
    · rename_i x px y py a b
      simp only [Bool.and_eq_true, decide_eq_true_eq, Bool.not_eq_true'] at h4
      obtain ⟨⟨⟨⟨⟨q1, q2⟩, q3⟩, q4⟩, q5⟩, q6⟩ := h4
      obtain ⟨i, j, rfl, n1, n2⟩ := go_two h1
      have lx := loc_of S q1
      have ly := loc_of S q2
      exact l_par2 G.calm nd (by rw [G.hN]; exact n1) (by rw [G.hN]; exact n2) (by rintro rfl; rw [n1] at n2; exact q4 (Option.some.inj n2)) lx ly hs (ss_yes2 S.kind lx ly q4 q3 q5 q6 (hp a (by simp)) (hp b (by simp)))
    · cases h4
  · unfold swYes3 at h4
    split at h4
    · rename_i x px y py z pz a b c
      simp only [Bool.and_eq_true, decide_eq_true_eq, Bool.not_eq_true'] at h4
      obtain ⟨⟨⟨⟨⟨⟨⟨⟨⟨q1, q2⟩, q3⟩, q4⟩, q5⟩, q6⟩, q7⟩, q8⟩, q9⟩, q10⟩ := h4
      obtain ⟨i, j, l, rfl, n1, n2, n3⟩ := go_three h1
      have lx := loc_of S q1
      have ly := loc_of S q2
      have lz := loc_of S q3
      exact l_par3 G.calm nd (by rw [G.hN]; exact n1) (by rw [G.hN]; exact n2) (by rw [G.hN]; exact n3) (by rintro rfl; rw [n1] at n2; exact q6 (Option.some.inj n2)) (by rintro rfl; rw [n1] at n3; exact q7 (Option.some.inj n3)) (by rintro rfl; rw [n2] at n3; exact q8 (Option.some.inj n3)) lx ly lz hs
        (ss_yes3 S.kind lx ly lz q6 q7 q8 q4 q5 q9 q10 (hp a (by simp)) (hp b (by simp)) (hp c (by simp)))
    · cases h4
mutual
theorem sS : ∀ (s : Stm) {X : Cx} {sc : Scope} (G : Gd P N n X) (S : ScOk sc X) {x : Stmt} (h : mS P N sc s x = true), PS X x (tS X.K (callN P n) s)
  | .expr a, X, sc, G, S, x, h => by
    simp only [mS] at h
    split at h
    · simp only [Bool.and_eq_true] at h
      exact l_expr (sE a G S h.1) h.2
    · cases h
  | .asg (.nm i) a, X, sc, G, S, x, h => by
    simp only [mS] at h
    split at h
    · simp only [Bool.and_eq_true, decide_eq_true_eq] at h
      exact s_asg G S h.1.1 h.1.2 h.2
    · cases h
  | .asg (.tp is) a, X, sc, G, S, x, h => by
    simp only [mS] at h
    split at h
    · simp only [Bool.and_eq_true] at h
      exact l_unp (l_tg G.calm S G.hN G.nd h.1.1) (sE a G S h.1.2) h.2
    · cases h
  | .par is es, X, sc, G, S, x, h => by
    simp only [mS] at h
    split at h
    · rename_i ns k p vs k2 p2 pos
      rw [Bool.and_eq_true] at h
      obtain ⟨h, h4⟩ := h
      simp only [Bool.and_eq_true, decide_eq_true_eq] at h
      exact s_par G S h.1.1 h.1.2 h.2 h4
    · cases h
  | .aug i op a, X, sc, G, S, x, h => by
    simp only [mS] at h
    split at h
    · simp only [Bool.and_eq_true, decide_eq_true_eq] at h
      obtain ⟨⟨⟨h1, h2⟩, h3⟩, h4⟩ := h
      obtain ⟨l1, l2⟩ := S.loc _ h2
      obtain rfl := opb_eq h3
      exact l_aug (by rw [G.hN]; exact G.nd) (by rw [G.hN]; exact h1) l1 l2 (sE a G S h4)
    · cases h
  | .put o k a, X, sc, G, S, x, h => by
    simp only [mS] at h
    split at h
    · simp only [Bool.and_eq_true] at h
      obtain ⟨⟨⟨h1, h2⟩, h3⟩, h4⟩ := h
      exact l_put G.units (sE o G S h1) (sE k G S h2) (sE a G S h4) h3
    · cases h
  | .augput o k op a, X, sc, G, S, x, h => by
    simp only [mS] at h
    split at h
    · simp only [Bool.and_eq_true] at h
      obtain ⟨⟨⟨⟨h1, h2⟩, h3⟩, h4⟩, h5⟩ := h
      obtain rfl := opb_eq h4
      exact l_augput G.units (sE o G S h1) (sE k G S h2) (sE a G S h5) h3
    · cases h
  | .ret a, X, sc, G, S, x, h => by
    simp only [mS] at h
    split at h
    · exact l_ret (sE a G S h)
    · cases h
  | .ifs c a b, X, sc, G, S, x, h => by
    simp only [mS] at h
    split at h
    · simp only [Bool.and_eq_true] at h
      exact l_if (sT c G S h.1.1).1 (sSs a G S h.1.2) (sSs b G S h.2)
    · cases h
  | .whil c b, X, sc, G, S, x, h => by
    simp only [mS] at h
    split at h
    · simp only [Bool.and_eq_true] at h
      exact l_whil G.pass (sT c G S h.1).1 (sSs b G S h.2)
    · cases h
  | .for t it b, X, sc, G, S, x, h => by
    simp only [mS] at h
    split at h
    · rw [Bool.and_eq_true, Bool.and_eq_true] at h
      have h2' := (Bool.and_eq_true _ _ ▸ h.1.1).1
      exact l_for G.pass G.calm (sI it G S h.1.1) (l_tg G.calm S G.hN G.nd h.1.2) (sSs b G S h.2) (mI_plain h2')
    · cases h
  | .brk, X, sc, G, S, x, h => by
    simp only [mS] at h
    split at h
    · exact l_brk
    · cases h
  | .cont, X, sc, G, S, x, h => by
    simp only [mS] at h
    split at h
    · exact l_cont
    · cases h
  | .pass, X, sc, G, S, x, h => by
    simp only [mS] at h
    split at h
    · exact l_pass
    · cases h
theorem sSs : ∀ (ss : Sts) {X : Cx} {sc : Scope} (G : Gd P N n X) (S : ScOk sc X) {xs : List Stmt} (h : mSs P N sc ss xs = true), PSs X xs (tSs X.K (callN P n) ss)
  | .nil, X, sc, G, S, xs, h => by
    simp only [mSs] at h
    split at h
    · exact l_snil
    · cases h
  | .cons s ss, X, sc, G, S, xs, h => by
    simp only [mSs] at h
    split at h
    · simp only [Bool.and_eq_true] at h
      exact l_scons (sS s G S h.1) (sSs ss G S h.2)
    · cases h
end
end
end Ev

set_option Elab.async false
set_option linter.all false
set_option maxRecDepth 100000
namespace Ev
open PySem PySem.Spec PyProof.Rows L2

/-- a def and its own form are the same -/
def scopeB (N ps : List Str) (sc : Scope) : Bool :=
  (match sc.kind with | .function => true | _ => false) && !sc.isCoroutine && !sc.isGenerator && decide N.Nodup && decide (N.take ps.length = ps) &&
    (ps.all fun x => match sc.names.lookup x with | some .local => true | some .cell => true | _ => false) &&
    (sc.names.all fun y => match y.2 with | .free => false | _ => true)
def okB (P : List Fn) (fn : Fn) (st : Stmt) : Bool := scopeB (fn.N.map strV) (fn.ps.map strV) (defScope st) && mSs P (fn.N.map strV) (defScope st) fn.body (defBody st) && decide (fn.ps.length ≤ fn.N.length)
theorem scope_of {N ps : List Str} {sc : Scope} (h : scopeB N ps sc = true) : FnScope N ps sc := by
  unfold scopeB at h
  simp only [Bool.and_eq_true, Bool.not_eq_true', decide_eq_true_eq, List.all_eq_true] at h
  obtain ⟨⟨⟨⟨⟨⟨h1, h2⟩, h3⟩, h4⟩, h5⟩, h6⟩, h7⟩ := h
  refine ⟨?_, h2, h3, h4, h5, fun x hx => ?_, fun y hy e => ?_⟩
  · split at h1
    · assumption
    · cases h1
  · have := h6 x hx
    split at this
    · exact .inl (by assumption)
    · exact .inr (by assumption)
    · cases this
  · have := h7 y hy
    rw [e] at this
    cases this
section
variable {P : Program} {w : World} {K : PySem.W.Frag} {mg : Str → Option Value} {base : Heap}
theorem er_start {φ : List Addr} {h : AH} {H : Hp} {fn : Fn} {vs : List V} {ss : List SV} (r : SRs K φ h H vs ss) : ER K φ h H (startE fn ss) (start (fn.N.map strV) vs) := by
  have hl := Paired.length r
  refine ⟨by simp [startE, L2.start, hl], fun i s e => ?_⟩
  unfold startE at e
  unfold L2.start
  by_cases hi : i < ss.length
  · rw [List.getElem?_append_left (by simpa using hi), List.getElem?_map, Option.map_eq_some_iff] at e
    obtain ⟨t, e1, e2⟩ := e
    cases e2
    obtain ⟨v, e3, q⟩ := paired_getR r e1
    refine ⟨v, ?_, q⟩
    rw [List.getElem?_append_left (by rw [List.length_map, hl]; exact hi), List.getElem?_map, e3]
    rfl
  · rw [List.getElem?_append_right (by simpa using hi)] at e
    rw [List.getElem?_replicate] at e
    split at e
    · cases e
    · cases e
where
  paired_getR {φ : List Addr} {h : AH} {H : Hp} : ∀ {vs : List V} {ss : List SV} {i : Nat} {s : SV}, SRs K φ h H vs ss → ss[i]? = some s → ∃ v, vs[i]? = some v ∧ SR K φ h H v s
    | _, _, _, _, .nil, e => by simp at e
    | _, _, 0, _, .cons q _, e => by simp at e; subst e; exact ⟨_, rfl, q⟩
    | _, _, i + 1, _, .cons _ t, e => by
      obtain ⟨v, h1, h2⟩ := paired_getR (i := i) t (by simpa using e)
      exact ⟨v, by simpa using h1, h2⟩
theorem retn_sound {φ φ' : List Addr} {h h' h2 : AH} {H H' : Hp} {sv sv2 : SV} {v : V} {Q : VK} (R : HR K φ h H) (R' : HR K φ' h' H') (X' : Ext φ h H φ' h' H') (s : SR K φ' h' H' v sv) (e : retn h.length h' sv = some (sv2, h2)) (k : Kont K φ h H h2 sv2 Q) : Q v H' := by
  cases sv with
  | v p =>
    cases e
    exact k v H' _ (R'.take _) (X'.take (by rw [R.len]; exact Nat.le_refl _)) (VR.take s)
  | o i =>
    obtain ⟨a, rfl, ea⟩ := s
    simp only [retn] at e
    split at e
    · rename_i hi
      cases e
      refine k _ H' _ (R'.take _) (X'.take (by rw [R.len]; exact Nat.le_refl _)) ⟨a, rfl, ?_⟩
      rw [List.getElem?_take, if_pos hi]; exact ea
    · split at e
      · rename_i hi
        cases e
        refine k _ H' _ (R'.take _) (X'.take (by rw [R.len]; omega)) ⟨a, rfl, ?_⟩
        rw [List.getElem?_take, if_pos (by omega)]; exact ea
      · cases e
/-- the def of the form fn, as it stands behind the top -/
def DefIn (Ps : List Fn) (K : PySem.W.Frag) (mg : Str → Option Value) (fn : Fn) : Prop :=
  ∃ st f fd, Fun K (strV fn.name) (strV fn.name) st f fd ∧ mg (strV fn.name) = some (.ref f) ∧ Binds K fd (fn.ps.map strV) [] ∧ okB Ps fn st = true
theorem fn_all {Ps : List Fn} (hb : ∀ x ∈ bltNames, mg (Str.ofString x) = none) (hG : ∀ (i : Nat) (fn : Fn) (p : PV), Ps[i]? = some fn → fn.ps = [] → fn.lit = some p → ∃ v u, mg (strV fn.name) = some u ∧ RelV v u ∧ ∀ (K : PySem.W.Frag) M H, VR K M H v p) (hD : ∀ (i : Nat) (fn : Fn), Ps[i]? = some fn → fn.ps ≠ [] → ∃ st f fd, Fun K (strV fn.name) (strV fn.name) st f fd ∧ mg (strV fn.name) = some (.ref f) ∧ Binds K fd (fn.ps.map strV) [] ∧ okB Ps fn st = true) :
    ∀ (n i : Nat) (fn : Fn) (st : Stmt) (f : Addr) (fd : FuncData), Ps[i]? = some fn → Fun K (strV fn.name) (strV fn.name) st f fd → okB Ps fn st = true → FnOk P w K mg base CX0 n f fd (fn.ps.map strV) (spN K Ps n i)
  | 0, i, fn, st, f, fd, hi, F, ok => by
    have no : ∀ vs H Q E, ¬ spN K Ps 0 i vs H Q E := fun vs H Q E h => by
      obtain ⟨φ, h, ss, sv, h', fn', _, _, _, _, e, _⟩ := h
      cases e
    exact ⟨fun vs H Q E h => absurd h (no vs H Q E), fun A outer s H args us vs Q E _ _ _ _ h => absurd h (no vs H Q E)⟩
  | n + 1, i, fn, st, f, fd, hi, F, ok => by
    have ih := fn_all hb hG hD n
    unfold okB at ok
    simp only [Bool.and_eq_true, decide_eq_true_eq] at ok
    obtain ⟨⟨ok1, ok2⟩, ok3⟩ := ok
    have S := scope_of ok1
    refine F.ok S (fun vs H Q E h => ?_) (fun cdv A outer s H vs Q E hr h => ?_)
    · obtain ⟨φ, h, ss, sv, h', fn', hf, hl, _⟩ := h
      rw [hi] at hf
      cases hf
      rw [List.length_map]
      exact hl
    · obtain ⟨φ, h, ss, sv, h', fn', hf, hl, R, rs, ev, k⟩ := h
      rw [hi] at hf
      cases hf
      let X := (cxOf CX0 P w K mg base (fn.N.map strV) (strV fn.name) (defScope st) f cdv A outer s H E).nox
      have G : Gd Ps (fn.N.map strV) n X := by
        refine ⟨rfl, S.nd, rfl, hr, rfl, hG, fun j fj hj hne => ?_, hb⟩
        obtain ⟨stj, a, fdj, Fj, mj, bj, oj⟩ := hD j fj hj hne
        exact ⟨a, fdj, mj, Fj.kp, bj, ih j fj stj a fdj hj Fj oj⟩
      have Sc : ScOk (defScope st) X := by
        refine ⟨fun x hx => ?_, fun x hx => ?_, fun x hx => ?_, fun x hx => hx, fun x hx => hx, fun x hx => hx, S.kind⟩
        · unfold visB at hx
          simp only [Bool.and_eq_true] at hx
          have h1 := hx.1.1
          split at h1
          · exact .inl (by assumption)
          · exact .inr (.inl (by assumption))
          · exact .inr (.inr (by assumption))
          · cases h1
        · unfold glB at hx
          simp only [Bool.and_eq_true] at hx
          have h1 := hx.1.1
          split at h1
          · assumption
          · cases h1
        · unfold locB at hx
          split at hx
          · exact ⟨.inl (by assumption), .inl rfl⟩
          · exact ⟨.inr (by assumption), .inl rfl⟩
          · cases hx
      refine ⟨_, sSs fn.body G Sc ok2, ?_⟩
      unfold callN at ev
      rw [hi] at ev
      simp only at ev
      split at ev
      · rename_i hlen
        split at ev
        · rename_i e' h2 hb2
          exact ⟨φ, h, _, _, R, er_start rs, hb2, fun σ' H' φ' R' X' E' => retn_sound R R' X' (sv := .v .non) (VR.non) ev k⟩
        · rename_i v h2 hb2
          exact ⟨φ, h, _, _, R, er_start rs, hb2, fun v' H' φ' R' X' s' => retn_sound R R' X' s' ev k⟩
        · cases ev
      · cases ev
/-- what the law promises -/
def spLaw (K : PySem.W.Frag) : Sp := fun vs H Q _ => ∃ (a : Addr) (ns : List Int), vs = [.ref a] ∧ SqL K H a (ns.map V.int) ∧ ns.length ≤ 63 ∧ ∀ H', Q (.bl true) H'
theorem law_of {Ps : List Fn} {n i : Nat} {fn : Fn} {st : Stmt} {f : Addr} {fd : FuncData} (hb : ∀ x ∈ bltNames, mg (Str.ofString x) = none) (hG : ∀ (i : Nat) (fn : Fn) (p : PV), Ps[i]? = some fn → fn.ps = [] → fn.lit = some p → ∃ v u, mg (strV fn.name) = some u ∧ RelV v u ∧ ∀ (K : PySem.W.Frag) M H, VR K M H v p) (hD : ∀ (i : Nat) (fn : Fn), Ps[i]? = some fn → fn.ps ≠ [] → DefIn Ps K mg fn)
    (hi : Ps[i]? = some fn) (F : Fun K (strV fn.name) (strV fn.name) st f fd) (ok : okB Ps fn st = true) (hp : fn.ps.length = 1)
    (pure : ∀ ns : List Int, ns.length ≤ 63 → callN Ps n i [.v (.frl (ns.map .int))] [] = some (.v (.bl true), [])) : FnOk P w K mg base CX0 n f fd (fn.ps.map strV) (spLaw K) := by
  refine FnOk.imp (fn_all hb hG hD n i fn st f fd hi F ok) fun vs H Q E h => ?_
  obtain ⟨a, ns, rfl, hS, hl, q⟩ := h
  have m0 : ¬ Mt [] [] a := by
    rintro ⟨j, c, e, _⟩
    simp at e
  have R : HR K [] [] H := ⟨rfl, fun i c a e _ => by simp at e, fun i j c d a e _ => by simp at e⟩
  have vs0 : ∀ ns : List Int, VRs K (Mt [] []) H (ns.map V.int) (ns.map PV.int) := fun ns => ints_vs ns
  have vr : VR K (Mt [] []) H (.ref a) (.frl (ns.map .int)) := by
    refine .frl ?_ (by rw [List.length_map]; show _ ≤ 16777216; omega) (vs0 ns)
    rcases hS with hS | hS
    · exact .inl ⟨hS, m0⟩
    · exact .inr fun H' => .inr hS
  refine ⟨[], [], [.v (.frl (ns.map .int))], .v (.bl true), [], fn, hi, hp.symm, R, .cons vr .nil, pure ns hl, fun v H' φ' R' X' r => ?_⟩
  have r : VR K (Mt φ' []) H' v (.bl true) := r
  cases r
  exact q H'
end
end Ev

set_option Elab.async false
set_option linter.all false
set_option maxRecDepth 100000
/-! laws in plain Lean: helps for running defs -/
namespace Ev
theorem beqI (a b : Int) : (a == b) = decide (a = b) := by
  by_cases h : a = b
  · subst h; simp
  · simp [h]
theorem beqS (a b : List Nat) : (a == b) = decide (a = b) := by
  by_cases h : a = b
  · subst h; simp
  · simp [h]
theorem atI_nat {α : Type} (xs : List α) (j : Nat) (x : α) (h : xs[j]? = some x) : atI xs (j : Int) = some x := by
  unfold atI ixN
  have hj := (List.getElem?_eq_some_iff.mp h).1
  rw [if_pos (by omega), if_pos (by omega)]
  simpa using h
theorem atI_0 {α : Type} (x : α) (xs : List α) : atI (x :: xs) 0 = some x := atI_nat (x :: xs) 0 x rfl
theorem atI_1 {α : Type} (x y : α) (xs : List α) : atI (x :: y :: xs) 1 = some y := atI_nat (x :: y :: xs) 1 y rfl
theorem atI_2 {α : Type} (x y z : α) (xs : List α) : atI (x :: y :: z :: xs) 2 = some z := atI_nat (x :: y :: z :: xs) 2 z rfl
theorem cut_le {α : Type} (xs : List α) (lo hi : Option Int) : (cut xs lo hi).length ≤ xs.length := by
  unfold cut
  rw [List.length_take, List.length_drop]
  omega
/-! ### the same twice -/
mutual
def nodes : PV → Nat
  | .tup xs => nodess xs + 1
  | .dict kvs => nodesd kvs + 1
  | _ => 1
def nodess : List PV → Nat
  | [] => 0
  | x :: xs => nodes x + nodess xs
def nodesd : List (PV × PV) → Nat
  | [] => 0
  | (_, x) :: xs => nodes x + nodesd xs
end
mutual
theorem eqv_self : ∀ {p : PV}, plainD p = true → eqv p p = true
  | .non, _ => by simp [eqv]
  | .bl _, _ => by simp [eqv]
  | .int _, _ => by simp [eqv]
  | .str _, _ => by simp [eqv]
  | .tup xs, h => by
    simp only [plainD] at h
    simp only [eqv]
    exact eqvs_self h
  | .lst xs, h => by
    simp only [plainD] at h
    simp only [eqv]
    exact eqvs_self h
  | .frl _, h => by simp [plainD] at h
  | .dict _, h => by simp [plainD] at h
theorem eqvs_self : ∀ {p : List PV}, plainDs p = true → eqvs p p = true
  | [], _ => by simp [eqvs]
  | x :: xs, h => by
    simp only [plainDs, Bool.and_eq_true] at h
    simp only [eqvs, eqv_self h.1, eqvs_self h.2, Bool.and_self]
end
/-! ### the laws' own helpers -/
def L__law_draws_0 : Sts := (.cons (.asg (.nm 3) (.bin .mod (.blt false .int (.cons (.bin .add (.bin .add (.bin .mul (.var 3 false) (.lit (.int 16807))) (.var 4 false)) (.lit (.int 1))) .nil)) (.lit (.int 65537))))
  (.cons (.expr (.mth .append (.var 2 false) (.cons (.bin .mod (.blt false .int (.cons (.var 3 false) .nil)) (.lit (.int 997))) .nil)))
  .nil))
def L__law_draws_2 : Sts := (.cons (.ifs (.of (.cmp .gt (.var 6 false) (.lit (.int 0)))) (.cons (.expr (.mth .append (.var 2 false) (.cons (.bin .mod (.blt false .int (.cons (.var 6 false) .nil)) (.lit (.int 997))) .nil)))
    (.cons (.asg (.nm 6) (.bin .fdiv (.var 6 false) (.lit (.int 997))))
    .nil)) .nil)
  .nil)
def L__law_draws_1 : Sts := (.cons (.asg (.nm 5) (.blt false .abs (.cons (.blt false .int (.cons (.idx (.var 0 false) (.var 4 false)) .nil)) .nil)))
  (.cons (.asg (.nm 3) (.bin .mod (.blt false .int (.cons (.bin .add (.bin .add (.bin .mul (.var 3 false) (.lit (.int 48271))) (.bin .mod (.var 5 false) (.lit (.int 1000003)))) (.var 4 false)) .nil)) (.lit (.int 65537))))
  (.cons (.asg (.nm 6) (.lit (.int 0)))
  (.cons (.ifs (.of (.cmp .ge (.var 5 false) (.bin .pow (.lit (.int 10)) (.lit (.int 18))))) (.cons (.asg (.nm 6) (.var 5 false))
    .nil) (.cons (.expr (.mth .append (.var 2 false) (.cons (.bin .mod (.blt false .int (.cons (.var 5 false) .nil)) (.lit (.int 997))) .nil)))
    (.cons (.expr (.mth .append (.var 2 false) (.cons (.bin .mod (.bin .mod (.blt false .int (.cons (.bin .add (.bin .mul (.var 3 false) (.lit (.int 69621))) (.lit (.int 5))) .nil)) (.lit (.int 65521))) (.lit (.int 997))) .nil)))
    .nil)))
  (.cons (.for (.nm 7) (.rng1 (.lit (.int 60))) L__law_draws_2)
  .nil)))))
def f__law_draws : Fn := ⟨[95,108,97,119,95,100,114,97,119,115], [[115,99,114,105,112,116], [109,97,110,121]], [[115,99,114,105,112,116], [109,97,110,121], [100,114,97,119,115], [109,105,120,101,100], [107], [99,101,108,108], [114,101,115,116], [116,117,114,110]],
  (.cons (.asg (.nm 2) (.lst true .nil))
  (.cons (.asg (.nm 3) (.lit (.int 7)))
  (.cons (.for (.nm 4) (.rng1 (.blt false .len (.cons (.var 0 false) .nil))) L__law_draws_1)
  (.cons (.for (.nm 4) (.rng1 (.var 1 false)) L__law_draws_0)
  (.cons (.ret (.slc (.var 2 true) .nil (.cons (.var 1 false) .nil)))
  .nil)))))⟩
def f__law_next : Fn := ⟨[95,108,97,119,95,110,101,120,116], [[119], [109,97,110,121]], [[119], [109,97,110,121]],
  (.cons (.augput (.var 0 false) (.lit (.str [97,116])) .add (.lit (.int 1)))
  (.cons (.ifs (.of (.cmp .gt (.idx (.var 0 false) (.lit (.str [97,116]))) (.blt false .len (.cons (.idx (.var 0 false) (.lit (.str [100,114,97,119,115]))) .nil)))) (.cons (.ret (.lit (.int 0)))
    .nil) .nil)
  (.cons (.ret (.bin .mod (.blt false .int (.cons (.idx (.idx (.var 0 false) (.lit (.str [100,114,97,119,115]))) (.bin .sub (.idx (.var 0 false) (.lit (.str [97,116]))) (.lit (.int 1)))) .nil)) (.var 1 false)))
  .nil)))⟩
def L__law_same_0 : Sts := (.cons (.asg (.tp [3, 4]) (.mth .pop (.var 2 false) .nil))
  (.cons (.ifs (.of (.isi (.var 4 false) .dict)) (.cons (.ifs (.boo false (.not (.of (.isi (.var 3 false) .dict))) (.boo false (.of (.cmp .ne (.blt false .len (.cons (.var 3 false) .nil)) (.blt false .len (.cons (.var 4 false) .nil)))) (.of (.cmp .ne (.comp false (.var 5 false) [5] (.nm 5) (.var 4 false) (.of (.cmp .notIn (.var 5 false) (.var 3 false)))) (.lst false .nil))))) (.cons (.ret (.lit (.bl false)))
      .nil) .nil)
    (.cons (.expr (.mth .extend (.var 2 false) (.cons (.comp false (.tup (.cons (.idx (.var 3 false) (.var 5 false)) (.cons (.idx (.var 4 false) (.var 5 false)) .nil))) [5] (.nm 5) (.var 4 false) .yes) .nil)))
    .nil)) (.cons (.ifs (.of (.isi (.var 4 false) .tuple)) (.cons (.ifs (.boo false (.not (.of (.isi (.var 3 false) .tuple))) (.of (.cmp .ne (.blt false .len (.cons (.var 3 false) .nil)) (.blt false .len (.cons (.var 4 false) .nil))))) (.cons (.ret (.lit (.bl false)))
        .nil) .nil)
      (.cons (.expr (.mth .extend (.var 2 false) (.cons (.comp false (.tup (.cons (.idx (.var 3 false) (.var 6 false)) (.cons (.idx (.var 4 false) (.var 6 false)) .nil))) [6] (.nm 6) (.rng1 (.blt false .len (.cons (.var 4 false) .nil))) .yes) .nil)))
      .nil)) (.cons (.ifs (.boo false (.of (.cmp .ne (.isi (.var 3 false) .bool) (.isi (.var 4 false) .bool))) (.boo false (.of (.cmp .ne (.isi (.var 3 false) .int) (.isi (.var 4 false) .int))) (.boo false (.of (.cmp .ne (.isi (.var 3 false) .str) (.isi (.var 4 false) .str))) (.of (.cmp .ne (.var 3 false) (.var 4 false)))))) (.cons (.ret (.lit (.bl false)))
        .nil) .nil)
      .nil))
    .nil))
  .nil))
def f__law_same : Fn := ⟨[95,108,97,119,95,115,97,109,101], [[115,101,101,110], [100,117,101]], [[115,101,101,110], [100,117,101], [119,97,105,116,105,110,103], [111,110,101], [111,116,104,101,114], [107,101,121], [107]],
  (.cons (.asg (.nm 2) (.lst true (.cons (.tup (.cons (.var 0 false) (.cons (.var 1 false) .nil))) .nil)))
  (.cons (.whil (.of (.cmp .ne (.var 2 false) (.lst false .nil))) L__law_same_0)
  (.cons (.ret (.lit (.bl true)))
  .nil)))⟩
/-! ### lists at the end of the heap -/
theorem at_end (h : AH) (c : Cell) : (h ++ [c])[h.length]? = some c := by simp
theorem set_end (h : AH) (c d : Cell) : (h ++ [c]).set h.length d = h ++ [d] := by
  rw [List.set_append_right _ _ (Nat.le_refl _)]; simp
theorem take_end (h : AH) (c : Cell) : (h ++ [c]).take h.length = h := by simp
theorem take_end1 (h : AH) (c : Cell) : (h ++ [c]).take (h.length + 1) = h ++ [c] := by
  rw [List.take_of_length_le]; simp
/-! ### loops by invariants -/
theorem loopF_inv {f : PV → En → AH → Option Fl} {ok : AH → Bool} (I : Nat → En → AH → Prop) : ∀ (xs : List PV) (i : Nat) (e : En) (h : AH), I i e h → (∀ j e h, I j e h → ok h = true) →
    (∀ j x e h, xs[j]? = some x → I (i + j) e h → ∃ e' h', f x e h = some (.nx e' h') ∧ I (i + j + 1) e' h') → ∃ e' h', loopF f ok xs e h = some (.nx e' h') ∧ I (i + xs.length) e' h'
  | [], i, e, h, hi, hok, st => ⟨e, h, by simp [loopF, hok i e h hi], hi⟩
  | x :: xs, i, e, h, hi, hok, st => by
    obtain ⟨e', h', e1, h1⟩ := st 0 x e h rfl hi
    obtain ⟨e2, h2, e3, h3⟩ := loopF_inv I xs (i + 1) e' h' h1 hok fun j y e h hy hj => by
      have := st (j + 1) y e h (by simpa using hy) (by rw [show i + (j + 1) = i + 1 + j by omega]; exact hj)
      rw [show i + (j + 1) + 1 = i + 1 + j + 1 by omega] at this
      exact this
    refine ⟨e2, h2, ?_, ?_⟩
    · simp only [loopF, hok i e h hi, if_true, e1]; exact e3
    · rw [List.length_cons, show i + (xs.length + 1) = i + 1 + xs.length by omega]; exact h3
theorem rngs_get {lo : Int} {n j : Nat} {x : PV} (h : (rngs lo n)[j]? = some x) : j < n ∧ x = .int (lo + j) := by
  have len : (rngs lo n).length = n := by simp [rngs]
  have hj := (List.getElem?_eq_some_iff.mp h).1
  rw [len] at hj
  refine ⟨hj, ?_⟩
  unfold rngs at h
  rw [List.getElem?_map, List.getElem?_range hj] at h
  exact (Option.some.inj h).symm
theorem rngs_len (lo : Int) (n : Nat) : (rngs lo n).length = n := by simp [rngs]
end Ev

set_option Elab.async false
set_option linter.all false
set_option maxRecDepth 100000
namespace Ev
section
variable {C : Calls}
theorem seq {s : Stm} {ss : Sts} {e e1 : En} {h h1 : AH} (hs : evS C s e h = some (.nx e1 h1)) : evSs C (.cons s ss) e h = evSs C ss e1 h1 := by
  simp only [evSs, hs]
theorem seqR {s : Stm} {ss : Sts} {e : En} {h h1 : AH} {v : SV} (hs : evS C s e h = some (.rt v h1)) : evSs C (.cons s ss) e h = some (.rt v h1) := by
  simp only [evSs, hs]
theorem seqN {e : En} {h : AH} : evSs C .nil e h = some (.nx e h) := by simp only [evSs]
theorem runF_ret {fn : Fn} {args : List SV} {h h' : AH} {sv : SV} {r : SV × AH} (hl : args.length = fn.ps.length) (hb : evSs C fn.body (startE fn args) h = some (.rt sv h')) (hr : retn h.length h' sv = some r) : runF C fn args h = some r := by
  simp only [runF, hl, if_true, hb, hr]
theorem for_run {t : Tg} {it : Itr} {b : Sts} {e : En} {h h1 : AH} {xs : List PV} {g : Option Nat} (I : Nat → En → AH → Prop) (hI : evI C it e h = some (xs, g, h1)) (h0 : I 0 e h1) (hok : ∀ j e h, I j e h → guardOk xs g h = true)
    (st : ∀ j x e h, xs[j]? = some x → I j e h → ∃ e1 e' h', asgT t (.v x) e = some e1 ∧ evSs C b e1 h = some (.nx e' h') ∧ I (j + 1) e' h') : ∃ e' h', evS C (.for t it b) e h = some (.nx e' h') ∧ I xs.length e' h' := by
  obtain ⟨e', h', e1, h2⟩ := loopF_inv (f := fun x e h => match asgT t (.v x) e with | none => none | some e' => evSs C b e' h) (ok := guardOk xs g) I xs 0 e h1 h0 hok (fun j x e h hx hi => by
    rw [Nat.zero_add] at hi
    obtain ⟨e1, e', h', q1, q2, q3⟩ := st j x e h hx hi
    exact ⟨e', h', by simp only [q1, q2], by rw [Nat.zero_add]; exact q3⟩)
  refine ⟨e', h', ?_, by rw [Nat.zero_add] at h2; exact h2⟩
  simp only [evS, hI]
  exact e1
theorem ints_get (ns : List Int) (j : Nat) (hj : j < ns.length) : atI (ns.map PV.int) (j : Int) = some (.int ns[j]) := by
  unfold atI ixN
  have h1 : (0 : Int) ≤ j := by omega
  have h2 : (j : Int) < ((ns.map PV.int).length : Int) := by rw [List.length_map]; omega
  rw [if_pos h1, if_pos h2]
  simp [hj]
theorem ints_snoc (ds : List Int) (i : Int) : ds.map PV.int ++ [PV.int i] = (ds ++ [i]).map PV.int := by simp
theorem mod_small (a : Int) : 0 ≤ a % 65537 ∧ a % 65537 < 65537 := by omega
theorem mulOk_small {a b : Int} (h0 : 0 ≤ a) (h1 : a < 65537) : mulOk a b = true := by
  unfold mulOk
  rw [Bool.or_eq_true]
  left
  rw [Bool.and_eq_true, decide_eq_true_eq, decide_eq_true_eq]
  omega
theorem ints_cut (ds : List Int) (lo hi : Option Int) : cut (ds.map PV.int) lo hi = (cut ds lo hi).map PV.int := by
  unfold cut
  rw [List.length_map, List.map_take, List.map_drop]

/-! ### drawing -/
/-- the place of a def's names while numbers are drawn -/
def drE (S m : PV) (j : Nat) (mixed : Int) (a b c d : Option SV) : En := [some (.v S), some (.v m), some (.o j), some (.v (.int mixed)), a, b, c, d]
def drI (S m : PV) (h : AH) (q w : Nat) (j : Nat) (e : En) (hp : AH) : Prop := ∃ a b c d mixed ds, e = drE S m h.length mixed a b c d ∧ hp = h ++ [.lst ((ds : List Int).map .int)] ∧ 0 ≤ mixed ∧ mixed < 65537 ∧ ds.length ≤ q + w * j
def drR (S m : PV) (h : AH) (q : Nat) (mixed : Int) (a b : Option SV) (j : Nat) (e : En) (hp : AH) : Prop := ∃ r d ds, e = drE S m h.length mixed a b (some (.v (.int r))) d ∧ hp = h ++ [.lst ((ds : List Int).map .int)] ∧ ds.length ≤ q + j
theorem dr_rest (S m : PV) (h : AH) (q : Nat) (hq : q ≤ 100000) (mixed : Int) (a b : Option SV) (r : Int) (d : Option SV) (ds : List Int) (hd : ds.length ≤ q) :
    ∃ r' d' ds', evS C (.for (.nm 7) (.rng1 (.lit (.int 60))) L__law_draws_2) (drE S m h.length mixed a b (some (.v (.int r))) d) (h ++ [.lst (ds.map .int)]) = some (.nx (drE S m h.length mixed a b (some (.v (.int r'))) d') (h ++ [.lst ((ds' : List Int).map .int)])) ∧ ds'.length ≤ q + 60 := by
  obtain ⟨e', h', e1, r', d', ds', rfl, rfl, hl⟩ := for_run (C := C) (t := .nm 7) (it := .rng1 (.lit (.int 60))) (b := L__law_draws_2) (e := drE S m h.length mixed a b (some (.v (.int r))) d) (h := h ++ [.lst (ds.map .int)]) (h1 := h ++ [.lst (ds.map .int)]) (xs := rngs 0 60) (g := none)
    (drR S m h q mixed a b) (by simp [evI, evE, smallR]) ⟨r, d, ds, rfl, rfl, hd⟩ (fun j e hp _ => rfl) (fun j x e hp hx ⟨r, d, ds, e1, e2, b3⟩ => by
      obtain ⟨hj, rfl⟩ := rngs_get hx
      subst e1 e2
      have z : ds.length < SZ := by show _ < 16777216; omega
      by_cases hr : 0 < r
      · refine ⟨_, _, _, rfl, ?_, r / 997, some (.v (.int (0 + (j : Int)))), ds ++ [r % 997], rfl, rfl, by rw [List.length_append]; simp; omega⟩
        simp [L__law_draws_2, drE, runF, startE, evSs, evS, evE, evL, evT, evI, evD, asgT, rdVar, peek, part, sliceP, binP, binA, cmpP, truP, bltE, blt1, blt2, lenP, mkR, mkL, mkD, retn, pvs, SV.pv, wipeE, walkOf, itemsP, notD, idxP, isKey, keyEq, dlook, dhas, dput, dictEq, okDict, mthE, mthC, mthP, mthT, argsM, isLst, changes, isiTy, smallR, finL, finD, tupP, listP, dicP, onL, inP, isP, isNon, eqP, okD, plainD, plainDs, dep, deps, eqv, eqvs, beqI, beqS, atI_0, atI_1, atI_2, hr, z, at_end, set_end]
      · refine ⟨_, _, _, rfl, ?_, r, some (.v (.int (0 + (j : Int)))), ds, rfl, rfl, by omega⟩
        simp [L__law_draws_2, drE, runF, startE, evSs, evS, evE, evL, evT, evI, evD, asgT, rdVar, peek, part, sliceP, binP, binA, cmpP, truP, bltE, blt1, blt2, lenP, mkR, mkL, mkD, retn, pvs, SV.pv, wipeE, walkOf, itemsP, notD, idxP, isKey, keyEq, dlook, dhas, dput, dictEq, okDict, mthE, mthC, mthP, mthT, argsM, isLst, changes, isiTy, smallR, finL, finD, tupP, listP, dicP, onL, inP, isP, isNon, eqP, okD, plainD, plainDs, dep, deps, eqv, eqvs, beqI, beqS, atI_0, atI_1, atI_2, hr])
  rw [rngs_len] at hl
  exact ⟨r', d', ds', e1, hl⟩
theorem dr_one (ns : List Int) (m : PV) (h : AH) (q : Nat) (hq : q ≤ 10000) (hn : ns.length ≤ 63) : 
    ∀ j x e hp, (rngs 0 ns.length)[j]? = some x → drI (.frl (ns.map .int)) m h q 62 j e hp → ∃ e1 e' h', asgT (.nm 4) (.v x) e = some e1 ∧ evSs C L__law_draws_1 e1 hp = some (.nx e' h') ∧ drI (.frl (ns.map .int)) m h q 62 (j + 1) e' h' := by
  intro j x e hp hx ⟨a, b, c, d, mixed, ds, e1, e2, b1, b2, b3⟩
  obtain ⟨hj, rfl⟩ := rngs_get hx
  subst e1 e2
  have g := ints_get ns j hj
  have mk : mulOk mixed 48271 = true := mulOk_small b1 b2
  let cell : Int := if ns[j] < 0 then -ns[j] else ns[j]
  let mx : Int := (mixed * 48271 + cell % 1000003 + j) % 65537
  have hm := mod_small (mixed * 48271 + cell % 1000003 + j)
  have mk2 : mulOk mx 69621 = true := mulOk_small hm.1 hm.2
  have z0 : ds.length < SZ := by show _ < 16777216; omega
  have z1 : ds.length + 1 < SZ := by show _ < 16777216; omega
  have s1 : evS C (.asg (.nm 5) (.blt false .abs (.cons (.blt false .int (.cons (.idx (.var 0 false) (.var 4 false)) .nil)) .nil))) (drE (.frl (ns.map .int)) m h.length mixed (some (.v (.int (0 + (j : Int))))) b c d) (h ++ [.lst (ds.map .int)]) = some (.nx (drE (.frl (ns.map .int)) m h.length mixed (some (.v (.int (0 + (j : Int))))) (some (.v (.int cell))) c d) (h ++ [.lst (ds.map .int)])) := by
    simp [drE, runF, startE, evSs, evS, evE, evL, evT, evI, evD, asgT, rdVar, peek, part, sliceP, binP, binA, cmpP, truP, bltE, blt1, blt2, lenP, mkR, mkL, mkD, retn, pvs, SV.pv, wipeE, walkOf, itemsP, notD, idxP, isKey, keyEq, dlook, dhas, dput, dictEq, okDict, mthE, mthC, mthP, mthT, argsM, isLst, changes, isiTy, smallR, finL, finD, tupP, listP, dicP, onL, inP, isP, isNon, eqP, okD, plainD, plainDs, dep, deps, eqv, eqvs, beqI, beqS, atI_0, atI_1, atI_2, g, cell]
  have s2 : evS C (.asg (.nm 3) (.bin .mod (.blt false .int (.cons (.bin .add (.bin .add (.bin .mul (.var 3 false) (.lit (.int 48271))) (.bin .mod (.var 5 false) (.lit (.int 1000003)))) (.var 4 false)) .nil)) (.lit (.int 65537)))) (drE (.frl (ns.map .int)) m h.length mixed (some (.v (.int (0 + (j : Int))))) (some (.v (.int cell))) c d) (h ++ [.lst (ds.map .int)]) = some (.nx (drE (.frl (ns.map .int)) m h.length mx (some (.v (.int (0 + (j : Int))))) (some (.v (.int cell))) c d) (h ++ [.lst (ds.map .int)])) := by
    simp [drE, runF, startE, evSs, evS, evE, evL, evT, evI, evD, asgT, rdVar, peek, part, sliceP, binP, binA, cmpP, truP, bltE, blt1, blt2, lenP, mkR, mkL, mkD, retn, pvs, SV.pv, wipeE, walkOf, itemsP, notD, idxP, isKey, keyEq, dlook, dhas, dput, dictEq, okDict, mthE, mthC, mthP, mthT, argsM, isLst, changes, isiTy, smallR, finL, finD, tupP, listP, dicP, onL, inP, isP, isNon, eqP, okD, plainD, plainDs, dep, deps, eqv, eqvs, beqI, beqS, atI_0, atI_1, atI_2, mk, mx]
  have s3 : evS C (.asg (.nm 6) (.lit (.int 0))) (drE (.frl (ns.map .int)) m h.length mx (some (.v (.int (0 + (j : Int))))) (some (.v (.int cell))) c d) (h ++ [.lst (ds.map .int)]) = some (.nx (drE (.frl (ns.map .int)) m h.length mx (some (.v (.int (0 + (j : Int))))) (some (.v (.int cell))) (some (.v (.int 0))) d) (h ++ [.lst (ds.map .int)])) := by
    simp [drE, runF, startE, evSs, evS, evE, evL, evT, evI, evD, asgT, rdVar, peek, part, sliceP, binP, binA, cmpP, truP, bltE, blt1, blt2, lenP, mkR, mkL, mkD, retn, pvs, SV.pv, wipeE, walkOf, itemsP, notD, idxP, isKey, keyEq, dlook, dhas, dput, dictEq, okDict, mthE, mthC, mthP, mthT, argsM, isLst, changes, isiTy, smallR, finL, finD, tupP, listP, dicP, onL, inP, isP, isNon, eqP, okD, plainD, plainDs, dep, deps, eqv, eqvs, beqI, beqS, atI_0, atI_1, atI_2]
  have s4 : ∃ r ds', evS C (.ifs (.of (.cmp .ge (.var 5 false) (.bin .pow (.lit (.int 10)) (.lit (.int 18))))) (.cons (.asg (.nm 6) (.var 5 false))
      .nil) (.cons (.expr (.mth .append (.var 2 false) (.cons (.bin .mod (.blt false .int (.cons (.var 5 false) .nil)) (.lit (.int 997))) .nil)))
      (.cons (.expr (.mth .append (.var 2 false) (.cons (.bin .mod (.bin .mod (.blt false .int (.cons (.bin .add (.bin .mul (.var 3 false) (.lit (.int 69621))) (.lit (.int 5))) .nil)) (.lit (.int 65521))) (.lit (.int 997))) .nil)))
      .nil))) (drE (.frl (ns.map .int)) m h.length mx (some (.v (.int (0 + (j : Int))))) (some (.v (.int cell))) (some (.v (.int 0))) d) (h ++ [.lst (ds.map .int)]) = some (.nx (drE (.frl (ns.map .int)) m h.length mx (some (.v (.int (0 + (j : Int))))) (some (.v (.int cell))) (some (.v (.int r))) d) (h ++ [.lst ((ds' : List Int).map .int)])) ∧ ds'.length ≤ ds.length + 2 := by
    by_cases hc : (1000000000000000000 : Int) ≤ cell
    · exact ⟨cell, ds, by simp [drE, runF, startE, evSs, evS, evE, evL, evT, evI, evD, asgT, rdVar, peek, part, sliceP, binP, binA, cmpP, truP, bltE, blt1, blt2, lenP, mkR, mkL, mkD, retn, pvs, SV.pv, wipeE, walkOf, itemsP, notD, idxP, isKey, keyEq, dlook, dhas, dput, dictEq, okDict, mthE, mthC, mthP, mthT, argsM, isLst, changes, isiTy, smallR, finL, finD, tupP, listP, dicP, onL, inP, isP, isNon, eqP, okD, plainD, plainDs, dep, deps, eqv, eqvs, beqI, beqS, atI_0, atI_1, atI_2, hc], by omega⟩
    · exact ⟨0, ds ++ [cell % 997, (mx * 69621 + 5) % 65521 % 997], by simp [drE, runF, startE, evSs, evS, evE, evL, evT, evI, evD, asgT, rdVar, peek, part, sliceP, binP, binA, cmpP, truP, bltE, blt1, blt2, lenP, mkR, mkL, mkD, retn, pvs, SV.pv, wipeE, walkOf, itemsP, notD, idxP, isKey, keyEq, dlook, dhas, dput, dictEq, okDict, mthE, mthC, mthP, mthT, argsM, isLst, changes, isiTy, smallR, finL, finD, tupP, listP, dicP, onL, inP, isP, isNon, eqP, okD, plainD, plainDs, dep, deps, eqv, eqvs, beqI, beqS, atI_0, atI_1, atI_2, hc, z0, z1, mk2, at_end, set_end], by simp⟩
  obtain ⟨r, ds', s4, hl⟩ := s4
  obtain ⟨r', d', ds2, s5, hl2⟩ := dr_rest (C := C) (.frl (ns.map .int)) m h (q + 62 * j + 2) (by omega) mx (some (.v (.int (0 + (j : Int))))) (some (.v (.int cell))) r d ds' (by omega)
  exact ⟨_, _, _, rfl, (seq s1).trans ((seq s2).trans ((seq s3).trans ((seq s4).trans ((seq s5).trans seqN)))), _, _, _, d', mx, ds2, rfl, rfl, hm.1, hm.2, by omega⟩
theorem dr_more (S m : PV) (h : AH) (q n : Nat) (hq : q ≤ 10000) (hn : n ≤ 2000) :
    ∀ j x e hp, (rngs 0 n)[j]? = some x → drI S m h q 1 j e hp → ∃ e1 e' h', asgT (.nm 4) (.v x) e = some e1 ∧ evSs C L__law_draws_0 e1 hp = some (.nx e' h') ∧ drI S m h q 1 (j + 1) e' h' := by
  intro j x e hp hx ⟨a, b, c, d, mixed, ds, e1, e2, b1, b2, b3⟩
  obtain ⟨hj, rfl⟩ := rngs_get hx
  subst e1 e2
  have mk : mulOk mixed 16807 = true := mulOk_small b1 b2
  have hm := mod_small (mixed * 16807 + (0 + (j : Int)) + 1)
  have z0 : ds.length < SZ := by show _ < 16777216; omega
  refine ⟨_, _, _, rfl, ?_, some (.v (.int (0 + (j : Int)))), b, c, d, (mixed * 16807 + (0 + (j : Int)) + 1) % 65537, ds ++ [(mixed * 16807 + (0 + (j : Int)) + 1) % 65537 % 997], rfl, rfl, hm.1, hm.2, by rw [List.length_append]; simp; omega⟩
  simp [L__law_draws_0, drE, runF, startE, evSs, evS, evE, evL, evT, evI, evD, asgT, rdVar, peek, part, sliceP, binP, binA, cmpP, truP, bltE, blt1, blt2, lenP, mkR, mkL, mkD, retn, pvs, SV.pv, wipeE, walkOf, itemsP, notD, idxP, isKey, keyEq, dlook, dhas, dput, dictEq, okDict, mthE, mthC, mthP, mthT, argsM, isLst, changes, isiTy, smallR, finL, finD, tupP, listP, dicP, onL, inP, isP, isNon, eqP, okD, plainD, plainDs, dep, deps, eqv, eqvs, beqI, beqS, atI_0, atI_1, atI_2, mk, z0, at_end, set_end]
theorem draws_ok (ns : List Int) (hn : ns.length ≤ 63) (m : Int) (h0 : 0 ≤ m) (hm : m ≤ 2000) (h : AH) : ∃ ds : List Int, runF C f__law_draws [.v (.frl (ns.map .int)), .v (.int m)] h = some (.v (.lst (ds.map .int)), h) := by
  let S : PV := .frl (ns.map .int)
  obtain ⟨e1, h1, s3, a, b, c, d, mixed, ds, rfl, rfl, b1, b2, b3⟩ := for_run (C := C) (t := .nm 4) (it := .rng1 (.blt false .len (.cons (.var 0 false) .nil))) (b := L__law_draws_1) (e := drE S (.int m) h.length 7 none none none none) (h := h ++ [.lst []]) (h1 := h ++ [.lst []]) (xs := rngs 0 ns.length) (g := none) (drI S (.int m) h 0 62)
    (by simp [runF, startE, evSs, evS, evE, evL, evT, evI, evD, asgT, rdVar, peek, part, sliceP, binP, binA, cmpP, truP, bltE, blt1, blt2, lenP, mkR, mkL, mkD, retn, pvs, SV.pv, wipeE, walkOf, itemsP, notD, idxP, isKey, keyEq, dlook, dhas, dput, dictEq, okDict, mthE, mthC, mthP, mthT, argsM, isLst, changes, isiTy, smallR, finL, finD, tupP, listP, dicP, onL, inP, isP, isNon, eqP, okD, plainD, plainDs, dep, deps, eqv, eqvs, beqI, beqS, atI_0, atI_1, atI_2, drE, S]; omega) ⟨none, none, none, none, 7, [], rfl, rfl, by omega, by omega, by simp⟩ (fun j e hp _ => rfl) (dr_one ns (.int m) h 0 (by omega) hn)
  rw [rngs_len] at b3
  obtain ⟨e2, h2, s4, a2, b2', c2, d2, mixed2, ds2, rfl, rfl, c1, c2', c3⟩ := for_run (C := C) (t := .nm 4) (it := .rng1 (.var 1 false)) (b := L__law_draws_0) (e := drE S (.int m) h.length mixed a b c d) (h := h ++ [.lst (ds.map .int)]) (h1 := h ++ [.lst (ds.map .int)]) (xs := rngs 0 m.toNat) (g := none) (drI S (.int m) h (0 + 62 * ns.length) 1)
    (by simp [runF, startE, evSs, evS, evE, evL, evT, evI, evD, asgT, rdVar, peek, part, sliceP, binP, binA, cmpP, truP, bltE, blt1, blt2, lenP, mkR, mkL, mkD, retn, pvs, SV.pv, wipeE, walkOf, itemsP, notD, idxP, isKey, keyEq, dlook, dhas, dput, dictEq, okDict, mthE, mthC, mthP, mthT, argsM, isLst, changes, isiTy, smallR, finL, finD, tupP, listP, dicP, onL, inP, isP, isNon, eqP, okD, plainD, plainDs, dep, deps, eqv, eqvs, beqI, beqS, atI_0, atI_1, atI_2, drE, S]; omega) ⟨a, b, c, d, mixed, ds, rfl, rfl, b1, b2, by omega⟩ (fun j e hp _ => rfl) (dr_more S (.int m) h (0 + 62 * ns.length) m.toNat (by omega) (by omega))
  have q0 : evS C (.asg (.nm 2) (.lst true .nil)) [some (.v S), some (.v (.int m)), none, none, none, none, none, none] h = some (.nx [some (.v S), some (.v (.int m)), some (.o h.length), none, none, none, none, none] (h ++ [.lst []])) := by
    simp [runF, startE, evSs, evS, evE, evL, evT, evI, evD, asgT, rdVar, peek, part, sliceP, binP, binA, cmpP, truP, bltE, blt1, blt2, lenP, mkR, mkL, mkD, retn, pvs, SV.pv, wipeE, walkOf, itemsP, notD, idxP, isKey, keyEq, dlook, dhas, dput, dictEq, okDict, mthE, mthC, mthP, mthT, argsM, isLst, changes, isiTy, smallR, finL, finD, tupP, listP, dicP, onL, inP, isP, isNon, eqP, okD, plainD, plainDs, dep, deps, eqv, eqvs, beqI, beqS, atI_0, atI_1, atI_2]
  have q1 : evS C (.asg (.nm 3) (.lit (.int 7))) [some (.v S), some (.v (.int m)), some (.o h.length), none, none, none, none, none] (h ++ [.lst []]) = some (.nx (drE S (.int m) h.length 7 none none none none) (h ++ [.lst []])) := by
    simp [runF, startE, evSs, evS, evE, evL, evT, evI, evD, asgT, rdVar, peek, part, sliceP, binP, binA, cmpP, truP, bltE, blt1, blt2, lenP, mkR, mkL, mkD, retn, pvs, SV.pv, wipeE, walkOf, itemsP, notD, idxP, isKey, keyEq, dlook, dhas, dput, dictEq, okDict, mthE, mthC, mthP, mthT, argsM, isLst, changes, isiTy, smallR, finL, finD, tupP, listP, dicP, onL, inP, isP, isNon, eqP, okD, plainD, plainDs, dep, deps, eqv, eqvs, beqI, beqS, atI_0, atI_1, atI_2, drE]
  have q2 : evS C (.ret (.slc (.var 2 true) .nil (.cons (.var 1 false) .nil))) (drE S (.int m) h.length mixed2 a2 b2' c2 d2) (h ++ [.lst (ds2.map .int)]) = some (.rt (.v (.lst ((cut ds2 none (some m)).map .int))) (h ++ [.frz (.lst (ds2.map .int))])) := by
    simp [runF, startE, evSs, evS, evE, evL, evT, evI, evD, asgT, rdVar, peek, part, sliceP, binP, binA, cmpP, truP, bltE, blt1, blt2, lenP, mkR, mkL, mkD, retn, pvs, SV.pv, wipeE, walkOf, itemsP, notD, idxP, isKey, keyEq, dlook, dhas, dput, dictEq, okDict, mthE, mthC, mthP, mthT, argsM, isLst, changes, isiTy, smallR, finL, finD, tupP, listP, dicP, onL, inP, isP, isNon, eqP, okD, plainD, plainDs, dep, deps, eqv, eqvs, beqI, beqS, atI_0, atI_1, atI_2, drE, at_end, set_end, ints_cut]
  have hb : evSs C f__law_draws.body [some (.v S), some (.v (.int m)), none, none, none, none, none, none] h = some (.rt (.v (.lst ((cut ds2 none (some m)).map .int))) (h ++ [.frz (.lst (ds2.map .int))])) := by
    show evSs C (.cons _ (.cons _ (.cons _ (.cons _ (.cons _ .nil))))) _ _ = _
    rw [seq q0, seq q1, seq s3, seq s4, seqR q2]
  exact ⟨cut ds2 none (some m), runF_ret rfl hb (by simp [runF, startE, evSs, evS, evE, evL, evT, evI, evD, asgT, rdVar, peek, part, sliceP, binP, binA, cmpP, truP, bltE, blt1, blt2, lenP, mkR, mkL, mkD, retn, pvs, SV.pv, wipeE, walkOf, itemsP, notD, idxP, isKey, keyEq, dlook, dhas, dput, dictEq, okDict, mthE, mthC, mthP, mthT, argsM, isLst, changes, isiTy, smallR, finL, finD, tupP, listP, dicP, onL, inP, isP, isNon, eqP, okD, plainD, plainDs, dep, deps, eqv, eqvs, beqI, beqS, atI_0, atI_1, atI_2])⟩
end
end Ev

set_option Elab.async false
set_option linter.all false
set_option maxRecDepth 100000
namespace Ev
mutual
theorem same_eq' : ∀ {p q : PV}, same p q = true → p = q
  | .non, q, h => by cases q <;> simp_all [same]
  | .bl a, q, h => by cases q <;> simp_all [same]
  | .int a, q, h => by cases q <;> simp_all [same]
  | .str a, q, h => by cases q <;> simp_all [same]
  | .tup xs, q, h => by
    cases q with
    | tup ys => rw [sames_eq' (p := xs) (q := ys) (by simpa [same] using h)]
    | _ => simp [same] at h
  | .lst xs, q, h => by
    cases q with
    | lst ys => rw [sames_eq' (p := xs) (q := ys) (by simpa [same] using h)]
    | _ => simp [same] at h
  | .frl xs, q, h => by
    cases q with
    | frl ys => rw [sames_eq' (p := xs) (q := ys) (by simpa [same] using h)]
    | _ => simp [same] at h
  | .dict xs, q, h => by
    cases q with
    | dict ys => rw [samed_eq' (p := xs) (q := ys) (by simpa [same] using h)]
    | _ => simp [same] at h
theorem sames_eq' : ∀ {p q : List PV}, sames p q = true → p = q
  | [], [], _ => rfl
  | [], _ :: _, h => by simp [sames] at h
  | _ :: _, [], h => by simp [sames] at h
  | x :: xs, y :: ys, h => by
    simp only [sames, Bool.and_eq_true] at h
    rw [same_eq' h.1, sames_eq' h.2]
theorem samed_eq' : ∀ {p q : List (PV × PV)}, samed p q = true → p = q
  | [], [], _ => rfl
  | [], _ :: _, h => by simp [samed] at h
  | _ :: _, [], h => by simp [samed] at h
  | (k, x) :: xs, (k', y) :: ys, h => by
    simp only [samed, Bool.and_eq_true] at h
    rw [same_eq' h.1.1, same_eq' h.1.2, samed_eq' h.2]
end

section
variable {C : Calls}
/-! ### the next number -/
def Wc (ds : List Int) (k : Nat) : Cell := .dict [(.str [100,114,97,119,115], .lst (ds.map .int)), (.str [97,116], .int k)]
def nx (ds : List Int) (k : Nat) (m : Int) : Int := if h : k < ds.length then ds[k] % m else 0
theorem nx_lo (ds : List Int) (k : Nat) {m : Int} (hm : 0 < m) : 0 ≤ nx ds k m := by
  unfold nx
  split
  · exact Int.emod_nonneg _ (by omega)
  · omega
theorem nx_hi (ds : List Int) (k : Nat) {m : Int} (hm : 0 < m) : nx ds k m < m := by
  unfold nx
  split
  · exact Int.emod_lt_of_pos _ hm
  · exact hm
theorem next_ok (ds : List Int) (k : Nat) (m : Int) (hm : 0 < m) (hr : AH) : runF C f__law_next [.o 0, .v (.int m)] (Wc ds k :: hr) = some (.v (.int (nx ds k m)), Wc ds (k + 1) :: hr) := by
  have z : (2 : Nat) < SZ := by decide
  have e1 : ((k : Int) + 1) = ((k + 1 : Nat) : Int) := by omega
  by_cases hk : k < ds.length
  · have h1 : ¬ ((ds.length : Int) < (k : Int) + 1) := by omega
    have g := ints_get ds k hk
    have e2 : (k : Int) + 1 - 1 = k := by omega
    have e3 : ds.map PV.int ≠ [] := by
      intro h
      have := congrArg List.length h
      simp at this
      rw [this] at hk
      simp at hk
    simp [runF, startE, evSs, evS, evE, evL, evT, evI, evD, asgT, rdVar, peek, part, sliceP, binP, binA, cmpP, truP, bltE, blt1, blt2, lenP, mkR, mkL, mkD, retn, pvs, SV.pv, wipeE, walkOf, itemsP, notD, idxP, isKey, keyEq, dlook, dhas, dput, dictEq, okDict, mthE, mthC, mthP, mthT, argsM, isLst, changes, isiTy, smallR, finL, finD, tupP, listP, dicP, onL, inP, isP, isNon, eqP, okD, plainD, plainDs, dep, deps, eqv, eqvs, beqI, beqS, atI_0, atI_1, atI_2, f__law_next, Wc, z, h1, g, e2, hm, nx, hk]
  · have h1 : ((ds.length : Int) < (k : Int) + 1) := by omega
    simp [runF, startE, evSs, evS, evE, evL, evT, evI, evD, asgT, rdVar, peek, part, sliceP, binP, binA, cmpP, truP, bltE, blt1, blt2, lenP, mkR, mkL, mkD, retn, pvs, SV.pv, wipeE, walkOf, itemsP, notD, idxP, isKey, keyEq, dlook, dhas, dput, dictEq, okDict, mthE, mthC, mthP, mthT, argsM, isLst, changes, isiTy, smallR, finL, finD, tupP, listP, dicP, onL, inP, isP, isNon, eqP, okD, plainD, plainDs, dep, deps, eqv, eqvs, beqI, beqS, atI_0, atI_1, atI_2, f__law_next, Wc, z, h1, nx, hk]
/-! ### comprehensions -/
theorem loopC_run {f : PV → AH → Option (Option PV × AH)} {ok : AH → Bool} (T : PV → Option PV) (h : AH) : ∀ (xs : List PV) (acc : List PV), (∀ acc, ok (h ++ [.lst acc]) = true) → (∀ x ∈ xs, ∀ acc, f x (h ++ [.lst acc]) = some (T x, h ++ [.lst acc])) → acc.length + xs.length ≤ SZ →
    loopC f ok h.length xs (h ++ [.lst acc]) = some (h ++ [.lst (acc ++ xs.filterMap T)])
  | [], acc, hok, hf, hl => by simp [loopC, hok]
  | x :: xs, acc, hok, hf, hl => by
    rw [List.length_cons] at hl
    simp only [loopC, hok, if_true, hf x List.mem_cons_self]
    cases hT : T x with
    | none =>
      simp only [List.filterMap_cons, hT]
      exact loopC_run T h xs acc hok (fun y hy => hf y (List.mem_cons_of_mem _ hy)) (by omega)
    | some y =>
      have z : acc.length < SZ := by omega
      simp only [at_end, z, if_true, set_end]
      rw [loopC_run T h xs (acc ++ [y]) hok (fun y hy => hf y (List.mem_cons_of_mem _ hy)) (by rw [List.length_append]; simp; omega)]
      simp [List.filterMap_cons, hT]
theorem comp_ev {elt : Ex} {own : List Nat} {tg : Tg} {it : Itr} {ifs : Ts} {e : En} {h : AH} {xs : List PV} {g : Option Nat} (T : PV → Option PV) (hI : evI C it e h = some (xs, g, h)) (hz : xs.length ≤ SZ) (hok : ∀ acc, guardOk xs g (h ++ [.lst acc]) = true)
    (st : ∀ x ∈ xs, ∀ acc, ∃ e2, asgT tg (.v x) (wipeE e own) = some e2 ∧ ((T x = none ∧ evT C ifs e2 (h ++ [.lst acc]) = some (false, h ++ [.lst acc])) ∨ ∃ y, T x = some y ∧ evT C ifs e2 (h ++ [.lst acc]) = some (true, h ++ [.lst acc]) ∧ evE C elt e2 (h ++ [.lst acc]) = some (.v y, h ++ [.lst acc]))) :
    evE C (.comp false elt own tg it ifs) e h = some (.v (.lst (xs.filterMap T)), h) := by
  simp only [evE, hI]
  rw [loopC_run T h xs [] hok ?_ (by simpa using hz)]
  · simp [finL]
  · intro x hx acc
    obtain ⟨e2, h1, h2⟩ := st x hx acc
    rcases h2 with ⟨h2, h3⟩ | ⟨y, h2, h3, h4⟩
    · simp only [h1, h3, h2]
    · simp only [h1, h3, h4, h2]
/-! ### the same, part by part -/
mutual
def sok : PV → Bool
  | .tup xs => soks xs
  | .dict kvs => sokd kvs && kvs.all fun kv => match dlook kvs kv.1 with | some y => same y kv.2 | none => false
  | .frl _ => false
  | p => okD p
def soks : List PV → Bool
  | [] => true
  | x :: xs => sok x && soks xs
def sokd : List (PV × PV) → Bool
  | [] => true
  | (k, x) :: xs => isKey k && sok x && sokd xs
end
def prT (p : PV) : PV := .tup [p, p]
def saE (S D : PV) (j : Nat) (a b c d : Option SV) : En := [some (.v S), some (.v D), some (.o j), a, b, c, d]
theorem nodess_len : ∀ xs : List PV, xs.length ≤ nodess xs
  | [] => by simp [nodess]
  | x :: xs => by
    have := nodess_len xs
    have h1 : 1 ≤ nodes x := by cases x <;> simp [nodes]
    rw [nodess, List.length_cons]
    omega
theorem nodess_app : ∀ xs ys : List PV, nodess (xs ++ ys) = nodess xs + nodess ys
  | [], ys => by simp [nodess]
  | x :: xs, ys => by rw [List.cons_append, nodess, nodess, nodess_app xs ys]; omega
theorem soks_app : ∀ xs ys : List PV, soks (xs ++ ys) = (soks xs && soks ys)
  | [], ys => by simp [soks]
  | x :: xs, ys => by rw [List.cons_append, soks, soks, soks_app xs ys, Bool.and_assoc]
theorem sokd_vals : ∀ {kvs : List (PV × PV)}, sokd kvs = true → soks (kvs.map (·.2)) = true ∧ nodess (kvs.map (·.2)) = nodesd kvs ∧ ∀ kv ∈ kvs, isKey kv.1 = true
  | [], _ => by simp [soks, nodess, nodesd]
  | (k, x) :: xs, h => by
    simp only [sokd, Bool.and_eq_true] at h
    obtain ⟨h1, h2, h3⟩ := sokd_vals h.2
    refine ⟨by simp [soks, h.1.2]; simpa using h1, by simp [nodess, nodesd]; simpa using h2, fun kv hkv => ?_⟩
    rcases List.mem_cons.mp hkv with rfl | hkv
    · exact h.1.1
    · exact h3 kv hkv
theorem leaf_okD {p : PV} (h : sok p = true) (ht : ∀ xs, p ≠ .tup xs) (hd : ∀ xs, p ≠ .dict xs) : okD p = true := by
  cases p with
  | tup xs => exact absurd rfl (ht xs)
  | dict xs => exact absurd rfl (hd xs)
  | frl xs => simp [sok] at h
  | _ => simpa [sok] using h
theorem okD_eqP {p : PV} (h : okD p = true) : eqP p p = some true := by
  have hp : plainD p = true := by unfold okD at h; rw [Bool.and_eq_true] at h; exact h.1
  have e := eqv_self hp
  cases p <;> simp_all [eqP, plainD]
end
end Ev

set_option Elab.async false
set_option linter.all false
set_option maxRecDepth 100000
namespace Ev
section
variable {C : Calls}
theorem lastI {α : Type} (xs : List α) (x : α) : (xs ++ [x])[(xs ++ [x]).length - 1]? = some x := by simp
theorem sa_pop (S D : PV) (h : AH) (a b c d : Option SV) (st : List PV) (p : PV) : evS C (.asg (.tp [3, 4]) (.mth .pop (.var 2 false) .nil)) (saE S D h.length a b c d) (h ++ [.lst ((st ++ [p]).map prT)]) =
    some (.nx (saE S D h.length (some (.v p)) (some (.v p)) c d) (h ++ [.lst (st.map prT)])) := by
  have e : (st ++ [p]).map prT = st.map prT ++ [.tup [p, p]] := by simp [prT]
  rw [e]
  simp [runF, startE, evSs, evS, evE, evL, evT, evI, evD, asgT, rdVar, peek, part, sliceP, binP, binA, cmpP, truP, bltE, blt1, blt2, lenP, mkR, mkL, mkD, retn, pvs, SV.pv, wipeE, walkOf, itemsP, notD, idxP, isKey, keyEq, dlook, dhas, dput, dictEq, okDict, mthE, mthC, mthP, mthT, argsM, isLst, changes, isiTy, smallR, finL, finD, tupP, listP, dicP, onL, inP, isP, isNon, eqP, okD, plainD, plainDs, dep, deps, eqv, eqvs, beqI, beqS, atI_0, atI_1, atI_2, saE]
def isTup : PV → Bool
  | .tup _ => true
  | _ => false
def isDic : PV → Bool
  | .dict _ => true
  | _ => false
theorem isi_t (p : PV) : isiTy p .tuple = isTup p := by cases p <;> rfl
theorem isi_d (p : PV) : isiTy p .dict = isDic p := by cases p <;> rfl
theorem sa_leaf (S D : PV) (h : AH) (c d : Option SV) (xs : List PV) (p : PV) (hp : okD p = true) : evS C (.ifs (.boo false (.of (.cmp .ne (.isi (.var 3 false) .bool) (.isi (.var 4 false) .bool))) (.boo false (.of (.cmp .ne (.isi (.var 3 false) .int) (.isi (.var 4 false) .int))) (.boo false (.of (.cmp .ne (.isi (.var 3 false) .str) (.isi (.var 4 false) .str))) (.of (.cmp .ne (.var 3 false) (.var 4 false)))))) (.cons (.ret (.lit (.bl false)))
          .nil) .nil) (saE S D h.length (some (.v p)) (some (.v p)) c d) (h ++ [.lst xs]) = some (.nx (saE S D h.length (some (.v p)) (some (.v p)) c d) (h ++ [.lst xs])) := by
  have e := okD_eqP hp
  have eb : ∀ b : Bool, eqP (.bl b) (.bl b) = some true := fun b => okD_eqP (by cases b <;> rfl)
  simp [evS, evT, evE, evSs, saE, rdVar, peek, cmpP, eb, e, truP]
theorem tup_at (xs : List PV) (j : Nat) (x : PV) (h : xs[j]? = some x) : atI xs (j : Int) = some x := by
  unfold atI ixN
  have hj := (List.getElem?_eq_some_iff.mp h).1
  rw [if_pos (by omega), if_pos (by omega)]
  simpa using h
theorem mapIdx_eq (xs : List PV) (T : PV → Option PV) (hT : ∀ (j : Nat) x, xs[j]? = some x → T (.int j) = some (prT x)) : (rngs 0 xs.length).filterMap T = xs.map prT := by
  unfold rngs
  have : ∀ (ys : List PV) (k : Nat), (∀ (j : Nat) x, ys[j]? = some x → T (.int ((k + j : Nat) : Int)) = some (prT x)) → ((List.range' k ys.length).map fun (i : Nat) => PV.int ((i : Nat) : Int)).filterMap T = ys.map prT := by
    intro ys
    induction ys with
    | nil => intro k _; rfl
    | cons y ys ih =>
      intro k hk
      rw [List.length_cons, List.range'_succ, List.map_cons]
      have h0 := hk 0 y rfl
      rw [Nat.add_zero] at h0
      rw [List.filterMap_cons, h0, List.map_cons]
      simp only
      rw [ih (k + 1) fun j x hj => by
        have := hk (j + 1) x (by simpa using hj)
        rw [show k + (j + 1) = k + 1 + j by omega] at this
        exact this]
  have h := this xs 0 (fun j x hj => by rw [Nat.zero_add]; exact hT j x hj)
  rw [List.range_eq_range']
  simp only [Int.zero_add]
  exact h
theorem ext_ev {o a : Ex} {e : En} {h : AH} {j : Nat} {xs ys : List PV} (ho : evE C o e h = some (.o j, h)) (hj : h[j]? = some (.lst xs)) (ha : evE C a e h = some (.v (.lst ys), h)) (hz : xs.length + ys.length ≤ SZ) :
    evS C (.expr (.mth .extend o (.cons a .nil))) e h = some (.nx e (h.set j (.lst (xs ++ ys)))) := by
  simp only [evS, evE, evL, ho, ha, changes, if_true, hj, isLst, mthE, argsM, peek, Option.map_some, mthC, hz]
theorem ne_nil {a : Ex} {e : En} {h : AH} {ys : List PV} (ha : evE C a e h = some (.v (.lst ys), h)) : evT C (.of (.cmp .ne a (.lst false .nil))) e h = some (!ys.isEmpty, h) := by
  simp only [evT, evE, evL, ha, pvs, mkL]
  cases ys with
  | nil => simp [peek, cmpP, eqP, okD, plainD, plainDs, dep, deps, eqv, eqvs, truP, SZ]
  | cons y ys => simp [peek, cmpP, eqP, truP, SZ]
theorem boo_f {a b : Ts} {e : En} {h : AH} (ha : evT C a e h = some (false, h)) : evT C (.boo false a b) e h = evT C b e h := by
  simp only [evT, ha]; rfl
theorem sa_tup (S D : PV) (h : AH) (c d : Option SV) (st : List PV) (xs : List PV) (hl : st.length + xs.length ≤ 1000000) : evS C (.expr (.mth .extend (.var 2 false) (.cons (.comp false (.tup (.cons (.idx (.var 3 false) (.var 6 false)) (.cons (.idx (.var 4 false) (.var 6 false)) .nil))) [6] (.nm 6) (.rng1 (.blt false .len (.cons (.var 4 false) .nil))) .yes) .nil)))
    (saE S D h.length (some (.v (.tup xs))) (some (.v (.tup xs))) c d) (h ++ [.lst (st.map prT)]) = some (.nx (saE S D h.length (some (.v (.tup xs))) (some (.v (.tup xs))) c d) (h ++ [.lst ((st ++ xs).map prT)])) := by
  have z : xs.length ≤ SZ := by show _ ≤ 16777216; omega
  have sm : smallR (xs.length : Int) = true := by unfold smallR; simp; omega
  have hz : st.length + xs.length ≤ SZ := by show _ ≤ 16777216; omega
  let T : PV → Option PV := fun x => match x with | .int i => (atI xs i).map prT | _ => none
  have comp := comp_ev (C := C) (elt := .tup (.cons (.idx (.var 3 false) (.var 6 false)) (.cons (.idx (.var 4 false) (.var 6 false)) .nil))) (own := [6]) (tg := .nm 6) (it := .rng1 (.blt false .len (.cons (.var 4 false) .nil))) (ifs := .yes) (e := saE S D h.length (some (.v (.tup xs))) (some (.v (.tup xs))) c d) (h := h ++ [.lst (st.map prT)]) (xs := rngs 0 xs.length) (g := none) T
    (by simp [evI, evE, evL, saE, rdVar, bltE, peek, blt1, lenP, mkR, sm]) (by rw [rngs_len]; exact z) (fun acc => rfl) (fun x hx acc => by
      obtain ⟨j, hj⟩ := List.getElem?_of_mem hx
      obtain ⟨h1, rfl⟩ := rngs_get hj
      have g := tup_at xs j xs[j] (List.getElem?_eq_getElem h1)
      refine ⟨_, rfl, .inr ⟨prT xs[j], by simp [T, g], by simp [evT], ?_⟩⟩
      simp [runF, startE, evSs, evS, evE, evL, evT, evI, evD, asgT, rdVar, peek, part, sliceP, binP, binA, cmpP, truP, bltE, blt1, blt2, lenP, mkR, mkL, mkD, retn, pvs, SV.pv, wipeE, walkOf, itemsP, notD, idxP, isKey, keyEq, dlook, dhas, dput, dictEq, okDict, mthE, mthC, mthP, mthT, argsM, isLst, changes, isiTy, smallR, finL, finD, tupP, listP, dicP, onL, inP, isP, isNon, eqP, okD, plainD, plainDs, dep, deps, eqv, eqvs, beqI, beqS, atI_0, atI_1, atI_2, saE, g, prT, SZ])
  have hm : (rngs 0 xs.length).filterMap T = xs.map prT := mapIdx_eq xs T fun j x hj => by simp [T, tup_at xs j x hj]
  rw [hm] at comp
  have r := ext_ev (o := .var 2 false) (by simp [evE, saE, rdVar]) (at_end h _) comp (by simpa using hz)
  rw [set_end, ← List.map_append] at r
  exact r
theorem sa_dic (S D : PV) (h : AH) (c d : Option SV) (st : List PV) (kvs : List (PV × PV)) (hl : st.length + kvs.length ≤ 1000000) (hk : ∀ kv ∈ kvs, isKey kv.1 = true) (hd : ∀ kv ∈ kvs, dlook kvs kv.1 = some kv.2) : evS C (.expr (.mth .extend (.var 2 false) (.cons (.comp false (.tup (.cons (.idx (.var 3 false) (.var 5 false)) (.cons (.idx (.var 4 false) (.var 5 false)) .nil))) [5] (.nm 5) (.var 4 false) .yes) .nil)))
    (saE S D h.length (some (.v (.dict kvs))) (some (.v (.dict kvs))) c d) (h ++ [.lst (st.map prT)]) = some (.nx (saE S D h.length (some (.v (.dict kvs))) (some (.v (.dict kvs))) c d) (h ++ [.lst ((st ++ kvs.map (·.2)).map prT)])) := by
  have z : kvs.length ≤ SZ := by show _ ≤ 16777216; omega
  have hz : st.length + kvs.length ≤ SZ := by show _ ≤ 16777216; omega
  let T : PV → Option PV := fun x => (dlook kvs x).map prT
  have comp := comp_ev (C := C) (elt := .tup (.cons (.idx (.var 3 false) (.var 5 false)) (.cons (.idx (.var 4 false) (.var 5 false)) .nil))) (own := [5]) (tg := .nm 5) (it := .var 4 false) (ifs := .yes) (e := saE S D h.length (some (.v (.dict kvs))) (some (.v (.dict kvs))) c d) (h := h ++ [.lst (st.map prT)]) (xs := kvs.map (·.1)) (g := none) T
    (by simp [evI, saE, rdVar, walkOf, itemsP]) (by rw [List.length_map]; exact z) (fun acc => rfl) (fun x hx acc => by
      obtain ⟨kv, hkv, rfl⟩ := List.mem_map.mp hx
      have g := hd kv hkv
      have k := hk kv hkv
      refine ⟨_, rfl, .inr ⟨prT kv.2, by simp [T, g], by simp [evT], ?_⟩⟩
      simp [evE, evL, wipeE, saE, rdVar, peek, idxP, k, g, pvs, prT, SZ])
  have hm : (kvs.map (·.1)).filterMap T = (kvs.map (·.2)).map prT := by
    rw [List.filterMap_map, List.map_map]
    have : ∀ l : List (PV × PV), (∀ kv ∈ l, dlook kvs kv.1 = some kv.2) → l.filterMap (T ∘ fun x => x.1) = l.map (prT ∘ fun x => x.2) := by
      intro l
      induction l with
      | nil => intro _; rfl
      | cons a l ih =>
        intro q
        have g := q a List.mem_cons_self
        rw [List.filterMap_cons]
        simp only [Function.comp_apply, T, g, Option.map_some]
        rw [List.map_cons, ← ih fun kv hkv => q kv (List.mem_cons_of_mem _ hkv)]
        rfl
    exact this kvs hd
  rw [hm] at comp
  have r := ext_ev (o := .var 2 false) (by simp [evE, saE, rdVar]) (at_end h _) comp (by simpa using hz)
  rw [set_end, ← List.map_append] at r
  exact r
theorem sa_body (S D : PV) (h : AH) (a b c d : Option SV) (st : List PV) (p : PV) (hp : sok p = true) (hn : nodess (st ++ [p]) ≤ 100000) :
    ∃ a' b' ps, evSs C L__law_same_0 (saE S D h.length a b c d) (h ++ [.lst ((st ++ [p]).map prT)]) = some (.nx (saE S D h.length a' b' c d) (h ++ [.lst ((st ++ ps).map prT)])) ∧ soks ps = true ∧ nodess ps < nodes p := by
  rw [nodess_app] at hn
  have hst := nodess_len st
  show ∃ a' b' ps, evSs C (.cons _ (.cons _ .nil)) _ _ = _ ∧ _
  rw [seq (sa_pop S D h a b c d st p)]
  by_cases hd : isDic p = true
  · cases p <;> first | (simp [isDic] at hd; done) | skip
    rename_i kvs
    simp only [sok, Bool.and_eq_true] at hp
    obtain ⟨v1, v2, v3⟩ := sokd_vals hp.1
    have lk : ∀ kv ∈ kvs, dlook kvs kv.1 = some kv.2 := fun kv hkv => by
      have := (List.all_eq_true.mp hp.2) kv hkv
      split at this
      · rename_i y hy
        rw [hy, same_eq' this]
      · cases this
    have hlen : kvs.length ≤ nodess (kvs.map (·.2)) := by
      have := nodess_len (kvs.map (·.2))
      rwa [List.length_map] at this
    have hl : st.length + kvs.length ≤ 1000000 := by
      have : nodess [PV.dict kvs] = nodesd kvs + 1 := by simp [nodess, nodes]
      rw [v2] at hlen
      omega
    have cmp := comp_ev (C := C) (elt := .var 5 false) (own := [5]) (tg := .nm 5) (it := .var 4 false) (ifs := .of (.cmp .notIn (.var 5 false) (.var 3 false))) (e := saE S D h.length (some (.v (.dict kvs))) (some (.v (.dict kvs))) c d) (h := h ++ [.lst (st.map prT)]) (xs := kvs.map (·.1)) (g := none) (fun _ => none)
      (by simp [evI, saE, rdVar, walkOf, itemsP]) (by rw [List.length_map]; show _ ≤ 16777216; omega) (fun acc => rfl) (fun x hx acc => by
        obtain ⟨kv, hkv, rfl⟩ := List.mem_map.mp hx
        have g := lk kv hkv
        have k := v3 kv hkv
        refine ⟨_, rfl, .inl ⟨rfl, ?_⟩⟩
        simp [evT, evE, wipeE, saE, rdVar, peek, cmpP, inP, k, dhas, g, truP])
    rw [show (kvs.map (·.1)).filterMap (fun _ : PV => (none : Option PV)) = [] by simp] at cmp
    refine ⟨some (.v (.dict kvs)), some (.v (.dict kvs)), kvs.map (·.2), ?_, v1, by rw [v2]; simp [nodes]⟩
    refine (seq (e1 := saE S D h.length (some (.v (.dict kvs))) (some (.v (.dict kvs))) c d) (h1 := h ++ [.lst ((st ++ kvs.map (·.2)).map prT)]) ?_).trans seqN
    have t1 : evT C (.of (.isi (.var 4 false) .dict)) (saE S D h.length (some (.v (.dict kvs))) (some (.v (.dict kvs))) c d) (h ++ [.lst (st.map prT)]) = some (true, h ++ [.lst (st.map prT)]) := by
      simp [evT, evE, saE, rdVar, peek, isiTy, truP]
    simp only [evS, t1]
    refine (seq (e1 := saE S D h.length (some (.v (.dict kvs))) (some (.v (.dict kvs))) c d) (h1 := h ++ [.lst (st.map prT)]) ?_).trans ((seq (sa_dic S D h c d st kvs hl v3 lk)).trans seqN)
    have t3 : evT C (.not (.of (.isi (.var 3 false) .dict))) (saE S D h.length (some (.v (.dict kvs))) (some (.v (.dict kvs))) c d) (h ++ [.lst (st.map prT)]) = some (false, h ++ [.lst (st.map prT)]) := by
      simp [evT, evE, saE, rdVar, peek, isiTy, truP]
    have t4 : evT C (.of (.cmp .ne (.blt false .len (.cons (.var 3 false) .nil)) (.blt false .len (.cons (.var 4 false) .nil)))) (saE S D h.length (some (.v (.dict kvs))) (some (.v (.dict kvs))) c d) (h ++ [.lst (st.map prT)]) = some (false, h ++ [.lst (st.map prT)]) := by
      simp [evT, evE, evL, saE, rdVar, peek, truP, bltE, blt1, lenP, mkR, cmpP, eqP, okD, plainD, dep, eqv, beqI]
    have t5 := ne_nil cmp
    simp only [evS, boo_f t3, boo_f t4, t5, List.isEmpty_nil, Bool.not_true]
    rfl
  · have hd' : isDic p = false := by simpa using hd
    have t1 : evT C (.of (.isi (.var 4 false) .dict)) (saE S D h.length (some (.v p)) (some (.v p)) c d) (h ++ [.lst (st.map prT)]) = some (false, h ++ [.lst (st.map prT)]) := by
      simp [evT, evE, saE, rdVar, peek, isi_d, hd', truP]
    by_cases ht : isTup p = true
    · cases p <;> first | (simp [isTup] at ht; done) | skip
      rename_i xs
      have hs : soks xs = true := by simpa [sok] using hp
      have hlen := nodess_len xs
      have hl : st.length + xs.length ≤ 1000000 := by
        have : nodess [PV.tup xs] = nodess xs + 1 := by simp [nodess, nodes]
        omega
      have t2 : evT C (.of (.isi (.var 4 false) .tuple)) (saE S D h.length (some (.v (.tup xs))) (some (.v (.tup xs))) c d) (h ++ [.lst (st.map prT)]) = some (true, h ++ [.lst (st.map prT)]) := by
        simp [evT, evE, saE, rdVar, peek, isiTy, truP]
      refine ⟨some (.v (.tup xs)), some (.v (.tup xs)), xs, ?_, hs, by simp [nodes]⟩
      refine (seq (e1 := saE S D h.length (some (.v (.tup xs))) (some (.v (.tup xs))) c d) (h1 := h ++ [.lst ((st ++ xs).map prT)]) ?_).trans seqN
      simp only [evS, t1]
      refine (seq (e1 := saE S D h.length (some (.v (.tup xs))) (some (.v (.tup xs))) c d) (h1 := h ++ [.lst ((st ++ xs).map prT)]) ?_).trans seqN
      simp only [evS, t2]
      refine (seq (e1 := saE S D h.length (some (.v (.tup xs))) (some (.v (.tup xs))) c d) (h1 := h ++ [.lst (st.map prT)]) ?_).trans ((seq (sa_tup S D h c d st xs hl)).trans seqN)
      have t3 : evT C (.not (.of (.isi (.var 3 false) .tuple))) (saE S D h.length (some (.v (.tup xs))) (some (.v (.tup xs))) c d) (h ++ [.lst (st.map prT)]) = some (false, h ++ [.lst (st.map prT)]) := by
        simp [evT, evE, saE, rdVar, peek, isiTy, truP]
      have t4 : evT C (.of (.cmp .ne (.blt false .len (.cons (.var 3 false) .nil)) (.blt false .len (.cons (.var 4 false) .nil)))) (saE S D h.length (some (.v (.tup xs))) (some (.v (.tup xs))) c d) (h ++ [.lst (st.map prT)]) = some (false, h ++ [.lst (st.map prT)]) := by
        simp [evT, evE, evL, saE, rdVar, peek, truP, bltE, blt1, lenP, mkR, cmpP, eqP, okD, plainD, dep, eqv, beqI]
      simp only [evS, boo_f t3, t4]
      rfl
    · have ht' : isTup p = false := by simpa using ht
      have t2 : evT C (.of (.isi (.var 4 false) .tuple)) (saE S D h.length (some (.v p)) (some (.v p)) c d) (h ++ [.lst (st.map prT)]) = some (false, h ++ [.lst (st.map prT)]) := by
        simp [evT, evE, saE, rdVar, peek, isi_t, ht', truP]
      have ok := leaf_okD hp (by rintro xs rfl; cases ht') (by rintro xs rfl; cases hd')
      refine ⟨some (.v p), some (.v p), [], ?_, rfl, by cases p <;> simp [nodes, nodess]⟩
      rw [List.append_nil]
      refine (seq (e1 := saE S D h.length (some (.v p)) (some (.v p)) c d) (h1 := h ++ [.lst (st.map prT)]) ?_).trans seqN
      simp only [evS, t1]
      refine (seq (e1 := saE S D h.length (some (.v p)) (some (.v p)) c d) (h1 := h ++ [.lst (st.map prT)]) ?_).trans seqN
      simp only [evS, t2]
      exact (seq (sa_leaf S D h c d _ p ok)).trans seqN
end
end Ev

set_option Elab.async false
set_option linter.all false
set_option maxRecDepth 100000
namespace Ev
section
variable {C : Calls}
theorem sa_loop (S D : PV) (h : AH) (c d : Option SV) : ∀ (n : Nat) (st : List PV) (a b : Option SV), soks st = true → nodess st ≤ 100000 → nodess st < n →
    ∃ a' b', whileF (evT C (.of (.cmp .ne (.var 2 false) (.lst false .nil)))) (evSs C L__law_same_0) n (saE S D h.length a b c d) (h ++ [.lst (st.map prT)]) = some (.nx (saE S D h.length a' b' c d) (h ++ [.lst []]))
  | 0, st, a, b, _, _, hn => by omega
  | n + 1, st, a, b, hs, hm, hn => by
    have t : ∀ xs : List PV, evT C (.of (.cmp .ne (.var 2 false) (.lst false .nil))) (saE S D h.length a b c d) (h ++ [.lst xs]) = some (!xs.isEmpty, h ++ [.lst xs]) := fun xs => by
      cases xs with
      | nil => simp [evT, evE, evL, saE, rdVar, pvs, mkL, peek, cmpP, eqP, okD, plainD, plainDs, dep, deps, eqv, eqvs, truP, SZ]
      | cons y ys => simp [evT, evE, evL, saE, rdVar, pvs, mkL, peek, cmpP, eqP, truP, SZ]
    rcases List.eq_nil_or_concat st with rfl | ⟨st', p, rfl⟩
    · refine ⟨a, b, ?_⟩
      simp only [List.map_nil, whileF, t]
      rfl
    · have hs2 := hs
      rw [List.concat_eq_append] at *
      rw [soks_app, Bool.and_eq_true] at hs2
      have hp : sok p = true := by simpa [soks] using hs2.2
      obtain ⟨a', b', ps, e1, h1, h2⟩ := sa_body (C := C) S D h a b c d st' p hp hm
      have hn' : nodess (st' ++ ps) < n := by
        rw [nodess_app] at *
        have : nodess [p] = nodes p := by simp [nodess]
        omega
      have hm' : nodess (st' ++ ps) ≤ 100000 := by
        rw [nodess_app] at *
        have : nodess [p] = nodes p := by simp [nodess]
        omega
      obtain ⟨a2, b2, e2⟩ := sa_loop S D h c d n (st' ++ ps) a' b' (by rw [soks_app, hs2.1, h1]; rfl) hm' hn'
      refine ⟨a2, b2, ?_⟩
      have ne : (!((st' ++ [p]).map prT).isEmpty) = true := by simp
      simp only [whileF, t, ne, e1]
      exact e2
theorem same_ok (p : PV) (hp : sok p = true) (hn : nodes p < 100000) (h : AH) : runF C f__law_same [.v p, .v p] h = some (.v (.bl true), h) := by
  obtain ⟨a', b', e1⟩ := sa_loop (C := C) p p h none none FUEL [p] none none (by simpa [soks] using hp) (by simp [nodess]; omega) (by simp [nodess]; exact hn)
  have q0 : evS C (.asg (.nm 2) (.lst true (.cons (.tup (.cons (.var 0 false) (.cons (.var 1 false) .nil))) .nil))) [some (.v p), some (.v p), none, none, none, none, none] h = some (.nx (saE p p h.length none none none none) (h ++ [.lst ([p].map prT)])) := by
    simp [evS, evE, evL, rdVar, pvs, mkL, asgT, saE, prT, SZ]
  have q1 : evS C (.whil (.of (.cmp .ne (.var 2 false) (.lst false .nil))) L__law_same_0) (saE p p h.length none none none none) (h ++ [.lst ([p].map prT)]) = some (.nx (saE p p h.length a' b' none none) (h ++ [.lst []])) := by
    simp only [evS]
    exact e1
  have q2 : evS C (.ret (.lit (.bl true))) (saE p p h.length a' b' none none) (h ++ [.lst []]) = some (.rt (.v (.bl true)) (h ++ [.lst []])) := by
    simp [evS, evE]
  have hb : evSs C f__law_same.body [some (.v p), some (.v p), none, none, none, none, none] h = some (.rt (.v (.bl true)) (h ++ [.lst []])) := by
    show evSs C (.cons _ (.cons _ (.cons _ .nil))) _ _ = _
    rw [seq q0, seq q1, seqR q2]
  exact runF_ret rfl hb (by simp [retn])
end
end Ev

set_option Elab.async false
set_option linter.all false
set_option maxRecDepth 100000
namespace Ev
section
variable {C : Calls}
/-! ### loops over a list, told by a step -/
def runL {St α : Type} (step : St → α → St ⊕ (SV × AH)) : St → List α → St ⊕ (SV × AH)
  | s, [] => .inl s
  | s, a :: r => match step s a with
    | .inl s' => runL step s' r
    | .inr v => .inr v
def flL {St : Type} (E : St → En) (Hh : St → AH) : St ⊕ (SV × AH) → Fl
  | .inl s => .nx (E s) (Hh s)
  | .inr v => .rt v.1 v.2
theorem loopF_run {St α : Type} {f : PV → En → AH → Option Fl} {ok : AH → Bool} {E : St → En} {Hh : St → AH} {enc : α → PV} {step : St → α → St ⊕ (SV × AH)} (I : St → List α → Prop) (hok : ∀ s, ok (Hh s) = true) : ∀ (xs : List α) (s : St), I s xs →
    (∀ a r s, I s (a :: r) → f (enc a) (E s) (Hh s) = some (flL E Hh (step s a)) ∧ ∀ s', step s a = .inl s' → I s' r) → loopF f ok (xs.map enc) (E s) (Hh s) = some (flL E Hh (runL step s xs))
  | [], s, _, _ => by simp only [List.map_nil, loopF, hok, if_true, runL, flL]
  | a :: r, s, hi, hs => by
    obtain ⟨h1, h2⟩ := hs a r s hi
    simp only [List.map_cons, loopF, hok, if_true, h1, runL]
    cases hst : step s a with
    | inl s' =>
      simp only [flL]
      exact loopF_run I hok r s' (h2 s' hst) hs
    | inr v => simp only [flL]
theorem for_step {St α : Type} {t : Tg} {it : Itr} {b : Sts} {e : En} {h h1 : AH} {g : Option Nat} (xs : List α) (enc : α → PV) (E : St → En) (Hh : St → AH) (step : St → α → St ⊕ (SV × AH)) (s : St) (I : St → List α → Prop) (hi : I s xs) (hI : evI C it e h = some (xs.map enc, g, h1)) (he : e = E s) (hh : h1 = Hh s)
    (hok : ∀ s, guardOk (xs.map enc) g (Hh s) = true) (hs : ∀ a r s, I s (a :: r) → (∃ e1, asgT t (.v (enc a)) (E s) = some e1 ∧ evSs C b e1 (Hh s) = some (flL E Hh (step s a))) ∧ ∀ s', step s a = .inl s' → I s' r) :
    evS C (.for t it b) e h = some (flL E Hh (runL step s xs)) := by
  simp only [evS, hI]
  rw [he, hh]
  refine loopF_run I hok xs s hi fun a r s hi => ?_
  obtain ⟨⟨e1, h2, h3⟩, h4⟩ := hs a r s hi
  exact ⟨by simp only [h2, h3], h4⟩
/-! ### comprehensions over a list -/
theorem loopC_fm {α : Type} {f : PV → AH → Option (Option PV × AH)} {ok : AH → Bool} {enc : α → PV} (T : α → Option PV) (h : AH) : ∀ (xs : List α) (acc : List PV), (∀ acc, ok (h ++ [.lst acc]) = true) → (∀ x ∈ xs, ∀ acc, f (enc x) (h ++ [.lst acc]) = some (T x, h ++ [.lst acc])) → acc.length + xs.length ≤ SZ →
    loopC f ok h.length (xs.map enc) (h ++ [.lst acc]) = some (h ++ [.lst (acc ++ xs.filterMap T)])
  | [], acc, hok, hf, hl => by simp [loopC, hok]
  | x :: xs, acc, hok, hf, hl => by
    rw [List.length_cons] at hl
    simp only [List.map_cons, loopC, hok, if_true, hf x List.mem_cons_self]
    cases hT : T x with
    | none =>
      simp only [List.filterMap_cons, hT]
      exact loopC_fm T h xs acc hok (fun y hy => hf y (List.mem_cons_of_mem _ hy)) (by omega)
    | some y =>
      have z : acc.length < SZ := by omega
      simp only [at_end, z, if_true, set_end]
      rw [loopC_fm T h xs (acc ++ [y]) hok (fun y hy => hf y (List.mem_cons_of_mem _ hy)) (by rw [List.length_append]; simp; omega)]
      simp [List.filterMap_cons, hT]
theorem comp_fm {α : Type} {elt : Ex} {own : List Nat} {tg : Tg} {it : Itr} {ifs : Ts} {e : En} {h : AH} {g : Option Nat} (xs : List α) (enc : α → PV) (T : α → Option PV) (hI : evI C it e h = some (xs.map enc, g, h)) (hz : xs.length ≤ SZ) (hok : ∀ acc, guardOk (xs.map enc) g (h ++ [.lst acc]) = true)
    (st : ∀ x ∈ xs, ∀ acc, ∃ e2, asgT tg (.v (enc x)) (wipeE e own) = some e2 ∧ ((T x = none ∧ evT C ifs e2 (h ++ [.lst acc]) = some (false, h ++ [.lst acc])) ∨ ∃ y, T x = some y ∧ evT C ifs e2 (h ++ [.lst acc]) = some (true, h ++ [.lst acc]) ∧ evE C elt e2 (h ++ [.lst acc]) = some (.v y, h ++ [.lst acc]))) :
    evE C (.comp false elt own tg it ifs) e h = some (.v (.lst (xs.filterMap T)), h) := by
  simp only [evE, hI]
  rw [loopC_fm T h xs [] hok ?_ (by simpa using hz)]
  · simp [finL]
  · intro x hx acc
    obtain ⟨e2, h1, h2⟩ := st x hx acc
    rcases h2 with ⟨h2, h3⟩ | ⟨y, h2, h3, h4⟩
    · simp only [h1, h3, h2]
    · simp only [h1, h3, h4, h2]
theorem comp_map {α : Type} {elt : Ex} {own : List Nat} {tg : Tg} {it : Itr} {e : En} {h : AH} {g : Option Nat} (xs : List α) (enc F : α → PV) (hI : evI C it e h = some (xs.map enc, g, h)) (hz : xs.length ≤ SZ) (hok : ∀ acc, guardOk (xs.map enc) g (h ++ [.lst acc]) = true)
    (st : ∀ x ∈ xs, ∀ acc, ∃ e2, asgT tg (.v (enc x)) (wipeE e own) = some e2 ∧ evE C elt e2 (h ++ [.lst acc]) = some (.v (F x), h ++ [.lst acc])) :
    evE C (.comp false elt own tg it .yes) e h = some (.v (.lst (xs.map F)), h) := by
  rw [comp_fm xs enc (fun x => some (F x)) hI hz hok fun x hx acc => by
    obtain ⟨e2, h1, h2⟩ := st x hx acc
    exact ⟨e2, h1, .inr ⟨_, rfl, by simp [evT], h2⟩⟩]
  rw [show xs.filterMap (fun x => some (F x)) = xs.map F from List.filterMap_eq_map.symm ▸ rfl]
theorem loopC_draw {f : PV → AH → Option (Option PV × AH)} {ok : AH → Bool} {hr : AH} {ds : List Int} {k : Nat} (F : Nat → PV → PV) : ∀ (ys : List PV) (i : Nat) (acc : List PV), (∀ k acc, ok (Wc ds k :: hr ++ [.lst acc]) = true) → (∀ j x, ys[j]? = some x → ∀ acc, f x (Wc ds (k + (i + j)) :: hr ++ [.lst acc]) = some (some (F (i + j) x), Wc ds (k + (i + j) + 1) :: hr ++ [.lst acc])) →
    acc.length + ys.length ≤ SZ → loopC f ok (hr.length + 1) ys (Wc ds (k + i) :: hr ++ [.lst acc]) = some (Wc ds (k + i + ys.length) :: hr ++ [.lst (acc ++ ys.mapIdx fun j => F (i + j))])
  | [], i, acc, hok, _, _ => by simp only [loopC, hok, if_true]; simp
  | x :: ys, i, acc, hok, hf, hl => by
    rw [List.length_cons] at hl
    have h2 := hf 0 x rfl acc
    rw [Nat.add_zero] at h2
    have z : acc.length < SZ := by omega
    have e1 : (Wc ds (k + i + 1) :: hr ++ [.lst acc])[hr.length + 1]? = some (.lst acc) := at_end (Wc ds (k + i + 1) :: hr) _
    have e3 : (Wc ds (k + i + 1) :: hr ++ [Cell.lst acc]).set (hr.length + 1) (Cell.lst (acc ++ [F i x])) = Wc ds (k + i + 1) :: hr ++ [Cell.lst (acc ++ [F i x])] := set_end (Wc ds (k + i + 1) :: hr) _ _
    simp only [loopC, hok, if_true, h2, e1, z, e3]
    have := loopC_draw (f := f) (k := k) F ys (i + 1) (acc ++ [F i x]) hok (fun j y hj acc => by
      have := hf (j + 1) y (by simpa using hj) acc
      rw [show i + (j + 1) = i + 1 + j by omega] at this
      exact this) (by rw [List.length_append]; simp; omega)
    rw [show k + (i + 1) = k + i + 1 by omega] at this
    rw [this]
    have e4 : (fun j => F (i + 1 + j)) = fun j => F (i + (j + 1)) := by funext j; rw [show i + 1 + j = i + (j + 1) by omega]
    simp only [List.mapIdx_cons, List.length_cons, List.append_assoc, List.cons_append, List.nil_append, Nat.add_zero, e4]
    rw [show k + i + 1 + ys.length = k + i + (ys.length + 1) by omega]
theorem loopC_draw0 {f : PV → AH → Option (Option PV × AH)} {ok : AH → Bool} {hr : AH} {ds : List Int} {k : Nat} (F : Nat → PV → PV) (ys : List PV) (hok : ∀ k acc, ok (Wc ds k :: hr ++ [.lst acc]) = true) (hf : ∀ j x, ys[j]? = some x → ∀ acc, f x (Wc ds (k + j) :: hr ++ [.lst acc]) = some (some (F j x), Wc ds (k + j + 1) :: hr ++ [.lst acc]))
    (hl : ys.length ≤ SZ) : loopC f ok (hr.length + 1) ys (Wc ds k :: hr ++ [.lst []]) = some (Wc ds (k + ys.length) :: hr ++ [.lst (ys.mapIdx F)]) := by
  have L := loopC_draw (f := f) (ds := ds) (hr := hr) (k := k) F ys 0 [] hok (fun j x hj acc => by rw [Nat.zero_add]; exact hf j x hj acc) (by simpa using hl)
  have e0 : (fun j => F (0 + j)) = F := by funext j; rw [Nat.zero_add]
  rw [e0] at L
  exact L
/-- each turn draws a number -/
theorem comp_draw {elt : Ex} {own : List Nat} {tg : Tg} {it : Itr} {e : En} {hr : AH} {ds : List Int} {k : Nat} {g : Option Nat} (xs : List PV) (F : Nat → PV → PV) (hI : evI C it e (Wc ds k :: hr) = some (xs, g, Wc ds k :: hr)) (hz : xs.length ≤ SZ) (hok : ∀ k acc, guardOk xs g (Wc ds k :: hr ++ [.lst acc]) = true)
    (st : ∀ j x, xs[j]? = some x → ∀ acc, ∃ e2, asgT tg (.v x) (wipeE e own) = some e2 ∧ evE C elt e2 (Wc ds (k + j) :: hr ++ [.lst acc]) = some (.v (F j x), Wc ds (k + j + 1) :: hr ++ [.lst acc])) :
    evE C (.comp false elt own tg it .yes) e (Wc ds k :: hr) = some (.v (.lst (xs.mapIdx F)), Wc ds (k + xs.length) :: hr) := by
  simp only [evE, hI]
  rw [show (Wc ds k :: hr).length = hr.length + 1 from rfl, loopC_draw0 F xs hok ?_ hz]
  · have e1 : (Wc ds (k + xs.length) :: hr ++ [Cell.lst (xs.mapIdx F)])[hr.length + 1]? = some (.lst (xs.mapIdx F)) := at_end (Wc ds (k + xs.length) :: hr) _
    have e2 : (Wc ds (k + xs.length) :: hr ++ [Cell.lst (xs.mapIdx F)]).take (hr.length + 1) = Wc ds (k + xs.length) :: hr := take_end (Wc ds (k + xs.length) :: hr) _
    simp only [finL, e1, e2]
    rfl
  · intro j x hj acc
    obtain ⟨e2, h1, h2⟩ := st j x hj acc
    simp only [h1, evT, h2]
/-! ### values -/
def prI (p : Int × Int) : PV := .tup [.int p.1, .int p.2]
abbrev prs (l : List (Int × Int)) : List PV := l.map prI
abbrev iS (i : Int) : Option SV := some (.v (.int i))
abbrev vS (p : PV) : Option SV := some (.v p)
theorem w42 (h : AH) (p : PV) : rdVar false h (.v p) = some (.v p, h) := rfl
theorem sz0 : (0 : Nat) ≤ SZ := by decide
theorem sz1 : (1 : Nat) ≤ SZ := by decide
theorem sz2 : (2 : Nat) ≤ SZ := by decide
theorem sz3 : (3 : Nat) ≤ SZ := by decide
theorem sz4 : (4 : Nat) ≤ SZ := by decide
theorem sz5 : (5 : Nat) ≤ SZ := by decide
theorem sz6 : (6 : Nat) ≤ SZ := by decide
theorem sz7 : (7 : Nat) ≤ SZ := by decide
theorem sz8 : (8 : Nat) ≤ SZ := by decide
theorem sz9 : (9 : Nat) ≤ SZ := by decide
theorem sz10 : (10 : Nat) ≤ SZ := by decide
theorem sz11 : (11 : Nat) ≤ SZ := by decide
theorem sl0 : (0 : Nat) < SZ := by decide
theorem sl1 : (1 : Nat) < SZ := by decide
theorem sl2 : (2 : Nat) < SZ := by decide
theorem sl3 : (3 : Nat) < SZ := by decide
theorem sl4 : (4 : Nat) < SZ := by decide
theorem sl5 : (5 : Nat) < SZ := by decide
theorem lt_sz {n : Nat} (h : n ≤ 1000000) : n < SZ := by show _ < 16777216; omega
theorem le_sz {n : Nat} (h : n ≤ 1000000) : n ≤ SZ := by show _ ≤ 16777216; omega
/-- a drawn number, as a natural one -/
theorem nxN (ds : List Int) (k : Nat) (m : Int) (hm : 0 < m) : ∃ v : Nat, nx ds k m = (v : Int) ∧ (v : Int) < m := by
  have h1 := nx_lo ds k hm
  have h2 := nx_hi ds k hm
  exact ⟨(nx ds k m).toNat, by omega, by omega⟩
theorem rngs_mapI (n : Nat) (F : Nat → PV → PV) (G : Nat → PV) (h : ∀ j, j < n → F j (.int j) = G j) : (rngs 0 n).mapIdx F = (List.range n).map G := by
  apply List.ext_getElem?
  intro i
  unfold rngs
  rw [List.getElem?_mapIdx, List.getElem?_map, List.getElem?_map]
  by_cases hi : i < n
  · rw [List.getElem?_range hi]
    simp [h i hi]
  · rw [List.getElem?_eq_none (by simpa using hi)]; rfl
theorem wW (ds : List Int) (k : Nat) (hr : AH) : rdVar false (Wc ds k :: hr) (.o 0) = some (.o 0, Wc ds k :: hr) := rfl
theorem rngs_map' (n : Nat) : rngs 0 n = (List.range n).map fun i : Nat => PV.int i := by
  unfold rngs
  apply List.map_congr_left
  intro i _
  rw [Int.zero_add]
/-! ### one thing after another -/
theorem e_blt1 {m : Bool} {b : Blt} {a : Ex} {e : En} {h h1 h2 : AH} {p r : PV} {sv : SV} (ha : evE C a e h = some (.v p, h1)) (hb : blt1 b p = some r) (hm : mkR m b r h1 = some (sv, h2)) : evE C (.blt m b (.cons a .nil)) e h = some (sv, h2) := by
  simp only [evE, evL, ha, bltE, peek, hb, hm]
theorem e_asg {i : Nat} {a : Ex} {e : En} {h h1 : AH} {x : SV} (ha : evE C a e h = some (x, h1)) : evS C (.asg (.nm i) a) e h = some (.nx (e.set i (some x)) h1) := by
  simp only [evS, ha, asgT, Option.map_some]
theorem e_ret {a : Ex} {e : En} {h h1 : AH} {x : SV} (ha : evE C a e h = some (x, h1)) : evS C (.ret a) e h = some (.rt x h1) := by
  simp only [evS, ha, Option.map_some]
theorem e_bin {op : BOp} {a b : Ex} {e : En} {h h1 h2 : AH} {p q r : PV} (ha : evE C a e h = some (.v p, h1)) (hb : evE C b e h1 = some (.v q, h2)) (hr : binP op p q = some r) : evE C (.bin op a b) e h = some (.v r, h2) := by
  simp only [evE, ha, hb, peek, hr, Option.map_some]
theorem e_cmp {op : COp} {a b : Ex} {e : En} {h h1 h2 : AH} {p q : PV} {r : Bool} (ha : evE C a e h = some (.v p, h1)) (hb : evE C b e h1 = some (.v q, h2)) (hr : cmpP op p q = some r) : evE C (.cmp op a b) e h = some (.v (.bl r), h2) := by
  simp only [evE, ha, hb, peek, hr, Option.map_some]
theorem e_call1 {f : Nat} {a : Ex} {e : En} {h h1 : AH} {x : SV} {r : Option (SV × AH)} (ha : evE C a e h = some (x, h1)) (hr : C f [x] h1 = r) : evE C (.call f (.cons a .nil)) e h = r := by
  simp only [evE, evL, ha, hr]
theorem e_call2 {f : Nat} {a b : Ex} {e : En} {h h1 h2 : AH} {x y : SV} {r : Option (SV × AH)} (ha : evE C a e h = some (x, h1)) (hb : evE C b e h1 = some (y, h2)) (hr : C f [x, y] h2 = r) : evE C (.call f (.cons a (.cons b .nil))) e h = r := by
  simp only [evE, evL, ha, hb, hr]
theorem e_call3 {f : Nat} {a b c : Ex} {e : En} {h h1 h2 h3 : AH} {x y z : SV} {r : Option (SV × AH)} (ha : evE C a e h = some (x, h1)) (hb : evE C b e h1 = some (y, h2)) (hc : evE C c e h2 = some (z, h3)) (hr : C f [x, y, z] h3 = r) : evE C (.call f (.cons a (.cons b (.cons c .nil)))) e h = r := by
  simp only [evE, evL, ha, hb, hc, hr]
theorem e_call4 {f : Nat} {a b c d : Ex} {e : En} {h h1 h2 h3 h4 : AH} {x y z u : SV} {r : Option (SV × AH)} (ha : evE C a e h = some (x, h1)) (hb : evE C b e h1 = some (y, h2)) (hc : evE C c e h2 = some (z, h3)) (hd : evE C d e h3 = some (u, h4)) (hr : C f [x, y, z, u] h4 = r) : evE C (.call f (.cons a (.cons b (.cons c (.cons d .nil))))) e h = r := by
  simp only [evE, evL, ha, hb, hc, hd, hr]
/-- a test: what is not so -/
theorem t_no {a : Ex} {e : En} {h h1 : AH} {c : Bool} (ha : evE C a e h = some (.v (.bl c), h1)) : evT C (.of a) e h = some (c, h1) := by
  simp only [evT, ha, peek, truP, Option.map_some]
theorem t_not {t : Ts} {e : En} {h h1 : AH} {c : Bool} (ha : evT C t e h = some (c, h1)) : evT C (.not t) e h = some (!c, h1) := by
  simp only [evT, ha]
theorem t_nt {t : Ts} {e : En} {h h1 : AH} (ha : evT C t e h = some (true, h1)) : evT C (.not t) e h = some (false, h1) := by
  simp only [evT, ha]; rfl
theorem t_nf {t : Ts} {e : En} {h h1 : AH} (ha : evT C t e h = some (false, h1)) : evT C (.not t) e h = some (true, h1) := by
  simp only [evT, ha]; rfl
theorem t_or {a b : Ts} {e : En} {h h1 : AH} (ha : evT C a e h = some (false, h1)) {r : Option (Bool × AH)} (hb : evT C b e h1 = r) : evT C (.boo false a b) e h = r := by
  simp only [evT, ha]; rw [← hb]; rfl
theorem t_orT {a b : Ts} {e : En} {h h1 : AH} (ha : evT C a e h = some (true, h1)) : evT C (.boo false a b) e h = some (true, h1) := by
  simp only [evT, ha]; rfl
theorem t_and {a b : Ts} {e : En} {h h1 : AH} (ha : evT C a e h = some (true, h1)) {r : Option (Bool × AH)} (hb : evT C b e h1 = r) : evT C (.boo true a b) e h = r := by
  simp only [evT, ha]; rw [← hb]; rfl
theorem t_andF {a b : Ts} {e : En} {h h1 : AH} (ha : evT C a e h = some (false, h1)) : evT C (.boo true a b) e h = some (false, h1) := by
  simp only [evT, ha]; rfl
/-- nothing is handed back -/
theorem s_if {t : Ts} {b c : Sts} {e : En} {h h1 : AH} {k : Bool} (ht : evT C t e h = some (k, h1)) : evS C (.ifs t b c) e h = evSs C (if k then b else c) e h1 := by
  simp only [evS, ht]; cases k <;> rfl
theorem s_skip {t : Ts} {b : Sts} {e : En} {h h1 : AH} (ht : evT C t e h = some (false, h1)) : evS C (.ifs t b .nil) e h = some (.nx e h1) := by
  simp only [evS, ht, evSs]
/-! ### the greatest divisor -/
def gcdT : Ts := .of (.cmp .ne (.var 1 false) (.lit (.int 0)))
def gcdB : Sts := (.cons (.par [0, 1] (.cons (.var 1 false) (.cons (.bin .mod (.var 0 false) (.var 1 false)) .nil))) .nil)
def gE (a b : Nat) (r : En) : En := some (.v (.int a)) :: some (.v (.int b)) :: r
theorem gcd_t (a b : Nat) (r : En) (h : AH) : evT C gcdT (gE a b r) h = some (decide (b ≠ 0), h) := by
  by_cases hb : b = 0
  · subst hb; simp [gcdT, gE, runF, startE, evSs, evS, evE, evL, evT, evI, evD, asgT, rdVar, peek, part, sliceP, binP, binA, cmpP, truP, bltE, blt1, blt2, lenP, mkR, mkL, mkD, retn, pvs, SV.pv, wipeE, walkOf, itemsP, notD, idxP, isKey, keyEq, dlook, dhas, dput, dictEq, okDict, mthE, mthC, mthP, mthT, argsM, isLst, changes, isiTy, smallR, finL, finD, tupP, listP, dicP, onL, onS, min2P, max2P, blt3, argsN, revP, inP, isP, isNon, eqP, okD, plainD, plainDs, dep, deps, eqv, eqvs, beqI, beqS, atI_0, atI_1, atI_2]
  · have : ¬ ((b : Int) = 0) := by omega
    simp [gcdT, gE, runF, startE, evSs, evS, evE, evL, evT, evI, evD, asgT, rdVar, peek, part, sliceP, binP, binA, cmpP, truP, bltE, blt1, blt2, lenP, mkR, mkL, mkD, retn, pvs, SV.pv, wipeE, walkOf, itemsP, notD, idxP, isKey, keyEq, dlook, dhas, dput, dictEq, okDict, mthE, mthC, mthP, mthT, argsM, isLst, changes, isiTy, smallR, finL, finD, tupP, listP, dicP, onL, onS, min2P, max2P, blt3, argsN, revP, inP, isP, isNon, eqP, okD, plainD, plainDs, dep, deps, eqv, eqvs, beqI, beqS, atI_0, atI_1, atI_2, hb]
theorem gcd_b (a b : Nat) (hb : b ≠ 0) (r : En) (h : AH) : evSs C gcdB (gE a b r) h = some (.nx (gE b (a % b) r) h) := by
  have h0 : 0 < b := by omega
  simp [gcdB, gE, runF, startE, evSs, evS, evE, evL, evT, evI, evD, asgT, rdVar, peek, part, sliceP, binP, binA, cmpP, truP, bltE, blt1, blt2, lenP, mkR, mkL, mkD, retn, pvs, SV.pv, wipeE, walkOf, itemsP, notD, idxP, isKey, keyEq, dlook, dhas, dput, dictEq, okDict, mthE, mthC, mthP, mthT, argsM, isLst, changes, isiTy, smallR, finL, finD, tupP, listP, dicP, onL, onS, min2P, max2P, blt3, argsN, revP, inP, isP, isNon, eqP, okD, plainD, plainDs, dep, deps, eqv, eqvs, beqI, beqS, atI_0, atI_1, atI_2, h0]
theorem gcd_run (r : En) (h : AH) : ∀ (k n a b : Nat), b < 2 ^ k → 2 * k + 1 ≤ n → whileF (evT C gcdT) (evSs C gcdB) n (gE a b r) h = some (.nx (gE (Nat.gcd a b) 0 r) h)
  | 0, 0, a, b, _, hn => by omega
  | 0, n + 1, a, b, hb, hn => by
    have : b = 0 := by simpa using hb
    subst this
    simp [whileF, gcd_t]
  | k + 1, 0, a, b, _, hn => by omega
  | k + 1, 1, a, b, _, hn => by omega
  | k + 1, n + 2, a, b, hb, hn => by
    by_cases h0 : b = 0
    · subst h0; simp [whileF, gcd_t]
    · by_cases h1 : a % b = 0
      · have e : Nat.gcd a b = b := by rw [Nat.gcd_comm, Nat.gcd_rec, h1, Nat.gcd_zero_left]
        simp [whileF, gcd_t, h0, gcd_b a b h0, h1, e]
      · have lt : b % (a % b) < 2 ^ k := by
          have h2 : a % b < b := Nat.mod_lt _ (by omega)
          have h3 : b % (a % b) < a % b := Nat.mod_lt _ (by omega)
          have h4 : b % (a % b) + a % b ≤ b := by
            have := Nat.div_add_mod b (a % b)
            have h5 : 1 ≤ b / (a % b) := Nat.div_pos (by omega) (by omega)
            have h6 : a % b * 1 ≤ a % b * (b / (a % b)) := Nat.mul_le_mul_left _ h5
            omega
          rw [Nat.pow_succ] at hb
          omega
        have e : Nat.gcd a b = Nat.gcd (a % b) (b % (a % b)) := by
          rw [Nat.gcd_comm a b, Nat.gcd_rec b a, Nat.gcd_rec (a % b) b, Nat.gcd_comm]
        simp only [whileF, gcd_t, h0, gcd_b a b h0, h1, gcd_b b (a % b) h1, ne_eq, not_false_eq_true, decide_true]
        rw [gcd_run r h k n (a % b) (b % (a % b)) lt (by omega), e]
theorem gcd_while (a b : Nat) (hb : b < 2 ^ 64) (r : En) (h : AH) : evS C (.whil gcdT gcdB) (gE a b r) h = some (.nx (gE (Nat.gcd a b) 0 r) h) := by
  simp only [evS]
  exact gcd_run r h 64 FUEL a b hb (by decide)
end
end Ev

set_option linter.all false
namespace Ev
def S_divisor_0 : Stm := .par [0, 1] (.cons (.var 1 false) (.cons (.bin .mod (.var 0 false) (.var 1 false)) .nil))
def L_divisor_0 : Sts := (.cons S_divisor_0 .nil)
def S_divisor_1 : Stm := .whil (.of (.cmp .ne (.var 1 false) (.lit (.int 0)))) L_divisor_0
def S_divisor_2 : Stm := .ret (.ite (.of (.cmp .ne (.var 0 false) (.lit (.int 0)))) (.var 0 false) (.lit (.int 1)))
def f_divisor : Fn := ⟨[100,105,118,105,115,111,114], [[97], [98]], [[97], [98]],
  (.cons S_divisor_1 (.cons S_divisor_2 .nil))⟩
def S_fraction_0 : Stm := .asg (.nm 2) (.bin .mul (.call 0 (.cons (.blt false .abs (.cons (.var 0 false) .nil)) (.cons (.blt false .abs (.cons (.var 1 false) .nil)) .nil))) (.ite (.of (.cmp .gt (.var 1 false) (.lit (.int 0)))) (.lit (.int 1)) (.neg (.lit (.int 1)))))
def S_fraction_1 : Stm := .ret (.tup (.cons (.bin .fdiv (.var 0 false) (.var 2 false)) (.cons (.bin .fdiv (.var 1 false) (.var 2 false)) .nil)))
def f_fraction : Fn := ⟨[102,114,97,99,116,105,111,110], [[97], [98]], [[97], [98], [99,111,109,109,111,110]],
  (.cons S_fraction_0 (.cons S_fraction_1 .nil))⟩
def S_is_number_0 : Stm := .ret (.boo true (.isi (.var 0 false) .int) (.not (.isi (.var 0 false) .bool)))
def f_is_number : Fn := ⟨[105,115,95,110,117,109,98,101,114], [[116,104,105,110,103]], [[116,104,105,110,103]],
  (.cons S_is_number_0 .nil)⟩
def S_is_tuple_of_0 : Stm := .ret (.boo true (.isi (.var 0 false) .tuple) (.cmp .eq (.blt false .len (.cons (.var 0 false) .nil)) (.var 1 false)))
def f_is_tuple_of : Fn := ⟨[105,115,95,116,117,112,108,101,95,111,102], [[116,104,105,110,103], [109,97,110,121]], [[116,104,105,110,103], [109,97,110,121]],
  (.cons S_is_tuple_of_0 .nil)⟩
def S_gaps_for_0 : Stm := .par [2, 3] (.cons (.lst true .nil) (.cons (.lit (.int 0)) .nil))
def S_gaps_for_1 : Stm := .ifs (.of (.cmp .lt (.var 3 false) (.blt false .min2 (.cons (.var 4 false) (.cons (.var 1 false) .nil))))) (.cons (.expr (.mth .append (.var 2 false) (.cons (.tup (.cons (.var 3 false) (.cons (.blt false .min2 (.cons (.var 4 false) (.cons (.var 1 false) .nil))) .nil))) .nil)))
    .nil) .nil
def S_gaps_for_2 : Stm := .asg (.nm 3) (.blt false .max2 (.cons (.var 3 false) (.cons (.var 5 false) .nil)))
def L_gaps_for_0 : Sts := (.cons S_gaps_for_1 (.cons S_gaps_for_2 .nil))
def S_gaps_for_3 : Stm := .for (.tp [4, 5]) (.var 0 false) L_gaps_for_0
def S_gaps_for_4 : Stm := .ret (.blt false .tuple (.cons (.bin .add (.var 2 true) (.ite (.of (.cmp .lt (.var 3 false) (.var 1 false))) (.lst false (.cons (.tup (.cons (.var 3 false) (.cons (.var 1 false) .nil))) .nil)) (.lst false .nil))) .nil))
def f_gaps_for : Fn := ⟨[103,97,112,115,95,102,111,114], [[98,117,115,121], [101,110,100]], [[98,117,115,121], [101,110,100], [102,111,117,110,100], [110,111,119], [102,105,114,115,116], [108,97,115,116]],
  (.cons S_gaps_for_0 (.cons S_gaps_for_3 (.cons S_gaps_for_4 .nil)))⟩
def S_begin_from_0 : Stm := .asg (.tp [4, 5, 6, 7]) (.var 2 false)
def S_begin_from_1 : Stm := .asg (.nm 10) (.blt false .max3 (.cons (.var 8 false) (.cons (.var 4 false) (.cons (.var 3 false) .nil))))
def S_begin_from_2 : Stm := .ifs (.boo true (.of (.cmp .le (.var 10 false) (.var 5 false))) (.of (.cmp .le (.bin .add (.var 10 false) (.var 6 false)) (.var 9 false)))) (.cons (.ret (.var 10 false))
    .nil) .nil
def L_begin_from_0 : Sts := (.cons S_begin_from_1 (.cons S_begin_from_2 .nil))
def S_begin_from_3 : Stm := .for (.tp [8, 9]) (.ex (.call 4 (.cons (.var 0 false) (.cons (.var 1 false) .nil)))) L_begin_from_0
def S_begin_from_4 : Stm := .ret (.lit .non)
def f_begin_from : Fn := ⟨[98,101,103,105,110,95,102,114,111,109], [[98,117,115,121], [101,110,100], [116,101,108,108,105,110,103], [109,111,109,101,110,116]], [[98,117,115,121], [101,110,100], [116,101,108,108,105,110,103], [109,111,109,101,110,116], [102,105,114,115,116], [116,111], [108,111,110,103], [95], [108,111,119], [104,105,103,104], [98,101,103,105,110]],
  (.cons S_begin_from_0 (.cons S_begin_from_3 (.cons S_begin_from_4 .nil)))⟩
def S_can_tell_0 : Stm := .ret (.call 5 (.cons (.var 0 false) (.cons (.var 1 false) (.cons (.var 2 false) (.cons (.lit (.int 0)) .nil)))))
def f_can_tell : Fn := ⟨[99,97,110,95,116,101,108,108], [[98,117,115,121], [101,110,100], [116,101,108,108,105,110,103]], [[98,117,115,121], [101,110,100], [116,101,108,108,105,110,103]],
  (.cons S_can_tell_0 .nil)⟩
def S_rows_from_0 : Stm := .ifs (.of (.cmp .eq (.var 3 false) (.blt false .len (.cons (.var 2 false) .nil)))) (.cons (.ret (.tup (.cons (.lit (.int 0)) (.cons (.lit (.int 0)) (.cons (.tup .nil) .nil)))))
    .nil) .nil
def S_rows_from_1 : Stm := .asg (.nm 5) (.call 7 (.cons (.var 0 false) (.cons (.var 1 false) (.cons (.var 2 false) (.cons (.bin .add (.var 3 false) (.lit (.int 1))) (.cons (.var 4 false) .nil))))))
def S_rows_from_2 : Stm := .asg (.nm 6) (.call 5 (.cons (.var 0 false) (.cons (.var 1 false) (.cons (.idx (.var 2 false) (.var 3 false)) (.cons (.var 4 false) .nil)))))
def S_rows_from_3 : Stm := .ifs (.of (.cmp .isNot (.var 6 false) (.lit .non))) (.cons (.asg (.tp [7, 8, 9]) (.call 7 (.cons (.var 0 false) (.cons (.var 1 false) (.cons (.var 2 false) (.cons (.bin .add (.var 3 false) (.lit (.int 1))) (.cons (.bin .add (.var 6 false) (.idx (.idx (.var 2 false) (.var 3 false)) (.lit (.int 2)))) .nil)))))))
    (.cons (.asg (.nm 5) (.blt false .min2 (.cons (.var 5 false) (.cons (.tup (.cons (.bin .sub (.var 7 false) (.idx (.idx (.var 2 false) (.var 3 false)) (.lit (.int 3)))) (.cons (.bin .add (.var 8 false) (.lit (.int 1))) (.cons (.bin .add (.tup (.cons (.tup (.cons (.var 3 false) (.cons (.var 6 false) .nil))) .nil)) (.var 9 false)) .nil)))) .nil))))
    .nil)) .nil
def S_rows_from_4 : Stm := .ret (.var 5 false)
def f_rows_from : Fn := ⟨[114,111,119,115,95,102,114,111,109], [[98,117,115,121], [101,110,100], [116,101,108,108,105,110,103,115], [107], [109,111,109,101,110,116]], [[98,117,115,121], [101,110,100], [116,101,108,108,105,110,103,115], [107], [109,111,109,101,110,116], [98,101,115,116], [98,101,103,105,110], [108,101,115,115], [109,97,110,121], [114,111,119]],
  (.cons S_rows_from_0 (.cons S_rows_from_1 (.cons S_rows_from_2 (.cons S_rows_from_3 (.cons S_rows_from_4 .nil)))))⟩
def S_best_told_0 : Stm := .asg (.tp [3, 4, 5]) (.call 7 (.cons (.var 0 false) (.cons (.var 1 false) (.cons (.var 2 false) (.cons (.lit (.int 0)) (.cons (.lit (.int 0)) .nil))))))
def S_best_told_1 : Stm := .ret (.tup (.cons (.neg (.var 3 false)) (.cons (.var 5 false) .nil)))
def f_best_told : Fn := ⟨[98,101,115,116,95,116,111,108,100], [[98,117,115,121], [101,110,100], [116,101,108,108,105,110,103,115]], [[98,117,115,121], [101,110,100], [116,101,108,108,105,110,103,115], [108,101,115,115], [95], [114,111,119]],
  (.cons S_best_told_0 (.cons S_best_told_1 .nil))⟩
def S_is_told_0 : Stm := .ifs (.boo false (.not (.of (.isi (.var 3 false) .tuple))) (.not (.of (.blt false .all (.cons (.comp false (.call 3 (.cons (.var 12 false) (.cons (.lit (.int 2)) .nil))) [12] (.nm 12) (.var 3 false) .yes) .nil))))) (.cons (.ret (.lit (.bl false)))
    .nil) .nil
def S_is_told_1 : Stm := .par [4, 5] (.cons (.lit (.int 0)) (.cons (.neg (.lit (.int 1))) .nil))
def S_is_told_2 : Stm := .ifs (.boo false (.not (.of (.call 2 (.cons (.var 6 false) .nil)))) (.boo false (.not (.of (.call 2 (.cons (.var 7 false) .nil)))) (.boo false (.not (.of (.cmp2 .lt .lt (.var 5 false) (.var 6 false) (.blt false .len (.cons (.var 2 false) .nil))))) (.of (.cmp .lt (.var 7 false) (.var 4 false)))))) (.cons (.ret (.lit (.bl false)))
    .nil) .nil
def S_is_told_3 : Stm := .asg (.tp [8, 9, 10, 11]) (.idx (.var 2 false) (.var 6 false))
def S_is_told_4 : Stm := .ifs (.boo false (.not (.of (.cmp2 .le .le (.var 8 false) (.var 7 false) (.var 9 false)))) (.not (.of (.blt false .any (.cons (.comp false (.boo true (.cmp .le (.var 13 false) (.var 7 false)) (.cmp .le (.bin .add (.var 7 false) (.var 10 false)) (.var 14 false))) [13, 14] (.tp [13, 14]) (.ex (.call 4 (.cons (.var 0 false) (.cons (.var 1 false) .nil)))) .yes) .nil))))) (.cons (.ret (.lit (.bl false)))
    .nil) .nil
def S_is_told_5 : Stm := .par [4, 5] (.cons (.bin .add (.var 7 false) (.var 10 false)) (.cons (.var 6 false) .nil))
def L_is_told_0 : Sts := (.cons S_is_told_2 (.cons S_is_told_3 (.cons S_is_told_4 (.cons S_is_told_5 .nil))))
def S_is_told_6 : Stm := .for (.tp [6, 7]) (.var 3 false) L_is_told_0
def S_is_told_7 : Stm := .ret (.lit (.bl true))
def f_is_told : Fn := ⟨[105,115,95,116,111,108,100], [[98,117,115,121], [101,110,100], [116,101,108,108,105,110,103,115], [114,111,119]], [[98,117,115,121], [101,110,100], [116,101,108,108,105,110,103,115], [114,111,119], [110,111,119], [108,97,115,116], [107], [98,101,103,105,110], [102,105,114,115,116], [116,111], [108,111,110,103], [95], [111,110,101], [97], [98]],
  (.cons S_is_told_0 (.cons S_is_told_1 (.cons S_is_told_6 (.cons S_is_told_7 .nil))))⟩
def S_left_over_0 : Stm := .asg (.nm 4) (.blt false .sum (.cons (.comp false (.bin .sub (.var 6 false) (.var 5 false)) [5, 6] (.tp [5, 6]) (.ex (.call 4 (.cons (.var 0 false) (.cons (.var 1 false) .nil)))) .yes) .nil))
def S_left_over_1 : Stm := .ret (.bin .sub (.var 4 false) (.blt false .sum (.cons (.comp false (.idx (.idx (.var 3 false) (.var 7 false)) (.lit (.int 2))) [7, 8] (.tp [7, 8]) (.var 2 false) .yes) .nil)))
def f_left_over : Fn := ⟨[108,101,102,116,95,111,118,101,114], [[98,117,115,121], [101,110,100], [114,111,119], [116,101,108,108,105,110,103,115]], [[98,117,115,121], [101,110,100], [114,111,119], [116,101,108,108,105,110,103,115], [102,114,101,101], [102,105,114,115,116], [108,97,115,116], [107], [95]],
  (.cons S_left_over_0 (.cons S_left_over_1 .nil))⟩
def S_must_shorten_0 : Stm := .asg (.tp [4, 5, 6, 7]) (.idx (.var 2 false) (.var 3 false))
def S_must_shorten_1 : Stm := .ifs (.of (.cmp .isNot (.call 6 (.cons (.var 0 false) (.cons (.var 1 false) (.cons (.tup (.cons (.var 4 false) (.cons (.var 5 false) (.cons (.bin .sub (.var 6 false) (.var 8 false)) (.cons (.var 7 false) .nil))))) .nil)))) (.lit .non))) (.cons (.ret (.var 8 false))
    .nil) .nil
def L_must_shorten_0 : Sts := (.cons S_must_shorten_1 .nil)
def S_must_shorten_2 : Stm := .for (.nm 8) (.rng1 (.var 6 false)) L_must_shorten_0
def S_must_shorten_3 : Stm := .ret (.lit .non)
def f_must_shorten : Fn := ⟨[109,117,115,116,95,115,104,111,114,116,101,110], [[98,117,115,121], [101,110,100], [116,101,108,108,105,110,103,115], [107]], [[98,117,115,121], [101,110,100], [116,101,108,108,105,110,103,115], [107], [102,105,114,115,116], [116,111], [108,111,110,103], [119,111,114,116,104], [98,121]],
  (.cons S_must_shorten_0 (.cons S_must_shorten_2 (.cons S_must_shorten_3 .nil)))⟩
def S_with_pause_0 : Stm := .asg (.nm 3) (.lst true .nil)
def S_with_pause_1 : Stm := .ifs (.of (.cmp .ge (.var 4 false) (.var 1 false))) (.cons (.expr (.mth .append (.var 3 false) (.cons (.tup (.cons (.bin .add (.var 4 false) (.var 2 false)) (.cons (.bin .add (.var 5 false) (.var 2 false)) .nil))) .nil)))
    .nil) (.cons (.expr (.mth .append (.var 3 false) (.cons (.tup (.cons (.var 4 false) (.cons (.ite (.of (.cmp .gt (.var 5 false) (.var 1 false))) (.bin .add (.var 5 false) (.var 2 false)) (.var 5 false)) .nil))) .nil)))
    .nil)
def L_with_pause_0 : Sts := (.cons S_with_pause_1 .nil)
def S_with_pause_2 : Stm := .for (.tp [4, 5]) (.var 0 false) L_with_pause_0
def S_with_pause_3 : Stm := .ret (.blt false .tuple (.cons (.var 3 true) .nil))
def f_with_pause : Fn := ⟨[119,105,116,104,95,112,97,117,115,101], [[98,117,115,121], [97,116], [108,111,110,103]], [[98,117,115,121], [97,116], [108,111,110,103], [102,111,117,110,100], [102,105,114,115,116], [108,97,115,116]],
  (.cons S_with_pause_0 (.cons S_with_pause_2 (.cons S_with_pause_3 .nil)))⟩
def S_told_share_0 : Stm := .asg (.nm 3) (.blt false .sum (.cons (.comp false (.idx (.var 4 false) (.lit (.int 3))) [4] (.nm 4) (.var 2 false) .yes) .nil))
def S_told_share_1 : Stm := .ret (.ite (.of (.cmp .gt (.var 3 false) (.lit (.int 0)))) (.call 1 (.cons (.idx (.call 8 (.cons (.var 0 false) (.cons (.var 1 false) (.cons (.var 2 false) .nil)))) (.lit (.int 0))) (.cons (.var 3 false) .nil))) (.tup (.cons (.lit (.int 1)) (.cons (.lit (.int 1)) .nil))))
def f_told_share : Fn := ⟨[116,111,108,100,95,115,104,97,114,101], [[98,117,115,121], [101,110,100], [116,101,108,108,105,110,103,115]], [[98,117,115,121], [101,110,100], [116,101,108,108,105,110,103,115], [119,104,111,108,101], [116,101,108,108,105,110,103]],
  (.cons S_told_share_0 (.cons S_told_share_1 .nil))⟩
def S_crowding_0 : Stm := .ret (.blt false .len (.cons (.comp false (.lit (.int 1)) [2, 3, 4, 5] (.tp [2, 3, 4, 5]) (.var 0 false) (.of (.cmp2 .le .lt (.var 2 false) (.var 1 false) (.bin .add (.var 3 false) (.var 4 false))))) .nil))
def f_crowding : Fn := ⟨[99,114,111,119,100,105,110,103], [[116,101,108,108,105,110,103,115], [109,111,109,101,110,116]], [[116,101,108,108,105,110,103,115], [109,111,109,101,110,116], [102,105,114,115,116], [116,111], [108,111,110,103], [95]],
  (.cons S_crowding_0 .nil)⟩
def S__law_pick_0 : Stm := .ret (.idx (.var 1 false) (.call 16 (.cons (.var 0 false) (.cons (.blt false .len (.cons (.var 1 false) .nil)) .nil))))
def f__law_pick : Fn := ⟨[95,108,97,119,95,112,105,99,107], [[119], [114,111,119,115]], [[119], [114,111,119,115]],
  (.cons S__law_pick_0 .nil)⟩
def S__law_gcd_0 : Stm := .par [0, 1] (.cons (.var 1 false) (.cons (.bin .mod (.var 0 false) (.var 1 false)) .nil))
def L__law_gcd_0 : Sts := (.cons S__law_gcd_0 .nil)
def S__law_gcd_1 : Stm := .whil (.of (.cmp .ne (.var 1 false) (.lit (.int 0)))) L__law_gcd_0
def S__law_gcd_2 : Stm := .ret (.var 0 false)
def f__law_gcd : Fn := ⟨[95,108,97,119,95,103,99,100], [[97], [98]], [[97], [98]],
  (.cons S__law_gcd_1 (.cons S__law_gcd_2 .nil))⟩
def S__law_part_0 : Stm := .asg (.nm 2) (.call 19 (.cons (.blt false .abs (.cons (.var 0 false) .nil)) (.cons (.var 1 false) .nil)))
def S__law_part_1 : Stm := .ret (.tup (.cons (.bin .fdiv (.var 0 false) (.var 2 false)) (.cons (.bin .fdiv (.var 1 false) (.var 2 false)) .nil)))
def f__law_part : Fn := ⟨[95,108,97,119,95,112,97,114,116], [[97], [98]], [[97], [98], [111,110,101]],
  (.cons S__law_part_0 (.cons S__law_part_1 .nil))⟩
def S__law_rest_0 : Stm := .asg (.nm 11) (.comp false (.bin .add (.lit (.int 1)) (.call 16 (.cons (.var 0 false) (.cons (.lit (.int 9)) .nil)))) [17] (.nm 17) (.rng1 (.var 4 false)) .yes)
def S__law_rest_1 : Stm := .asg (.nm 12) (.blt false .tuple (.cons (.comp false (.tup (.cons (.lit (.int 0)) (.cons (.lit (.int 0)) (.cons (.lit (.int 1)) (.cons (.var 21 false) .nil))))) [21] (.nm 21) (.var 11 false) .yes) .nil))
def S__law_rest_2 : Stm := .asg (.nm 13) (.ite (.of (.cmp .gt (.var 4 false) (.lit (.int 0)))) (.tup (.cons (.blt false .max1 (.cons (.var 11 false) .nil)) (.cons (.tup (.cons (.tup (.cons (.mth .index (.var 11 false) (.cons (.blt false .max1 (.cons (.var 11 false) .nil)) .nil)) (.cons (.lit (.int 0)) .nil))) .nil)) .nil))) (.tup (.cons (.lit (.int 0)) (.cons (.tup .nil) .nil))))
def S__law_rest_3 : Stm := .ifs (.boo false (.not (.of (.call 18 (.cons (.call 8 (.cons (.var 1 false) (.cons (.var 2 false) (.cons (.var 12 false) .nil)))) (.cons (.var 13 false) .nil))))) (.not (.of (.call 18 (.cons (.call 13 (.cons (.var 1 false) (.cons (.var 2 false) (.cons (.var 12 false) .nil)))) (.cons (.ite (.of (.cmp .gt (.var 4 false) (.lit (.int 0)))) (.call 20 (.cons (.blt false .max1 (.cons (.var 11 false) .nil)) (.cons (.blt false .sum (.cons (.var 11 false) .nil)) .nil))) (.tup (.cons (.lit (.int 1)) (.cons (.lit (.int 1)) .nil)))) .nil)))))) (.cons (.ret (.lit (.bl false)))
    .nil) .nil
def S__law_rest_4 : Stm := .asg (.nm 14) (.tup (.cons (.tup (.cons (.lit (.int 0)) (.cons (.var 2 false) (.cons (.bin .add (.var 3 false) (.var 10 false)) (.cons (.lit (.int 1)) .nil))))) (.cons (.tup (.cons (.var 3 false) (.cons (.var 3 false) (.cons (.lit (.int 1)) (.cons (.lit (.int 1)) .nil))))) (.cons (.tup (.cons (.lit (.int 0)) (.cons (.lit (.int 0)) (.cons (.var 6 false) (.cons (.lit (.int 0)) .nil))))) .nil))))
def S__law_rest_5 : Stm := .ifs (.boo false (.not (.of (.call 18 (.cons (.call 11 (.cons (.var 1 false) (.cons (.var 2 false) (.cons (.var 14 false) (.cons (.lit (.int 0)) .nil))))) (.cons (.var 10 false) .nil))))) (.of (.cmp .isNot (.call 11 (.cons (.var 1 false) (.cons (.var 2 false) (.cons (.var 14 false) (.cons (.lit (.int 1)) .nil))))) (.lit .non)))) (.cons (.ret (.lit (.bl false)))
    .nil) .nil
def S__law_rest_6 : Stm := .ifs (.not (.of (.call 18 (.cons (.call 11 (.cons (.var 1 false) (.cons (.var 2 false) (.cons (.var 14 false) (.cons (.lit (.int 2)) .nil))))) (.cons (.blt false .max2 (.cons (.lit (.int 0)) (.cons (.bin .sub (.var 6 false) (.var 3 false)) .nil))) .nil))))) (.cons (.ret (.lit (.bl false)))
    .nil) .nil
def S__law_rest_7 : Stm := .ifs (.boo false (.not (.of (.call 18 (.cons (.call 8 (.cons (.var 1 false) (.cons (.var 2 false) (.cons (.bin .mul (.tup (.cons (.tup (.cons (.lit (.int 0)) (.cons (.var 2 false) (.cons (.lit (.int 1)) (.cons (.lit (.int 0)) .nil))))) .nil)) (.var 4 false)) .nil)))) (.cons (.tup (.cons (.lit (.int 0)) (.cons (.tup .nil) .nil))) .nil))))) (.not (.of (.call 18 (.cons (.call 13 (.cons (.var 1 false) (.cons (.var 2 false) (.cons (.bin .mul (.tup (.cons (.tup (.cons (.lit (.int 0)) (.cons (.var 2 false) (.cons (.lit (.int 1)) (.cons (.lit (.int 0)) .nil))))) .nil)) (.var 4 false)) .nil)))) (.cons (.tup (.cons (.lit (.int 1)) (.cons (.lit (.int 1)) .nil))) .nil)))))) (.cons (.ret (.lit (.bl false)))
    .nil) .nil
def S__law_rest_8 : Stm := .ifs (.of (.cmp .isNot (.call 9 (.cons (.var 1 false) (.cons (.var 2 false) (.cons (.var 9 false) (.cons (.tup .nil) .nil))))) (.lit (.bl true)))) (.cons (.ret (.lit (.bl false)))
    .nil) .nil
def S__law_rest_9 : Stm := .par [15, 16] (.cons (.call 16 (.cons (.var 0 false) (.cons (.var 2 false) .nil))) (.cons (.bin .add (.lit (.int 1)) (.call 16 (.cons (.var 0 false) (.cons (.lit (.int 20)) .nil)))) .nil))
def S__law_rest_10 : Stm := .par [17, 18] (.cons (.bin .fdiv (.var 15 false) (.var 7 false)) (.cons (.cmp .gt (.bin .mod (.var 15 false) (.var 7 false)) (.var 3 false)) .nil))
def S__law_rest_11 : Stm := .asg (.nm 19) (.blt false .tuple (.cons (.comp false (.tup (.cons (.bin .add (.var 21 false) (.ite (.of (.cmp .ge (.var 21 false) (.var 15 false))) (.var 16 false) (.lit (.int 0)))) (.cons (.bin .add (.var 22 false) (.ite (.of (.cmp .gt (.var 22 false) (.var 15 false))) (.var 16 false) (.lit (.int 0)))) .nil))) [21, 22] (.tp [21, 22]) (.var 1 false) .yes) .nil))
def S__law_rest_12 : Stm := .ifs (.boo false (.not (.of (.call 18 (.cons (.call 12 (.cons (.var 1 false) (.cons (.var 15 false) (.cons (.var 16 false) .nil)))) (.cons (.var 19 false) .nil))))) (.boo false (.not (.of (.call 18 (.cons (.blt false .sum (.cons (.comp false (.bin .sub (.var 22 false) (.var 21 false)) [21, 22] (.tp [21, 22]) (.ex (.call 12 (.cons (.var 1 false) (.cons (.var 15 false) (.cons (.var 16 false) .nil))))) .yes) .nil)) (.cons (.bin .add (.bin .mul (.var 5 false) (.var 8 false)) (.ite (.of (.var 18 false)) (.var 16 false) (.lit (.int 0)))) .nil))))) (.of (.cmp .ge (.var 17 false) (.var 5 false))))) (.cons (.ret (.lit (.bl false)))
    .nil) .nil
def S__law_rest_13 : Stm := .asg (.nm 20) (.call 16 (.cons (.var 0 false) (.cons (.bin .add (.var 2 false) (.lit (.int 30))) .nil)))
def S__law_rest_14 : Stm := .ifs (.not (.of (.call 18 (.cons (.call 14 (.cons (.var 9 false) (.cons (.var 20 false) .nil))) (.cons (.ite (.of (.cmp .lt (.var 20 false) (.bin .add (.var 2 false) (.var 6 false)))) (.var 4 false) (.lit (.int 0))) .nil))))) (.cons (.ret (.lit (.bl false)))
    .nil) .nil
def S__law_rest_15 : Stm := .ifs (.not (.of (.call 18 (.cons (.call 14 (.cons (.tup (.cons (.tup (.cons (.lit (.int 5)) (.cons (.lit (.int 9)) (.cons (.lit (.int 2)) (.cons (.lit (.int 1)) .nil))))) (.cons (.tup (.cons (.lit (.int 20)) (.cons (.lit (.int 20)) (.cons (.lit (.int 3)) (.cons (.lit (.int 1)) .nil))))) .nil))) (.cons (.var 20 false) .nil))) (.cons (.bin .add (.ite (.of (.cmp2 .le .lt (.lit (.int 5)) (.var 20 false) (.lit (.int 11)))) (.lit (.int 1)) (.lit (.int 0))) (.ite (.of (.cmp2 .le .lt (.lit (.int 20)) (.var 20 false) (.lit (.int 23)))) (.lit (.int 1)) (.lit (.int 0)))) .nil))))) (.cons (.ret (.lit (.bl false)))
    .nil) .nil
def S__law_rest_16 : Stm := .ret (.lit (.bl true))
def f__law_rest : Fn := ⟨[95,108,97,119,95,114,101,115,116], [[119], [98,117,115,121], [101,110,100], [102,114,101,101], [109], [110], [115,105,122,101], [115,116,101,112], [116,97,108,107], [116,101,108,108,105,110,103,115], [119,105,100,101]], [[119], [98,117,115,121], [101,110,100], [102,114,101,101], [109], [110], [115,105,122,101], [115,116,101,112], [116,97,108,107], [116,101,108,108,105,110,103,115], [119,105,100,101], [119,111,114,116,104,115], [115,105,110,103,108,101], [98,101,115,116], [108,111,110,103,95,111,110,101], [97,116], [112,97,117,115,101], [107], [119,105,116,104,105,110], [108,97,116,101,114], [109,111,109,101,110,116], [111,119,110], [108,97,115,116]],
  (.cons S__law_rest_0 (.cons S__law_rest_1 (.cons S__law_rest_2 (.cons S__law_rest_3 (.cons S__law_rest_4 (.cons S__law_rest_5 (.cons S__law_rest_6 (.cons S__law_rest_7 (.cons S__law_rest_8 (.cons S__law_rest_9 (.cons S__law_rest_10 (.cons S__law_rest_11 (.cons S__law_rest_12 (.cons S__law_rest_13 (.cons S__law_rest_14 (.cons S__law_rest_15 (.cons S__law_rest_16 .nil)))))))))))))))))⟩
def S_law_0 : Stm := .asg (.nm 1) (.dict true (.cons (.lit (.str [100,114,97,119,115])) (.call 15 (.cons (.var 0 false) (.cons (.lit (.int 900)) .nil))) (.cons (.lit (.str [97,116])) (.lit (.int 0)) .nil)))
def S_law_1 : Stm := .par [3, 4, 5] (.cons (.bin .add (.lit (.int 1)) (.call 16 (.cons (.var 1 false) (.cons (.lit (.int 4)) .nil)))) (.cons (.bin .add (.lit (.int 1)) (.call 16 (.cons (.var 1 false) (.cons (.lit (.int 12)) .nil)))) (.cons (.bin .add (.lit (.int 1)) (.call 16 (.cons (.var 1 false) (.cons (.lit (.int 9)) .nil)))) .nil)))
def S_law_2 : Stm := .asg (.nm 6) (.bin .add (.var 4 false) (.var 5 false))
def S_law_3 : Stm := .asg (.nm 7) (.bin .mul (.var 6 false) (.var 3 false))
def S_law_4 : Stm := .asg (.nm 8) (.blt false .tuple (.cons (.comp false (.tup (.cons (.bin .add (.bin .mul (.var 6 false) (.var 22 false)) (.var 4 false)) (.cons (.bin .add (.bin .mul (.var 6 false) (.var 22 false)) (.var 6 false)) .nil))) [22] (.nm 22) (.rng1 (.var 3 false)) .yes) .nil))
def S_law_5 : Stm := .ifs (.boo false (.not (.of (.call 18 (.cons (.call 4 (.cons (.var 8 false) (.cons (.var 7 false) .nil))) (.cons (.blt false .tuple (.cons (.comp false (.tup (.cons (.bin .mul (.var 6 false) (.var 22 false)) (.cons (.bin .add (.bin .mul (.var 6 false) (.var 22 false)) (.var 4 false)) .nil))) [22] (.nm 22) (.rng1 (.var 3 false)) .yes) .nil)) .nil))))) (.boo false (.not (.of (.call 18 (.cons (.call 4 (.cons (.tup .nil) (.cons (.var 7 false) .nil))) (.cons (.tup (.cons (.tup (.cons (.lit (.int 0)) (.cons (.var 7 false) .nil))) .nil)) .nil))))) (.of (.cmp .ne (.call 4 (.cons (.tup (.cons (.tup (.cons (.lit (.int 0)) (.cons (.var 7 false) .nil))) .nil)) (.cons (.var 7 false) .nil))) (.tup .nil))))) (.cons (.ret (.lit (.bl false)))
    .nil) .nil
def S_law_6 : Stm := .par [9, 10, 11] (.cons (.call 16 (.cons (.var 1 false) (.cons (.var 7 false) .nil))) (.cons (.bin .add (.lit (.int 1)) (.call 16 (.cons (.var 1 false) (.cons (.lit (.int 14)) .nil)))) (.cons (.call 16 (.cons (.var 1 false) (.cons (.lit (.int 20)) .nil))) .nil)))
def S_law_7 : Stm := .asg (.nm 12) (.ite (.of (.cmp .le (.bin .add (.bin .mod (.var 9 false) (.var 6 false)) (.var 10 false)) (.var 4 false))) (.var 9 false) (.bin .add (.bin .sub (.var 9 false) (.bin .mod (.var 9 false) (.var 6 false))) (.var 6 false)))
def S_law_8 : Stm := .asg (.nm 13) (.boo true (.cmp .le (.var 10 false) (.var 4 false)) (.boo true (.cmp .le (.bin .add (.var 12 false) (.var 10 false)) (.var 7 false)) (.cmp .le (.var 12 false) (.bin .add (.var 9 false) (.var 11 false)))))
def S_law_9 : Stm := .ifs (.not (.of (.call 18 (.cons (.call 6 (.cons (.var 8 false) (.cons (.var 7 false) (.cons (.tup (.cons (.var 9 false) (.cons (.bin .add (.var 9 false) (.var 11 false)) (.cons (.var 10 false) (.cons (.lit (.int 1)) .nil))))) .nil)))) (.cons (.ite (.of (.var 13 false)) (.var 12 false) (.lit .non)) .nil))))) (.cons (.ret (.lit (.bl false)))
    .nil) .nil
def S_law_10 : Stm := .par [14, 15, 16] (.cons (.call 16 (.cons (.var 1 false) (.cons (.lit (.int 6)) .nil))) (.cons (.bin .add (.lit (.int 1)) (.call 16 (.cons (.var 1 false) (.cons (.lit (.int 8)) .nil)))) (.cons (.bin .add (.lit (.int 1)) (.call 16 (.cons (.var 1 false) (.cons (.lit (.int 5)) .nil)))) .nil)))
def S_law_11 : Stm := .asg (.nm 17) (.bin .mul (.tup (.cons (.tup (.cons (.lit (.int 0)) (.cons (.var 7 false) (.cons (.var 15 false) (.cons (.var 16 false) .nil))))) .nil)) (.var 14 false))
def S_law_12 : Stm := .asg (.nm 18) (.bin .fdiv (.var 4 false) (.var 15 false))
def S_law_13 : Stm := .asg (.nm 19) (.blt false .min2 (.cons (.var 14 false) (.cons (.bin .mul (.var 3 false) (.var 18 false)) .nil)))
def S_law_14 : Stm := .asg (.nm 20) (.blt false .tuple (.cons (.comp false (.tup (.cons (.var 22 false) (.cons (.bin .add (.bin .mul (.var 6 false) (.bin .fdiv (.var 22 false) (.var 18 false))) (.bin .mul (.var 15 false) (.bin .mod (.var 22 false) (.var 18 false)))) .nil))) [22] (.nm 22) (.rng1 (.var 19 false)) .yes) .nil))
def S_law_15 : Stm := .ifs (.boo false (.not (.of (.call 18 (.cons (.call 8 (.cons (.var 8 false) (.cons (.var 7 false) (.cons (.var 17 false) .nil)))) (.cons (.tup (.cons (.bin .mul (.var 16 false) (.var 19 false)) (.cons (.var 20 false) .nil))) .nil))))) (.of (.cmp .isNot (.call 9 (.cons (.var 8 false) (.cons (.var 7 false) (.cons (.var 17 false) (.cons (.var 20 false) .nil))))) (.lit (.bl true))))) (.cons (.ret (.lit (.bl false)))
    .nil) .nil
def S_law_16 : Stm := .ifs (.boo false (.not (.of (.call 18 (.cons (.call 10 (.cons (.var 8 false) (.cons (.var 7 false) (.cons (.var 20 false) (.cons (.var 17 false) .nil))))) (.cons (.bin .sub (.bin .mul (.var 3 false) (.var 4 false)) (.bin .mul (.var 19 false) (.var 15 false))) .nil))))) (.not (.of (.call 18 (.cons (.call 13 (.cons (.var 8 false) (.cons (.var 7 false) (.cons (.var 17 false) .nil)))) (.cons (.ite (.of (.cmp .gt (.var 14 false) (.lit (.int 0)))) (.call 20 (.cons (.var 19 false) (.cons (.var 14 false) .nil))) (.tup (.cons (.lit (.int 1)) (.cons (.lit (.int 1)) .nil)))) .nil)))))) (.cons (.ret (.lit (.bl false)))
    .nil) .nil
def S_law_17 : Stm := .asg (.nm 21) (.call 17 (.cons (.var 1 false) (.cons (.lst false (.cons (.bin .add (.var 20 false) (.tup (.cons (.idx (.var 20 false) (.neg (.lit (.int 1)))) .nil))) (.cons (.bin .add (.slc (.var 20 false) .nil (.cons (.neg (.lit (.int 1))) .nil)) (.tup (.cons (.tup (.cons (.idx (.idx (.var 20 false) (.neg (.lit (.int 1)))) (.lit (.int 0))) (.cons (.bin .add (.bin .sub (.idx (.idx (.var 20 false) (.neg (.lit (.int 1)))) (.lit (.int 1))) (.bin .mod (.idx (.idx (.var 20 false) (.neg (.lit (.int 1)))) (.lit (.int 1))) (.var 6 false))) (.var 4 false)) .nil))) .nil))) (.cons (.bin .add (.tup (.cons (.tup (.cons (.idx (.idx (.var 20 false) (.lit (.int 0))) (.lit (.int 0))) (.cons (.bin .sub (.lit (.int 0)) (.lit (.int 1))) .nil))) .nil)) (.slc (.var 20 false) (.cons (.lit (.int 1)) .nil) .nil)) (.cons (.blt false .list (.cons (.var 20 false) .nil)) (.cons (.tup (.cons (.tup (.cons (.var 14 false) (.cons (.lit (.int 0)) .nil))) .nil)) (.cons (.ite (.of (.cmp .gt (.var 19 false) (.lit (.int 1)))) (.rev (.var 20 false)) (.bin .add (.var 20 false) (.var 20 false))) .nil))))))) .nil)))
def S_law_18 : Stm := .ifs (.boo false (.of (.cmp .isNot (.call 9 (.cons (.var 8 false) (.cons (.var 7 false) (.cons (.var 17 false) (.cons (.var 21 false) .nil))))) (.lit (.bl false)))) (.of (.cmp .isNot (.call 9 (.cons (.var 8 false) (.cons (.var 7 false) (.cons (.var 17 false) (.cons (.slc (.var 20 false) (.cons (.lit (.int 1)) .nil) .nil) .nil))))) (.lit (.bl true))))) (.cons (.ret (.lit (.bl false)))
      .nil) .nil
def S_law_19 : Stm := .ifs (.not (.of (.call 18 (.cons (.call 10 (.cons (.var 8 false) (.cons (.var 7 false) (.cons (.slc (.var 20 false) (.cons (.lit (.int 1)) .nil) .nil) (.cons (.var 17 false) .nil))))) (.cons (.bin .sub (.bin .mul (.var 3 false) (.var 4 false)) (.bin .mul (.bin .sub (.var 19 false) (.lit (.int 1))) (.var 15 false))) .nil))))) (.cons (.ret (.lit (.bl false)))
      .nil) .nil
def S_law_20 : Stm := .ifs (.of (.cmp .gt (.var 19 false) (.lit (.int 0)))) (.cons S_law_17 (.cons S_law_18 (.cons S_law_19 .nil))) .nil
def S_law_21 : Stm := .ifs (.of (.cmp .isNot (.call 21 (.cons (.var 1 false) (.cons (.var 8 false) (.cons (.var 7 false) (.cons (.var 4 false) (.cons (.var 14 false) (.cons (.var 3 false) (.cons (.var 15 false) (.cons (.var 6 false) (.cons (.var 5 false) (.cons (.var 17 false) (.cons (.var 11 false) .nil)))))))))))) (.lit (.bl true)))) (.cons (.ret (.lit (.bl false)))
    .nil) .nil
def L_law_0 : Sts := (.cons S_law_1 (.cons S_law_2 (.cons S_law_3 (.cons S_law_4 (.cons S_law_5 (.cons S_law_6 (.cons S_law_7 (.cons S_law_8 (.cons S_law_9 (.cons S_law_10 (.cons S_law_11 (.cons S_law_12 (.cons S_law_13 (.cons S_law_14 (.cons S_law_15 (.cons S_law_16 (.cons S_law_20 (.cons S_law_21 .nil))))))))))))))))))
def S_law_22 : Stm := .for (.nm 2) (.rng1 (.lit (.int 3))) L_law_0
def S_law_23 : Stm := .ret (.lit (.bl true))
def f_law : Fn := ⟨[108,97,119], [[115,99,114,105,112,116]], [[115,99,114,105,112,116], [119], [116,117,114,110], [110], [102,114,101,101], [116,97,108,107], [115,116,101,112], [101,110,100], [98,117,115,121], [102,105,114,115,116], [108,111,110,103], [119,105,100,101], [98,101,103,105,110], [99,97,110], [109], [115,105,122,101], [119,111,114,116,104], [116,101,108,108,105,110,103,115], [101,97,99,104], [109,97,110,121], [114,111,119], [98,101,110,116], [107]],
  (.cons S_law_0 (.cons S_law_22 (.cons S_law_23 .nil)))⟩
def prog : List Fn := [f_divisor, f_fraction, f_is_number, f_is_tuple_of, f_gaps_for, f_begin_from, f_can_tell, f_rows_from, f_best_told, f_is_told, f_left_over, f_must_shorten, f_with_pause, f_told_share, f_crowding, f__law_draws, f__law_next, f__law_pick, f__law_same, f__law_gcd, f__law_part, f__law_rest, f_law]
theorem u_divisor (n : Nat) (args : List SV) (h : AH) : callN prog (n + 1) 0 args h = runF (callN prog n) f_divisor args h := rfl
theorem u_fraction (n : Nat) (args : List SV) (h : AH) : callN prog (n + 1) 1 args h = runF (callN prog n) f_fraction args h := rfl
theorem u_is_number (n : Nat) (args : List SV) (h : AH) : callN prog (n + 1) 2 args h = runF (callN prog n) f_is_number args h := rfl
theorem u_is_tuple_of (n : Nat) (args : List SV) (h : AH) : callN prog (n + 1) 3 args h = runF (callN prog n) f_is_tuple_of args h := rfl
theorem u_gaps_for (n : Nat) (args : List SV) (h : AH) : callN prog (n + 1) 4 args h = runF (callN prog n) f_gaps_for args h := rfl
theorem u_begin_from (n : Nat) (args : List SV) (h : AH) : callN prog (n + 1) 5 args h = runF (callN prog n) f_begin_from args h := rfl
theorem u_can_tell (n : Nat) (args : List SV) (h : AH) : callN prog (n + 1) 6 args h = runF (callN prog n) f_can_tell args h := rfl
theorem u_rows_from (n : Nat) (args : List SV) (h : AH) : callN prog (n + 1) 7 args h = runF (callN prog n) f_rows_from args h := rfl
theorem u_best_told (n : Nat) (args : List SV) (h : AH) : callN prog (n + 1) 8 args h = runF (callN prog n) f_best_told args h := rfl
theorem u_is_told (n : Nat) (args : List SV) (h : AH) : callN prog (n + 1) 9 args h = runF (callN prog n) f_is_told args h := rfl
theorem u_left_over (n : Nat) (args : List SV) (h : AH) : callN prog (n + 1) 10 args h = runF (callN prog n) f_left_over args h := rfl
theorem u_must_shorten (n : Nat) (args : List SV) (h : AH) : callN prog (n + 1) 11 args h = runF (callN prog n) f_must_shorten args h := rfl
theorem u_with_pause (n : Nat) (args : List SV) (h : AH) : callN prog (n + 1) 12 args h = runF (callN prog n) f_with_pause args h := rfl
theorem u_told_share (n : Nat) (args : List SV) (h : AH) : callN prog (n + 1) 13 args h = runF (callN prog n) f_told_share args h := rfl
theorem u_crowding (n : Nat) (args : List SV) (h : AH) : callN prog (n + 1) 14 args h = runF (callN prog n) f_crowding args h := rfl
theorem u__law_draws (n : Nat) (args : List SV) (h : AH) : callN prog (n + 1) 15 args h = runF (callN prog n) f__law_draws args h := rfl
theorem u__law_next (n : Nat) (args : List SV) (h : AH) : callN prog (n + 1) 16 args h = runF (callN prog n) f__law_next args h := rfl
theorem u__law_pick (n : Nat) (args : List SV) (h : AH) : callN prog (n + 1) 17 args h = runF (callN prog n) f__law_pick args h := rfl
theorem u__law_same (n : Nat) (args : List SV) (h : AH) : callN prog (n + 1) 18 args h = runF (callN prog n) f__law_same args h := rfl
theorem u__law_gcd (n : Nat) (args : List SV) (h : AH) : callN prog (n + 1) 19 args h = runF (callN prog n) f__law_gcd args h := rfl
theorem u__law_part (n : Nat) (args : List SV) (h : AH) : callN prog (n + 1) 20 args h = runF (callN prog n) f__law_part args h := rfl
theorem u__law_rest (n : Nat) (args : List SV) (h : AH) : callN prog (n + 1) 21 args h = runF (callN prog n) f__law_rest args h := rfl
theorem u_law (n : Nat) (args : List SV) (h : AH) : callN prog (n + 1) 22 args h = runF (callN prog n) f_law args h := rfl
end Ev

set_option Elab.async false
set_option linter.all false
set_option maxRecDepth 100000
set_option maxHeartbeats 1000000
namespace Ev
def mn (a b : Int) : Int := if b < a then b else a
def mx (a b : Int) : Int := if b > a then b else a
theorem mn_eq (a b : Int) : (if b < a then b else a) = mn a b := rfl
theorem mx_eq (a b : Int) : (if a < b then b else a) = mx a b := rfl
/-! ### the gaps -/
def gf (e : Int) : List (Int × Int) → Int → List (Int × Int)
  | [], now => if now < e then [(now, e)] else []
  | (a, b) :: r, now => (if now < mn a e then [(now, mn a e)] else []) ++ gf e r (mx now b)
structure GS where
  found : List (Int × Int)
  now : Int
  j1 : Option SV
  j2 : Option SV
def gsE (B : PV) (e : Int) (n : Nat) (s : GS) : En := [vS B, iS e, some (.o n), iS s.now, s.j1, s.j2]
def gsStep (e : Int) (s : GS) (p : Int × Int) : GS ⊕ (SV × AH) := .inl ⟨if s.now < mn p.1 e then s.found ++ [(s.now, mn p.1 e)] else s.found, mx s.now p.2, iS p.1, iS p.2⟩
theorem gs_run (e : Int) : ∀ (l : List (Int × Int)) (s : GS), ∃ s', runL (gsStep e) s l = .inl s' ∧ s'.found ++ (if s'.now < e then [(s'.now, e)] else []) = s.found ++ gf e l s.now ∧ s'.found.length ≤ s.found.length + l.length
  | [], s => ⟨s, rfl, rfl, by simp⟩
  | p :: l, s => by
    obtain ⟨s', h1, h2, h3⟩ := gs_run e l ⟨if s.now < mn p.1 e then s.found ++ [(s.now, mn p.1 e)] else s.found, mx s.now p.2, iS p.1, iS p.2⟩
    refine ⟨s', h1, ?_, ?_⟩
    · rw [h2]
      obtain ⟨a, b⟩ := p
      simp only [gf]
      split <;> simp
    · simp only [List.length_cons] at *
      split at h3 <;> (try simp only [List.length_append, List.length_cons, List.length_nil] at h3) <;> omega
theorem gaps_ok (N : Nat) (busy : List (Int × Int)) (hl : busy.length ≤ 1000) (e : Int) (h : AH) : callN prog (N + 1) 4 [.v (.tup (prs busy)), .v (.int e)] h = some (.v (.tup (prs (gf e busy 0))), h) := by
  rw [u_gaps_for]
  generalize callN prog N = C
  have q0 : evS C S_gaps_for_0 [vS (.tup (prs busy)), iS e, none, none, none, none] h = some (.nx (gsE (.tup (prs busy)) e h.length ⟨[], 0, none, none⟩) (h ++ [.lst (prs [])])) := by
    simp [S_gaps_for_0, runF, startE, evSs, evS, evE, evL, evT, evI, evD, asgT, rdVar, peek, part, sliceP, binP, binA, cmpP, truP, bltE, blt1, blt2, lenP, mkR, mkL, mkD, retn, pvs, SV.pv, wipeE, walkOf, itemsP, notD, idxP, isKey, keyEq, dlook, dhas, dput, dictEq, okDict, mthE, mthC, mthP, mthT, argsM, isLst, changes, isiTy, smallR, finL, finD, tupP, listP, dicP, onL, onS, min2P, max2P, blt3, argsN, revP, inP, isP, isNon, eqP, okD, plainD, plainDs, dep, deps, eqv, eqvs, beqI, beqS, atI_0, atI_1, atI_2, gsE, sz0, sz1, sz2, sz3, sz4, sz5, sz6, sz7, sz8, sz9, sz10, sz11, sl0, sl1, sl2, sl3, sl4, sl5]
  have q1 := for_step (C := C) (t := .tp [4, 5]) (it := .var 0 false) (b := L_gaps_for_0) (e := gsE (.tup (prs busy)) e h.length ⟨[], 0, none, none⟩) (h := h ++ [.lst (prs [])]) (h1 := h ++ [.lst (prs [])]) (g := none) busy prI (gsE (.tup (prs busy)) e h.length) (fun s => h ++ [.lst (prs s.found)]) (gsStep e) ⟨[], 0, none, none⟩
    (fun s r => s.found.length + r.length ≤ 1000) (by simpa using hl) (by simp [evI, gsE, rdVar, walkOf, itemsP]) rfl rfl (fun s => rfl) (fun p r s hi => by
      have z : s.found.length < SZ := lt_sz (by simp at hi; omega)
      refine ⟨⟨_, rfl, ?_⟩, fun s' hs => ?_⟩
      · by_cases hc : s.now < mn p.1 e
        · have hc' := hc
          simp only [mn] at hc'
          simp [f_gaps_for, S_gaps_for_0, S_gaps_for_1, S_gaps_for_2, L_gaps_for_0, S_gaps_for_3, S_gaps_for_4, gsE, gsStep, flL, runF, startE, evSs, evS, evE, evL, evT, evI, evD, asgT, rdVar, peek, part, sliceP, binP, binA, cmpP, truP, bltE, blt1, blt2, lenP, mkR, mkL, mkD, retn, pvs, SV.pv, wipeE, walkOf, itemsP, notD, idxP, isKey, keyEq, dlook, dhas, dput, dictEq, okDict, mthE, mthC, mthP, mthT, argsM, isLst, changes, isiTy, smallR, finL, finD, tupP, listP, dicP, onL, onS, min2P, max2P, blt3, argsN, revP, inP, isP, isNon, eqP, okD, plainD, plainDs, dep, deps, eqv, eqvs, beqI, beqS, atI_0, atI_1, atI_2, hc', hc, prI, z, at_end, set_end, sz0, sz1, sz2, sz3, sz4, sz5, sz6, sz7, sz8, sz9, sz10, sz11, sl0, sl1, sl2, sl3, sl4, sl5, mn, mx]
        · have hc' := hc
          simp only [mn] at hc'
          simp [f_gaps_for, S_gaps_for_0, S_gaps_for_1, S_gaps_for_2, L_gaps_for_0, S_gaps_for_3, S_gaps_for_4, gsE, gsStep, flL, runF, startE, evSs, evS, evE, evL, evT, evI, evD, asgT, rdVar, peek, part, sliceP, binP, binA, cmpP, truP, bltE, blt1, blt2, lenP, mkR, mkL, mkD, retn, pvs, SV.pv, wipeE, walkOf, itemsP, notD, idxP, isKey, keyEq, dlook, dhas, dput, dictEq, okDict, mthE, mthC, mthP, mthT, argsM, isLst, changes, isiTy, smallR, finL, finD, tupP, listP, dicP, onL, onS, min2P, max2P, blt3, argsN, revP, inP, isP, isNon, eqP, okD, plainD, plainDs, dep, deps, eqv, eqvs, beqI, beqS, atI_0, atI_1, atI_2, hc', hc, prI, z, at_end, set_end, sz0, sz1, sz2, sz3, sz4, sz5, sz6, sz7, sz8, sz9, sz10, sz11, sl0, sl1, sl2, sl3, sl4, sl5, mn, mx]
      · cases hs
        simp only [List.length_cons] at hi
        dsimp only
        split
        · rw [List.length_append]; simp only [List.length_cons, List.length_nil]; omega
        · omega)
  obtain ⟨s', h1, h2, h3⟩ := gs_run e busy ⟨[], 0, none, none⟩
  rw [h1] at q1
  simp only [flL] at q1
  have z : s'.found.length + 1 ≤ SZ := le_sz (by simp at h3; omega)
  have z' : s'.found.length ≤ SZ := by omega
  have q2 : evS C S_gaps_for_4 (gsE (.tup (prs busy)) e h.length s') (h ++ [.lst (prs s'.found)]) = some (.rt (.v (.tup (prs (gf e busy 0)))) (h ++ [.frz (.lst (prs s'.found))])) := by
    have h2' : gf e busy 0 = s'.found ++ (if s'.now < e then [(s'.now, e)] else []) := by simpa using h2.symm
    rw [h2']
    by_cases hc : s'.now < e
    · simp [S_gaps_for_4, runF, startE, evSs, evS, evE, evL, evT, evI, evD, asgT, rdVar, peek, part, sliceP, binP, binA, cmpP, truP, bltE, blt1, blt2, lenP, mkR, mkL, mkD, retn, pvs, SV.pv, wipeE, walkOf, itemsP, notD, idxP, isKey, keyEq, dlook, dhas, dput, dictEq, okDict, mthE, mthC, mthP, mthT, argsM, isLst, changes, isiTy, smallR, finL, finD, tupP, listP, dicP, onL, onS, min2P, max2P, blt3, argsN, revP, inP, isP, isNon, eqP, okD, plainD, plainDs, dep, deps, eqv, eqvs, beqI, beqS, atI_0, atI_1, atI_2, gsE, hc, at_end, set_end, sz0, sz1, sz2, sz3, sz4, sz5, sz6, sz7, sz8, sz9, sz10, sz11, sl0, sl1, sl2, sl3, sl4, sl5, prI, z]
    · simp [S_gaps_for_4, runF, startE, evSs, evS, evE, evL, evT, evI, evD, asgT, rdVar, peek, part, sliceP, binP, binA, cmpP, truP, bltE, blt1, blt2, lenP, mkR, mkL, mkD, retn, pvs, SV.pv, wipeE, walkOf, itemsP, notD, idxP, isKey, keyEq, dlook, dhas, dput, dictEq, okDict, mthE, mthC, mthP, mthT, argsM, isLst, changes, isiTy, smallR, finL, finD, tupP, listP, dicP, onL, onS, min2P, max2P, blt3, argsN, revP, inP, isP, isNon, eqP, okD, plainD, plainDs, dep, deps, eqv, eqvs, beqI, beqS, atI_0, atI_1, atI_2, gsE, hc, at_end, set_end, sz0, sz1, sz2, sz3, sz4, sz5, sz6, sz7, sz8, sz9, sz10, sz11, sl0, sl1, sl2, sl3, sl4, sl5, prI, z']
  have hb : evSs C f_gaps_for.body [vS (.tup (prs busy)), iS e, none, none, none, none] h = some (.rt (.v (.tup (prs (gf e busy 0)))) (h ++ [.frz (.lst (prs s'.found))])) := by
    show evSs C (.cons _ (.cons _ (.cons _ .nil))) _ _ = _
    rw [seq q0, S_gaps_for_3, seq q1, seqR q2]
  exact runF_ret rfl hb (by simp [retn])
end Ev

set_option Elab.async false
set_option linter.all false
set_option maxRecDepth 100000
set_option maxHeartbeats 1000000
namespace Ev
theorem max3_ints (a b c : Int) : maxV [.int a, .int b, .int c] = some (.int (mx (mx a b) c)) := by
  simp only [maxV, okAll, plainDs, plainD, deps, dep, List.all_cons, List.all_nil, isNonP, ak, List.foldl_cons, List.foldl_nil, plt, mx]
  by_cases h1 : a < b
  · by_cases h2 : b < c <;> simp [h1, h2, plt]
  · by_cases h2 : a < c <;> simp [h1, h2, plt]
structure Tl where
  f : Int
  t : Int
  l : Int
  w : Int
def tlE (t : Tl) : PV := .tup [.int t.f, .int t.t, .int t.l, .int t.w]
def oI : Option Int → PV
  | none => .non
  | some i => .int i
def bf (t : Tl) (m : Int) : List (Int × Int) → Option Int
  | [] => none
  | (lo, hi) :: r => if mx (mx lo t.f) m ≤ t.t ∧ mx (mx lo t.f) m + t.l ≤ hi then some (mx (mx lo t.f) m) else bf t m r
def bfE (B : PV) (e : Int) (t : Tl) (m : Int) (s : Option SV × Option SV × Option SV) : En := [vS B, iS e, vS (tlE t), iS m, iS t.f, iS t.t, iS t.l, iS t.w, s.1, s.2.1, s.2.2]
def bfStep (t : Tl) (m : Int) (h : AH) (s : Option SV × Option SV × Option SV) (p : Int × Int) : (Option SV × Option SV × Option SV) ⊕ (SV × AH) :=
  if mx (mx p.1 t.f) m ≤ t.t ∧ mx (mx p.1 t.f) m + t.l ≤ p.2 then .inr (.v (.int (mx (mx p.1 t.f) m)), h) else .inl (iS p.1, iS p.2, iS (mx (mx p.1 t.f) m))
theorem bf_run (t : Tl) (m : Int) (h : AH) : ∀ (l : List (Int × Int)) (s : Option SV × Option SV × Option SV), (∃ b, bf t m l = some b ∧ runL (bfStep t m h) s l = .inr (.v (.int b), h)) ∨ (bf t m l = none ∧ ∃ s', runL (bfStep t m h) s l = .inl s')
  | [], s => .inr ⟨rfl, s, rfl⟩
  | p :: l, s => by
    obtain ⟨lo, hi⟩ := p
    by_cases hc : mx (mx lo t.f) m ≤ t.t ∧ mx (mx lo t.f) m + t.l ≤ hi
    · exact .inl ⟨_, by rw [bf, if_pos hc], by simp only [runL, bfStep, if_pos hc]⟩
    · rcases bf_run t m h l (iS lo, iS hi, iS (mx (mx lo t.f) m)) with ⟨b, h1, h2⟩ | ⟨h1, s', h2⟩
      · exact .inl ⟨b, by rw [bf, if_neg hc]; exact h1, by simp only [runL, bfStep, if_neg hc]; exact h2⟩
      · exact .inr ⟨by rw [bf, if_neg hc]; exact h1, s', by simp only [runL, bfStep, if_neg hc]; exact h2⟩
theorem gf_len (e : Int) : ∀ (l : List (Int × Int)) (now : Int), (gf e l now).length ≤ l.length + 1
  | [], now => by simp only [gf]; split <;> simp
  | (a, b) :: r, now => by
    have := gf_len e r (mx now b)
    simp only [gf]
    split <;> simp <;> omega
theorem begin_ok (N : Nat) (busy : List (Int × Int)) (hl : busy.length ≤ 1000) (e : Int) (t : Tl) (m : Int) (h : AH) : callN prog (N + 2) 5 [.v (.tup (prs busy)), .v (.int e), .v (tlE t), .v (.int m)] h = some (.v (oI (bf t m (gf e busy 0))), h) := by
  rw [u_begin_from]
  have g := gaps_ok N busy hl e h
  have q0 : evS (callN prog (N + 1)) S_begin_from_0 [vS (.tup (prs busy)), iS e, vS (tlE t), iS m, none, none, none, none, none, none, none] h = some (.nx (bfE (.tup (prs busy)) e t m (none, none, none)) h) := by
    simp [S_begin_from_0, runF, startE, evSs, evS, evE, evL, evT, evI, evD, asgT, rdVar, peek, part, sliceP, binP, binA, cmpP, truP, bltE, blt1, blt2, lenP, mkR, mkL, mkD, retn, pvs, SV.pv, wipeE, walkOf, itemsP, notD, idxP, isKey, keyEq, dlook, dhas, dput, dictEq, okDict, mthE, mthC, mthP, mthT, argsM, isLst, changes, isiTy, smallR, finL, finD, tupP, listP, dicP, onL, onS, min2P, max2P, blt3, argsN, revP, inP, isP, isNon, eqP, okD, plainD, plainDs, dep, deps, eqv, eqvs, beqI, beqS, atI_0, atI_1, atI_2, tlE, bfE]
  have q1 := for_step (C := callN prog (N + 1)) (t := .tp [8, 9]) (it := .ex (.call 4 (.cons (.var 0 false) (.cons (.var 1 false) .nil)))) (b := L_begin_from_0) (e := bfE (.tup (prs busy)) e t m (none, none, none)) (h := h) (h1 := h) (g := none) (gf e busy 0) prI (bfE (.tup (prs busy)) e t m) (fun _ => h) (bfStep t m h) (none, none, none)
    (fun _ _ => True) trivial (by simp [evI, evE, evL, bfE, rdVar, g, walkOf, notD, itemsP]) rfl rfl (fun s => rfl) (fun p r s hi => by
      refine ⟨⟨_, rfl, ?_⟩, fun s' hs => trivial⟩
      have q := max3_ints p.1 t.f m
      by_cases hc : mx (mx p.1 t.f) m ≤ t.t
      · by_cases hc2 : mx (mx p.1 t.f) m + t.l ≤ p.2
        · simp [f_begin_from, S_begin_from_0, S_begin_from_1, S_begin_from_2, L_begin_from_0, S_begin_from_3, S_begin_from_4, bfE, bfStep, flL, runF, startE, evSs, evS, evE, evL, evT, evI, evD, asgT, rdVar, peek, part, sliceP, binP, binA, cmpP, truP, bltE, blt1, blt2, lenP, mkR, mkL, mkD, retn, pvs, SV.pv, wipeE, walkOf, itemsP, notD, idxP, isKey, keyEq, dlook, dhas, dput, dictEq, okDict, mthE, mthC, mthP, mthT, argsM, isLst, changes, isiTy, smallR, finL, finD, tupP, listP, dicP, onL, onS, min2P, max2P, blt3, argsN, revP, inP, isP, isNon, eqP, okD, plainD, plainDs, dep, deps, eqv, eqvs, beqI, beqS, atI_0, atI_1, atI_2, hc, hc2, q]
        · simp [f_begin_from, S_begin_from_0, S_begin_from_1, S_begin_from_2, L_begin_from_0, S_begin_from_3, S_begin_from_4, bfE, bfStep, flL, runF, startE, evSs, evS, evE, evL, evT, evI, evD, asgT, rdVar, peek, part, sliceP, binP, binA, cmpP, truP, bltE, blt1, blt2, lenP, mkR, mkL, mkD, retn, pvs, SV.pv, wipeE, walkOf, itemsP, notD, idxP, isKey, keyEq, dlook, dhas, dput, dictEq, okDict, mthE, mthC, mthP, mthT, argsM, isLst, changes, isiTy, smallR, finL, finD, tupP, listP, dicP, onL, onS, min2P, max2P, blt3, argsN, revP, inP, isP, isNon, eqP, okD, plainD, plainDs, dep, deps, eqv, eqvs, beqI, beqS, atI_0, atI_1, atI_2, hc, hc2, q]
      · simp [f_begin_from, S_begin_from_0, S_begin_from_1, S_begin_from_2, L_begin_from_0, S_begin_from_3, S_begin_from_4, bfE, bfStep, flL, runF, startE, evSs, evS, evE, evL, evT, evI, evD, asgT, rdVar, peek, part, sliceP, binP, binA, cmpP, truP, bltE, blt1, blt2, lenP, mkR, mkL, mkD, retn, pvs, SV.pv, wipeE, walkOf, itemsP, notD, idxP, isKey, keyEq, dlook, dhas, dput, dictEq, okDict, mthE, mthC, mthP, mthT, argsM, isLst, changes, isiTy, smallR, finL, finD, tupP, listP, dicP, onL, onS, min2P, max2P, blt3, argsN, revP, inP, isP, isNon, eqP, okD, plainD, plainDs, dep, deps, eqv, eqvs, beqI, beqS, atI_0, atI_1, atI_2, hc, q])
  rcases bf_run t m h (gf e busy 0) (none, none, none) with ⟨b, h1, h2⟩ | ⟨h1, s', h2⟩
  · rw [h2] at q1
    have hb : evSs (callN prog (N + 1)) f_begin_from.body [vS (.tup (prs busy)), iS e, vS (tlE t), iS m, none, none, none, none, none, none, none] h = some (.rt (.v (.int b)) h) := by
      show evSs _ (.cons _ (.cons _ (.cons _ .nil))) _ _ = _
      rw [seq q0, S_begin_from_3, seqR q1]
    rw [h1]
    exact runF_ret rfl hb (by simp [retn, oI])
  · rw [h2] at q1
    have hb : evSs (callN prog (N + 1)) f_begin_from.body [vS (.tup (prs busy)), iS e, vS (tlE t), iS m, none, none, none, none, none, none, none] h = some (.rt (.v .non) h) := by
      show evSs _ (.cons _ (.cons _ (.cons _ .nil))) _ _ = _
      rw [seq q0, S_begin_from_3, seq q1]
      simp [S_begin_from_4, evSs, evS, evE]
    rw [h1]
    exact runF_ret rfl hb (by simp [retn, oI])
theorem can_ok (N : Nat) (busy : List (Int × Int)) (hl : busy.length ≤ 1000) (e : Int) (t : Tl) (h : AH) : callN prog (N + 3) 6 [.v (.tup (prs busy)), .v (.int e), .v (tlE t)] h = some (.v (oI (bf t 0 (gf e busy 0))), h) := by
  rw [u_can_tell]
  have q := begin_ok N busy hl e t 0 h
  simp [f_can_tell, S_can_tell_0, runF, startE, evSs, evS, evE, evL, evT, evI, evD, asgT, rdVar, peek, part, sliceP, binP, binA, cmpP, truP, bltE, blt1, blt2, lenP, mkR, mkL, mkD, retn, pvs, SV.pv, wipeE, walkOf, itemsP, notD, idxP, isKey, keyEq, dlook, dhas, dput, dictEq, okDict, mthE, mthC, mthP, mthT, argsM, isLst, changes, isiTy, smallR, finL, finD, tupP, listP, dicP, onL, onS, min2P, max2P, blt3, argsN, revP, inP, isP, isNon, eqP, okD, plainD, plainDs, dep, deps, eqv, eqvs, beqI, beqS, atI_0, atI_1, atI_2]
  simp [q]
/-! ### all choices -/
abbrev T3 := Int × Int × List (Int × Int)
def t3E (x : T3) : PV := .tup [.int x.1, .int x.2.1, .tup (prs x.2.2)]
def mnT (x y : T3) : T3 := if plt (t3E y) (t3E x) then y else x
theorem prs_plain : ∀ l : List (Int × Int), plainDs (prs l) = true
  | [] => rfl
  | p :: l => by simp [plainDs, prI, plainD, prs_plain l]
theorem prs_deps : ∀ l : List (Int × Int), deps (prs l) ≤ 1
  | [] => by simp [deps]
  | p :: l => by
    have := prs_deps l
    simp only [prs, List.map_cons, deps, prI, dep] at *
    omega
theorem prs_ak : ∀ l r : List (Int × Int), aks (prs l) (prs r) = true
  | [], [] => by simp [aks]
  | [], _ :: _ => by simp [aks]
  | _ :: _, [] => by simp [aks]
  | p :: l, q :: r => by
    have := prs_ak l r
    simp only [prs, List.map_cons, aks, prI, ak, this, Bool.and_self]
theorem t3_ok (x y : T3) : minV [t3E x, t3E y] = some (t3E (mnT x y)) := by
  have d1 := prs_deps x.2.2
  have d2 := prs_deps y.2.2
  have hd : deps [t3E x, t3E y] ≤ 50 := by
    simp only [deps, t3E, dep]
    omega
  have ok : okAll [t3E x, t3E y] = true := by
    unfold okAll
    rw [decide_eq_true hd]
    simp [t3E, plainDs, plainD, prs_plain, isNonP, ak, aks, prs_ak]
  simp only [minV, ok, if_true, List.foldl_cons, List.foldl_nil, mnT]
  split <;> rfl
def rf (G : List (Int × Int)) : List Tl → Nat → Int → T3
  | [], _, _ => (0, 0, [])
  | t :: ts, k, m => match bf t m G with
    | none => rf G ts (k + 1) m
    | some b => mnT (rf G ts (k + 1) m) ((rf G ts (k + 1) (b + t.l)).1 - t.w, (rf G ts (k + 1) (b + t.l)).2.1 + 1, ((k : Int), b) :: (rf G ts (k + 1) (b + t.l)).2.2)
theorem rf_len (G : List (Int × Int)) : ∀ (ts : List Tl) (k : Nat) (m : Int), (rf G ts k m).2.2.length ≤ ts.length
  | [], k, m => by simp [rf]
  | t :: ts, k, m => by
    have h1 := rf_len G ts (k + 1) m
    simp only [rf]
    split
    · simp; omega
    · rename_i b hb
      have h2 := rf_len G ts (k + 1) (b + t.l)
      unfold mnT
      split <;> simp <;> omega
theorem tls_at (pre : List Tl) (t : Tl) (ts : List Tl) : atI ((pre ++ t :: ts).map tlE) (pre.length : Int) = some (tlE t) := tup_at _ _ _ (by simp)
theorem rows_ok (N : Nat) (busy : List (Int × Int)) (hl : busy.length ≤ 1000) (e : Int) : ∀ (ts pre : List Tl) (m : Int) (h : AH), pre.length + ts.length ≤ 1000 →
    callN prog (N + 3 + ts.length) 7 [.v (.tup (prs busy)), .v (.int e), .v (.tup ((pre ++ ts).map tlE)), .v (.int pre.length), .v (.int m)] h = some (.v (t3E (rf (gf e busy 0) ts pre.length m)), h)
  | [], pre, m, h, _ => by
    rw [List.length_nil, Nat.add_zero, u_rows_from]
    simp [f_rows_from, S_rows_from_0, S_rows_from_1, S_rows_from_2, S_rows_from_3, S_rows_from_4, runF, startE, evSs, evS, evE, evL, evT, evI, evD, asgT, rdVar, peek, part, sliceP, binP, binA, cmpP, truP, bltE, blt1, blt2, lenP, mkR, mkL, mkD, retn, pvs, SV.pv, wipeE, walkOf, itemsP, notD, idxP, isKey, keyEq, dlook, dhas, dput, dictEq, okDict, mthE, mthC, mthP, mthT, argsM, isLst, changes, isiTy, smallR, finL, finD, tupP, listP, dicP, onL, onS, min2P, max2P, blt3, argsN, revP, inP, isP, isNon, eqP, okD, plainD, plainDs, dep, deps, eqv, eqvs, beqI, beqS, atI_0, atI_1, atI_2, sz0, sz1, sz2, sz3, sz4, sz5, sz6, sz7, sz8, sz9, sz10, sz11, sl0, sl1, sl2, sl3, sl4, sl5, t3E, rf]
  | t :: ts, pre, m, h, hz => by
    have ne : ¬ ((pre.length : Int) = (pre.length : Int) + ((ts.length : Int) + 1)) := by omega
    have at1 := tls_at pre t ts
    have r1 := rows_ok N busy hl e ts (pre ++ [t]) m h (by simp at hz ⊢; omega)
    have b1 := begin_ok (N + 1 + ts.length) busy hl e t m h
    rw [show N + 3 + (t :: ts).length = (N + 3 + ts.length) + 1 by simp; omega, u_rows_from]
    rw [show N + 1 + ts.length + 2 = N + 3 + ts.length by omega] at b1
    have e1 : (pre ++ [t]) ++ ts = pre ++ t :: ts := by simp
    have e2 : (((pre ++ [t]).length : Nat) : Int) = (pre.length : Int) + 1 := by simp
    rw [e1, e2] at r1
    have e3 : (pre ++ [t]).length = pre.length + 1 := by simp
    rw [e3] at r1
    simp only [List.map_append, List.map_cons] at r1 at1
    cases hb : bf t m (gf e busy 0) with
    | none =>
      rw [hb] at b1
      simp only [oI] at b1
      simp [f_rows_from, S_rows_from_0, S_rows_from_1, S_rows_from_2, S_rows_from_3, S_rows_from_4, runF, startE, evSs, evS, evE, evL, evT, evI, evD, asgT, rdVar, peek, part, sliceP, binP, binA, cmpP, truP, bltE, blt1, blt2, lenP, mkR, mkL, mkD, retn, pvs, SV.pv, wipeE, walkOf, itemsP, notD, idxP, isKey, keyEq, dlook, dhas, dput, dictEq, okDict, mthE, mthC, mthP, mthT, argsM, isLst, changes, isiTy, smallR, finL, finD, tupP, listP, dicP, onL, onS, min2P, max2P, blt3, argsN, revP, inP, isP, isNon, eqP, okD, plainD, plainDs, dep, deps, eqv, eqvs, beqI, beqS, atI_0, atI_1, atI_2, ne, r1, at1, b1, rf, hb]
    | some b =>
      rw [hb] at b1
      simp only [oI] at b1
      have r2 := rows_ok N busy hl e ts (pre ++ [t]) (b + t.l) h (by simp at hz ⊢; omega)
      rw [e1, e2, e3] at r2
      simp only [List.map_append, List.map_cons] at r2
      have z := rf_len (gf e busy 0) ts (pre.length + 1) (b + t.l)
      have z1 : 1 + (rf (gf e busy 0) ts (pre.length + 1) (b + t.l)).2.2.length ≤ SZ := le_sz (by simp at hz; omega)
      have mt := t3_ok (rf (gf e busy 0) ts (pre.length + 1) m) ((rf (gf e busy 0) ts (pre.length + 1) (b + t.l)).1 - t.w, (rf (gf e busy 0) ts (pre.length + 1) (b + t.l)).2.1 + 1, ((pre.length : Int), b) :: (rf (gf e busy 0) ts (pre.length + 1) (b + t.l)).2.2)
      have sE : startE f_rows_from [.v (.tup (prs busy)), .v (.int e), .v (.tup ((pre ++ t :: ts).map tlE)), .v (.int pre.length), .v (.int m)] = [vS (.tup (prs busy)), iS e, vS (.tup ((pre ++ t :: ts).map tlE)), iS pre.length, iS m, none, none, none, none, none] := rfl
      have i2 : atI [PV.int t.f, PV.int t.t, PV.int t.l, PV.int t.w] 2 = some (.int t.l) := rfl
      have i3 : atI [PV.int t.f, PV.int t.t, PV.int t.l, PV.int t.w] 3 = some (.int t.w) := rfl
      simp only [t3E] at mt r1 r2
      rw [show prs (((pre.length : Int), b) :: (rf (gf e busy 0) ts (pre.length + 1) (b + t.l)).2.2) = .tup [.int pre.length, .int b] :: prs (rf (gf e busy 0) ts (pre.length + 1) (b + t.l)).2.2 from rfl] at mt
      simp only [tlE] at at1 b1 r1 r2
      simp [f_rows_from, S_rows_from_0, S_rows_from_1, S_rows_from_2, S_rows_from_3, S_rows_from_4, runF, startE, evSs, evS, evE, evL, evT, evI, evD, asgT, rdVar, peek, part, sliceP, binP, binA, cmpP, truP, bltE, blt1, blt2, lenP, mkR, mkL, mkD, retn, pvs, SV.pv, wipeE, walkOf, itemsP, notD, idxP, isKey, keyEq, dlook, dhas, dput, dictEq, okDict, mthE, mthC, mthP, mthT, argsM, isLst, changes, isiTy, smallR, finL, finD, tupP, listP, dicP, onL, onS, min2P, max2P, blt3, argsN, revP, inP, isP, isNon, eqP, okD, plainD, plainDs, dep, deps, eqv, eqvs, beqI, beqS, atI_0, atI_1, atI_2, ne, r1, at1, b1, r2, tlE, i2, i3, sz0, sz1, sz2, sz3, sz4, sz5, sz6, sz7, sz8, sz9, sz10, sz11, sl0, sl1, sl2, sl3, sl4, sl5, z1, rf, hb, t3E]
      simp [mt]
end Ev

set_option Elab.async false
set_option linter.all false
set_option maxRecDepth 100000
set_option maxHeartbeats 1000000
namespace Ev
theorem best_ok (N : Nat) (busy : List (Int × Int)) (hl : busy.length ≤ 1000) (e : Int) (ts : List Tl) (h : AH) (hz : ts.length ≤ 1000) :
    callN prog (N + 4 + ts.length) 8 [.v (.tup (prs busy)), .v (.int e), .v (.tup (ts.map tlE))] h = some (.v (.tup [.int (-(rf (gf e busy 0) ts 0 0).1), .tup (prs (rf (gf e busy 0) ts 0 0).2.2)]), h) := by
  have r := rows_ok N busy hl e ts [] 0 h (by simpa using hz)
  rw [show N + 4 + ts.length = (N + 3 + ts.length) + 1 by omega, u_best_told]
  simp only [List.nil_append, List.length_nil, Int.natCast_zero, t3E] at r
  have r' : callN prog (N + 3 + ts.length) 7 [.v (.tup (prs busy)), .v (.int e), .v (.tup (ts.map tlE)), .v (.int 0), .v (.int 0)] h = _ := r
  simp [f_best_told, S_best_told_0, S_best_told_1, runF, startE, evSs, evS, evE, evL, evT, evI, evD, asgT, rdVar, peek, part, sliceP, binP, binA, cmpP, truP, bltE, blt1, blt2, lenP, mkR, mkL, mkD, retn, pvs, SV.pv, wipeE, walkOf, itemsP, notD, idxP, isKey, keyEq, dlook, dhas, dput, dictEq, okDict, mthE, mthC, mthP, mthT, argsM, isLst, changes, isiTy, smallR, finL, finD, tupP, listP, dicP, onL, onS, min2P, max2P, blt3, argsN, revP, inP, isP, isNon, eqP, okD, plainD, plainDs, dep, deps, eqv, eqvs, beqI, beqS, atI_0, atI_1, atI_2, r', sz0, sz1, sz2, sz3, sz4, sz5, sz6, sz7, sz8, sz9, sz10, sz11, sl0, sl1, sl2, sl3, sl4, sl5]
/-! ### reduced fractions -/
def frP (a b : Nat) : PV := .tup [.int ((a / Nat.gcd a b : Nat) : Int), .int ((b / Nat.gcd a b : Nat) : Int)]
theorem gcd_pos' {a b : Nat} (hb : 0 < b) : 0 < Nat.gcd a b := Nat.gcd_pos_of_pos_right _ hb
theorem gcd_le' {a b : Nat} (hb : 0 < b) : Nat.gcd a b ≤ b := Nat.le_of_dvd hb (Nat.gcd_dvd_right a b)
theorem divisor_ok (N : Nat) (a b : Nat) (hb : 0 < b) (hz : b < 2 ^ 29) (h : AH) : callN prog (N + 1) 0 [.v (.int a), .v (.int b)] h = some (.v (.int (Nat.gcd a b : Nat)), h) := by
  rw [u_divisor]
  have q := gcd_while (C := callN prog N) a b (by omega) [] h
  have g : ¬ ((Nat.gcd a b : Nat) : Int) = 0 := by have := gcd_pos' (a := a) hb; omega
  have hbd : evSs (callN prog N) f_divisor.body [iS a, iS b] h = some (.rt (.v (.int (Nat.gcd a b : Nat))) h) := by
    have q' : evS (callN prog N) (.whil gcdT L_divisor_0) [iS a, iS b] h = some (.nx [iS (Nat.gcd a b : Nat), iS 0] h) := q
    show evSs _ (.cons (.whil gcdT L_divisor_0) (.cons _ .nil)) _ _ = _
    rw [seq q']
    have hb' : ¬ b = 0 := by omega
    simp [f_divisor, S_divisor_0, L_divisor_0, S_divisor_1, S_divisor_2, evSs, evSs, evS, evE, evL, evT, evI, evD, asgT, rdVar, peek, part, sliceP, binP, binA, cmpP, truP, bltE, blt1, blt2, lenP, mkR, mkL, mkD, retn, pvs, SV.pv, wipeE, walkOf, itemsP, notD, idxP, isKey, keyEq, dlook, dhas, dput, dictEq, okDict, mthE, mthC, mthP, mthT, argsM, isLst, changes, isiTy, smallR, finL, finD, tupP, listP, dicP, onL, onS, min2P, max2P, blt3, argsN, revP, inP, isP, isNon, eqP, okD, plainD, plainDs, dep, deps, eqv, eqvs, beqI, beqS, atI_0, atI_1, atI_2, g, hb']
  exact runF_ret rfl hbd (by simp [retn])
theorem lgcd_ok (N : Nat) (a b : Nat) (hz : b < 2 ^ 29) (h : AH) : callN prog (N + 1) 19 [.v (.int a), .v (.int b)] h = some (.v (.int (Nat.gcd a b : Nat)), h) := by
  rw [u__law_gcd]
  have q := gcd_while (C := callN prog N) a b (by omega) [] h
  have hbd : evSs (callN prog N) f__law_gcd.body [iS a, iS b] h = some (.rt (.v (.int (Nat.gcd a b : Nat))) h) := by
    have q' : evS (callN prog N) (.whil gcdT L__law_gcd_0) [iS a, iS b] h = some (.nx [iS (Nat.gcd a b : Nat), iS 0] h) := q
    show evSs _ (.cons (.whil gcdT L__law_gcd_0) (.cons _ .nil)) _ _ = _
    rw [seq q']
    simp [f__law_gcd, S__law_gcd_0, L__law_gcd_0, S__law_gcd_1, S__law_gcd_2, evSs, evSs, evS, evE, evL, evT, evI, evD, asgT, rdVar, peek, part, sliceP, binP, binA, cmpP, truP, bltE, blt1, blt2, lenP, mkR, mkL, mkD, retn, pvs, SV.pv, wipeE, walkOf, itemsP, notD, idxP, isKey, keyEq, dlook, dhas, dput, dictEq, okDict, mthE, mthC, mthP, mthT, argsM, isLst, changes, isiTy, smallR, finL, finD, tupP, listP, dicP, onL, onS, min2P, max2P, blt3, argsN, revP, inP, isP, isNon, eqP, okD, plainD, plainDs, dep, deps, eqv, eqvs, beqI, beqS, atI_0, atI_1, atI_2]
  exact runF_ret rfl hbd (by simp [retn])
theorem frac_ok (N : Nat) (a b : Nat) (hb : 0 < b) (hz : b < 2 ^ 29) (h : AH) : callN prog (N + 2) 1 [.v (.int a), .v (.int b)] h = some (.v (frP a b), h) := by
  rw [u_fraction]
  have g1 := gcd_pos' (a := a) hb
  have g2 := gcd_le' (a := a) hb
  have q := divisor_ok N a b hb hz h
  have n1 : ¬ ((a : Int) < 0) := by omega
  have n2 : ¬ ((b : Int) < 0) := by omega
  have n3 : (0 : Int) < (b : Int) := by omega
  have mo : mulOk ((Nat.gcd a b : Nat) : Int) 1 = true := by
    unfold mulOk
    rw [Bool.or_eq_true]
    right
    decide
  have d1 : (0 : Int) < ((Nat.gcd a b : Nat) : Int) := by omega
  have d2 : ((Nat.gcd a b : Nat) : Int) < 1073741824 := by omega
  simp [f_fraction, S_fraction_0, S_fraction_1, runF, startE, evSs, evS, evE, evL, evT, evI, evD, asgT, rdVar, peek, part, sliceP, binP, binA, cmpP, truP, bltE, blt1, blt2, lenP, mkR, mkL, mkD, retn, pvs, SV.pv, wipeE, walkOf, itemsP, notD, idxP, isKey, keyEq, dlook, dhas, dput, dictEq, okDict, mthE, mthC, mthP, mthT, argsM, isLst, changes, isiTy, smallR, finL, finD, tupP, listP, dicP, onL, onS, min2P, max2P, blt3, argsN, revP, inP, isP, isNon, eqP, okD, plainD, plainDs, dep, deps, eqv, eqvs, beqI, beqS, atI_0, atI_1, atI_2, n1, n2, q, hb, mo, d1, d2, g1, sz0, sz1, sz2, sz3, sz4, sz5, sz6, sz7, sz8, sz9, sz10, sz11, sl0, sl1, sl2, sl3, sl4, sl5, frP]
theorem part_ok (N : Nat) (a b : Nat) (hb : 0 < b) (hz : b < 2 ^ 29) (h : AH) : callN prog (N + 2) 20 [.v (.int a), .v (.int b)] h = some (.v (frP a b), h) := by
  rw [u__law_part]
  have g1 := gcd_pos' (a := a) hb
  have g2 := gcd_le' (a := a) hb
  have q := lgcd_ok N a b hz h
  have n1 : ¬ ((a : Int) < 0) := by omega
  have d1 : (0 : Int) < ((Nat.gcd a b : Nat) : Int) := by omega
  have d2 : ((Nat.gcd a b : Nat) : Int) < 1073741824 := by omega
  simp [f__law_part, S__law_part_0, S__law_part_1, runF, startE, evSs, evS, evE, evL, evT, evI, evD, asgT, rdVar, peek, part, sliceP, binP, binA, cmpP, truP, bltE, blt1, blt2, lenP, mkR, mkL, mkD, retn, pvs, SV.pv, wipeE, walkOf, itemsP, notD, idxP, isKey, keyEq, dlook, dhas, dput, dictEq, okDict, mthE, mthC, mthP, mthT, argsM, isLst, changes, isiTy, smallR, finL, finD, tupP, listP, dicP, onL, onS, min2P, max2P, blt3, argsN, revP, inP, isP, isNon, eqP, okD, plainD, plainDs, dep, deps, eqv, eqvs, beqI, beqS, atI_0, atI_1, atI_2, n1, q, hb, d1, d2, g1, sz0, sz1, sz2, sz3, sz4, sz5, sz6, sz7, sz8, sz9, sz10, sz11, sl0, sl1, sl2, sl3, sl4, sl5, frP]
theorem frP_scale (w a b : Nat) (hw : 0 < w) : frP (w * a) (w * b) = frP a b := by
  unfold frP
  rw [Nat.gcd_mul_left, Nat.mul_div_mul_left _ _ hw, Nat.mul_div_mul_left _ _ hw]
/-! ### the rest of the functions -/
theorem ints_of (l : List Int) : intsOf (l.map .int) = some l := by
  induction l with
  | nil => rfl
  | cons x l ih => simp [intsOf, ih]
theorem ints_map {α : Type} (f : α → Int) (l : List α) : intsOf (l.map fun x => PV.int (f x)) = some (l.map f) := by
  have := ints_of (l.map f)
  rw [List.map_map] at this
  exact this
theorem sum_const {α : Type} (c : Int) : ∀ l : List α, (l.map fun _ => c).sum = l.length * c
  | [] => by simp
  | x :: l => by
    rw [List.map_cons, List.sum_cons, sum_const c l, List.length_cons, Int.natCast_add, Int.add_mul]
    simp
    omega
theorem left_ok (N : Nat) (busy : List (Int × Int)) (hl : busy.length ≤ 1000) (e : Int) (t : Tl) (m : Nat) (row : List (Int × Int)) (hm : m ≤ 1000) (hrl : row.length ≤ 1000) (hr : ∀ p ∈ row, 0 ≤ p.1 ∧ p.1 < m) (h : AH) :
    callN prog (N + 2) 10 [.v (.tup (prs busy)), .v (.int e), .v (.tup (prs row)), .v (.tup ((List.replicate m t).map tlE))] h = some (.v (.int (((gf e busy 0).map fun p => p.2 - p.1).sum - row.length * t.l)), h) := by
  rw [u_left_over]
  have G := fun h => gaps_ok N busy hl e h
  have gl := gf_len e busy 0
  have c1 := comp_map (C := callN prog (N + 1)) (elt := .bin .sub (.var 6 false) (.var 5 false)) (own := [5, 6]) (tg := .tp [5, 6]) (it := .ex (.call 4 (.cons (.var 0 false) (.cons (.var 1 false) .nil)))) (e := [vS (.tup (prs busy)), iS e, vS (.tup (prs row)), vS (.tup ((List.replicate m t).map tlE)), none, none, none, none, none]) (h := h) (g := none) (gf e busy 0) prI (fun p => .int (p.2 - p.1))
    (by simp [evI, evE, evL, rdVar, G, walkOf, notD, itemsP]) (le_sz (by omega)) (fun _ => rfl) (fun p hp acc => ⟨_, rfl, by simp [runF, startE, evSs, evS, evE, evL, evT, evI, evD, asgT, rdVar, peek, part, sliceP, binP, binA, cmpP, truP, bltE, blt1, blt2, lenP, mkR, mkL, mkD, retn, pvs, SV.pv, wipeE, walkOf, itemsP, notD, idxP, isKey, keyEq, dlook, dhas, dput, dictEq, okDict, mthE, mthC, mthP, mthT, argsM, isLst, changes, isiTy, smallR, finL, finD, tupP, listP, dicP, onL, onS, min2P, max2P, blt3, argsN, revP, inP, isP, isNon, eqP, okD, plainD, plainDs, dep, deps, eqv, eqvs, beqI, beqS, atI_0, atI_1, atI_2]⟩)
  have c2 := comp_map (C := callN prog (N + 1)) (elt := .idx (.idx (.var 3 false) (.var 7 false)) (.lit (.int 2))) (own := [7, 8]) (tg := .tp [7, 8]) (it := .var 2 false) (e := [vS (.tup (prs busy)), iS e, vS (.tup (prs row)), vS (.tup ((List.replicate m t).map tlE)), iS ((gf e busy 0).map fun p => p.2 - p.1).sum, none, none, none, none]) (h := h) (g := none) row prI (fun _ => .int t.l)
    (by simp [evI, rdVar, walkOf, itemsP]) (le_sz (by omega)) (fun _ => rfl) (fun p hp acc => ⟨_, rfl, by
      obtain ⟨h0, h1⟩ := hr p hp
      have at1 : atI ((List.replicate m t).map tlE) p.1 = some (tlE t) := by
        have := tup_at ((List.replicate m t).map tlE) p.1.toNat (tlE t) (by
          rw [List.getElem?_map, List.getElem?_replicate, if_pos (by omega)]; rfl)
        rw [show ((p.1.toNat : Nat) : Int) = p.1 by omega] at this
        exact this
      have i2 : atI [PV.int t.f, PV.int t.t, PV.int t.l, PV.int t.w] 2 = some (.int t.l) := rfl
      rw [List.map_replicate] at at1
      simp only [tlE] at at1
      simp [runF, startE, evSs, evS, evE, evL, evT, evI, evD, asgT, rdVar, peek, part, sliceP, binP, binA, cmpP, truP, bltE, blt1, blt2, lenP, mkR, mkL, mkD, retn, pvs, SV.pv, wipeE, walkOf, itemsP, notD, idxP, isKey, keyEq, dlook, dhas, dput, dictEq, okDict, mthE, mthC, mthP, mthT, argsM, isLst, changes, isiTy, smallR, finL, finD, tupP, listP, dicP, onL, onS, min2P, max2P, blt3, argsN, revP, inP, isP, isNon, eqP, okD, plainD, plainDs, dep, deps, eqv, eqvs, beqI, beqS, atI_0, atI_1, atI_2, tlE, at1, i2]⟩)
  have s1 := ints_map (fun p : Int × Int => p.2 - p.1) (gf e busy 0)
  have s2 := ints_map (fun _ : Int × Int => t.l) row
  have s3 := sum_const t.l row
  have q0 : evS (callN prog (N + 1)) S_left_over_0 [vS (.tup (prs busy)), iS e, vS (.tup (prs row)), vS (.tup ((List.replicate m t).map tlE)), none, none, none, none, none] h = some (.nx [vS (.tup (prs busy)), iS e, vS (.tup (prs row)), vS (.tup ((List.replicate m t).map tlE)), iS ((gf e busy 0).map fun p => p.2 - p.1).sum, none, none, none, none] h) := by
    exact e_asg (e_blt1 c1 (by simp only [blt1, onS, s1, Option.map_some]) rfl)
  have q1 : evS (callN prog (N + 1)) S_left_over_1 [vS (.tup (prs busy)), iS e, vS (.tup (prs row)), vS (.tup ((List.replicate m t).map tlE)), iS ((gf e busy 0).map fun p => p.2 - p.1).sum, none, none, none, none] h = some (.rt (.v (.int (((gf e busy 0).map fun p => p.2 - p.1).sum - row.length * t.l))) h) := by
    refine e_ret (e_bin (p := .int ((gf e busy 0).map fun p => p.2 - p.1).sum) (by simp [evE, rdVar]) (e_blt1 c2 (r := .int (row.length * t.l)) (by simp only [blt1, onS, s2, Option.map_some, s3]) rfl) rfl)
  have hb : evSs (callN prog (N + 1)) f_left_over.body [vS (.tup (prs busy)), iS e, vS (.tup (prs row)), vS (.tup ((List.replicate m t).map tlE)), none, none, none, none, none] h = some (.rt (.v (.int (((gf e busy 0).map fun p => p.2 - p.1).sum - row.length * t.l))) h) := by
    show evSs _ (.cons _ (.cons _ .nil)) _ _ = _
    rw [seq q0, seqR q1]
  exact runF_ret rfl hb (by simp [retn])
end Ev

set_option Elab.async false
set_option linter.all false
set_option maxRecDepth 100000
set_option maxHeartbeats 1000000
namespace Ev
/-! ### a row that is told -/
theorem isnum_ok (N : Nat) (i : Int) (h : AH) : callN prog (N + 1) 2 [.v (.int i)] h = some (.v (.bl true), h) := by
  rw [u_is_number]; simp [f_is_number, S_is_number_0, runF, startE, evSs, evS, evE, evL, evT, evI, evD, asgT, rdVar, peek, part, sliceP, binP, binA, cmpP, truP, bltE, blt1, blt2, lenP, mkR, mkL, mkD, retn, pvs, SV.pv, wipeE, walkOf, itemsP, notD, idxP, isKey, keyEq, dlook, dhas, dput, dictEq, okDict, mthE, mthC, mthP, mthT, argsM, isLst, changes, isiTy, smallR, finL, finD, tupP, listP, dicP, onL, onS, min2P, max2P, blt3, argsN, revP, inP, isP, isNon, eqP, okD, plainD, plainDs, dep, deps, eqv, eqvs, beqI, beqS, atI_0, atI_1, atI_2]
theorem istup_ok (N : Nat) (xs : List PV) (i : Int) (h : AH) : callN prog (N + 1) 3 [.v (.tup xs), .v (.int i)] h = some (.v (.bl (decide ((xs.length : Int) = i))), h) := by
  rw [u_is_tuple_of]; simp [f_is_tuple_of, S_is_tuple_of_0, runF, startE, evSs, evS, evE, evL, evT, evI, evD, asgT, rdVar, peek, part, sliceP, binP, binA, cmpP, truP, bltE, blt1, blt2, lenP, mkR, mkL, mkD, retn, pvs, SV.pv, wipeE, walkOf, itemsP, notD, idxP, isKey, keyEq, dlook, dhas, dput, dictEq, okDict, mthE, mthC, mthP, mthT, argsM, isLst, changes, isiTy, smallR, finL, finD, tupP, listP, dicP, onL, onS, min2P, max2P, blt3, argsN, revP, inP, isP, isNon, eqP, okD, plainD, plainDs, dep, deps, eqv, eqvs, beqI, beqS, atI_0, atI_1, atI_2]
/-- the row goes on -/
def itl (G : List (Int × Int)) (t : Tl) (m : Nat) : Int → Int → List (Int × Int) → Bool
  | _, _, [] => true
  | now, last, (k, b) :: r => if ¬ (last < k ∧ k < m) ∨ b < now then false else if ¬ (t.f ≤ b ∧ b ≤ t.t) ∨ (G.any fun p => decide (p.1 ≤ b) && decide (b + t.l ≤ p.2)) = false then false else itl G t m (b + t.l) k r
structure IS where
  now : Int
  last : Int
  a : Option SV
  b : Option SV
  c : Option SV
  d : Option SV
  e : Option SV
  f : Option SV
def isE (B : PV) (e : Int) (T R : PV) (s : IS) : En := [vS B, iS e, vS T, vS R, iS s.now, iS s.last, s.a, s.b, s.c, s.d, s.e, s.f, none, none, none]
def isStep (G : List (Int × Int)) (t : Tl) (m : Nat) (h : AH) (s : IS) (p : Int × Int) : IS ⊕ (SV × AH) :=
  if ¬ (s.last < p.1 ∧ p.1 < m) ∨ p.2 < s.now then .inr (.v (.bl false), h) else
  if ¬ (t.f ≤ p.2 ∧ p.2 ≤ t.t) ∨ (G.any fun q => decide (q.1 ≤ p.2) && decide (p.2 + t.l ≤ q.2)) = false then .inr (.v (.bl false), h) else
  .inl ⟨p.2 + t.l, p.1, iS p.1, iS p.2, iS t.f, iS t.t, iS t.l, iS t.w⟩
theorem is_run (G : List (Int × Int)) (t : Tl) (m : Nat) (h : AH) : ∀ (l : List (Int × Int)) (s : IS), (itl G t m s.now s.last l = false ∧ runL (isStep G t m h) s l = .inr (.v (.bl false), h)) ∨ (itl G t m s.now s.last l = true ∧ ∃ s', runL (isStep G t m h) s l = .inl s')
  | [], s => .inr ⟨rfl, s, rfl⟩
  | (k, b) :: r, s => by
    by_cases h1 : ¬ (s.last < k ∧ k < m) ∨ b < s.now
    · exact .inl ⟨by rw [itl, if_pos h1], by simp only [runL, isStep, if_pos h1]⟩
    · by_cases h2 : ¬ (t.f ≤ b ∧ b ≤ t.t) ∨ (G.any fun q => decide (q.1 ≤ b) && decide (b + t.l ≤ q.2)) = false
      · exact .inl ⟨by rw [itl, if_neg h1, if_pos h2], by simp only [runL, isStep, if_neg h1, if_pos h2]⟩
      · rcases is_run G t m h r ⟨b + t.l, k, iS k, iS b, iS t.f, iS t.t, iS t.l, iS t.w⟩ with ⟨q1, q2⟩ | ⟨q1, s', q2⟩
        · exact .inl ⟨by rw [itl, if_neg h1, if_neg h2]; exact q1, by simp only [runL, isStep, if_neg h1, if_neg h2]; exact q2⟩
        · exact .inr ⟨by rw [itl, if_neg h1, if_neg h2]; exact q1, s', by simp only [runL, isStep, if_neg h1, if_neg h2]; exact q2⟩
theorem bls_of (l : List Bool) : blsOf (l.map .bl) = some l := by
  induction l with
  | nil => rfl
  | cons x l ih => simp [blsOf, ih]
theorem bls_map {α : Type} (f : α → Bool) (l : List α) : blsOf (l.map fun x => PV.bl (f x)) = some (l.map f) := by
  have := bls_of (l.map f)
  rw [List.map_map] at this
  exact this
theorem told_ok (N : Nat) (busy : List (Int × Int)) (hl : busy.length ≤ 1000) (e : Int) (t : Tl) (m : Nat) (row : List (Int × Int)) (hm : m ≤ 1000) (hrl : row.length ≤ 1000) (h : AH) :
    callN prog (N + 2) 9 [.v (.tup (prs busy)), .v (.int e), .v (.tup ((List.replicate m t).map tlE)), .v (.tup (prs row))] h = some (.v (.bl (itl (gf e busy 0) t m 0 (-1) row)), h) := by
  rw [u_is_told]
  have G := fun h => gaps_ok N busy hl e h
  have gl := gf_len e busy 0
  let T : PV := .tup ((List.replicate m t).map tlE)
  have c0 := comp_map (C := callN prog (N + 1)) (elt := .call 3 (.cons (.var 12 false) (.cons (.lit (.int 2)) .nil))) (own := [12]) (tg := .nm 12) (it := .var 3 false) (e := [vS (.tup (prs busy)), iS e, vS T, vS (.tup (prs row)), none, none, none, none, none, none, none, none, none, none, none]) (h := h) (g := none) row prI (fun _ => .bl true)
    (by simp [evI, rdVar, walkOf, itemsP]) (le_sz (by omega)) (fun _ => rfl) (fun p hp acc => ⟨_, rfl, by
      have q := istup_ok N [PV.int p.1, PV.int p.2] 2 (h ++ [.lst acc])
      simp [runF, startE, evSs, evS, evE, evL, evT, evI, evD, asgT, rdVar, peek, part, sliceP, binP, binA, cmpP, truP, bltE, blt1, blt2, lenP, mkR, mkL, mkD, retn, pvs, SV.pv, wipeE, walkOf, itemsP, notD, idxP, isKey, keyEq, dlook, dhas, dput, dictEq, okDict, mthE, mthC, mthP, mthT, argsM, isLst, changes, isiTy, smallR, finL, finD, tupP, listP, dicP, onL, onS, min2P, max2P, blt3, argsN, revP, inP, isP, isNon, eqP, okD, plainD, plainDs, dep, deps, eqv, eqvs, beqI, beqS, atI_0, atI_1, atI_2, prI, q]⟩)
  have al : blt1 .all (.lst (row.map fun _ => PV.bl true)) = some (.bl true) := by
    have := bls_map (fun _ : Int × Int => true) row
    simp only [blt1, onL, this, Option.map_some]
    simp
  have q0 : evS (callN prog (N + 1)) S_is_told_0 [vS (.tup (prs busy)), iS e, vS T, vS (.tup (prs row)), none, none, none, none, none, none, none, none, none, none, none] h = some (.nx [vS (.tup (prs busy)), iS e, vS T, vS (.tup (prs row)), none, none, none, none, none, none, none, none, none, none, none] h) :=
    s_skip (t_or (h1 := h) (by simp [evT, evE, rdVar, peek, isiTy, truP]) (t_nt (t_no (e_blt1 c0 al rfl))))
  have q1 : evS (callN prog (N + 1)) S_is_told_1 [vS (.tup (prs busy)), iS e, vS T, vS (.tup (prs row)), none, none, none, none, none, none, none, none, none, none, none] h = some (.nx (isE (.tup (prs busy)) e T (.tup (prs row)) ⟨0, -1, none, none, none, none, none, none⟩) h) := by
    simp [S_is_told_1, runF, startE, evSs, evS, evE, evL, evT, evI, evD, asgT, rdVar, peek, part, sliceP, binP, binA, cmpP, truP, bltE, blt1, blt2, lenP, mkR, mkL, mkD, retn, pvs, SV.pv, wipeE, walkOf, itemsP, notD, idxP, isKey, keyEq, dlook, dhas, dput, dictEq, okDict, mthE, mthC, mthP, mthT, argsM, isLst, changes, isiTy, smallR, finL, finD, tupP, listP, dicP, onL, onS, min2P, max2P, blt3, argsN, revP, inP, isP, isNon, eqP, okD, plainD, plainDs, dep, deps, eqv, eqvs, beqI, beqS, atI_0, atI_1, atI_2, isE]
  have q2 := for_step (C := callN prog (N + 1)) (t := .tp [6, 7]) (it := .var 3 false) (b := L_is_told_0) (e := isE (.tup (prs busy)) e T (.tup (prs row)) ⟨0, -1, none, none, none, none, none, none⟩) (h := h) (h1 := h) (g := none) row prI (isE (.tup (prs busy)) e T (.tup (prs row))) (fun _ => h) (isStep (gf e busy 0) t m h) ⟨0, -1, none, none, none, none, none, none⟩
    (fun s _ => -1 ≤ s.last) (by simp) (by simp [evI, isE, rdVar, walkOf, itemsP]) rfl rfl (fun s => rfl) (fun p r s hi => by
      obtain ⟨k, b⟩ := p
      have n1 := isnum_ok N k h
      have n2 := isnum_ok N b h
      let e1 : En := [vS (.tup (prs busy)), iS e, vS T, vS (.tup (prs row)), iS s.now, iS s.last, iS k, iS b, s.c, s.d, s.e, s.f, none, none, none]
      refine ⟨⟨e1, rfl, ?_⟩, fun s' hs => ?_⟩
      · by_cases h1 : ¬ (s.last < k ∧ k < m) ∨ b < s.now
        · have b1 : evS (callN prog (N + 1)) S_is_told_2 e1 h = some (.rt (.v (.bl false)) h) := by
            by_cases x1 : s.last < k
            · by_cases x2 : k < m
              · have x3 : b < s.now := h1.resolve_left fun z => z ⟨x1, x2⟩
                simp [S_is_told_2, e1, T, runF, startE, evSs, evS, evE, evL, evT, evI, evD, asgT, rdVar, peek, part, sliceP, binP, binA, cmpP, truP, bltE, blt1, blt2, lenP, mkR, mkL, mkD, retn, pvs, SV.pv, wipeE, walkOf, itemsP, notD, idxP, isKey, keyEq, dlook, dhas, dput, dictEq, okDict, mthE, mthC, mthP, mthT, argsM, isLst, changes, isiTy, smallR, finL, finD, tupP, listP, dicP, onL, onS, min2P, max2P, blt3, argsN, revP, inP, isP, isNon, eqP, okD, plainD, plainDs, dep, deps, eqv, eqvs, beqI, beqS, atI_0, atI_1, atI_2, n1, n2, x1, x2, x3]
              · simp [S_is_told_2, e1, T, runF, startE, evSs, evS, evE, evL, evT, evI, evD, asgT, rdVar, peek, part, sliceP, binP, binA, cmpP, truP, bltE, blt1, blt2, lenP, mkR, mkL, mkD, retn, pvs, SV.pv, wipeE, walkOf, itemsP, notD, idxP, isKey, keyEq, dlook, dhas, dput, dictEq, okDict, mthE, mthC, mthP, mthT, argsM, isLst, changes, isiTy, smallR, finL, finD, tupP, listP, dicP, onL, onS, min2P, max2P, blt3, argsN, revP, inP, isP, isNon, eqP, okD, plainD, plainDs, dep, deps, eqv, eqvs, beqI, beqS, atI_0, atI_1, atI_2, n1, n2, x1, x2]
            · simp [S_is_told_2, e1, T, runF, startE, evSs, evS, evE, evL, evT, evI, evD, asgT, rdVar, peek, part, sliceP, binP, binA, cmpP, truP, bltE, blt1, blt2, lenP, mkR, mkL, mkD, retn, pvs, SV.pv, wipeE, walkOf, itemsP, notD, idxP, isKey, keyEq, dlook, dhas, dput, dictEq, okDict, mthE, mthC, mthP, mthT, argsM, isLst, changes, isiTy, smallR, finL, finD, tupP, listP, dicP, onL, onS, min2P, max2P, blt3, argsN, revP, inP, isP, isNon, eqP, okD, plainD, plainDs, dep, deps, eqv, eqvs, beqI, beqS, atI_0, atI_1, atI_2, n1, n2, x1]
          rw [L_is_told_0, seqR b1, isStep, if_pos h1]; rfl
        · have x1 : s.last < k ∧ k < m := Classical.not_not.mp fun z => h1 (.inl z)
          have x3 : ¬ b < s.now := fun z => h1 (.inr z)
          have b1 : evS (callN prog (N + 1)) S_is_told_2 e1 h = some (.nx e1 h) := by
            simp [S_is_told_2, e1, T, runF, startE, evSs, evS, evE, evL, evT, evI, evD, asgT, rdVar, peek, part, sliceP, binP, binA, cmpP, truP, bltE, blt1, blt2, lenP, mkR, mkL, mkD, retn, pvs, SV.pv, wipeE, walkOf, itemsP, notD, idxP, isKey, keyEq, dlook, dhas, dput, dictEq, okDict, mthE, mthC, mthP, mthT, argsM, isLst, changes, isiTy, smallR, finL, finD, tupP, listP, dicP, onL, onS, min2P, max2P, blt3, argsN, revP, inP, isP, isNon, eqP, okD, plainD, plainDs, dep, deps, eqv, eqvs, beqI, beqS, atI_0, atI_1, atI_2, n1, n2, x1, x3]
          have at1 : atI ((List.replicate m t).map tlE) k = some (tlE t) := by
            have := tup_at ((List.replicate m t).map tlE) k.toNat (tlE t) (by
              rw [List.getElem?_map, List.getElem?_replicate, if_pos (by omega)]; rfl)
            rw [show ((k.toNat : Nat) : Int) = k by omega] at this
            exact this
          let e2 : En := [vS (.tup (prs busy)), iS e, vS T, vS (.tup (prs row)), iS s.now, iS s.last, iS k, iS b, iS t.f, iS t.t, iS t.l, iS t.w, none, none, none]
          have b2 : evS (callN prog (N + 1)) S_is_told_3 e1 h = some (.nx e2 h) := by
            rw [List.map_replicate] at at1
            simp only [tlE] at at1
            simp [S_is_told_3, e1, e2, T, runF, startE, evSs, evS, evE, evL, evT, evI, evD, asgT, rdVar, peek, part, sliceP, binP, binA, cmpP, truP, bltE, blt1, blt2, lenP, mkR, mkL, mkD, retn, pvs, SV.pv, wipeE, walkOf, itemsP, notD, idxP, isKey, keyEq, dlook, dhas, dput, dictEq, okDict, mthE, mthC, mthP, mthT, argsM, isLst, changes, isiTy, smallR, finL, finD, tupP, listP, dicP, onL, onS, min2P, max2P, blt3, argsN, revP, inP, isP, isNon, eqP, okD, plainD, plainDs, dep, deps, eqv, eqvs, beqI, beqS, atI_0, atI_1, atI_2, tlE, at1]
          have c1 := comp_map (C := callN prog (N + 1)) (elt := .boo true (.cmp .le (.var 13 false) (.var 7 false)) (.cmp .le (.bin .add (.var 7 false) (.var 10 false)) (.var 14 false))) (own := [13, 14]) (tg := .tp [13, 14]) (it := .ex (.call 4 (.cons (.var 0 false) (.cons (.var 1 false) .nil)))) (e := e2) (h := h) (g := none) (gf e busy 0) prI (fun q => .bl (decide (q.1 ≤ b) && decide (b + t.l ≤ q.2)))
            (by simp [evI, e2, evE, evL, rdVar, G, walkOf, notD, itemsP]) (le_sz (by omega)) (fun _ => rfl) (fun p hp acc => ⟨_, rfl, by
              by_cases z : p.1 ≤ b
              · simp [e2, runF, startE, evSs, evS, evE, evL, evT, evI, evD, asgT, rdVar, peek, part, sliceP, binP, binA, cmpP, truP, bltE, blt1, blt2, lenP, mkR, mkL, mkD, retn, pvs, SV.pv, wipeE, walkOf, itemsP, notD, idxP, isKey, keyEq, dlook, dhas, dput, dictEq, okDict, mthE, mthC, mthP, mthT, argsM, isLst, changes, isiTy, smallR, finL, finD, tupP, listP, dicP, onL, onS, min2P, max2P, blt3, argsN, revP, inP, isP, isNon, eqP, okD, plainD, plainDs, dep, deps, eqv, eqvs, beqI, beqS, atI_0, atI_1, atI_2, z]
              · simp [e2, runF, startE, evSs, evS, evE, evL, evT, evI, evD, asgT, rdVar, peek, part, sliceP, binP, binA, cmpP, truP, bltE, blt1, blt2, lenP, mkR, mkL, mkD, retn, pvs, SV.pv, wipeE, walkOf, itemsP, notD, idxP, isKey, keyEq, dlook, dhas, dput, dictEq, okDict, mthE, mthC, mthP, mthT, argsM, isLst, changes, isiTy, smallR, finL, finD, tupP, listP, dicP, onL, onS, min2P, max2P, blt3, argsN, revP, inP, isP, isNon, eqP, okD, plainD, plainDs, dep, deps, eqv, eqvs, beqI, beqS, atI_0, atI_1, atI_2, z]⟩)
          have an : blt1 .any (.lst ((gf e busy 0).map fun q => PV.bl (decide (q.1 ≤ b) && decide (b + t.l ≤ q.2)))) = some (.bl ((gf e busy 0).any fun q => decide (q.1 ≤ b) && decide (b + t.l ≤ q.2))) := by
            have := bls_map (fun q : Int × Int => decide (q.1 ≤ b) && decide (b + t.l ≤ q.2)) (gf e busy 0)
            simp only [blt1, onL, this, Option.map_some]
            rw [List.any_map]; rfl
          have t1 : evT (callN prog (N + 1)) (.not (.of (.cmp2 .le .le (.var 8 false) (.var 7 false) (.var 9 false)))) e2 h = some (!decide (t.f ≤ b ∧ b ≤ t.t), h) := by
            by_cases z1 : t.f ≤ b
            · by_cases z2 : b ≤ t.t <;> simp [e2, runF, startE, evSs, evS, evE, evL, evT, evI, evD, asgT, rdVar, peek, part, sliceP, binP, binA, cmpP, truP, bltE, blt1, blt2, lenP, mkR, mkL, mkD, retn, pvs, SV.pv, wipeE, walkOf, itemsP, notD, idxP, isKey, keyEq, dlook, dhas, dput, dictEq, okDict, mthE, mthC, mthP, mthT, argsM, isLst, changes, isiTy, smallR, finL, finD, tupP, listP, dicP, onL, onS, min2P, max2P, blt3, argsN, revP, inP, isP, isNon, eqP, okD, plainD, plainDs, dep, deps, eqv, eqvs, beqI, beqS, atI_0, atI_1, atI_2, z1, z2]
            · simp [e2, runF, startE, evSs, evS, evE, evL, evT, evI, evD, asgT, rdVar, peek, part, sliceP, binP, binA, cmpP, truP, bltE, blt1, blt2, lenP, mkR, mkL, mkD, retn, pvs, SV.pv, wipeE, walkOf, itemsP, notD, idxP, isKey, keyEq, dlook, dhas, dput, dictEq, okDict, mthE, mthC, mthP, mthT, argsM, isLst, changes, isiTy, smallR, finL, finD, tupP, listP, dicP, onL, onS, min2P, max2P, blt3, argsN, revP, inP, isP, isNon, eqP, okD, plainD, plainDs, dep, deps, eqv, eqvs, beqI, beqS, atI_0, atI_1, atI_2, z1]
          by_cases h2 : ¬ (t.f ≤ b ∧ b ≤ t.t) ∨ ((gf e busy 0).any fun q => decide (q.1 ≤ b) && decide (b + t.l ≤ q.2)) = false
          · have b3 : evS (callN prog (N + 1)) S_is_told_4 e2 h = some (.rt (.v (.bl false)) h) := by
              have tt : evT (callN prog (N + 1)) (.boo false (.not (.of (.cmp2 .le .le (.var 8 false) (.var 7 false) (.var 9 false)))) (.not (.of (.blt false .any (.cons (.comp false (.boo true (.cmp .le (.var 13 false) (.var 7 false)) (.cmp .le (.bin .add (.var 7 false) (.var 10 false)) (.var 14 false))) [13, 14] (.tp [13, 14]) (.ex (.call 4 (.cons (.var 0 false) (.cons (.var 1 false) .nil)))) .yes) .nil))))) e2 h = some (true, h) := by
                by_cases z : t.f ≤ b ∧ b ≤ t.t
                · have z2 := h2.resolve_left fun y => y z
                  rw [z2] at an
                  rw [decide_eq_true z] at t1
                  exact t_or t1 (t_nf (t_no (e_blt1 c1 an rfl)))
                · rw [decide_eq_false z] at t1
                  exact t_orT t1
              rw [S_is_told_4, s_if tt]
              simp [evSs, evS, evE]
            rw [L_is_told_0, seq b1, seq b2, seqR b3, isStep, if_neg h1, if_pos h2]; rfl
          · have z : t.f ≤ b ∧ b ≤ t.t := Classical.not_not.mp fun z => h2 (.inl z)
            have z2 : ((gf e busy 0).any fun q => decide (q.1 ≤ b) && decide (b + t.l ≤ q.2)) = true := by
              rw [← Bool.not_eq_false]; exact fun z => h2 (.inr z)
            rw [z2] at an
            rw [decide_eq_true z] at t1
            have b3 : evS (callN prog (N + 1)) S_is_told_4 e2 h = some (.nx e2 h) := s_skip (t_or t1 (t_nt (t_no (e_blt1 c1 an rfl))))
            have b4 : evS (callN prog (N + 1)) S_is_told_5 e2 h = some (.nx [vS (.tup (prs busy)), iS e, vS T, vS (.tup (prs row)), iS (b + t.l), iS k, iS k, iS b, iS t.f, iS t.t, iS t.l, iS t.w, none, none, none] h) := by
              simp [S_is_told_5, e2, runF, startE, evSs, evS, evE, evL, evT, evI, evD, asgT, rdVar, peek, part, sliceP, binP, binA, cmpP, truP, bltE, blt1, blt2, lenP, mkR, mkL, mkD, retn, pvs, SV.pv, wipeE, walkOf, itemsP, notD, idxP, isKey, keyEq, dlook, dhas, dput, dictEq, okDict, mthE, mthC, mthP, mthT, argsM, isLst, changes, isiTy, smallR, finL, finD, tupP, listP, dicP, onL, onS, min2P, max2P, blt3, argsN, revP, inP, isP, isNon, eqP, okD, plainD, plainDs, dep, deps, eqv, eqvs, beqI, beqS, atI_0, atI_1, atI_2]
            rw [L_is_told_0, seq b1, seq b2, seq b3, seq b4, seqN, isStep, if_neg h1, if_neg h2]; rfl
      · unfold isStep at hs
        split at hs
        · cases hs
        · rename_i hx
          split at hs
          · cases hs
          · cases hs
            have : s.last < k ∧ k < m := Classical.not_not.mp fun z => hx (.inl z)
            show -1 ≤ k
            omega)
  rcases is_run (gf e busy 0) t m h row ⟨0, -1, none, none, none, none, none, none⟩ with ⟨w1, w2⟩ | ⟨w1, s', w2⟩
  · rw [w2] at q2
    have hb : evSs (callN prog (N + 1)) f_is_told.body [vS (.tup (prs busy)), iS e, vS T, vS (.tup (prs row)), none, none, none, none, none, none, none, none, none, none, none] h = some (.rt (.v (.bl false)) h) := by
      show evSs _ (.cons _ (.cons _ (.cons _ (.cons _ .nil)))) _ _ = _
      rw [seq q0, seq q1, S_is_told_6, seqR q2]
    rw [w1]
    exact runF_ret rfl hb (by simp [retn])
  · rw [w2] at q2
    have hb : evSs (callN prog (N + 1)) f_is_told.body [vS (.tup (prs busy)), iS e, vS T, vS (.tup (prs row)), none, none, none, none, none, none, none, none, none, none, none] h = some (.rt (.v (.bl true)) h) := by
      show evSs _ (.cons _ (.cons _ (.cons _ (.cons _ .nil)))) _ _ = _
      rw [seq q0, seq q1, S_is_told_6, seq q2]
      simp [S_is_told_7, evSs, evS, evE]
    rw [w1]
    exact runF_ret rfl hb (by simp [retn])
theorem told_lst (N : Nat) (B e T : SV) (xs : List PV) (h : AH) : callN prog (N + 1) 9 [B, e, T, .v (.lst xs)] h = some (.v (.bl false), h) := by
  rw [u_is_told]
  simp [f_is_told, S_is_told_0, S_is_told_1, S_is_told_2, S_is_told_3, S_is_told_4, S_is_told_5, L_is_told_0, S_is_told_6, S_is_told_7, runF, startE, evSs, evS, evE, evL, evT, evI, evD, asgT, rdVar, peek, part, sliceP, binP, binA, cmpP, truP, bltE, blt1, blt2, lenP, mkR, mkL, mkD, retn, pvs, SV.pv, wipeE, walkOf, itemsP, notD, idxP, isKey, keyEq, dlook, dhas, dput, dictEq, okDict, mthE, mthC, mthP, mthT, argsM, isLst, changes, isiTy, smallR, finL, finD, tupP, listP, dicP, onL, onS, min2P, max2P, blt3, argsN, revP, inP, isP, isNon, eqP, okD, plainD, plainDs, dep, deps, eqv, eqvs, beqI, beqS, atI_0, atI_1, atI_2]
end Ev

set_option Elab.async false
set_option linter.all false
set_option maxRecDepth 100000
set_option maxHeartbeats 1000000
namespace Ev
theorem at_tl (ts : List Tl) (k : Nat) (t : Tl) (hk : ts[k]? = some t) : atI (ts.map tlE) (k : Int) = some (tlE t) := tup_at _ _ _ (by rw [List.getElem?_map, hk]; rfl)
/-! ### how much shorter -/
def msF (G : List (Int × Int)) (t : Tl) : List Nat → Option Nat
  | [] => none
  | i :: r => if (bf ⟨t.f, t.t, t.l - i, t.w⟩ 0 G).isSome then some i else msF G t r
def oN : Option Nat → PV
  | none => .non
  | some i => .int i
def msE (B : PV) (e : Int) (T : PV) (k : Int) (t : Tl) (s : Option SV) : En := [vS B, iS e, vS T, iS k, iS t.f, iS t.t, iS t.l, iS t.w, s]
def msStep (G : List (Int × Int)) (t : Tl) (h : AH) (s : Option SV) (i : Nat) : Option SV ⊕ (SV × AH) :=
  if (bf ⟨t.f, t.t, t.l - i, t.w⟩ 0 G).isSome then .inr (.v (.int i), h) else .inl (iS i)
theorem ms_run (G : List (Int × Int)) (t : Tl) (h : AH) : ∀ (l : List Nat) (s : Option SV), (∃ b, msF G t l = some b ∧ runL (msStep G t h) s l = .inr (.v (.int b), h)) ∨ (msF G t l = none ∧ ∃ s', runL (msStep G t h) s l = .inl s')
  | [], s => .inr ⟨rfl, s, rfl⟩
  | i :: l, s => by
    by_cases hc : (bf ⟨t.f, t.t, t.l - i, t.w⟩ 0 G).isSome
    · exact .inl ⟨i, by rw [msF, if_pos hc], by simp only [runL, msStep, if_pos hc]⟩
    · rcases ms_run G t h l (iS i) with ⟨b, h1, h2⟩ | ⟨h1, s', h2⟩
      · exact .inl ⟨b, by rw [msF, if_neg hc]; exact h1, by simp only [runL, msStep, if_neg hc]; exact h2⟩
      · exact .inr ⟨by rw [msF, if_neg hc]; exact h1, s', by simp only [runL, msStep, if_neg hc]; exact h2⟩
theorem rngs_map (n : Nat) : rngs 0 n = (List.range n).map fun i : Nat => PV.int i := by
  unfold rngs
  apply List.map_congr_left
  intro i _
  rw [Int.zero_add]
theorem must_ok (N : Nat) (busy : List (Int × Int)) (hl : busy.length ≤ 1000) (e : Int) (ts : List Tl) (k : Nat) (t : Tl) (hk : ts[k]? = some t) (h0 : 0 ≤ t.l) (h1 : t.l ≤ 100000) (h : AH) :
    callN prog (N + 4) 11 [.v (.tup (prs busy)), .v (.int e), .v (.tup (ts.map tlE)), .v (.int k)] h = some (.v (oN (msF (gf e busy 0) t (List.range t.l.toNat))), h) := by
  rw [u_must_shorten]
  have a := at_tl ts k t hk
  have q0 : evS (callN prog (N + 3)) S_must_shorten_0 [vS (.tup (prs busy)), iS e, vS (.tup (ts.map tlE)), iS k, none, none, none, none, none] h = some (.nx (msE (.tup (prs busy)) e (.tup (ts.map tlE)) k t none) h) := by
    simp only [tlE] at a
    simp [S_must_shorten_0, runF, startE, evSs, evS, evE, evL, evT, evI, evD, asgT, rdVar, peek, part, sliceP, binP, binA, cmpP, truP, bltE, blt1, blt2, lenP, mkR, mkL, mkD, retn, pvs, SV.pv, wipeE, walkOf, itemsP, notD, idxP, isKey, keyEq, dlook, dhas, dput, dictEq, okDict, mthE, mthC, mthP, mthT, argsM, isLst, changes, isiTy, smallR, finL, finD, tupP, listP, dicP, onL, onS, min2P, max2P, blt3, argsN, revP, inP, isP, isNon, eqP, okD, plainD, plainDs, dep, deps, eqv, eqvs, beqI, beqS, atI_0, atI_1, atI_2, msE, tlE, a]
  have sm : smallR t.l = true := by
    unfold smallR
    rw [decide_eq_true (by omega), decide_eq_true (by omega)]; rfl
  have q1 := for_step (C := callN prog (N + 3)) (t := .nm 8) (it := .rng1 (.var 6 false)) (b := L_must_shorten_0) (e := msE (.tup (prs busy)) e (.tup (ts.map tlE)) k t none) (h := h) (h1 := h) (g := none) (List.range t.l.toNat) (fun i : Nat => PV.int i) (msE (.tup (prs busy)) e (.tup (ts.map tlE)) k t) (fun _ => h) (msStep (gf e busy 0) t h) none
    (fun _ _ => True) trivial (by simp [evI, msE, evE, rdVar, sm, rngs_map]) rfl rfl (fun _ => rfl) (fun i r s hi => by
      refine ⟨⟨msE (.tup (prs busy)) e (.tup (ts.map tlE)) k t (iS i), rfl, ?_⟩, fun s' hs => trivial⟩
      have c := can_ok N busy hl e ⟨t.f, t.t, t.l - i, t.w⟩ h
      simp only [tlE] at c
      cases hb : bf ⟨t.f, t.t, t.l - i, t.w⟩ 0 (gf e busy 0) with
      | none =>
        rw [hb] at c
        simp only [oI] at c
        simp [f_must_shorten, S_must_shorten_0, S_must_shorten_1, L_must_shorten_0, S_must_shorten_2, S_must_shorten_3, msE, msStep, flL, runF, startE, evSs, evS, evE, evL, evT, evI, evD, asgT, rdVar, peek, part, sliceP, binP, binA, cmpP, truP, bltE, blt1, blt2, lenP, mkR, mkL, mkD, retn, pvs, SV.pv, wipeE, walkOf, itemsP, notD, idxP, isKey, keyEq, dlook, dhas, dput, dictEq, okDict, mthE, mthC, mthP, mthT, argsM, isLst, changes, isiTy, smallR, finL, finD, tupP, listP, dicP, onL, onS, min2P, max2P, blt3, argsN, revP, inP, isP, isNon, eqP, okD, plainD, plainDs, dep, deps, eqv, eqvs, beqI, beqS, atI_0, atI_1, atI_2, sz0, sz1, sz2, sz3, sz4, sz5, sz6, sz7, sz8, sz9, sz10, sz11, sl0, sl1, sl2, sl3, sl4, sl5, c, hb]
      | some b =>
        rw [hb] at c
        simp only [oI] at c
        simp [f_must_shorten, S_must_shorten_0, S_must_shorten_1, L_must_shorten_0, S_must_shorten_2, S_must_shorten_3, msE, msStep, flL, runF, startE, evSs, evS, evE, evL, evT, evI, evD, asgT, rdVar, peek, part, sliceP, binP, binA, cmpP, truP, bltE, blt1, blt2, lenP, mkR, mkL, mkD, retn, pvs, SV.pv, wipeE, walkOf, itemsP, notD, idxP, isKey, keyEq, dlook, dhas, dput, dictEq, okDict, mthE, mthC, mthP, mthT, argsM, isLst, changes, isiTy, smallR, finL, finD, tupP, listP, dicP, onL, onS, min2P, max2P, blt3, argsN, revP, inP, isP, isNon, eqP, okD, plainD, plainDs, dep, deps, eqv, eqvs, beqI, beqS, atI_0, atI_1, atI_2, sz0, sz1, sz2, sz3, sz4, sz5, sz6, sz7, sz8, sz9, sz10, sz11, sl0, sl1, sl2, sl3, sl4, sl5, c, hb])
  rcases ms_run (gf e busy 0) t h (List.range t.l.toNat) none with ⟨b, h1, h2⟩ | ⟨h1, s', h2⟩
  · rw [h2] at q1
    have hb : evSs (callN prog (N + 3)) f_must_shorten.body [vS (.tup (prs busy)), iS e, vS (.tup (ts.map tlE)), iS k, none, none, none, none, none] h = some (.rt (.v (.int b)) h) := by
      show evSs _ (.cons _ (.cons _ (.cons _ .nil))) _ _ = _
      rw [seq q0, S_must_shorten_2, seqR q1]
    rw [h1]
    exact runF_ret rfl hb (by simp [retn, oN])
  · rw [h2] at q1
    have hb : evSs (callN prog (N + 3)) f_must_shorten.body [vS (.tup (prs busy)), iS e, vS (.tup (ts.map tlE)), iS k, none, none, none, none, none] h = some (.rt (.v .non) h) := by
      show evSs _ (.cons _ (.cons _ (.cons _ .nil))) _ _ = _
      rw [seq q0, S_must_shorten_2, seq q1]
      simp [S_must_shorten_3, evSs, evS, evE]
    rw [h1]
    exact runF_ret rfl hb (by simp [retn, oN])
/-! ### a pause -/
def wp (at' long : Int) (p : Int × Int) : Int × Int := if at' ≤ p.1 then (p.1 + long, p.2 + long) else (p.1, if at' < p.2 then p.2 + long else p.2)
structure WS where
  found : List (Int × Int)
  a : Option SV
  b : Option SV
def wsE (B : PV) (at' long : Int) (n : Nat) (s : WS) : En := [vS B, iS at', iS long, some (.o n), s.a, s.b]
def wsStep (at' long : Int) (s : WS) (p : Int × Int) : WS ⊕ (SV × AH) := .inl ⟨s.found ++ [wp at' long p], iS p.1, iS p.2⟩
theorem ws_run (at' long : Int) : ∀ (l : List (Int × Int)) (s : WS), ∃ a b, runL (wsStep at' long) s l = .inl ⟨s.found ++ l.map (wp at' long), a, b⟩
  | [], s => ⟨s.a, s.b, by simp [runL]⟩
  | p :: l, s => by
    obtain ⟨a, b, h⟩ := ws_run at' long l ⟨s.found ++ [wp at' long p], iS p.1, iS p.2⟩
    exact ⟨a, b, by simp only [runL, wsStep]; rw [show runL (wsStep at' long) _ l = _ from h]; simp⟩
theorem pause_ok (N : Nat) (busy : List (Int × Int)) (hl : busy.length ≤ 1000) (at' long : Int) (h : AH) : callN prog (N + 1) 12 [.v (.tup (prs busy)), .v (.int at'), .v (.int long)] h = some (.v (.tup (prs (busy.map (wp at' long)))), h) := by
  rw [u_with_pause]
  generalize callN prog N = C
  have q0 : evS C S_with_pause_0 [vS (.tup (prs busy)), iS at', iS long, none, none, none] h = some (.nx (wsE (.tup (prs busy)) at' long h.length ⟨[], none, none⟩) (h ++ [.lst (prs [])])) := by
    simp [S_with_pause_0, runF, startE, evSs, evS, evE, evL, evT, evI, evD, asgT, rdVar, peek, part, sliceP, binP, binA, cmpP, truP, bltE, blt1, blt2, lenP, mkR, mkL, mkD, retn, pvs, SV.pv, wipeE, walkOf, itemsP, notD, idxP, isKey, keyEq, dlook, dhas, dput, dictEq, okDict, mthE, mthC, mthP, mthT, argsM, isLst, changes, isiTy, smallR, finL, finD, tupP, listP, dicP, onL, onS, min2P, max2P, blt3, argsN, revP, inP, isP, isNon, eqP, okD, plainD, plainDs, dep, deps, eqv, eqvs, beqI, beqS, atI_0, atI_1, atI_2, wsE, sz0, sz1, sz2, sz3, sz4, sz5, sz6, sz7, sz8, sz9, sz10, sz11, sl0, sl1, sl2, sl3, sl4, sl5]
  have q1 := for_step (C := C) (t := .tp [4, 5]) (it := .var 0 false) (b := L_with_pause_0) (e := wsE (.tup (prs busy)) at' long h.length ⟨[], none, none⟩) (h := h ++ [.lst (prs [])]) (h1 := h ++ [.lst (prs [])]) (g := none) busy prI (wsE (.tup (prs busy)) at' long h.length) (fun s => h ++ [.lst (prs s.found)]) (wsStep at' long) ⟨[], none, none⟩
    (fun s r => s.found.length + r.length ≤ 1000) (by simpa using hl) (by simp [evI, wsE, rdVar, walkOf, itemsP]) rfl rfl (fun s => rfl) (fun p r s hi => by
      have z : s.found.length < SZ := lt_sz (by simp at hi; omega)
      refine ⟨⟨_, rfl, ?_⟩, fun s' hs => ?_⟩
      · by_cases hc : at' ≤ p.1
        · simp [f_with_pause, S_with_pause_0, S_with_pause_1, L_with_pause_0, S_with_pause_2, S_with_pause_3, wsE, wsStep, flL, runF, startE, evSs, evS, evE, evL, evT, evI, evD, asgT, rdVar, peek, part, sliceP, binP, binA, cmpP, truP, bltE, blt1, blt2, lenP, mkR, mkL, mkD, retn, pvs, SV.pv, wipeE, walkOf, itemsP, notD, idxP, isKey, keyEq, dlook, dhas, dput, dictEq, okDict, mthE, mthC, mthP, mthT, argsM, isLst, changes, isiTy, smallR, finL, finD, tupP, listP, dicP, onL, onS, min2P, max2P, blt3, argsN, revP, inP, isP, isNon, eqP, okD, plainD, plainDs, dep, deps, eqv, eqvs, beqI, beqS, atI_0, atI_1, atI_2, hc, prI, z, at_end, set_end, sz0, sz1, sz2, sz3, sz4, sz5, sz6, sz7, sz8, sz9, sz10, sz11, sl0, sl1, sl2, sl3, sl4, sl5, wp]
        · by_cases hc2 : at' < p.2
          · simp [f_with_pause, S_with_pause_0, S_with_pause_1, L_with_pause_0, S_with_pause_2, S_with_pause_3, wsE, wsStep, flL, runF, startE, evSs, evS, evE, evL, evT, evI, evD, asgT, rdVar, peek, part, sliceP, binP, binA, cmpP, truP, bltE, blt1, blt2, lenP, mkR, mkL, mkD, retn, pvs, SV.pv, wipeE, walkOf, itemsP, notD, idxP, isKey, keyEq, dlook, dhas, dput, dictEq, okDict, mthE, mthC, mthP, mthT, argsM, isLst, changes, isiTy, smallR, finL, finD, tupP, listP, dicP, onL, onS, min2P, max2P, blt3, argsN, revP, inP, isP, isNon, eqP, okD, plainD, plainDs, dep, deps, eqv, eqvs, beqI, beqS, atI_0, atI_1, atI_2, hc, hc2, prI, z, at_end, set_end, sz0, sz1, sz2, sz3, sz4, sz5, sz6, sz7, sz8, sz9, sz10, sz11, sl0, sl1, sl2, sl3, sl4, sl5, wp]
          · simp [f_with_pause, S_with_pause_0, S_with_pause_1, L_with_pause_0, S_with_pause_2, S_with_pause_3, wsE, wsStep, flL, runF, startE, evSs, evS, evE, evL, evT, evI, evD, asgT, rdVar, peek, part, sliceP, binP, binA, cmpP, truP, bltE, blt1, blt2, lenP, mkR, mkL, mkD, retn, pvs, SV.pv, wipeE, walkOf, itemsP, notD, idxP, isKey, keyEq, dlook, dhas, dput, dictEq, okDict, mthE, mthC, mthP, mthT, argsM, isLst, changes, isiTy, smallR, finL, finD, tupP, listP, dicP, onL, onS, min2P, max2P, blt3, argsN, revP, inP, isP, isNon, eqP, okD, plainD, plainDs, dep, deps, eqv, eqvs, beqI, beqS, atI_0, atI_1, atI_2, hc, hc2, prI, z, at_end, set_end, sz0, sz1, sz2, sz3, sz4, sz5, sz6, sz7, sz8, sz9, sz10, sz11, sl0, sl1, sl2, sl3, sl4, sl5, wp]
      · cases hs
        simp only [List.length_append, List.length_cons, List.length_nil] at hi ⊢
        omega)
  obtain ⟨a, b, h1⟩ := ws_run at' long busy ⟨[], none, none⟩
  rw [h1] at q1
  simp only [flL, List.nil_append] at q1
  have hb : evSs C f_with_pause.body [vS (.tup (prs busy)), iS at', iS long, none, none, none] h = some (.rt (.v (.tup (prs (busy.map (wp at' long))))) (h ++ [.frz (.lst (prs (busy.map (wp at' long))))])) := by
    show evSs _ (.cons _ (.cons _ (.cons _ .nil))) _ _ = _
    rw [seq q0, S_with_pause_2, seq q1]
    simp [S_with_pause_3, wsE, evSs, evS, evE, evL, evT, evI, evD, asgT, rdVar, peek, part, sliceP, binP, binA, cmpP, truP, bltE, blt1, blt2, lenP, mkR, mkL, mkD, retn, pvs, SV.pv, wipeE, walkOf, itemsP, notD, idxP, isKey, keyEq, dlook, dhas, dput, dictEq, okDict, mthE, mthC, mthP, mthT, argsM, isLst, changes, isiTy, smallR, finL, finD, tupP, listP, dicP, onL, onS, min2P, max2P, blt3, argsN, revP, inP, isP, isNon, eqP, okD, plainD, plainDs, dep, deps, eqv, eqvs, beqI, beqS, atI_0, atI_1, atI_2, evSs, at_end, set_end]
  exact runF_ret rfl hb (by simp [retn])
/-! ### the share, crowds -/
theorem share_ok (N : Nat) (busy : List (Int × Int)) (hl : busy.length ≤ 1000) (e : Int) (ts : List Tl) (h : AH) (hz : ts.length ≤ 1000) (a b : Nat) (hb : 0 < b) (hbz : b < 2 ^ 29) (ha : -(rf (gf e busy 0) ts 0 0).1 = a) (hw : (ts.map (·.w)).sum = b) :
    callN prog (N + 5 + ts.length) 13 [.v (.tup (prs busy)), .v (.int e), .v (.tup (ts.map tlE))] h = some (.v (frP a b), h) := by
  rw [show N + 5 + ts.length = (N + 4 + ts.length) + 1 by omega, u_told_share]
  have c0 := comp_map (C := callN prog (N + 4 + ts.length)) (elt := .idx (.var 4 false) (.lit (.int 3))) (own := [4]) (tg := .nm 4) (it := .var 2 false) (e := [vS (.tup (prs busy)), iS e, vS (.tup (ts.map tlE)), none, none]) (h := h) (g := none) ts tlE (fun t => .int t.w)
    (by simp [evI, rdVar, walkOf, itemsP]) (le_sz (by omega)) (fun _ => rfl) (fun p hp acc => ⟨_, rfl, by
      have i3 : atI [PV.int p.f, PV.int p.t, PV.int p.l, PV.int p.w] 3 = some (.int p.w) := rfl
      simp [runF, startE, evSs, evS, evE, evL, evT, evI, evD, asgT, rdVar, peek, part, sliceP, binP, binA, cmpP, truP, bltE, blt1, blt2, lenP, mkR, mkL, mkD, retn, pvs, SV.pv, wipeE, walkOf, itemsP, notD, idxP, isKey, keyEq, dlook, dhas, dput, dictEq, okDict, mthE, mthC, mthP, mthT, argsM, isLst, changes, isiTy, smallR, finL, finD, tupP, listP, dicP, onL, onS, min2P, max2P, blt3, argsN, revP, inP, isP, isNon, eqP, okD, plainD, plainDs, dep, deps, eqv, eqvs, beqI, beqS, atI_0, atI_1, atI_2, tlE, i3]⟩)
  have s1 := ints_map (fun t : Tl => t.w) ts
  have q0 : evS (callN prog (N + 4 + ts.length)) S_told_share_0 [vS (.tup (prs busy)), iS e, vS (.tup (ts.map tlE)), none, none] h = some (.nx [vS (.tup (prs busy)), iS e, vS (.tup (ts.map tlE)), iS b, none] h) :=
    e_asg (e_blt1 c0 (r := .int b) (by simp only [blt1, onS, s1, Option.map_some, hw]) rfl)
  have be := best_ok N busy hl e ts h hz
  have fr := frac_ok (N + 2 + ts.length) a b hb hbz h
  rw [show N + 2 + ts.length + 2 = N + 4 + ts.length by omega] at fr
  rw [ha] at be
  have hb' : (0 : Int) < (b : Int) := by omega
  have q1 : evS (callN prog (N + 4 + ts.length)) S_told_share_1 [vS (.tup (prs busy)), iS e, vS (.tup (ts.map tlE)), iS b, none] h = some (.rt (.v (frP a b)) h) := by
    simp [S_told_share_1, runF, startE, evSs, evS, evE, evL, evT, evI, evD, asgT, rdVar, peek, part, sliceP, binP, binA, cmpP, truP, bltE, blt1, blt2, lenP, mkR, mkL, mkD, retn, pvs, SV.pv, wipeE, walkOf, itemsP, notD, idxP, isKey, keyEq, dlook, dhas, dput, dictEq, okDict, mthE, mthC, mthP, mthT, argsM, isLst, changes, isiTy, smallR, finL, finD, tupP, listP, dicP, onL, onS, min2P, max2P, blt3, argsN, revP, inP, isP, isNon, eqP, okD, plainD, plainDs, dep, deps, eqv, eqvs, beqI, beqS, atI_0, atI_1, atI_2, hb, be, fr]
  have hbd : evSs (callN prog (N + 4 + ts.length)) f_told_share.body [vS (.tup (prs busy)), iS e, vS (.tup (ts.map tlE)), none, none] h = some (.rt (.v (frP a b)) h) := by
    show evSs _ (.cons _ (.cons _ .nil)) _ _ = _
    rw [seq q0, seqR q1]
  exact runF_ret rfl hbd (by simp [retn])
theorem share0_ok (N : Nat) (busy : List (Int × Int)) (e : Int) (ts : List Tl) (h : AH) (hz : ts.length ≤ 1000) (hw : (ts.map (·.w)).sum = 0) :
    callN prog (N + 1) 13 [.v (.tup (prs busy)), .v (.int e), .v (.tup (ts.map tlE))] h = some (.v (.tup [.int 1, .int 1]), h) := by
  rw [u_told_share]
  have c0 := comp_map (C := callN prog N) (elt := .idx (.var 4 false) (.lit (.int 3))) (own := [4]) (tg := .nm 4) (it := .var 2 false) (e := [vS (.tup (prs busy)), iS e, vS (.tup (ts.map tlE)), none, none]) (h := h) (g := none) ts tlE (fun t => .int t.w)
    (by simp [evI, rdVar, walkOf, itemsP]) (le_sz (by omega)) (fun _ => rfl) (fun p hp acc => ⟨_, rfl, by
      have i3 : atI [PV.int p.f, PV.int p.t, PV.int p.l, PV.int p.w] 3 = some (.int p.w) := rfl
      simp [runF, startE, evSs, evS, evE, evL, evT, evI, evD, asgT, rdVar, peek, part, sliceP, binP, binA, cmpP, truP, bltE, blt1, blt2, lenP, mkR, mkL, mkD, retn, pvs, SV.pv, wipeE, walkOf, itemsP, notD, idxP, isKey, keyEq, dlook, dhas, dput, dictEq, okDict, mthE, mthC, mthP, mthT, argsM, isLst, changes, isiTy, smallR, finL, finD, tupP, listP, dicP, onL, onS, min2P, max2P, blt3, argsN, revP, inP, isP, isNon, eqP, okD, plainD, plainDs, dep, deps, eqv, eqvs, beqI, beqS, atI_0, atI_1, atI_2, tlE, i3]⟩)
  have s1 := ints_map (fun t : Tl => t.w) ts
  have q0 : evS (callN prog N) S_told_share_0 [vS (.tup (prs busy)), iS e, vS (.tup (ts.map tlE)), none, none] h = some (.nx [vS (.tup (prs busy)), iS e, vS (.tup (ts.map tlE)), iS 0, none] h) :=
    e_asg (e_blt1 c0 (r := .int 0) (by simp only [blt1, onS, s1, Option.map_some, hw]) rfl)
  have q1 : evS (callN prog N) S_told_share_1 [vS (.tup (prs busy)), iS e, vS (.tup (ts.map tlE)), iS 0, none] h = some (.rt (.v (.tup [.int 1, .int 1])) h) := by
    simp [S_told_share_1, runF, startE, evSs, evS, evE, evL, evT, evI, evD, asgT, rdVar, peek, part, sliceP, binP, binA, cmpP, truP, bltE, blt1, blt2, lenP, mkR, mkL, mkD, retn, pvs, SV.pv, wipeE, walkOf, itemsP, notD, idxP, isKey, keyEq, dlook, dhas, dput, dictEq, okDict, mthE, mthC, mthP, mthT, argsM, isLst, changes, isiTy, smallR, finL, finD, tupP, listP, dicP, onL, onS, min2P, max2P, blt3, argsN, revP, inP, isP, isNon, eqP, okD, plainD, plainDs, dep, deps, eqv, eqvs, beqI, beqS, atI_0, atI_1, atI_2, sz0, sz1, sz2, sz3, sz4, sz5, sz6, sz7, sz8, sz9, sz10, sz11, sl0, sl1, sl2, sl3, sl4, sl5]
  have hbd : evSs (callN prog N) f_told_share.body [vS (.tup (prs busy)), iS e, vS (.tup (ts.map tlE)), none, none] h = some (.rt (.v (.tup [.int 1, .int 1])) h) := by
    show evSs _ (.cons _ (.cons _ .nil)) _ _ = _
    rw [seq q0, seqR q1]
  exact runF_ret rfl hbd (by simp [retn])
def crd (m : Int) (t : Tl) : Bool := decide (t.f ≤ m) && decide (m < t.t + t.l)
theorem crowd_ok (N : Nat) (ts : List Tl) (m : Int) (hz : ts.length ≤ 1000) (h : AH) : callN prog (N + 1) 14 [.v (.tup (ts.map tlE)), .v (.int m)] h = some (.v (.int ((ts.filter (crd m)).length : Nat)), h) := by
  rw [u_crowding]
  have c0 := comp_fm (C := callN prog N) (elt := .lit (.int 1)) (own := [2, 3, 4, 5]) (tg := .tp [2, 3, 4, 5]) (it := .var 0 false) (ifs := .of (.cmp2 .le .lt (.var 2 false) (.var 1 false) (.bin .add (.var 3 false) (.var 4 false)))) (e := [vS (.tup (ts.map tlE)), iS m, none, none, none, none]) (h := h) (g := none) ts tlE (fun t => if crd m t then some (.int 1) else none)
    (by simp [evI, rdVar, walkOf, itemsP]) (le_sz (by omega)) (fun _ => rfl) (fun t ht acc => ⟨_, rfl, by
      by_cases h1 : t.f ≤ m
      · by_cases h2 : m < t.t + t.l
        · right
          exact ⟨.int 1, by simp [crd, h1, h2], by simp [runF, startE, evSs, evS, evE, evL, evT, evI, evD, asgT, rdVar, peek, part, sliceP, binP, binA, cmpP, truP, bltE, blt1, blt2, lenP, mkR, mkL, mkD, retn, pvs, SV.pv, wipeE, walkOf, itemsP, notD, idxP, isKey, keyEq, dlook, dhas, dput, dictEq, okDict, mthE, mthC, mthP, mthT, argsM, isLst, changes, isiTy, smallR, finL, finD, tupP, listP, dicP, onL, onS, min2P, max2P, blt3, argsN, revP, inP, isP, isNon, eqP, okD, plainD, plainDs, dep, deps, eqv, eqvs, beqI, beqS, atI_0, atI_1, atI_2, tlE, h1, h2], by simp [evE]⟩
        · left
          exact ⟨by simp [crd, h1, h2], by simp [runF, startE, evSs, evS, evE, evL, evT, evI, evD, asgT, rdVar, peek, part, sliceP, binP, binA, cmpP, truP, bltE, blt1, blt2, lenP, mkR, mkL, mkD, retn, pvs, SV.pv, wipeE, walkOf, itemsP, notD, idxP, isKey, keyEq, dlook, dhas, dput, dictEq, okDict, mthE, mthC, mthP, mthT, argsM, isLst, changes, isiTy, smallR, finL, finD, tupP, listP, dicP, onL, onS, min2P, max2P, blt3, argsN, revP, inP, isP, isNon, eqP, okD, plainD, plainDs, dep, deps, eqv, eqvs, beqI, beqS, atI_0, atI_1, atI_2, tlE, h1, h2]⟩
      · left
        exact ⟨by simp [crd, h1], by simp [runF, startE, evSs, evS, evE, evL, evT, evI, evD, asgT, rdVar, peek, part, sliceP, binP, binA, cmpP, truP, bltE, blt1, blt2, lenP, mkR, mkL, mkD, retn, pvs, SV.pv, wipeE, walkOf, itemsP, notD, idxP, isKey, keyEq, dlook, dhas, dput, dictEq, okDict, mthE, mthC, mthP, mthT, argsM, isLst, changes, isiTy, smallR, finL, finD, tupP, listP, dicP, onL, onS, min2P, max2P, blt3, argsN, revP, inP, isP, isNon, eqP, okD, plainD, plainDs, dep, deps, eqv, eqvs, beqI, beqS, atI_0, atI_1, atI_2, tlE, h1]⟩⟩)
  have e1 : ∀ l : List Tl, (l.filterMap fun t => if crd m t then some (PV.int 1) else none).length = (l.filter (crd m)).length := by
    intro l
    induction l with
    | nil => rfl
    | cons t l ih =>
      by_cases hc : crd m t
      · rw [List.filterMap_cons, if_pos hc, List.filter_cons, if_pos hc, List.length_cons, List.length_cons, ih]
      · rw [List.filterMap_cons, if_neg hc, List.filter_cons, if_neg hc]; exact ih
  have q1 : evS (callN prog N) S_crowding_0 [vS (.tup (ts.map tlE)), iS m, none, none, none, none] h = some (.rt (.v (.int ((ts.filter (crd m)).length : Nat))) h) :=
    e_ret (e_blt1 c0 (r := .int ((ts.filter (crd m)).length : Nat)) (by simp only [blt1, lenP, e1]) rfl)
  have hbd : evSs (callN prog N) f_crowding.body [vS (.tup (ts.map tlE)), iS m, none, none, none, none] h = some (.rt (.v (.int ((ts.filter (crd m)).length : Nat))) h) := by
    show evSs _ (.cons _ .nil) _ _ = _
    rw [seqR q1]
  exact runF_ret rfl hbd (by simp [retn])
theorem nx_ok (n : Nat) (ds : List Int) (k : Nat) (m : Int) (hr : AH) (hm : 0 < m) : callN prog (n + 1) 16 [.o 0, .v (.int m)] (Wc ds k :: hr) = some (.v (.int (nx ds k m)), Wc ds (k + 1) :: hr) := by
  rw [u__law_next]; exact next_ok ds k m hm hr
theorem sm_ok (n : Nat) (p : PV) (h : AH) (hp : sok p = true) (hn : nodes p < 100000) : callN prog (n + 1) 18 [.v p, .v p] h = some (.v (.bl true), h) := by
  rw [u__law_same]; exact same_ok p hp hn h
theorem pick_ok (n : Nat) (ds : List Int) (k : Nat) (xs : List PV) (x : PV) (hx : 0 < xs.length) (hx2 : xs[(nx ds k xs.length).toNat]? = some x) (hr : AH) : callN prog (n + 2) 17 [.o 0, .v (.lst xs)] (Wc ds k :: hr) = some (.v x, Wc ds (k + 1) :: hr) := by
  rw [u__law_pick]
  have q := nx_ok n ds k xs.length hr (by omega)
  have a := tup_at xs _ x hx2
  rw [show (((nx ds k xs.length).toNat : Nat) : Int) = nx ds k xs.length by have := nx_lo ds k (m := xs.length) (by omega); omega] at a
  have w : ∀ z, rdVar false (Wc ds z :: hr) (.o 0) = some (.o 0, Wc ds z :: hr) := fun z => rfl
  have sE : startE f__law_pick [.o 0, .v (.lst xs)] = [some (.o 0), vS (.lst xs)] := rfl
  have hbd : evSs (callN prog (n + 1)) f__law_pick.body [some (.o 0), vS (.lst xs)] (Wc ds k :: hr) = some (.rt (.v x) (Wc ds (k + 1) :: hr)) := by
    simp [f__law_pick, S__law_pick_0, evSs, evS, evE, evL, w, w42, bltE, peek, blt1, lenP, mkR, q, idxP, a]
  exact runF_ret rfl hbd (by simp [retn])
end Ev

set_option Elab.async false
set_option linter.all false
set_option maxRecDepth 100000
set_option maxHeartbeats 1000000
namespace Ev
/-! ### even talk -/
def bz (s f : Int) (n : Nat) : List (Int × Int) := (List.range n).map fun k : Nat => (s * k + f, s * k + s)
def gz (s f : Int) (n : Nat) : List (Int × Int) := (List.range n).map fun k : Nat => (s * k, s * k + f)
theorem mn_lt {a b : Int} (h : a ≤ b) : mn a b = a := by unfold mn; split <;> omega
theorem mx_le {a b : Int} (h : a ≤ b) : mx a b = b := by unfold mx; split <;> omega
theorem mx_ge {a b : Int} (h : b ≤ a) : mx a b = a := by unfold mx; split <;> omega
theorem mx_lo (a b : Int) : a ≤ mx a b ∧ b ≤ mx a b := by unfold mx; split <;> omega
theorem mul_step (s : Int) (k : Nat) : s * ((k + 1 : Nat) : Int) = s * k + s := by rw [Int.natCast_add, Int.mul_add]; simp
theorem mul_up {s : Int} (hs : 0 ≤ s) {a b : Nat} (h : a ≤ b) : s * (a : Int) ≤ s * b := Int.mul_le_mul_of_nonneg_left (by omega) hs
theorem gf_bz (s f : Int) (hf : 0 < f) (hs : f < s) : ∀ (c j n : Nat), j + c = n → gf (s * n) ((List.range' j c).map fun k : Nat => (s * k + f, s * k + s)) (s * j) = (List.range' j c).map fun k : Nat => (s * k, s * k + f)
  | 0, j, n, h => by
    subst h
    simp [gf]
  | c + 1, j, n, h => by
    have h1 := mul_up (s := s) (by omega) (show j + 1 ≤ n by omega)
    rw [mul_step] at h1
    rw [List.range'_succ, List.map_cons, List.map_cons]
    simp only [gf]
    rw [mn_lt (show s * (j : Int) + f ≤ s * n by omega), mx_le (show s * (j : Int) ≤ s * j + s by omega), if_pos (by omega), ← mul_step, gf_bz s f hf hs c (j + 1) n (by omega)]
    rfl
theorem gaps_even (s f : Int) (hf : 0 < f) (hs : f < s) (n : Nat) : gf (s * n) (bz s f n) 0 = gz s f n := by
  have := gf_bz s f hf hs n 0 n (by omega)
  unfold bz gz
  rw [List.range_eq_range']
  simpa using this
/-! ### where a telling begins -/
def fits (t : Tl) (m : Int) (p : Int × Int) : Prop := mx (mx p.1 t.f) m ≤ t.t ∧ mx (mx p.1 t.f) m + t.l ≤ p.2
theorem bf_skip (t : Tl) (m : Int) : ∀ (pre rest : List (Int × Int)), (∀ p ∈ pre, ¬ fits t m p) → bf t m (pre ++ rest) = bf t m rest
  | [], rest, _ => rfl
  | (lo, hi) :: pre, rest, h => by
    rw [List.cons_append, bf, if_neg (show ¬ (mx (mx lo t.f) m ≤ t.t ∧ mx (mx lo t.f) m + t.l ≤ hi) from h (lo, hi) List.mem_cons_self)]
    exact bf_skip t m pre rest fun p hp => h p (List.mem_cons_of_mem _ hp)
theorem bf_none (t : Tl) (m : Int) (l : List (Int × Int)) (h : ∀ p ∈ l, ¬ fits t m p) : bf t m l = none := by
  have := bf_skip t m l [] h
  rw [List.append_nil] at this
  rw [this]; rfl
theorem gz_split (s f : Int) {n k : Nat} (h : k < n) : gz s f n = gz s f k ++ (s * k, s * k + f) :: (List.range' (k + 1) (n - k - 1)).map fun k : Nat => (s * k, s * k + f) := by
  obtain ⟨c, rfl⟩ : ∃ c, n = k + (c + 1) := ⟨n - k - 1, by omega⟩
  unfold gz
  rw [List.range_eq_range', List.range_eq_range', ← List.range'_append_1, List.map_append, List.range'_succ, show k + (c + 1) - k - 1 = c by omega]
  simp
theorem gz_mem {s f : Int} {n : Nat} {p : Int × Int} (h : p ∈ gz s f n) : ∃ k, k < n ∧ p = (s * k, s * k + f) := by
  unfold gz at h
  obtain ⟨k, hk, rfl⟩ := List.mem_map.mp h
  exact ⟨k, List.mem_range.mp hk, rfl⟩
theorem bf_at (s f : Int) (t : Tl) (m : Int) {n k : Nat} (h : k < n) (hn : ∀ j, j < k → ¬ fits t m (s * j, s * j + f)) (hy : fits t m (s * k, s * k + f)) : bf t m (gz s f n) = some (mx (mx (s * k) t.f) m) := by
  rw [gz_split s f h, bf_skip]
  · rw [bf, if_pos (show mx (mx (s * k) t.f) m ≤ t.t ∧ mx (mx (s * k) t.f) m + t.l ≤ s * k + f from hy)]
  · intro p hp
    obtain ⟨j, hj, rfl⟩ := gz_mem hp
    exact hn j hj
theorem bf_no (s f : Int) (t : Tl) (m : Int) (n : Nat) (hn : ∀ j, j < n → ¬ fits t m (s * j, s * j + f)) : bf t m (gz s f n) = none := by
  refine bf_none t m _ fun p hp => ?_
  obtain ⟨j, hj, rfl⟩ := gz_mem hp
  exact hn j hj
/-- a telling that may begin from a moment on -/
theorem can_even (s f : Int) (hf : 0 < f) (hs : f < s) (n : Nat) (first wide long : Int) (h0 : 0 ≤ first) (h1 : first < s * n) (hw : 0 ≤ wide) (hl : 0 < long) :
    bf ⟨first, first + wide, long, 1⟩ 0 (gz s f n) = if long ≤ f ∧ (if first % s + long ≤ f then first else first - first % s + s) + long ≤ s * n ∧ (if first % s + long ≤ f then first else first - first % s + s) ≤ first + wide then some (if first % s + long ≤ f then first else first - first % s + s) else none := by
  have r0 : 0 ≤ first % s := Int.emod_nonneg _ (by omega)
  have r1 : first % s < s := Int.emod_lt_of_pos _ (by omega)
  have q0 : 0 ≤ first / s := Int.ediv_nonneg h0 (by omega)
  have dm := Int.mul_ediv_add_emod first s
  obtain ⟨q, hq⟩ : ∃ q : Nat, first / s = q := ⟨(first / s).toNat, by omega⟩
  rw [hq] at dm
  have qn : q < n := by
    refine Classical.byContradiction fun z => ?_
    have := mul_up (s := s) (by omega) (show n ≤ q by omega)
    omega
  have low : ∀ j : Nat, j < q → ¬ fits ⟨first, first + wide, long, 1⟩ 0 (s * j, s * j + f) := fun j hj => by
    have := mul_up (s := s) (by omega) (show j + 1 ≤ q by omega)
    rw [mul_step] at this
    rintro ⟨a, b⟩
    have m1 := mx_lo (mx (s * j) first) 0
    have m2 := mx_lo (s * j) first
    simp only at a b
    omega
  by_cases hc : first % s + long ≤ f
  · simp only [hc, if_true]
    have e1 : mx (mx (s * q) first) 0 = first := by rw [mx_le (show s * (q : Int) ≤ first by omega), mx_ge (by omega)]
    have u := mul_up (s := s) (by omega) (show q + 1 ≤ n by omega)
    rw [mul_step] at u
    rw [bf_at s f _ _ qn low ⟨by simp only; rw [e1]; omega, by simp only; rw [e1]; omega⟩, if_pos (by omega)]
    simp only [e1]
  · simp only [hc, if_false]
    have nq : ¬ fits ⟨first, first + wide, long, 1⟩ 0 (s * q, s * q + f) := by
      rintro ⟨a, b⟩
      have e1 : mx (mx (s * q) first) 0 = first := by rw [mx_le (show s * (q : Int) ≤ first by omega), mx_ge (by omega)]
      simp only [e1] at a b
      omega
    have hi : ∀ j : Nat, q < j → mx (mx (s * j) first) 0 = s * j ∧ s * q + s ≤ s * (j : Int) := fun j hj => by
      have u := mul_up (s := s) (by omega) (show q + 1 ≤ j by omega)
      rw [mul_step] at u
      exact ⟨by rw [mx_ge (show first ≤ s * (j : Int) by omega), mx_ge (by omega)], u⟩
    have eb : first - first % s + s = s * ((q + 1 : Nat) : Int) := by rw [mul_step]; omega
    by_cases hy : long ≤ f ∧ first - first % s + s + long ≤ s * n ∧ first - first % s + s ≤ first + wide
    · rw [if_pos hy]
      have q1 : q + 1 < n := by
        refine Classical.byContradiction fun z => ?_
        have := mul_up (s := s) (by omega) (show n ≤ q + 1 by omega)
        omega
      have e2 := (hi (q + 1) (by omega)).1
      rw [bf_at s f _ _ q1 (fun j hj => by
        rcases Nat.lt_or_eq_of_le (Nat.le_of_lt_succ hj) with z | z
        · exact low j z
        · subst z; exact nq) ⟨by simp only; rw [e2]; omega, by simp only; rw [e2]; omega⟩]
      simp only [e2, eb]
    · rw [if_neg hy]
      refine bf_no s f _ _ n fun j hj => ?_
      rcases Nat.lt_trichotomy j q with z | z | z
      · exact low j z
      · subst z; exact nq
      · rintro ⟨a, b⟩
        obtain ⟨e2, u⟩ := hi j z
        simp only [e2] at a b
        have u2 := mul_up (s := s) (by omega) (show j + 1 ≤ n by omega)
        rw [mul_step] at u2
        exact hy ⟨by omega, by omega, by omega⟩
end Ev

set_option Elab.async false
set_option linter.all false
set_option maxRecDepth 100000
set_option maxHeartbeats 1000000
namespace Ev
/-! ### tellings alike -/
def pos (s z : Int) (c i : Nat) : Int := s * ((i / c : Nat) : Int) + z * ((i % c : Nat) : Int)
def mom (s z : Int) (c : Nat) : Nat → Int
  | 0 => 0
  | i + 1 => pos s z c i + z
theorem pos_at (s z : Int) {c k j : Nat} (h : j < c) : pos s z c (c * k + j) = s * k + z * j := by
  unfold pos
  rw [Nat.mul_add_div (by omega), Nat.mul_add_mod, Nat.div_eq_of_lt h, Nat.mod_eq_of_lt h, Nat.add_zero]
structure Even (s f z : Int) (c n : Nat) : Prop where
  f0 : 0 < f
  fs : f < s
  z0 : 0 < z
  lo : z * c ≤ f
  hi : f < z * c + z
  n0 : 0 < n
section
variable {s f z : Int} {c n : Nat} (E : Even s f z c n) (w : Int)
include E
theorem Even.s0 : 0 ≤ s := by have := E.f0; have := E.fs; omega
theorem zc {i j : Nat} (h : i ≤ j) : z * (i : Int) ≤ z * j := mul_up (by have := E.z0; omega) h
theorem bf_in {k j : Nat} (hk : k < n) (h1 : 1 ≤ j) (hj : j < c) : bf ⟨0, s * n, z, w⟩ (s * k + z * j) (gz s f n) = some (s * k + z * j) := by
  have f0 := E.f0; have fs := E.fs; have z0 := E.z0; have lo := E.lo; have s0 := E.s0
  have u := mul_up s0 (show k + 1 ≤ n by omega)
  rw [mul_step] at u
  have p1 := zc E h1
  have p2 := zc E (show j + 1 ≤ c by omega)
  rw [mul_step] at p2
  have sk : 0 ≤ s * (k : Int) := Int.mul_nonneg s0 (by omega)
  have e1 : mx (mx (s * k) 0) (s * k + z * j) = s * k + z * j := by rw [mx_ge sk, mx_le (by simp at p1; omega)]
  rw [bf_at s f _ _ hk (fun i hi => by
    have v := mul_up s0 (show i + 1 ≤ k by omega)
    rw [mul_step] at v
    rintro ⟨a, b⟩
    have m1 := (mx_lo (mx (s * i) 0) (s * k + z * j)).2
    simp only at a b
    simp at p1
    omega) ⟨by simp only [e1]; omega, by simp only [e1]; omega⟩]
  simp only [e1]
theorem bf_next {k : Nat} (hk : k + 1 < n) (hc : 1 ≤ c) : bf ⟨0, s * n, z, w⟩ (s * k + z * c) (gz s f n) = some (s * ((k + 1 : Nat) : Int)) := by
  have f0 := E.f0; have fs := E.fs; have z0 := E.z0; have lo := E.lo; have hi := E.hi; have s0 := E.s0
  have p1 := zc E hc
  simp at p1
  have sk : 0 ≤ s * (k : Int) := Int.mul_nonneg s0 (by omega)
  have u := mul_up s0 (show k + 1 + 1 ≤ n by omega)
  rw [mul_step, mul_step] at u
  have e1 : mx (mx (s * ((k + 1 : Nat) : Int)) 0) (s * k + z * c) = s * ((k + 1 : Nat) : Int) := by rw [mx_ge (a := s * ((k + 1 : Nat) : Int)) (b := 0) (by rw [mul_step]; omega), mx_ge (by rw [mul_step]; omega)]
  rw [bf_at s f _ _ hk (fun i hi' => by
    rintro ⟨a, b⟩
    have m1 := (mx_lo (mx (s * i) 0) (s * k + z * c)).2
    have v := mul_up s0 (show i ≤ k by omega)
    simp only at a b
    omega) ⟨by simp only [e1]; rw [mul_step]; omega, by simp only [e1]; omega⟩]
  simp only [e1]
theorem bf_last {k : Nat} (hk : k + 1 = n) (hc : 1 ≤ c) : bf ⟨0, s * n, z, w⟩ (s * k + z * c) (gz s f n) = none := by
  have hi := E.hi; have s0 := E.s0; have z0 := E.z0
  refine bf_no s f _ _ n fun i hi' => ?_
  rintro ⟨a, b⟩
  have m1 := (mx_lo (mx (s * i) 0) (s * k + z * c)).2
  have v := mul_up s0 (show i ≤ k by omega)
  simp only at a b
  omega
theorem bf_zero (hc : 1 ≤ c) : bf ⟨0, s * n, z, w⟩ 0 (gz s f n) = some 0 := by
  have f0 := E.f0; have fs := E.fs; have z0 := E.z0; have lo := E.lo; have s0 := E.s0
  have p1 := zc E hc
  simp at p1
  have sn : 0 ≤ s * (n : Int) := Int.mul_nonneg s0 (by omega)
  have e1 : mx (mx (s * ((0 : Nat) : Int)) 0) 0 = 0 := by simp [mx]
  rw [bf_at s f _ _ E.n0 (fun i hi => absurd hi (Nat.not_lt_zero i)) ⟨by simp only [e1]; omega, by simp only [e1]; simp; omega⟩]
  simp only [e1]
theorem bf_never (hc : c = 0) (m : Int) : bf ⟨0, s * n, z, w⟩ m (gz s f n) = none := by
  have hi := E.hi
  subst hc
  simp at hi
  refine bf_no s f _ _ n fun i hi' => ?_
  rintro ⟨a, b⟩
  have m1 := mx_lo (mx (s * i) 0) m
  have m2 := mx_lo (s * i) 0
  simp only at a b
  omega
/-- where the next telling goes -/
theorem bf_mom {i : Nat} (hi : i < n * c) : bf ⟨0, s * n, z, w⟩ (mom s z c i) (gz s f n) = some (pos s z c i) := by
  have c1 : 1 ≤ c := by
    refine Classical.byContradiction fun h => ?_
    have : c = 0 := by omega
    subst this
    simp at hi
  cases i with
  | zero =>
    rw [mom, bf_zero E w c1]
    have := pos_at s z (k := 0) (j := 0) (c := c) (by omega)
    simp at this
    rw [this]
  | succ i =>
    have d := Nat.div_add_mod i c
    have r := Nat.mod_lt i (show 0 < c by omega)
    have hk : i / c < n := by
      refine Nat.div_lt_of_lt_mul ?_
      rw [Nat.mul_comm]; omega
    have e0 : mom s z c (i + 1) = s * ((i / c : Nat) : Int) + z * ((i % c + 1 : Nat) : Int) := by
      rw [mom, mul_step]; unfold pos; omega
    by_cases h : i % c + 1 < c
    · rw [e0, bf_in E w hk (by omega) h]
      have := pos_at s z (k := i / c) (j := i % c + 1) h
      rw [show c * (i / c) + (i % c + 1) = i + 1 by omega] at this
      rw [this]
    · have hc : i % c + 1 = c := by omega
      have nx : i + 1 = c * (i / c + 1) := by rw [Nat.mul_add]; omega
      have hk1 : i / c + 1 < n := by
        rw [nx, Nat.mul_comm] at hi
        exact Nat.lt_of_mul_lt_mul_right hi
      rw [e0, hc, bf_next E w hk1 c1]
      have := pos_at s z (k := i / c + 1) (j := 0) (c := c) (by omega)
      rw [Nat.add_zero, ← nx] at this
      rw [this]; simp
theorem bf_done : bf ⟨0, s * n, z, w⟩ (mom s z c (n * c)) (gz s f n) = none := by
  by_cases hc : c = 0
  · exact bf_never E w hc _
  · have c1 : 1 ≤ c := by omega
    have n1 := E.n0
    obtain ⟨i, hi⟩ : ∃ i, n * c = i + 1 := ⟨n * c - 1, by have := Nat.mul_le_mul n1 c1; omega⟩
    have hi2 : i = c * (n - 1) + (c - 1) := by
      have : n * c = c * (n - 1) + c := by
        rw [← Nat.mul_succ, Nat.succ_eq_add_one, Nat.sub_add_cancel n1, Nat.mul_comm]
      omega
    have := pos_at s z (k := n - 1) (j := c - 1) (c := c) (by omega)
    rw [← hi2] at this
    have e0 : mom s z c (n * c) = s * ((n - 1 : Nat) : Int) + z * c := by
      rw [hi, mom, this]
      have := mul_step z (c - 1)
      rw [Nat.sub_add_cancel c1] at this
      omega
    rw [e0]
    exact bf_last E w (by omega) c1
end
/-! ### the best of tellings alike -/
def rowF (s z : Int) (c : Nat) (k i m : Nat) : List (Int × Int) := (List.range m).map fun x : Nat => (((k + x : Nat) : Int), pos s z c (i + x))
theorem rowF_succ (s z : Int) (c : Nat) (k i m : Nat) : rowF s z c k i (m + 1) = ((k : Int), pos s z c i) :: rowF s z c (k + 1) (i + 1) m := by
  unfold rowF
  rw [List.range_succ_eq_map, List.map_cons, List.map_map, Nat.add_zero, Nat.add_zero]
  congr 1
  apply List.map_congr_left
  intro x _
  show (((k + (x + 1) : Nat) : Int), pos s z c (i + (x + 1))) = _
  rw [show k + (x + 1) = k + 1 + x by omega, show i + (x + 1) = i + 1 + x by omega]
theorem eqv_prI (p q : Int × Int) : eqv (prI p) (prI q) = (decide (p.1 = q.1) && decide (p.2 = q.2)) := by
  simp [prI, eqv, eqvs, beqI]
theorem plt_prI (p q : Int × Int) : plt (prI p) (prI q) = if p.1 = q.1 then (if p.2 = q.2 then false else decide (p.2 < q.2)) else decide (p.1 < q.1) := by
  simp [prI, plt, plts, eqv]
/-- which of two is the less -/
theorem plt_t3 (x y : T3) : plt (t3E x) (t3E y) = if x.1 = y.1 then (if x.2.1 = y.2.1 then (if eqv (.tup (prs x.2.2)) (.tup (prs y.2.2)) then false else plts (prs x.2.2) (prs y.2.2)) else decide (x.2.1 < y.2.1)) else decide (x.1 < y.1) := by
  simp [t3E, plt, plts, eqv]
theorem plt_lt {x y : T3} (h : x.1 < y.1) : plt (t3E x) (t3E y) = true := by
  rw [plt_t3, if_neg (by omega)]; simpa using h
theorem plt_gt {x y : T3} (h : y.1 < x.1) : plt (t3E x) (t3E y) = false := by
  rw [plt_t3, if_neg (by omega)]; simp; omega
theorem plt_more {x y : T3} (h : x.1 = y.1) (h2 : y.2.1 < x.2.1) : plt (t3E x) (t3E y) = false := by
  rw [plt_t3, if_pos h, if_neg (by omega)]; simp; omega
/-- the same worth, as many: the first places -/
theorem plt_first {a b : Int} {p q : Int × Int} {l r : List (Int × Int)} (h : p.1 < q.1) : plt (t3E (a, b, p :: l)) (t3E (a, b, q :: r)) = true := by
  rw [plt_t3, if_pos rfl, if_pos rfl]
  have ne : eqv (prI p) (prI q) = false := by rw [eqv_prI, decide_eq_false (by omega), Bool.false_and]
  have ne2 : eqv (.tup (prs (p :: l))) (.tup (prs (q :: r))) = false := by
    simp only [List.map_cons, eqv, eqvs, ne, Bool.false_and]
  show (if eqv (.tup (prs (p :: l))) (.tup (prs (q :: r))) = true then false else plts (prs (p :: l)) (prs (q :: r))) = true
  rw [ne2, if_neg Bool.false_ne_true]
  show plts (prI p :: prs l) (prI q :: prs r) = true
  rw [plts, ne, if_neg Bool.false_ne_true, plt_prI, if_neg (show ¬ p.1 = q.1 by omega)]
  simpa using h
theorem mnT_y {x y : T3} (h : plt (t3E y) (t3E x) = true) : mnT x y = y := by unfold mnT; rw [if_pos h]
theorem mnT_x {x y : T3} (h : plt (t3E y) (t3E x) = false) : mnT x y = x := by unfold mnT; rw [h]; rfl
section
variable {s f z : Int} {c n : Nat} (E : Even s f z c n) (w : Int) (hw : 0 < w)
include E hw
/-- tellings alike are told one behind the other -/
theorem rf_even : ∀ (j i k : Nat), i ≤ n * c → rf (gz s f n) (List.replicate j ⟨0, s * n, z, w⟩) k (mom s z c i) = (-(w * ((min j (n * c - i) : Nat) : Int)), ((min j (n * c - i) : Nat) : Int), rowF s z c k i (min j (n * c - i)))
  | 0, i, k, _ => by simp [rf, rowF]
  | j + 1, i, k, hi => by
    rw [List.replicate_succ, rf]
    have r1 := rf_even j i (k + 1) hi
    by_cases h : i < n * c
    · have r2 := rf_even j (i + 1) (k + 1) h
      rw [mom] at r2
      rw [bf_mom E w h]
      simp only [r1, r2]
      have m1 : min (j + 1) (n * c - i) = min j (n * c - (i + 1)) + 1 := by omega
      rw [m1, rowF_succ]
      have e1 : -(w * ((min j (n * c - (i + 1)) : Nat) : Int)) - w = -(w * ((min j (n * c - (i + 1)) + 1 : Nat) : Int)) := by rw [mul_step]; omega
      have e2 : ((min j (n * c - (i + 1)) : Nat) : Int) + 1 = ((min j (n * c - (i + 1)) + 1 : Nat) : Int) := by omega
      rw [e1, e2]
      refine mnT_y ?_
      by_cases hc : min j (n * c - (i + 1)) + 1 = min j (n * c - i)
      · rw [← hc, rowF_succ]
        refine plt_first ?_
        show ((k : Nat) : Int) < ((k + 1 : Nat) : Int)
        omega
      · refine plt_lt ?_
        have lt : min j (n * c - i) + 1 ≤ min j (n * c - (i + 1)) + 1 := by omega
        have := mul_up (s := w) (by omega) lt
        rw [mul_step] at this
        show -(w * ((min j (n * c - (i + 1)) + 1 : Nat) : Int)) < -(w * ((min j (n * c - i) : Nat) : Int))
        omega
    · have : i = n * c := by omega
      subst this
      rw [bf_done E w]
      simp only [r1]
      simp [rowF]
theorem best_even (j : Nat) : rf (gz s f n) (List.replicate j ⟨0, s * n, z, w⟩) 0 0 = (-(w * ((min j (n * c) : Nat) : Int)), ((min j (n * c) : Nat) : Int), rowF s z c 0 0 (min j (n * c))) := rf_even E w hw j 0 0 (Nat.zero_le _)
end
/-- tellings worth nothing are not told -/
theorem rf_free (G : List (Int × Int)) (a b l : Int) : ∀ (j k : Nat) (m : Int), rf G (List.replicate j ⟨a, b, l, 0⟩) k m = (0, 0, [])
  | 0, k, m => rfl
  | j + 1, k, m => by
    rw [List.replicate_succ, rf]
    split
    · exact rf_free G a b l j (k + 1) m
    · rename_i b' _
      rw [rf_free G a b l j (k + 1) m, rf_free G a b l j (k + 1) (b' + l)]
      exact mnT_x (plt_more rfl (by simp))
/-- just one goes in -/
def sgl (w : Int) : Tl := ⟨0, 0, 1, w⟩
def mxL : List Int → Int
  | [] => 0
  | x :: r => r.foldl (fun a y => if a < y then y else a) x
theorem bf_sgl0 (s f : Int) (hf : 0 < f) (n : Nat) (hn : 0 < n) (w : Int) : bf (sgl w) 0 (gz s f n) = some 0 := by
  have e1 : mx (mx (s * ((0 : Nat) : Int)) 0) 0 = 0 := by simp [mx]
  rw [bf_at s f _ _ hn (fun i hi => absurd hi (Nat.not_lt_zero i)) ⟨by simp only [sgl, e1]; omega, by simp only [sgl, e1]; simp; omega⟩]
  simp only [sgl, e1]
theorem bf_sgl1 (G : List (Int × Int)) (w : Int) : bf (sgl w) 1 G = none := by
  refine bf_none _ _ _ fun p _ => ?_
  rintro ⟨a, b⟩
  have m1 := (mx_lo (mx p.1 0) 1).2
  simp only [sgl] at a b
  omega
theorem rf_sgl1 (G : List (Int × Int)) : ∀ (ws : List Int) (k : Nat), rf G (ws.map sgl) k 1 = (0, 0, [])
  | [], _ => rfl
  | w :: ws, k => by
    rw [List.map_cons, rf, bf_sgl1]
    exact rf_sgl1 G ws (k + 1)
end Ev

set_option Elab.async false
set_option linter.all false
set_option maxRecDepth 100000
set_option maxHeartbeats 1000000
namespace Ev
/-! ### one at most -/
theorem rf_sgl (s f : Int) (hf : 0 < f) (n : Nat) (hn : 0 < n) : ∀ (ws : List Int) (k : Nat), ws ≠ [] → (∀ y ∈ ws, 0 < y) → ∃ m idx, (m ∈ ws ∧ ∀ y ∈ ws, y ≤ m) ∧ ws[idx]? = some m ∧ (∀ i, i < idx → ws[i]? ≠ some m) ∧ rf (gz s f n) (ws.map sgl) k 0 = (-m, 1, [(((k + idx : Nat) : Int), 0)])
  | [], _, h, _ => absurd rfl h
  | x :: r, k, _, hp => by
    have x0 : 0 < x := hp x List.mem_cons_self
    rw [List.map_cons, rf, bf_sgl0 s f hf n hn]
    simp only [sgl, Int.zero_add]
    have r1 := rf_sgl1 (gz s f n) r (k + 1)
    simp only [r1]
    by_cases hr : r = []
    · subst hr
      refine ⟨x, 0, ⟨by simp, by simp⟩, rfl, fun i hi => absurd hi (Nat.not_lt_zero i), ?_⟩
      rw [mnT_y]
      · simp
      · exact plt_lt (by simp [rf]; omega)
    · obtain ⟨m, idx, ⟨h1, h2⟩, h3, h4, h5⟩ := rf_sgl s f hf n hn r (k + 1) hr fun y hy => hp y (List.mem_cons_of_mem _ hy)
      rw [h5]
      by_cases hx : m ≤ x
      · refine ⟨x, 0, ⟨by simp, fun y hy => ?_⟩, rfl, fun i hi => absurd hi (Nat.not_lt_zero i), ?_⟩
        · rcases List.mem_cons.mp hy with rfl | hy
          · omega
          · have := h2 y hy; omega
        · rw [mnT_y]
          · simp
          · by_cases he : m = x
            · subst he
              rw [Int.zero_sub, Int.zero_add]
              refine plt_first ?_
              show (k : Int) < ((k + 1 + idx : Nat) : Int)
              omega
            · exact plt_lt (by simp; omega)
      · refine ⟨m, idx + 1, ⟨List.mem_cons_of_mem _ h1, fun y hy => ?_⟩, by simpa using h3, fun i hi => ?_, ?_⟩
        · rcases List.mem_cons.mp hy with rfl | hy
          · omega
          · exact h2 y hy
        · cases i with
          | zero => simp; omega
          | succ i => simpa using h4 i (by omega)
        · rw [mnT_x]
          · rw [show k + 1 + idx = k + (idx + 1) by omega]
          · exact plt_gt (by simp; omega)
theorem plain_ints : ∀ l : List Int, plainDs (l.map PV.int) = true
  | [] => rfl
  | x :: l => by simp [plainDs, plainD, plain_ints l]
theorem deps_ints : ∀ l : List Int, deps (l.map PV.int) = 0
  | [] => rfl
  | x :: l => by simp [deps, dep, deps_ints l]
theorem okAll_ints (l : List Int) : okAll (l.map PV.int) = true := by
  unfold okAll
  rw [plain_ints, deps_ints]
  simp [isNonP, ak]
theorem fold_max : ∀ (r : List Int) (x : Int), (r.map PV.int).foldl (fun a y => if plt a y then y else a) (PV.int x) = PV.int (r.foldl max x)
  | [], x => rfl
  | y :: r, x => by
    simp only [List.map_cons, List.foldl_cons]
    have e : plt (PV.int x) (PV.int y) = decide (x < y) := by simp only [plt]
    rw [e]
    by_cases h : x < y
    · rw [if_pos (decide_eq_true h), fold_max r y, Int.max_eq_right (by omega)]
    · rw [if_neg (by rw [decide_eq_false h]; exact Bool.false_ne_true), fold_max r x, Int.max_eq_left (by omega)]
theorem foldl_max (r : List Int) : ∀ x : Int, (r.foldl max x ∈ x :: r) ∧ ∀ y ∈ x :: r, y ≤ r.foldl max x := by
  induction r with
  | nil => intro x; simp
  | cons z r ih =>
    intro x
    obtain ⟨h1, h2⟩ := ih (max x z)
    rw [List.foldl_cons]
    refine ⟨?_, fun y hy => ?_⟩
    · rcases List.mem_cons.mp h1 with h | h
      · rw [h]
        rcases Int.le_total x z with q | q
        · rw [Int.max_eq_right q]; simp
        · rw [Int.max_eq_left q]; simp
      · exact List.mem_cons_of_mem _ (List.mem_cons_of_mem _ h)
    · have h3 := h2 (max x z) List.mem_cons_self
      rcases List.mem_cons.mp hy with rfl | hy
      · omega
      · rcases List.mem_cons.mp hy with rfl | hy
        · omega
        · exact h2 y (List.mem_cons_of_mem _ hy)
theorem maxV_ints {ws : List Int} {m : Int} (h1 : m ∈ ws) (h2 : ∀ y ∈ ws, y ≤ m) : maxV (ws.map PV.int) = some (.int m) := by
  cases ws with
  | nil => cases h1
  | cons x r =>
    have o := okAll_ints (x :: r)
    rw [List.map_cons] at o ⊢
    simp only [maxV, o, if_true]
    rw [fold_max]
    obtain ⟨a, b⟩ := foldl_max r x
    have := h2 _ a
    have := b _ h1
    rw [show r.foldl max x = m by omega]
theorem findP_ints : ∀ {ws : List Int} {m : Int} {idx : Nat}, ws[idx]? = some m → (∀ i, i < idx → ws[i]? ≠ some m) → findP (ws.map PV.int) (.int m) = some idx
  | [], m, idx, h, _ => by simp at h
  | x :: r, m, 0, h, _ => by
    simp at h
    subst h
    simp [findP, eqv]
  | x :: r, m, idx + 1, h, h2 => by
    have x1 : x ≠ m := fun e => h2 0 (by omega) (by simp [e])
    have := findP_ints (ws := r) (m := m) (idx := idx) (by simpa using h) fun i hi => by simpa using h2 (i + 1) (by omega)
    rw [List.map_cons, findP, if_neg (by simp [eqv, x1]), this]
    rfl
/-! ### how much shorter -/
theorem msF_at (G : List (Int × Int)) (t : Tl) : ∀ (c a k : Nat), a ≤ k → k < a + c → (∀ i, a ≤ i → i < k → (bf ⟨t.f, t.t, t.l - i, t.w⟩ 0 G).isSome = false) → (bf ⟨t.f, t.t, t.l - k, t.w⟩ 0 G).isSome = true → msF G t (List.range' a c) = some k
  | 0, a, k, h1, h2, _, _ => by omega
  | c + 1, a, k, h1, h2, h3, h4 => by
    rw [List.range'_succ, msF]
    by_cases he : a = k
    · subst he; rw [if_pos h4]
    · rw [h3 a (by omega) (by omega), if_neg Bool.false_ne_true]
      exact msF_at G t c (a + 1) k (by omega) (by omega) (fun i hi hk => h3 i (by omega) hk) h4
theorem msF_no (G : List (Int × Int)) (t : Tl) : ∀ (l : List Nat), (∀ i ∈ l, (bf ⟨t.f, t.t, t.l - i, t.w⟩ 0 G).isSome = false) → msF G t l = none
  | [], _ => rfl
  | i :: l, h => by
    rw [msF, h i List.mem_cons_self, if_neg Bool.false_ne_true]
    exact msF_no G t l fun j hj => h j (List.mem_cons_of_mem _ hj)
section
variable {s f : Int} {n : Nat} (hf : 0 < f) (hs : f < s) (hn : 0 < n)
include hf hs hn
theorem ms0 (wide : Nat) : msF (gz s f n) ⟨0, s * n, f + wide, 1⟩ (List.range (f + wide).toNat) = some wide := by
  rw [List.range_eq_range']
  have e1 : mx (mx (s * ((0 : Nat) : Int)) 0) 0 = 0 := by simp [mx]
  have sn : 0 ≤ s * (n : Int) := Int.mul_nonneg (by omega) (by omega)
  refine msF_at _ _ _ 0 wide (Nat.zero_le _) (by omega) (fun i _ hi => ?_) ?_
  · rw [bf_no]
    · rfl
    · intro j _
      rintro ⟨a, b⟩
      have m1 := mx_lo (mx (s * j) 0) 0
      have m2 := mx_lo (s * j) 0
      simp only at a b
      omega
  · rw [bf_at s f _ _ hn (fun i hi => absurd hi (Nat.not_lt_zero i)) ⟨by simp only [e1]; omega, by simp only [e1]; first | (simp; done) | (simp; omega)⟩]
    rfl
theorem ms1 : msF (gz s f n) ⟨f, f, 1, 1⟩ (List.range 1) = none := by
  refine msF_no _ _ _ fun i hi => ?_
  have : i = 0 := by simpa using hi
  subst this
  rw [bf_no]
  · rfl
  · intro j _
    rintro ⟨a, b⟩
    have m1 := mx_lo (mx (s * j) f) 0
    have m2 := mx_lo (s * j) f
    cases j with
    | zero =>
      have e1 : mx (mx (s * ((0 : Nat) : Int)) f) 0 = f := by rw [mx_le (a := s * ((0 : Nat) : Int)) (by simp; omega), mx_ge (by omega)]
      simp only [e1] at a b
      simp at b
      omega
    | succ j =>
      have : 0 ≤ s * (j : Int) := Int.mul_nonneg (by omega) (by omega)
      have e := mul_step s j
      simp only at a b
      omega
theorem ms2 (z : Int) (hz : 0 < z) : msF (gz s f n) ⟨0, 0, z, 0⟩ (List.range z.toNat) = some (z - f).toNat := by
  rw [List.range_eq_range']
  have e1 : mx (mx (s * ((0 : Nat) : Int)) 0) 0 = 0 := by simp [mx]
  refine msF_at _ _ _ 0 (z - f).toNat (Nat.zero_le _) (by omega) (fun i _ hi => ?_) ?_
  · rw [bf_no]
    · rfl
    · intro j _
      rintro ⟨a, b⟩
      have m1 := mx_lo (mx (s * j) 0) 0
      have m2 := mx_lo (s * j) 0
      cases j with
      | zero =>
        simp only at a b
        simp at a b m1 m2
        omega
      | succ j =>
        have : 0 ≤ s * (j : Int) := Int.mul_nonneg (by omega) (by omega)
        have e := mul_step s j
        simp only at a b
        omega
  · rw [bf_at s f _ _ hn (fun i hi => absurd hi (Nat.not_lt_zero i)) ⟨by simp only [e1]; omega, by simp only [e1]; first | (simp; done) | (simp; omega)⟩]
    rfl
end
/-! ### rows that are told -/
def gapHas (G : List (Int × Int)) (l b : Int) : Bool := G.any fun p => decide (p.1 ≤ b) && decide (b + l ≤ p.2)
theorem itl_inv {G : List (Int × Int)} {t : Tl} {m : Nat} : ∀ {l : List (Int × Int)} {now last : Int}, itl G t m now last l = true → (∀ p ∈ l, last < p.1 ∧ p.1 < m ∧ t.f ≤ p.2 ∧ gapHas G t.l p.2 = true) ∧ l.Pairwise fun p q => p.1 < q.1
  | [], _, _, _ => ⟨fun _ h => (nomatch h), .nil⟩
  | (k, b) :: r, now, last, h => by
    rw [itl] at h
    split at h
    · cases h
    · rename_i h1
      split at h
      · cases h
      · rename_i h2
        obtain ⟨q1, q2⟩ := itl_inv h
        have x1 : last < k ∧ k < m := Classical.not_not.mp fun z => h1 (.inl z)
        have x2 : t.f ≤ b ∧ b ≤ t.t := Classical.not_not.mp fun z => h2 (.inl z)
        have x3 : gapHas G t.l b = true := by
          unfold gapHas
          rw [← Bool.not_eq_false]; exact fun z => h2 (.inr z)
        refine ⟨fun p hp => ?_, List.pairwise_cons.mpr ⟨fun p hp => (q1 p hp).1, q2⟩⟩
        rcases List.mem_cons.mp hp with rfl | hp
        · exact ⟨x1.1, x1.2, x2.1, x3⟩
        · obtain ⟨y1, y2⟩ := q1 p hp
          exact ⟨by omega, y2⟩
section
variable {s f z : Int} {c n : Nat} (E : Even s f z c n)
include E
theorem pos_in {i : Nat} (hi : i < n * c) : 0 ≤ pos s z c i ∧ pos s z c i ≤ s * n ∧ gapHas (gz s f n) z (pos s z c i) = true := by
  have f0 := E.f0; have fs := E.fs; have z0 := E.z0; have lo := E.lo; have s0 := E.s0
  have c1 : 0 < c := Nat.pos_of_ne_zero fun h => by subst h; simp at hi
  obtain ⟨k, j, hk, hj, P⟩ : ∃ k j : Nat, k < n ∧ j < c ∧ pos s z c i = s * k + z * j := ⟨i / c, i % c, Nat.div_lt_of_lt_mul (by rw [Nat.mul_comm]; exact hi), Nat.mod_lt i c1, rfl⟩
  have u := mul_up s0 (show k + 1 ≤ n by omega)
  rw [mul_step] at u
  have v := zc E (show j + 1 ≤ c by omega)
  rw [mul_step] at v
  have a1 : 0 ≤ s * (k : Int) := Int.mul_nonneg s0 (by omega)
  have a2 : 0 ≤ z * (j : Int) := Int.mul_nonneg (by omega) (by omega)
  rw [P]
  clear P hi
  refine ⟨by omega, by omega, ?_⟩
  unfold gapHas
  rw [List.any_eq_true]
  refine ⟨(s * (k : Int), s * (k : Int) + f), ?_, ?_⟩
  · unfold gz
    exact List.mem_map.mpr ⟨k, List.mem_range.mpr hk, rfl⟩
  · rw [Bool.and_eq_true, decide_eq_true_eq, decide_eq_true_eq]
    simp only
    omega
theorem pos_next {i : Nat} (hi : i + 1 < n * c) : pos s z c i + z ≤ pos s z c (i + 1) := by
  have f0 := E.f0; have fs := E.fs; have z0 := E.z0; have lo := E.lo; have s0 := E.s0
  have c1 : 0 < c := Nat.pos_of_ne_zero fun h => by subst h; simp at hi
  have hj := Nat.mod_lt i c1
  have d := Nat.div_add_mod i c
  by_cases h : i % c + 1 < c
  · have := pos_at s z (k := i / c) (j := i % c + 1) h
    rw [show c * (i / c) + (i % c + 1) = i + 1 by omega, mul_step] at this
    rw [this]; unfold pos; omega
  · have := pos_at s z (k := i / c + 1) (j := 0) (c := c) c1
    rw [show c * (i / c + 1) + 0 = i + 1 by rw [Nat.mul_add]; omega, mul_step] at this
    rw [this]
    have v := zc E (show c ≤ i % c + 1 by omega)
    rw [mul_step] at v
    have v2 := zc E (show i % c + 1 ≤ c by omega)
    rw [mul_step] at v2
    unfold pos
    rw [show z * (((0 : Nat) : Nat) : Int) = 0 by simp]
    clear this d hj hi h
    generalize i / c = k at *; generalize i % c = j at *
    omega
theorem itl_row (w : Int) (m : Nat) : ∀ (r a : Nat) (now last : Int), last < a → a + r ≤ m → a + r ≤ n * c → (0 < r → now ≤ pos s z c a) → itl (gz s f n) ⟨0, s * n, z, w⟩ m now last (rowF s z c a a r) = true
  | 0, a, now, last, _, _, _, _ => rfl
  | r + 1, a, now, last, h1, h2, h3, h4 => by
    obtain ⟨p1, p2, p3⟩ := pos_in E (show a < n * c by omega)
    have h4 := h4 (by omega)
    unfold gapHas at p3
    rw [rowF_succ, itl, if_neg (by rintro (q | q) <;> omega), if_neg (by
      rintro (q | q)
      · exact q ⟨p1, p2⟩
      · rw [p3] at q; cases q)]
    exact itl_row w m r (a + 1) _ _ (by omega) (by omega) (by omega) fun hr => pos_next E (by omega)
end
end Ev

set_option Elab.async false
set_option linter.all false
set_option maxRecDepth 100000
set_option maxHeartbeats 1000000
namespace Ev
theorem soks_prs : ∀ l : List (Int × Int), soks (prs l) = true
  | [] => rfl
  | p :: l => by
    have := soks_prs l
    simp only [prs, List.map_cons, soks, this, Bool.and_true]
    simp [prI, sok, soks, okD, plainD, dep]
theorem nodess_prs : ∀ l : List (Int × Int), nodess (prs l) = 3 * l.length
  | [] => rfl
  | p :: l => by
    have := nodess_prs l
    simp only [prs, List.map_cons, nodess, prI, nodes, List.length_cons] at *
    omega
theorem sok_int (i : Int) : sok (.int i) = true := by simp [sok, okD, plainD, dep]
section
variable {L : Nat}
/-- the same thing -/
theorem same_prs (hL : 1 ≤ L) (l : List (Int × Int)) (hl : l.length ≤ 1000) (h : AH) : callN prog L 18 [.v (.tup (prs l)), .v (.tup (prs l))] h = some (.v (.bl true), h) := by
  obtain ⟨N, rfl⟩ : ∃ N, L = N + 1 := ⟨L - 1, by omega⟩
  exact sm_ok N _ h (by simp only [sok]; exact soks_prs l) (by simp only [nodes, nodess_prs]; omega)
theorem same_int (hL : 1 ≤ L) (i : Int) (h : AH) : callN prog L 18 [.v (.int i), .v (.int i)] h = some (.v (.bl true), h) := by
  obtain ⟨N, rfl⟩ : ∃ N, L = N + 1 := ⟨L - 1, by omega⟩
  exact sm_ok N _ h (sok_int i) (by simp [nodes])
theorem same_non (hL : 1 ≤ L) (h : AH) : callN prog L 18 [.v .non, .v .non] h = some (.v (.bl true), h) := by
  obtain ⟨N, rfl⟩ : ∃ N, L = N + 1 := ⟨L - 1, by omega⟩
  exact sm_ok N _ h (by simp [sok, okD, plainD, dep]) (by simp [nodes])
theorem same_two (hL : 1 ≤ L) (i j : Int) (h : AH) : callN prog L 18 [.v (.tup [.int i, .int j]), .v (.tup [.int i, .int j])] h = some (.v (.bl true), h) := by
  obtain ⟨N, rfl⟩ : ∃ N, L = N + 1 := ⟨L - 1, by omega⟩
  exact sm_ok N _ h (by simp [sok, soks, okD, plainD, dep]) (by simp [nodes, nodess])
theorem same_best (hL : 1 ≤ L) (i : Int) (l : List (Int × Int)) (hl : l.length ≤ 1000) (h : AH) : callN prog L 18 [.v (.tup [.int i, .tup (prs l)]), .v (.tup [.int i, .tup (prs l)])] h = some (.v (.bl true), h) := by
  obtain ⟨N, rfl⟩ : ∃ N, L = N + 1 := ⟨L - 1, by omega⟩
  refine sm_ok N _ h ?_ ?_
  · have := soks_prs l
    simp only [sok, soks, this, sok_int]
    rfl
  · have := nodess_prs l
    simp only [nodes, nodess, this]
    omega
theorem nextL (hL : 1 ≤ L) (ds : List Int) (k : Nat) (m : Int) (hr : AH) (hm : 0 < m) : callN prog L 16 [.o 0, .v (.int m)] (Wc ds k :: hr) = some (.v (.int (nx ds k m)), Wc ds (k + 1) :: hr) := by
  obtain ⟨N, rfl⟩ : ∃ N, L = N + 1 := ⟨L - 1, by omega⟩
  exact nx_ok N ds k m hr hm
theorem bestL {ts : List Tl} (hL : 4 + ts.length ≤ L) (busy : List (Int × Int)) (hl : busy.length ≤ 1000) (e : Int) (h : AH) (hz : ts.length ≤ 1000) :
    callN prog L 8 [.v (.tup (prs busy)), .v (.int e), .v (.tup (ts.map tlE))] h = some (.v (.tup [.int (-(rf (gf e busy 0) ts 0 0).1), .tup (prs (rf (gf e busy 0) ts 0 0).2.2)]), h) := by
  obtain ⟨N, rfl⟩ : ∃ N, L = N + 4 + ts.length := ⟨L - 4 - ts.length, by omega⟩
  exact best_ok N busy hl e ts h hz
theorem shareL {ts : List Tl} (hL : 5 + ts.length ≤ L) (busy : List (Int × Int)) (hl : busy.length ≤ 1000) (e : Int) (h : AH) (hz : ts.length ≤ 1000) (a b : Nat) (hb : 0 < b) (hbz : b < 2 ^ 29) (ha : -(rf (gf e busy 0) ts 0 0).1 = a) (hw : (ts.map (·.w)).sum = b) :
    callN prog L 13 [.v (.tup (prs busy)), .v (.int e), .v (.tup (ts.map tlE))] h = some (.v (frP a b), h) := by
  obtain ⟨N, rfl⟩ : ∃ N, L = N + 5 + ts.length := ⟨L - 5 - ts.length, by omega⟩
  exact share_ok N busy hl e ts h hz a b hb hbz ha hw
theorem share0L {ts : List Tl} (hL : 1 ≤ L) (busy : List (Int × Int)) (e : Int) (h : AH) (hz : ts.length ≤ 1000) (hw : (ts.map (·.w)).sum = 0) :
    callN prog L 13 [.v (.tup (prs busy)), .v (.int e), .v (.tup (ts.map tlE))] h = some (.v (.tup [.int 1, .int 1]), h) := by
  obtain ⟨N, rfl⟩ : ∃ N, L = N + 1 := ⟨L - 1, by omega⟩
  exact share0_ok N busy e ts h hz hw
theorem partL (hL : 2 ≤ L) (a b : Nat) (hb : 0 < b) (hz : b < 2 ^ 29) (h : AH) : callN prog L 20 [.v (.int a), .v (.int b)] h = some (.v (frP a b), h) := by
  obtain ⟨N, rfl⟩ : ∃ N, L = N + 2 := ⟨L - 2, by omega⟩
  exact part_ok N a b hb hz h
theorem gapsL (hL : 1 ≤ L) (busy : List (Int × Int)) (hl : busy.length ≤ 1000) (e : Int) (h : AH) : callN prog L 4 [.v (.tup (prs busy)), .v (.int e)] h = some (.v (.tup (prs (gf e busy 0))), h) := by
  obtain ⟨N, rfl⟩ : ∃ N, L = N + 1 := ⟨L - 1, by omega⟩
  exact gaps_ok N busy hl e h
theorem canL (hL : 3 ≤ L) (busy : List (Int × Int)) (hl : busy.length ≤ 1000) (e : Int) (t : Tl) (h : AH) : callN prog L 6 [.v (.tup (prs busy)), .v (.int e), .v (tlE t)] h = some (.v (oI (bf t 0 (gf e busy 0))), h) := by
  obtain ⟨N, rfl⟩ : ∃ N, L = N + 3 := ⟨L - 3, by omega⟩
  exact can_ok N busy hl e t h
theorem leftL (hL : 2 ≤ L) (busy : List (Int × Int)) (hl : busy.length ≤ 1000) (e : Int) (t : Tl) (m : Nat) (row : List (Int × Int)) (hm : m ≤ 1000) (hrl : row.length ≤ 1000) (hr : ∀ p ∈ row, 0 ≤ p.1 ∧ p.1 < m) (h : AH) :
    callN prog L 10 [.v (.tup (prs busy)), .v (.int e), .v (.tup (prs row)), .v (.tup ((List.replicate m t).map tlE))] h = some (.v (.int (((gf e busy 0).map fun p => p.2 - p.1).sum - row.length * t.l)), h) := by
  obtain ⟨N, rfl⟩ : ∃ N, L = N + 2 := ⟨L - 2, by omega⟩
  exact left_ok N busy hl e t m row hm hrl hr h
theorem toldL (hL : 2 ≤ L) (busy : List (Int × Int)) (hl : busy.length ≤ 1000) (e : Int) (t : Tl) (m : Nat) (row : List (Int × Int)) (hm : m ≤ 1000) (hrl : row.length ≤ 1000) (h : AH) :
    callN prog L 9 [.v (.tup (prs busy)), .v (.int e), .v (.tup ((List.replicate m t).map tlE)), .v (.tup (prs row))] h = some (.v (.bl (itl (gf e busy 0) t m 0 (-1) row)), h) := by
  obtain ⟨N, rfl⟩ : ∃ N, L = N + 2 := ⟨L - 2, by omega⟩
  exact told_ok N busy hl e t m row hm hrl h
theorem toldLst (hL : 1 ≤ L) (B e T : SV) (xs : List PV) (h : AH) : callN prog L 9 [B, e, T, .v (.lst xs)] h = some (.v (.bl false), h) := by
  obtain ⟨N, rfl⟩ : ∃ N, L = N + 1 := ⟨L - 1, by omega⟩
  exact told_lst N B e T xs h
theorem mustL (hL : 4 ≤ L) (busy : List (Int × Int)) (hl : busy.length ≤ 1000) (e : Int) (ts : List Tl) (k : Nat) (t : Tl) (hk : ts[k]? = some t) (h0 : 0 ≤ t.l) (h1 : t.l ≤ 100000) (h : AH) :
    callN prog L 11 [.v (.tup (prs busy)), .v (.int e), .v (.tup (ts.map tlE)), .v (.int k)] h = some (.v (oN (msF (gf e busy 0) t (List.range t.l.toNat))), h) := by
  obtain ⟨N, rfl⟩ : ∃ N, L = N + 4 := ⟨L - 4, by omega⟩
  exact must_ok N busy hl e ts k t hk h0 h1 h
theorem pauseL (hL : 1 ≤ L) (busy : List (Int × Int)) (hl : busy.length ≤ 1000) (at' long : Int) (h : AH) : callN prog L 12 [.v (.tup (prs busy)), .v (.int at'), .v (.int long)] h = some (.v (.tup (prs (busy.map (wp at' long)))), h) := by
  obtain ⟨N, rfl⟩ : ∃ N, L = N + 1 := ⟨L - 1, by omega⟩
  exact pause_ok N busy hl at' long h
theorem crowdL (hL : 1 ≤ L) (ts : List Tl) (m : Int) (hz : ts.length ≤ 1000) (h : AH) : callN prog L 14 [.v (.tup (ts.map tlE)), .v (.int m)] h = some (.v (.int ((ts.filter (crd m)).length : Nat)), h) := by
  obtain ⟨N, rfl⟩ : ∃ N, L = N + 1 := ⟨L - 1, by omega⟩
  exact crowd_ok N ts m hz h
theorem pickL (hL : 2 ≤ L) (ds : List Int) (k : Nat) (xs : List PV) (x : PV) (hx : 0 < xs.length) (hx2 : xs[(nx ds k xs.length).toNat]? = some x) (hr : AH) : callN prog L 17 [.o 0, .v (.lst xs)] (Wc ds k :: hr) = some (.v x, Wc ds (k + 1) :: hr) := by
  obtain ⟨N, rfl⟩ : ∃ N, L = N + 2 := ⟨L - 2, by omega⟩
  exact pick_ok N ds k xs x hx hx2 hr
end
/-! ### the law's rest -/
structure Par where
  f : Int
  t : Int
  z : Int
  wd : Nat
  w : Int
  n : Nat
  m : Nat
  f0 : 0 < f
  t0 : 0 < t
  z0 : 0 < z
  w0 : 0 < w
  n0 : 0 < n
  f1 : f ≤ 12
  t1 : t ≤ 9
  z1 : z ≤ 8
  w1 : w ≤ 5
  n1 : n ≤ 4
  m1 : m ≤ 5
  wd1 : wd < 20
namespace Par
variable (p : Par)
def s : Int := p.f + p.t
def e : Int := p.s * p.n
def B : PV := .tup (prs (bz p.s p.f p.n))
def tl : Tl := ⟨0, p.e, p.z, p.w⟩
def T : PV := .tup ((List.replicate p.m p.tl).map tlE)
theorem s0 : 0 < p.s := by have := p.f0; have := p.t0; unfold s; omega
theorem fs : p.f < p.s := by have := p.t0; unfold s; omega
theorem s1 : p.s ≤ 21 := by have := p.f1; have := p.t1; unfold s; omega
theorem e0 : 0 < p.e := Int.mul_pos p.s0 (by have := p.n0; omega)
theorem e1 : p.e ≤ 84 := by
  have h := Int.mul_le_mul_of_nonneg_right p.s1 (show (0 : Int) ≤ p.n by omega)
  have := p.n1
  unfold e
  omega
theorem bl : (bz p.s p.f p.n).length ≤ 1000 := by have := p.n1; unfold bz; simp; omega
theorem gaps : gf p.e (bz p.s p.f p.n) 0 = gz p.s p.f p.n := gaps_even p.s p.f p.f0 p.fs p.n
end Par
def rE (p : Par) (x11 x12 x13 x14 x15 x16 x17 x18 x19 x20 : Option SV) : En := [some (.o 0), vS p.B, iS p.e, iS p.f, iS p.m, iS p.n, iS p.z, iS p.s, iS p.t, vS p.T, iS p.wd, x11, x12, x13, x14, x15, x16, x17, x18, x19, x20, none, none]
def worths (ds : List Int) (k m : Nat) : List Int := (List.range m).map fun j => 1 + nx ds (k + j) 9
theorem worths_len (ds : List Int) (k m : Nat) : (worths ds k m).length = m := by simp [worths]
theorem worths_pos {ds : List Int} {k m : Nat} {y : Int} (h : y ∈ worths ds k m) : 0 < y ∧ y ≤ 9 := by
  obtain ⟨j, _, rfl⟩ := List.mem_map.mp h
  have := nx_lo ds (k + j) (m := 9) (by omega)
  have := nx_hi ds (k + j) (m := 9) (by omega)
  omega
section
variable {L : Nat} (hL : 12 ≤ L) (p : Par) (x11 x12 x13 x14 x15 x16 x17 x18 x19 x20 : Option SV)
include hL
theorem r0 (ds : List Int) (k : Nat) : evS (callN prog L) S__law_rest_0 (rE p x11 x12 x13 x14 x15 x16 x17 x18 x19 x20) [Wc ds k] = some (.nx (rE p (vS (.lst ((worths ds k p.m).map .int))) x12 x13 x14 x15 x16 x17 x18 x19 x20) [Wc ds (k + p.m)]) := by
  have c := comp_draw (C := callN prog L) (elt := .bin .add (.lit (.int 1)) (.call 16 (.cons (.var 0 false) (.cons (.lit (.int 9)) .nil)))) (own := [17]) (tg := .nm 17) (it := .rng1 (.var 4 false)) (e := rE p x11 x12 x13 x14 x15 x16 x17 x18 x19 x20) (hr := []) (ds := ds) (k := k) (g := none) (rngs 0 p.m) (fun j _ => .int (1 + nx ds (k + j) 9))
    (by have := p.m1; simp [evI, rE, evE, rdVar, smallR]; omega) (by rw [rngs_len]; exact le_sz (by have := p.m1; omega)) (fun _ _ => rfl) (fun j x hx acc => ⟨_, rfl, by
      have q := nextL (L := L) (by omega) ds (k + j) 9 ([] ++ [.lst acc]) (by omega)
      simp [evE, evL, rE, wipeE, rdVar, Wc]
      rw [show ([Cell.dict [(PV.str [100, 114, 97, 119, 115], PV.lst (ds.map PV.int)), (PV.str [97, 116], PV.int ((k : Int) + (j : Int)))], Cell.lst acc] : AH) = Wc ds (k + j) :: ([] ++ [.lst acc]) by simp [Wc], q]
      simp [peek, binP, Wc]⟩)
  rw [rngs_len, rngs_mapI p.m _ (fun j => .int (1 + nx ds (k + j) 9)) (fun j _ => rfl)] at c
  have := e_asg (i := 11) c
  rw [S__law_rest_0, this]
  simp [rE, worths, Function.comp_def]
end
end Ev

set_option Elab.async false
set_option linter.all false
set_option maxRecDepth 100000
set_option maxHeartbeats 1000000
namespace Ev
def sglT (ws : List Int) : PV := .tup ((ws.map sgl).map tlE)
theorem sum_pos {ws : List Int} (h : ∀ y ∈ ws, 0 < y ∧ y ≤ 9) : (ws.length : Int) ≤ ws.sum ∧ ws.sum ≤ 9 * ws.length := by
  induction ws with
  | nil => simp
  | cons x r ih =>
    have h1 := h x List.mem_cons_self
    have h2 := ih fun y hy => h y (List.mem_cons_of_mem _ hy)
    rw [List.sum_cons, List.length_cons]
    omega
theorem sgl_sum (ws : List Int) : ((ws.map sgl).map (·.w)).sum = ws.sum := by
  rw [List.map_map]
  have : ((fun t : Tl => t.w) ∘ sgl) = id := by funext x; rfl
  rw [this, List.map_id]
section
variable {L : Nat} (hL : 12 ≤ L) (p : Par) (x11 x12 x13 x14 x15 x16 x17 x18 x19 x20 : Option SV) (h : AH)
include hL
theorem r1 (ws : List Int) (hw : ws.length ≤ 1000) : evS (callN prog L) S__law_rest_1 (rE p (vS (.lst (ws.map .int))) x12 x13 x14 x15 x16 x17 x18 x19 x20) h = some (.nx (rE p (vS (.lst (ws.map .int))) (vS (sglT ws)) x13 x14 x15 x16 x17 x18 x19 x20) h) := by
  have c := comp_map (C := callN prog L) (elt := .tup (.cons (.lit (.int 0)) (.cons (.lit (.int 0)) (.cons (.lit (.int 1)) (.cons (.var 21 false) .nil))))) (own := [21]) (tg := .nm 21) (it := .var 11 false) (e := rE p (vS (.lst (ws.map .int))) x12 x13 x14 x15 x16 x17 x18 x19 x20) (h := h) (g := none) ws PV.int (fun y => tlE (sgl y))
    (by simp [evI, rE, rdVar, walkOf, itemsP]) (le_sz (by omega)) (fun _ => rfl) (fun y hy acc => ⟨_, rfl, by simp [runF, startE, evSs, evS, evE, evL, evT, evI, evD, asgT, rdVar, peek, part, sliceP, binP, binA, cmpP, truP, bltE, blt1, blt2, lenP, mkR, mkL, mkD, retn, pvs, SV.pv, wipeE, walkOf, itemsP, notD, idxP, isKey, keyEq, dlook, dhas, dput, dictEq, okDict, mthE, mthC, mthP, mthT, argsM, isLst, changes, isiTy, smallR, finL, finD, tupP, listP, dicP, onL, onS, min2P, max2P, blt3, argsN, revP, inP, isP, isNon, eqP, okD, plainD, plainDs, dep, deps, eqv, eqvs, beqI, beqS, atI_0, atI_1, atI_2, rE, sz0, sz1, sz2, sz3, sz4, sz5, sz6, sz7, sz8, sz9, sz10, sz11, sl0, sl1, sl2, sl3, sl4, sl5, tlE, sgl]⟩)
  have := e_asg (i := 12) (e_blt1 (b := .tuple) (m := false) c rfl rfl)
  rw [S__law_rest_1, this]
  simp [rE, sglT, Function.comp_def]
/-- which one is the dearest -/
theorem r2 (ws : List Int) (hwl : ws.length = p.m) (hp : ∀ y ∈ ws, 0 < y ∧ y ≤ 9) : ∃ (a : Nat) (row : List (Int × Int)), row.length ≤ 1 ∧ rf (gz p.s p.f p.n) (ws.map sgl) 0 0 = (-(a : Int), (row.length : Int), row) ∧ (0 < p.m → maxV (ws.map PV.int) = some (.int a)) ∧ a ≤ 9 ∧
    evS (callN prog L) S__law_rest_2 (rE p (vS (.lst (ws.map .int))) x12 x13 x14 x15 x16 x17 x18 x19 x20) h = some (.nx (rE p (vS (.lst (ws.map .int))) x12 (vS (.tup [.int a, .tup (prs row)])) x14 x15 x16 x17 x18 x19 x20) h) := by
  by_cases hm : p.m = 0
  · have e0 : ws = [] := List.eq_nil_of_length_eq_zero (by omega)
    subst e0
    refine ⟨0, [], by simp, by simp [rf], fun z => by omega, by omega, ?_⟩
    simp [S__law_rest_2, rE, runF, startE, evSs, evS, evE, evL, evT, evI, evD, asgT, rdVar, peek, part, sliceP, binP, binA, cmpP, truP, bltE, blt1, blt2, lenP, mkR, mkL, mkD, retn, pvs, SV.pv, wipeE, walkOf, itemsP, notD, idxP, isKey, keyEq, dlook, dhas, dput, dictEq, okDict, mthE, mthC, mthP, mthT, argsM, isLst, changes, isiTy, smallR, finL, finD, tupP, listP, dicP, onL, onS, min2P, max2P, blt3, argsN, revP, inP, isP, isNon, eqP, okD, plainD, plainDs, dep, deps, eqv, eqvs, beqI, beqS, atI_0, atI_1, atI_2, sz0, sz1, sz2, sz3, sz4, sz5, sz6, sz7, sz8, sz9, sz10, sz11, sl0, sl1, sl2, sl3, sl4, sl5, hm]
  · have ne : ws ≠ [] := fun z => hm (by rw [← hwl, z]; rfl)
    obtain ⟨mm, idx, ⟨g1, g2⟩, g3, g4, g5⟩ := rf_sgl p.s p.f p.f0 p.n p.n0 ws 0 ne fun y hy => (hp y hy).1
    have mp := hp mm g1
    obtain ⟨a, rfl⟩ : ∃ a : Nat, mm = a := ⟨mm.toNat, by omega⟩
    have mv := maxV_ints g1 g2
    have fp := findP_ints g3 g4
    have hm' : 0 < p.m := by omega
    refine ⟨a, [((idx : Nat), 0)], by simp, ?_, fun _ => mv, by omega, ?_⟩
    · rw [g5]; simp
    · have o1 : okAll (ws.map PV.int) = true := okAll_ints ws
      simp [S__law_rest_2, rE, runF, startE, evSs, evS, evE, evL, evT, evI, evD, asgT, rdVar, peek, part, sliceP, binP, binA, cmpP, truP, bltE, blt1, blt2, lenP, mkR, mkL, mkD, retn, pvs, SV.pv, wipeE, walkOf, itemsP, notD, idxP, isKey, keyEq, dlook, dhas, dput, dictEq, okDict, mthE, mthC, mthP, mthT, argsM, isLst, changes, isiTy, smallR, finL, finD, tupP, listP, dicP, onL, onS, min2P, max2P, blt3, argsN, revP, inP, isP, isNon, eqP, okD, plainD, plainDs, dep, deps, eqv, eqvs, beqI, beqS, atI_0, atI_1, atI_2, hm']
      simp [mv, fp, sz0, sz1, sz2, sz3, sz4, sz5, sz6, sz7, sz8, sz9, sz10, sz11, sl0, sl1, sl2, sl3, sl4, sl5, prI, plain_ints, deps_ints, pvs, SV.pv, plainD, dep]
theorem r3 (ws : List Int) (hwl : ws.length = p.m) (hp : ∀ y ∈ ws, 0 < y ∧ y ≤ 9) (a : Nat) (row : List (Int × Int)) (hr : row.length ≤ 1) (hrf : rf (gz p.s p.f p.n) (ws.map sgl) 0 0 = (-(a : Int), (row.length : Int), row)) (hmx : 0 < p.m → maxV (ws.map PV.int) = some (.int a)) :
    evS (callN prog L) S__law_rest_3 (rE p (vS (.lst (ws.map .int))) (vS (sglT ws)) (vS (.tup [.int a, .tup (prs row)])) x14 x15 x16 x17 x18 x19 x20) h = some (.nx (rE p (vS (.lst (ws.map .int))) (vS (sglT ws)) (vS (.tup [.int a, .tup (prs row)])) x14 x15 x16 x17 x18 x19 x20) h) := by
  have m1 := p.m1
  have len : (ws.map sgl).length ≤ 5 := by rw [List.length_map]; omega
  have b := bestL (L := L) (ts := ws.map sgl) (by omega) (bz p.s p.f p.n) p.bl p.e h (by omega)
  rw [p.gaps, hrf] at b
  simp only [Int.neg_neg] at b
  have sb := same_best (L := L) (by omega) a row (by omega) h
  have su := sum_pos hp
  have t1 : evT (callN prog L) (.not (.of (.call 18 (.cons (.call 8 (.cons (.var 1 false) (.cons (.var 2 false) (.cons (.var 12 false) .nil)))) (.cons (.var 13 false) .nil))))) (rE p (vS (.lst (ws.map .int))) (vS (sglT ws)) (vS (.tup [.int a, .tup (prs row)])) x14 x15 x16 x17 x18 x19 x20) h = some (false, h) :=
    t_nt (t_no (e_call2 (e_call3 rfl rfl rfl b) rfl sb))
  by_cases hm : p.m = 0
  · have e0 : ws = [] := List.eq_nil_of_length_eq_zero (by omega)
    subst e0
    have sh := share0L (L := L) (ts := ([] : List Int).map sgl) (by omega) (bz p.s p.f p.n) p.e h (by simp) (by simp)
    have sm := same_two (L := L) (by omega) 1 1 h
    refine s_skip (t_or t1 (t_nt (t_no (e_call2 (e_call3 rfl rfl rfl sh) (h2 := h) (y := .v (.tup [.int 1, .int 1])) ?_ sm))))
    simp [runF, startE, evSs, evS, evE, evL, evT, evI, evD, asgT, rdVar, peek, part, sliceP, binP, binA, cmpP, truP, bltE, blt1, blt2, lenP, mkR, mkL, mkD, retn, pvs, SV.pv, wipeE, walkOf, itemsP, notD, idxP, isKey, keyEq, dlook, dhas, dput, dictEq, okDict, mthE, mthC, mthP, mthT, argsM, isLst, changes, isiTy, smallR, finL, finD, tupP, listP, dicP, onL, onS, min2P, max2P, blt3, argsN, revP, inP, isP, isNon, eqP, okD, plainD, plainDs, dep, deps, eqv, eqvs, beqI, beqS, atI_0, atI_1, atI_2, rE, sz0, sz1, sz2, sz3, sz4, sz5, sz6, sz7, sz8, sz9, sz10, sz11, sl0, sl1, sl2, sl3, sl4, sl5, hm]
  · obtain ⟨b', hb'⟩ : ∃ b' : Nat, ws.sum = b' := ⟨ws.sum.toNat, by omega⟩
    have sh := shareL (L := L) (ts := ws.map sgl) (by omega) (bz p.s p.f p.n) p.bl p.e h (by omega) a b' (by omega) (by omega) (by rw [p.gaps, hrf]; simp) (by rw [sgl_sum, hb'])
    have pa := partL (L := L) (by omega) a b' (by omega) (by omega) h
    have sm := same_two (L := L) (by omega) ((a / Nat.gcd a b' : Nat) : Int) ((b' / Nat.gcd a b' : Nat) : Int) h
    have mv := hmx (by omega)
    have iv := ints_of ws
    refine s_skip (t_or t1 (t_nt (t_no (e_call2 (e_call3 rfl rfl rfl sh) (h2 := h) (y := .v (frP a b')) ?_ sm))))
    have hm' : 0 < p.m := by omega
    simp [runF, startE, evSs, evS, evE, evL, evT, evI, evD, asgT, rdVar, peek, part, sliceP, binP, binA, cmpP, truP, bltE, blt1, blt2, lenP, mkR, mkL, mkD, retn, pvs, SV.pv, wipeE, walkOf, itemsP, notD, idxP, isKey, keyEq, dlook, dhas, dput, dictEq, okDict, mthE, mthC, mthP, mthT, argsM, isLst, changes, isiTy, smallR, finL, finD, tupP, listP, dicP, onL, onS, min2P, max2P, blt3, argsN, revP, inP, isP, isNon, eqP, okD, plainD, plainDs, dep, deps, eqv, eqvs, beqI, beqS, atI_0, atI_1, atI_2, rE, hm']
    simp [mv, iv, hb', pa]
end
end Ev

set_option Elab.async false
set_option linter.all false
set_option maxRecDepth 100000
set_option maxHeartbeats 1000000
namespace Ev
def l0 (p : Par) : Tl := ⟨0, p.e, p.f + p.wd, 1⟩
def l1 (p : Par) : Tl := ⟨p.f, p.f, 1, 1⟩
def l2 (p : Par) : Tl := ⟨0, 0, p.z, 0⟩
def longT (p : Par) : PV := .tup ([l0 p, l1 p, l2 p].map tlE)
theorem t_nis {C : Calls} {a : Ex} {e : En} {h h1 : AH} (ha : evE C a e h = some (.v .non, h1)) : evT C (.of (.cmp .isNot a (.lit .non))) e h = some (false, h1) := by
  simp [evT, evE, ha, peek, cmpP, isP, isNon, truP]
theorem t_nisT {C : Calls} {a : Ex} {e : En} {h h1 : AH} (ha : evE C a e h = some (.v (.bl true), h1)) : evT C (.of (.cmp .isNot a (.lit (.bl true)))) e h = some (false, h1) := by
  simp [evT, evE, ha, peek, cmpP, isP, isNon, truP]
theorem t_nisF {C : Calls} {a : Ex} {e : En} {h h1 : AH} (ha : evE C a e h = some (.v (.bl false), h1)) : evT C (.of (.cmp .isNot a (.lit (.bl false)))) e h = some (false, h1) := by
  simp [evT, evE, ha, peek, cmpP, isP, isNon, truP]
theorem repS_one (x : PV) : ∀ n, rep [x] n = List.replicate n x
  | 0 => rfl
  | n + 1 => by have := repS_one x n; simp only [rep, List.replicate_succ, List.flatten_cons] at this ⊢; rw [this]; rfl
section
variable {L : Nat} (hL : 12 ≤ L) (p : Par) (x11 x12 x13 x14 x15 x16 x17 x18 x19 x20 : Option SV) (h : AH)
include hL
theorem r4 : evS (callN prog L) S__law_rest_4 (rE p x11 x12 x13 x14 x15 x16 x17 x18 x19 x20) h = some (.nx (rE p x11 x12 x13 (vS (longT p)) x15 x16 x17 x18 x19 x20) h) := by
  simp [S__law_rest_4, rE, runF, startE, evSs, evS, evE, evL, evT, evI, evD, asgT, rdVar, peek, part, sliceP, binP, binA, cmpP, truP, bltE, blt1, blt2, lenP, mkR, mkL, mkD, retn, pvs, SV.pv, wipeE, walkOf, itemsP, notD, idxP, isKey, keyEq, dlook, dhas, dput, dictEq, okDict, mthE, mthC, mthP, mthT, argsM, isLst, changes, isiTy, smallR, finL, finD, tupP, listP, dicP, onL, onS, min2P, max2P, blt3, argsN, revP, inP, isP, isNon, eqP, okD, plainD, plainDs, dep, deps, eqv, eqvs, beqI, beqS, atI_0, atI_1, atI_2, sz0, sz1, sz2, sz3, sz4, sz5, sz6, sz7, sz8, sz9, sz10, sz11, sl0, sl1, sl2, sl3, sl4, sl5, longT, tlE, l0, l1, l2]
theorem r5 : evS (callN prog L) S__law_rest_5 (rE p x11 x12 x13 (vS (longT p)) x15 x16 x17 x18 x19 x20) h = some (.nx (rE p x11 x12 x13 (vS (longT p)) x15 x16 x17 x18 x19 x20) h) := by
  have f0 := p.f0
  have f1 := p.f1
  have w1 := p.wd1
  have a0 := mustL (L := L) (by omega) (bz p.s p.f p.n) p.bl p.e [l0 p, l1 p, l2 p] 0 (l0 p) rfl (by simp only [l0]; omega) (by simp only [l0]; omega) h
  have a1 := mustL (L := L) (by omega) (bz p.s p.f p.n) p.bl p.e [l0 p, l1 p, l2 p] 1 (l1 p) rfl (by simp only [l1]; omega) (by simp only [l1]; omega) h
  rw [p.gaps] at a0 a1
  have m0 : msF (gz p.s p.f p.n) (l0 p) (List.range (l0 p).l.toNat) = some p.wd := ms0 p.f0 p.fs p.n0 p.wd
  have m1 : msF (gz p.s p.f p.n) (l1 p) (List.range (l1 p).l.toNat) = none := ms1 p.f0 p.fs p.n0
  rw [m0] at a0
  rw [m1] at a1
  refine s_skip (t_or (t_nt (t_no (e_call2 (e_call4 rfl rfl rfl rfl a0) rfl (same_int (by omega) _ _)))) (t_nis (e_call4 rfl rfl rfl rfl a1)))
theorem r6 : evS (callN prog L) S__law_rest_6 (rE p x11 x12 x13 (vS (longT p)) x15 x16 x17 x18 x19 x20) h = some (.nx (rE p x11 x12 x13 (vS (longT p)) x15 x16 x17 x18 x19 x20) h) := by
  have z0 := p.z0
  have z1 := p.z1
  have a0 := mustL (L := L) (by omega) (bz p.s p.f p.n) p.bl p.e [l0 p, l1 p, l2 p] 2 (l2 p) rfl (by simp only [l2]; omega) (by simp only [l2]; omega) h
  rw [p.gaps] at a0
  have m0 : msF (gz p.s p.f p.n) (l2 p) (List.range (l2 p).l.toNat) = some (p.z - p.f).toNat := ms2 p.f0 p.fs p.n0 p.z p.z0
  rw [m0] at a0
  refine s_skip (t_nt (t_no (e_call2 (e_call4 rfl rfl rfl rfl a0) (h2 := h) (y := .v (.int (p.z - p.f).toNat)) ?_ (same_int (by omega) _ _))))
  simp [runF, startE, evSs, evS, evE, evL, evT, evI, evD, asgT, rdVar, peek, part, sliceP, binP, binA, cmpP, truP, bltE, blt1, blt2, lenP, mkR, mkL, mkD, retn, pvs, SV.pv, wipeE, walkOf, itemsP, notD, idxP, isKey, keyEq, dlook, dhas, dput, dictEq, okDict, mthE, mthC, mthP, mthT, argsM, isLst, changes, isiTy, smallR, finL, finD, tupP, listP, dicP, onL, onS, min2P, max2P, blt3, argsN, revP, inP, isP, isNon, eqP, okD, plainD, plainDs, dep, deps, eqv, eqvs, beqI, beqS, atI_0, atI_1, atI_2, rE]
  omega
def fr (p : Par) : Tl := ⟨0, p.e, 1, 0⟩
theorem rep_free : evE (callN prog L) (.bin .mul (.tup (.cons (.tup (.cons (.lit (.int 0)) (.cons (.var 2 false) (.cons (.lit (.int 1)) (.cons (.lit (.int 0)) .nil))))) .nil)) (.var 4 false)) (rE p x11 x12 x13 x14 x15 x16 x17 x18 x19 x20) h = some (.v (.tup ((List.replicate p.m (fr p)).map tlE)), h) := by
  have m1 := p.m1
  simp [runF, startE, evSs, evS, evE, evL, evT, evI, evD, asgT, rdVar, peek, part, sliceP, binP, binA, cmpP, truP, bltE, blt1, blt2, lenP, mkR, mkL, mkD, retn, pvs, SV.pv, wipeE, walkOf, itemsP, notD, idxP, isKey, keyEq, dlook, dhas, dput, dictEq, okDict, mthE, mthC, mthP, mthT, argsM, isLst, changes, isiTy, smallR, finL, finD, tupP, listP, dicP, onL, onS, min2P, max2P, blt3, argsN, revP, inP, isP, isNon, eqP, okD, plainD, plainDs, dep, deps, eqv, eqvs, beqI, beqS, atI_0, atI_1, atI_2, rE, sz0, sz1, sz2, sz3, sz4, sz5, sz6, sz7, sz8, sz9, sz10, sz11, sl0, sl1, sl2, sl3, sl4, sl5, fr, tlE]
  exact ⟨by omega, repS_one _ _⟩
theorem r7 : evS (callN prog L) S__law_rest_7 (rE p x11 x12 x13 x14 x15 x16 x17 x18 x19 x20) h = some (.nx (rE p x11 x12 x13 x14 x15 x16 x17 x18 x19 x20) h) := by
  have m1 := p.m1
  have rl : (List.replicate p.m (fr p)).length ≤ 5 := by simp; omega
  have b := bestL (L := L) (ts := List.replicate p.m (fr p)) (by omega) (bz p.s p.f p.n) p.bl p.e h (by omega)
  rw [p.gaps, fr, rf_free] at b
  have sh := share0L (L := L) (ts := List.replicate p.m (fr p)) (by omega) (bz p.s p.f p.n) p.e h (by omega) (by simp [fr])
  have sm := same_best (L := L) (by omega) 0 [] (by simp) h
  have sm2 := same_two (L := L) (by omega) 1 1 h
  have rp := rep_free hL p x11 x12 x13 x14 x15 x16 x17 x18 x19 x20 h
  refine s_skip (t_or (t_nt (t_no (e_call2 (e_call3 rfl rfl rp b) (h2 := h) (y := .v (.tup [.int 0, .tup []])) ?_ sm))) (t_nt (t_no (e_call2 (e_call3 rfl rfl rp sh) (h2 := h) (y := .v (.tup [.int 1, .int 1])) ?_ sm2))))
  · simp [runF, startE, evSs, evS, evE, evL, evT, evI, evD, asgT, rdVar, peek, part, sliceP, binP, binA, cmpP, truP, bltE, blt1, blt2, lenP, mkR, mkL, mkD, retn, pvs, SV.pv, wipeE, walkOf, itemsP, notD, idxP, isKey, keyEq, dlook, dhas, dput, dictEq, okDict, mthE, mthC, mthP, mthT, argsM, isLst, changes, isiTy, smallR, finL, finD, tupP, listP, dicP, onL, onS, min2P, max2P, blt3, argsN, revP, inP, isP, isNon, eqP, okD, plainD, plainDs, dep, deps, eqv, eqvs, beqI, beqS, atI_0, atI_1, atI_2, sz0, sz1, sz2, sz3, sz4, sz5, sz6, sz7, sz8, sz9, sz10, sz11, sl0, sl1, sl2, sl3, sl4, sl5]
  · simp [runF, startE, evSs, evS, evE, evL, evT, evI, evD, asgT, rdVar, peek, part, sliceP, binP, binA, cmpP, truP, bltE, blt1, blt2, lenP, mkR, mkL, mkD, retn, pvs, SV.pv, wipeE, walkOf, itemsP, notD, idxP, isKey, keyEq, dlook, dhas, dput, dictEq, okDict, mthE, mthC, mthP, mthT, argsM, isLst, changes, isiTy, smallR, finL, finD, tupP, listP, dicP, onL, onS, min2P, max2P, blt3, argsN, revP, inP, isP, isNon, eqP, okD, plainD, plainDs, dep, deps, eqv, eqvs, beqI, beqS, atI_0, atI_1, atI_2, sz0, sz1, sz2, sz3, sz4, sz5, sz6, sz7, sz8, sz9, sz10, sz11, sl0, sl1, sl2, sl3, sl4, sl5]
theorem r8 : evS (callN prog L) S__law_rest_8 (rE p x11 x12 x13 x14 x15 x16 x17 x18 x19 x20) h = some (.nx (rE p x11 x12 x13 x14 x15 x16 x17 x18 x19 x20) h) := by
  have m1 := p.m1
  have b := toldL (L := L) (by omega) (bz p.s p.f p.n) p.bl p.e p.tl p.m [] (by omega) (by simp) h
  refine s_skip (t_nisT (e_call4 rfl rfl rfl (h4 := h) (u := .v (.tup [])) ?_ b))
  simp [runF, startE, evSs, evS, evE, evL, evT, evI, evD, asgT, rdVar, peek, part, sliceP, binP, binA, cmpP, truP, bltE, blt1, blt2, lenP, mkR, mkL, mkD, retn, pvs, SV.pv, wipeE, walkOf, itemsP, notD, idxP, isKey, keyEq, dlook, dhas, dput, dictEq, okDict, mthE, mthC, mthP, mthT, argsM, isLst, changes, isiTy, smallR, finL, finD, tupP, listP, dicP, onL, onS, min2P, max2P, blt3, argsN, revP, inP, isP, isNon, eqP, okD, plainD, plainDs, dep, deps, eqv, eqvs, beqI, beqS, atI_0, atI_1, atI_2, sz0, sz1, sz2, sz3, sz4, sz5, sz6, sz7, sz8, sz9, sz10, sz11, sl0, sl1, sl2, sl3, sl4, sl5]
theorem r9 (ds : List Int) (k : Nat) : evS (callN prog L) S__law_rest_9 (rE p x11 x12 x13 x14 x15 x16 x17 x18 x19 x20) [Wc ds k] = some (.nx (rE p x11 x12 x13 x14 (iS (nx ds k p.e)) (iS (1 + nx ds (k + 1) 20)) x17 x18 x19 x20) [Wc ds (k + 2)]) := by
  have q0 := nextL (L := L) (by omega) ds k p.e [] p.e0
  have q1 := nextL (L := L) (by omega) ds (k + 1) 20 [] (by omega)
  simp [S__law_rest_9, runF, startE, evSs, evS, evE, evL, evT, evI, evD, asgT, rdVar, peek, part, sliceP, binP, binA, cmpP, truP, bltE, blt1, blt2, lenP, mkR, mkL, mkD, retn, pvs, SV.pv, wipeE, walkOf, itemsP, notD, idxP, isKey, keyEq, dlook, dhas, dput, dictEq, okDict, mthE, mthC, mthP, mthT, argsM, isLst, changes, isiTy, smallR, finL, finD, tupP, listP, dicP, onL, onS, min2P, max2P, blt3, argsN, revP, inP, isP, isNon, eqP, okD, plainD, plainDs, dep, deps, eqv, eqvs, beqI, beqS, atI_0, atI_1, atI_2, rE]
  simp [Wc] at q0 q1 ⊢
  simp [q0, q1]
  omega
end
end Ev

set_option Elab.async false
set_option linter.all false
set_option maxRecDepth 100000
set_option maxHeartbeats 1000000
namespace Ev
def lt2 (at' pause : Int) (p : Int × Int) : Int × Int := (p.1 + (if at' ≤ p.1 then pause else 0), p.2 + (if at' < p.2 then pause else 0))
theorem lt2_wp (at' pause : Int) (p : Int × Int) (h : p.1 < p.2) : lt2 at' pause p = wp at' pause p := by
  unfold lt2 wp
  by_cases h1 : at' ≤ p.1
  · rw [if_pos h1, if_pos (show at' < p.2 by omega), if_pos h1]
  · rw [if_neg h1, if_neg h1]
    by_cases h2 : at' < p.2
    · rw [if_pos h2, if_pos h2]; simp
    · rw [if_neg h2, if_neg h2]; simp
theorem wp_sub (at' pause : Int) (p : Int × Int) (h : p.1 < p.2) : (wp at' pause p).2 - (wp at' pause p).1 = p.2 - p.1 + if p.1 < at' ∧ at' < p.2 then pause else 0 := by
  unfold wp
  by_cases h1 : at' ≤ p.1
  · rw [if_pos h1, if_neg (by omega)]; simp only; omega
  · rw [if_neg h1]
    by_cases h2 : at' < p.2
    · rw [if_pos h2, if_pos (by omega)]; simp only; omega
    · rw [if_neg h2, if_neg (by omega)]; simp only; omega
theorem later_eq {s f : Int} (hs : f < s) (n : Nat) (at' pause : Int) : (bz s f n).map (lt2 at' pause) = (bz s f n).map (wp at' pause) := by
  apply List.map_congr_left
  intro p hp
  obtain ⟨k, _, rfl⟩ := List.mem_map.mp hp
  exact lt2_wp _ _ _ (by simp only; omega)
theorem div_of {s : Int} (hs : 0 < s) {at' : Int} (h0 : 0 ≤ at') : ∃ (q : Nat) (r : Int), at' = s * q + r ∧ 0 ≤ r ∧ r < s ∧ at' / s = q ∧ at' % s = r := by
  have e1 := Int.mul_ediv_add_emod at' s
  have e2 := Int.emod_nonneg at' (show s ≠ 0 by omega)
  have e3 := Int.emod_lt_of_pos at' hs
  have e4 := Int.ediv_nonneg h0 (show 0 ≤ s by omega)
  refine ⟨(at' / s).toNat, at' % s, ?_, e2, e3, by omega, rfl⟩
  rw [show (((at' / s).toNat : Nat) : Int) = at' / s by omega]
  omega
theorem in_talk {s f : Int} (hf : 0 < f) (hs : f < s) {q k : Nat} {r : Int} (r0 : 0 ≤ r) (r1 : r < s) : (s * (k : Int) + f < s * q + r ∧ s * (q : Int) + r < s * k + s) ↔ (k = q ∧ f < r) := by
  constructor
  · rintro ⟨h1, h2⟩
    rcases Nat.lt_trichotomy k q with h | h | h
    · have := mul_up (s := s) (by omega) (show k + 1 ≤ q from h)
      rw [mul_step] at this
      omega
    · subst h; exact ⟨rfl, by omega⟩
    · have := mul_up (s := s) (by omega) (show q + 1 ≤ k from h)
      rw [mul_step] at this
      omega
  · rintro ⟨rfl, h⟩
    omega
theorem talk_sum {s f : Int} (hf : 0 < f) (hs : f < s) (q : Nat) (r : Int) (r0 : 0 ≤ r) (r1 : r < s) (pause : Int) : ∀ n : Nat, ((bz s f n).map fun p => (wp (s * q + r) pause p).2 - (wp (s * q + r) pause p).1).sum = n * (s - f) + if q < n ∧ f < r then pause else 0
  | 0 => by simp [bz]
  | n + 1 => by
    have ih := talk_sum hf hs q r r0 r1 pause n
    have e : bz s f (n + 1) = bz s f n ++ [(s * (n : Int) + f, s * (n : Int) + s)] := by simp only [bz, List.range_succ, List.map_append, List.map_cons, List.map_nil]
    rw [e, List.map_append, List.sum_append, ih, List.map_cons, List.map_nil, List.sum_cons, List.sum_nil, wp_sub _ _ _ (by simp only; omega)]
    have it := in_talk hf hs (q := q) (k := n) r0 r1
    have em : ((n + 1 : Nat) : Int) * (s - f) = n * (s - f) + (s - f) := by rw [Int.natCast_add, Int.add_mul]; simp
    rw [em]
    simp only [it]
    by_cases h1 : f < r
    · rcases Nat.lt_trichotomy q n with h | h | h
      · rw [if_pos ⟨h, h1⟩, if_neg (by omega), if_pos ⟨by omega, h1⟩]; omega
      · subst h
        rw [if_neg (by omega), if_pos ⟨rfl, h1⟩, if_pos ⟨by omega, h1⟩]; omega
      · rw [if_neg (by omega), if_neg (by omega), if_neg (by omega)]; omega
    · rw [if_neg (by omega), if_neg (by omega), if_neg (by omega)]; omega
section
variable {L : Nat} (hL : 12 ≤ L) (p : Par) (x11 x12 x13 x14 x15 x16 x17 x18 x19 x20 : Option SV) (h : AH)
include hL
theorem r10 (a pa : Int) : evS (callN prog L) S__law_rest_10 (rE p x11 x12 x13 x14 (iS a) (iS pa) x17 x18 x19 x20) h = some (.nx (rE p x11 x12 x13 x14 (iS a) (iS pa) (iS (a / p.s)) (vS (.bl (decide (p.f < a % p.s)))) x19 x20) h) := by
  have s0 := p.s0
  have s1 : ¬ p.s = 0 := by omega
  have s2 : p.s < 1073741824 := by have := p.s1; omega
  simp [S__law_rest_10, runF, startE, evSs, evS, evE, evL, evT, evI, evD, asgT, rdVar, peek, part, sliceP, binP, binA, cmpP, truP, bltE, blt1, blt2, lenP, mkR, mkL, mkD, retn, pvs, SV.pv, wipeE, walkOf, itemsP, notD, idxP, isKey, keyEq, dlook, dhas, dput, dictEq, okDict, mthE, mthC, mthP, mthT, argsM, isLst, changes, isiTy, smallR, finL, finD, tupP, listP, dicP, onL, onS, min2P, max2P, blt3, argsN, revP, inP, isP, isNon, eqP, okD, plainD, plainDs, dep, deps, eqv, eqvs, beqI, beqS, atI_0, atI_1, atI_2, rE, s0, s1, s2]
theorem r11 (a pa : Int) : evS (callN prog L) S__law_rest_11 (rE p x11 x12 x13 x14 (iS a) (iS pa) x17 x18 x19 x20) h = some (.nx (rE p x11 x12 x13 x14 (iS a) (iS pa) x17 x18 (vS (.tup (prs ((bz p.s p.f p.n).map (wp a pa))))) x20) h) := by
  have c := comp_map (C := callN prog L) (elt := .tup (.cons (.bin .add (.var 21 false) (.ite (.of (.cmp .ge (.var 21 false) (.var 15 false))) (.var 16 false) (.lit (.int 0)))) (.cons (.bin .add (.var 22 false) (.ite (.of (.cmp .gt (.var 22 false) (.var 15 false))) (.var 16 false) (.lit (.int 0)))) .nil))) (own := [21, 22]) (tg := .tp [21, 22]) (it := .var 1 false) (e := rE p x11 x12 x13 x14 (iS a) (iS pa) x17 x18 x19 x20) (h := h) (g := none) (bz p.s p.f p.n) prI (fun y => prI (lt2 a pa y))
    (by simp [evI, rE, rdVar, walkOf, itemsP, Par.B]) (le_sz (by have := p.bl; omega)) (fun _ => rfl) (fun y hy acc => ⟨_, rfl, by
      by_cases h1 : a ≤ y.1
      · by_cases h2 : a < y.2
        · simp [runF, startE, evSs, evS, evE, evL, evT, evI, evD, asgT, rdVar, peek, part, sliceP, binP, binA, cmpP, truP, bltE, blt1, blt2, lenP, mkR, mkL, mkD, retn, pvs, SV.pv, wipeE, walkOf, itemsP, notD, idxP, isKey, keyEq, dlook, dhas, dput, dictEq, okDict, mthE, mthC, mthP, mthT, argsM, isLst, changes, isiTy, smallR, finL, finD, tupP, listP, dicP, onL, onS, min2P, max2P, blt3, argsN, revP, inP, isP, isNon, eqP, okD, plainD, plainDs, dep, deps, eqv, eqvs, beqI, beqS, atI_0, atI_1, atI_2, rE, sz0, sz1, sz2, sz3, sz4, sz5, sz6, sz7, sz8, sz9, sz10, sz11, sl0, sl1, sl2, sl3, sl4, sl5, prI, lt2, h1, h2]
        · simp [runF, startE, evSs, evS, evE, evL, evT, evI, evD, asgT, rdVar, peek, part, sliceP, binP, binA, cmpP, truP, bltE, blt1, blt2, lenP, mkR, mkL, mkD, retn, pvs, SV.pv, wipeE, walkOf, itemsP, notD, idxP, isKey, keyEq, dlook, dhas, dput, dictEq, okDict, mthE, mthC, mthP, mthT, argsM, isLst, changes, isiTy, smallR, finL, finD, tupP, listP, dicP, onL, onS, min2P, max2P, blt3, argsN, revP, inP, isP, isNon, eqP, okD, plainD, plainDs, dep, deps, eqv, eqvs, beqI, beqS, atI_0, atI_1, atI_2, rE, sz0, sz1, sz2, sz3, sz4, sz5, sz6, sz7, sz8, sz9, sz10, sz11, sl0, sl1, sl2, sl3, sl4, sl5, prI, lt2, h1, h2]
      · by_cases h2 : a < y.2
        · simp [runF, startE, evSs, evS, evE, evL, evT, evI, evD, asgT, rdVar, peek, part, sliceP, binP, binA, cmpP, truP, bltE, blt1, blt2, lenP, mkR, mkL, mkD, retn, pvs, SV.pv, wipeE, walkOf, itemsP, notD, idxP, isKey, keyEq, dlook, dhas, dput, dictEq, okDict, mthE, mthC, mthP, mthT, argsM, isLst, changes, isiTy, smallR, finL, finD, tupP, listP, dicP, onL, onS, min2P, max2P, blt3, argsN, revP, inP, isP, isNon, eqP, okD, plainD, plainDs, dep, deps, eqv, eqvs, beqI, beqS, atI_0, atI_1, atI_2, rE, sz0, sz1, sz2, sz3, sz4, sz5, sz6, sz7, sz8, sz9, sz10, sz11, sl0, sl1, sl2, sl3, sl4, sl5, prI, lt2, h1, h2]
        · simp [runF, startE, evSs, evS, evE, evL, evT, evI, evD, asgT, rdVar, peek, part, sliceP, binP, binA, cmpP, truP, bltE, blt1, blt2, lenP, mkR, mkL, mkD, retn, pvs, SV.pv, wipeE, walkOf, itemsP, notD, idxP, isKey, keyEq, dlook, dhas, dput, dictEq, okDict, mthE, mthC, mthP, mthT, argsM, isLst, changes, isiTy, smallR, finL, finD, tupP, listP, dicP, onL, onS, min2P, max2P, blt3, argsN, revP, inP, isP, isNon, eqP, okD, plainD, plainDs, dep, deps, eqv, eqvs, beqI, beqS, atI_0, atI_1, atI_2, rE, sz0, sz1, sz2, sz3, sz4, sz5, sz6, sz7, sz8, sz9, sz10, sz11, sl0, sl1, sl2, sl3, sl4, sl5, prI, lt2, h1, h2]⟩)
  have := e_asg (i := 19) (e_blt1 (b := .tuple) (m := false) c rfl rfl)
  rw [S__law_rest_11, this]
  have e : (bz p.s p.f p.n).map (fun y => prI (lt2 a pa y)) = prs ((bz p.s p.f p.n).map (wp a pa)) := by rw [← later_eq p.fs]; simp [prs, Function.comp_def]
  rw [e]
  simp [rE]
theorem r12 (a pa : Int) (a0 : 0 ≤ a) (a1 : a < p.e) : evS (callN prog L) S__law_rest_12 (rE p x11 x12 x13 x14 (iS a) (iS pa) (iS (a / p.s)) (vS (.bl (decide (p.f < a % p.s)))) (vS (.tup (prs ((bz p.s p.f p.n).map (wp a pa))))) x20) h = some (.nx (rE p x11 x12 x13 x14 (iS a) (iS pa) (iS (a / p.s)) (vS (.bl (decide (p.f < a % p.s)))) (vS (.tup (prs ((bz p.s p.f p.n).map (wp a pa))))) x20) h) := by
  have bl := p.bl
  obtain ⟨q, r, ea, r0, r1, ed, em⟩ := div_of p.s0 a0
  have qn : q < p.n := by
    apply Decidable.byContradiction
    intro hn
    have := mul_up (s := p.s) (by have := p.s0; omega) (show p.n ≤ q by omega)
    unfold Par.e at a1
    omega
  have b := pauseL (L := L) (by omega) (bz p.s p.f p.n) p.bl a pa h
  have s1 := same_prs (L := L) (by omega) ((bz p.s p.f p.n).map (wp a pa)) (by rw [List.length_map]; omega) h
  rw [ed, em]
  have c := comp_map (C := callN prog L) (elt := .bin .sub (.var 22 false) (.var 21 false)) (own := [21, 22]) (tg := .tp [21, 22]) (it := .ex (.call 12 (.cons (.var 1 false) (.cons (.var 15 false) (.cons (.var 16 false) .nil))))) (e := rE p x11 x12 x13 x14 (iS a) (iS pa) (iS q) (vS (.bl (decide (p.f < r)))) (vS (.tup (prs ((bz p.s p.f p.n).map (wp a pa))))) x20) (h := h) (g := none) ((bz p.s p.f p.n).map (wp a pa)) prI (fun y => .int (y.2 - y.1))
    (by rw [evI, e_call3 rfl rfl rfl b]; simp [walkOf, itemsP, notD]) (le_sz (by rw [List.length_map]; omega)) (fun _ => rfl) (fun y hy acc => ⟨_, rfl, by simp [runF, startE, evSs, evS, evE, evL, evT, evI, evD, asgT, rdVar, peek, part, sliceP, binP, binA, cmpP, truP, bltE, blt1, blt2, lenP, mkR, mkL, mkD, retn, pvs, SV.pv, wipeE, walkOf, itemsP, notD, idxP, isKey, keyEq, dlook, dhas, dput, dictEq, okDict, mthE, mthC, mthP, mthT, argsM, isLst, changes, isiTy, smallR, finL, finD, tupP, listP, dicP, onL, onS, min2P, max2P, blt3, argsN, revP, inP, isP, isNon, eqP, okD, plainD, plainDs, dep, deps, eqv, eqvs, beqI, beqS, atI_0, atI_1, atI_2, rE, prI]⟩)
  have e1 : ((bz p.s p.f p.n).map (wp a pa)).map (fun y => PV.int (y.2 - y.1)) = ((bz p.s p.f p.n).map fun y => (wp a pa y).2 - (wp a pa y).1).map PV.int := by rw [List.map_map, List.map_map]; rfl
  have ts := talk_sum p.f0 p.fs q r r0 r1 pa p.n
  rw [← ea] at ts
  rw [e1] at c
  have io := ints_of ((bz p.s p.f p.n).map fun y => (wp a pa y).2 - (wp a pa y).1)
  have sm := same_int (L := L) (by omega) (p.n * p.t + if p.f < r then pa else 0) h
  have et : p.s - p.f = p.t := by unfold Par.s; omega
  rw [et] at ts
  have ts' : ((bz p.s p.f p.n).map fun y => (wp a pa y).2 - (wp a pa y).1).sum = p.n * p.t + if p.f < r then pa else 0 := by
    rw [ts]
    by_cases hr : p.f < r
    · rw [if_pos ⟨qn, hr⟩, if_pos hr]
    · rw [if_neg (by omega), if_neg hr]
  refine s_skip (t_or (t_nt (t_no (e_call2 (e_call3 rfl rfl rfl b) rfl s1))) (t_or (t_nt (t_no (e_call2 (e_blt1 c (r := .int (p.n * p.t + if p.f < r then pa else 0)) ?_ rfl) (h2 := h) (y := .v (.int (p.n * p.t + if p.f < r then pa else 0))) ?_ sm))) ?_))
  · simp only [blt1, onS, io, ts', Option.map_some]
  · have mo : mulOk (p.n : Int) p.t = true := mulOk_small (by omega) (by have := p.n1; omega)
    have bm : binP .mul (.int (p.n : Int)) (.int p.t) = some (.int (p.n * p.t)) := by simp only [binP, mo, if_true]
    refine e_bin (p := .int (p.n * p.t)) (q := .int (if p.f < r then pa else 0)) (h1 := h) (e_bin (p := .int p.n) (q := .int p.t) (h1 := h) rfl rfl bm) ?_ rfl
    by_cases hr : p.f < r
    · simp [runF, startE, evSs, evS, evE, evL, evT, evI, evD, asgT, rdVar, peek, part, sliceP, binP, binA, cmpP, truP, bltE, blt1, blt2, lenP, mkR, mkL, mkD, retn, pvs, SV.pv, wipeE, walkOf, itemsP, notD, idxP, isKey, keyEq, dlook, dhas, dput, dictEq, okDict, mthE, mthC, mthP, mthT, argsM, isLst, changes, isiTy, smallR, finL, finD, tupP, listP, dicP, onL, onS, min2P, max2P, blt3, argsN, revP, inP, isP, isNon, eqP, okD, plainD, plainDs, dep, deps, eqv, eqvs, beqI, beqS, atI_0, atI_1, atI_2, rE, hr]
    · simp [runF, startE, evSs, evS, evE, evL, evT, evI, evD, asgT, rdVar, peek, part, sliceP, binP, binA, cmpP, truP, bltE, blt1, blt2, lenP, mkR, mkL, mkD, retn, pvs, SV.pv, wipeE, walkOf, itemsP, notD, idxP, isKey, keyEq, dlook, dhas, dput, dictEq, okDict, mthE, mthC, mthP, mthT, argsM, isLst, changes, isiTy, smallR, finL, finD, tupP, listP, dicP, onL, onS, min2P, max2P, blt3, argsN, revP, inP, isP, isNon, eqP, okD, plainD, plainDs, dep, deps, eqv, eqvs, beqI, beqS, atI_0, atI_1, atI_2, rE, hr]
  · have : ¬ (p.n : Int) ≤ q := by omega
    simp [runF, startE, evSs, evS, evE, evL, evT, evI, evD, asgT, rdVar, peek, part, sliceP, binP, binA, cmpP, truP, bltE, blt1, blt2, lenP, mkR, mkL, mkD, retn, pvs, SV.pv, wipeE, walkOf, itemsP, notD, idxP, isKey, keyEq, dlook, dhas, dput, dictEq, okDict, mthE, mthC, mthP, mthT, argsM, isLst, changes, isiTy, smallR, finL, finD, tupP, listP, dicP, onL, onS, min2P, max2P, blt3, argsN, revP, inP, isP, isNon, eqP, okD, plainD, plainDs, dep, deps, eqv, eqvs, beqI, beqS, atI_0, atI_1, atI_2, rE, this]
    try omega
theorem r13 (ds : List Int) (k : Nat) : evS (callN prog L) S__law_rest_13 (rE p x11 x12 x13 x14 x15 x16 x17 x18 x19 x20) [Wc ds k] = some (.nx (rE p x11 x12 x13 x14 x15 x16 x17 x18 x19 (iS (nx ds k (p.e + 30)))) [Wc ds (k + 1)]) := by
  have q0 := nextL (L := L) (by omega) ds k (p.e + 30) [] (by have := p.e0; omega)
  simp [S__law_rest_13, runF, startE, evSs, evS, evE, evL, evT, evI, evD, asgT, rdVar, peek, part, sliceP, binP, binA, cmpP, truP, bltE, blt1, blt2, lenP, mkR, mkL, mkD, retn, pvs, SV.pv, wipeE, walkOf, itemsP, notD, idxP, isKey, keyEq, dlook, dhas, dput, dictEq, okDict, mthE, mthC, mthP, mthT, argsM, isLst, changes, isiTy, smallR, finL, finD, tupP, listP, dicP, onL, onS, min2P, max2P, blt3, argsN, revP, inP, isP, isNon, eqP, okD, plainD, plainDs, dep, deps, eqv, eqvs, beqI, beqS, atI_0, atI_1, atI_2, rE]
  simp [Wc] at q0 ⊢
  simp [q0]
theorem r14 (mo : Int) (m0 : 0 ≤ mo) : evS (callN prog L) S__law_rest_14 (rE p x11 x12 x13 x14 x15 x16 x17 x18 x19 (iS mo)) h = some (.nx (rE p x11 x12 x13 x14 x15 x16 x17 x18 x19 (iS mo)) h) := by
  have m1 := p.m1
  have b := crowdL (L := L) (by omega) (List.replicate p.m p.tl) mo (by simp; omega) h
  have e1 : ((List.replicate p.m p.tl).filter (crd mo)).length = if mo < p.e + p.z then p.m else 0 := by
    rw [List.filter_replicate]
    have : crd mo p.tl = decide (mo < p.e + p.z) := by unfold crd; rw [show p.tl.f = 0 from rfl, show p.tl.t = p.e from rfl, show p.tl.l = p.z from rfl, decide_eq_true m0, Bool.true_and]
    rw [this]
    by_cases hc : mo < p.e + p.z
    · simp [hc]
    · simp [hc]
  have sm := same_int (L := L) (by omega) ((((List.replicate p.m p.tl).filter (crd mo)).length : Nat) : Int) h
  refine s_skip (t_nt (t_no (e_call2 (e_call2 rfl rfl b) (h2 := h) (y := .v (.int ((((List.replicate p.m p.tl).filter (crd mo)).length : Nat) : Int))) ?_ sm)))
  rw [e1]
  by_cases hc : mo < p.e + p.z
  · simp [runF, startE, evSs, evS, evE, evL, evT, evI, evD, asgT, rdVar, peek, part, sliceP, binP, binA, cmpP, truP, bltE, blt1, blt2, lenP, mkR, mkL, mkD, retn, pvs, SV.pv, wipeE, walkOf, itemsP, notD, idxP, isKey, keyEq, dlook, dhas, dput, dictEq, okDict, mthE, mthC, mthP, mthT, argsM, isLst, changes, isiTy, smallR, finL, finD, tupP, listP, dicP, onL, onS, min2P, max2P, blt3, argsN, revP, inP, isP, isNon, eqP, okD, plainD, plainDs, dep, deps, eqv, eqvs, beqI, beqS, atI_0, atI_1, atI_2, rE, hc]
  · simp [runF, startE, evSs, evS, evE, evL, evT, evI, evD, asgT, rdVar, peek, part, sliceP, binP, binA, cmpP, truP, bltE, blt1, blt2, lenP, mkR, mkL, mkD, retn, pvs, SV.pv, wipeE, walkOf, itemsP, notD, idxP, isKey, keyEq, dlook, dhas, dput, dictEq, okDict, mthE, mthC, mthP, mthT, argsM, isLst, changes, isiTy, smallR, finL, finD, tupP, listP, dicP, onL, onS, min2P, max2P, blt3, argsN, revP, inP, isP, isNon, eqP, okD, plainD, plainDs, dep, deps, eqv, eqvs, beqI, beqS, atI_0, atI_1, atI_2, rE, hc]
theorem r15 (mo : Int) : evS (callN prog L) S__law_rest_15 (rE p x11 x12 x13 x14 x15 x16 x17 x18 x19 (iS mo)) h = some (.nx (rE p x11 x12 x13 x14 x15 x16 x17 x18 x19 (iS mo)) h) := by
  have b := crowdL (L := L) (by omega) [⟨5, 9, 2, 1⟩, ⟨20, 20, 3, 1⟩] mo (by simp) h
  have sm := same_int (L := L) (by omega) ((([(⟨5, 9, 2, 1⟩ : Tl), ⟨20, 20, 3, 1⟩].filter (crd mo)).length : Nat) : Int) h
  refine s_skip (t_nt (t_no (e_call2 (e_call2 (x := .v (.tup ([(⟨5, 9, 2, 1⟩ : Tl), ⟨20, 20, 3, 1⟩].map tlE))) (y := .v (.int mo)) (h1 := h) (h2 := h) ?_ rfl b) (h2 := h) (y := .v (.int ((([(⟨5, 9, 2, 1⟩ : Tl), ⟨20, 20, 3, 1⟩].filter (crd mo)).length : Nat) : Int))) ?_ sm)))
  · simp [runF, startE, evSs, evS, evE, evL, evT, evI, evD, asgT, rdVar, peek, part, sliceP, binP, binA, cmpP, truP, bltE, blt1, blt2, lenP, mkR, mkL, mkD, retn, pvs, SV.pv, wipeE, walkOf, itemsP, notD, idxP, isKey, keyEq, dlook, dhas, dput, dictEq, okDict, mthE, mthC, mthP, mthT, argsM, isLst, changes, isiTy, smallR, finL, finD, tupP, listP, dicP, onL, onS, min2P, max2P, blt3, argsN, revP, inP, isP, isNon, eqP, okD, plainD, plainDs, dep, deps, eqv, eqvs, beqI, beqS, atI_0, atI_1, atI_2, sz0, sz1, sz2, sz3, sz4, sz5, sz6, sz7, sz8, sz9, sz10, sz11, sl0, sl1, sl2, sl3, sl4, sl5, tlE]
  · by_cases h1 : 5 ≤ mo <;> by_cases h2 : mo < 11 <;> by_cases h3 : 20 ≤ mo <;> by_cases h4 : mo < 23 <;> first | omega | simp [runF, startE, evSs, evS, evE, evL, evT, evI, evD, asgT, rdVar, peek, part, sliceP, binP, binA, cmpP, truP, bltE, blt1, blt2, lenP, mkR, mkL, mkD, retn, pvs, SV.pv, wipeE, walkOf, itemsP, notD, idxP, isKey, keyEq, dlook, dhas, dput, dictEq, okDict, mthE, mthC, mthP, mthT, argsM, isLst, changes, isiTy, smallR, finL, finD, tupP, listP, dicP, onL, onS, min2P, max2P, blt3, argsN, revP, inP, isP, isNon, eqP, okD, plainD, plainDs, dep, deps, eqv, eqvs, beqI, beqS, atI_0, atI_1, atI_2, rE, h1, h2, h3, h4, crd]
theorem r16 : evS (callN prog L) S__law_rest_16 (rE p x11 x12 x13 x14 x15 x16 x17 x18 x19 x20) h = some (.rt (.v (.bl true)) h) := by
  simp [S__law_rest_16, runF, startE, evSs, evS, evE, evL, evT, evI, evD, asgT, rdVar, peek, part, sliceP, binP, binA, cmpP, truP, bltE, blt1, blt2, lenP, mkR, mkL, mkD, retn, pvs, SV.pv, wipeE, walkOf, itemsP, notD, idxP, isKey, keyEq, dlook, dhas, dput, dictEq, okDict, mthE, mthC, mthP, mthT, argsM, isLst, changes, isiTy, smallR, finL, finD, tupP, listP, dicP, onL, onS, min2P, max2P, blt3, argsN, revP, inP, isP, isNon, eqP, okD, plainD, plainDs, dep, deps, eqv, eqvs, beqI, beqS, atI_0, atI_1, atI_2]
end
theorem rest_ok (N : Nat) (hN : 12 ≤ N) (p : Par) (ds : List Int) (k : Nat) : ∃ k', callN prog (N + 1) 21 [.o 0, .v p.B, .v (.int p.e), .v (.int p.f), .v (.int p.m), .v (.int p.n), .v (.int p.z), .v (.int p.s), .v (.int p.t), .v p.T, .v (.int p.wd)] [Wc ds k] = some (.v (.bl true), [Wc ds k']) := by
  have wl := worths_len ds k p.m
  have m1 := p.m1
  have q0 := r0 hN p none none none none none none none none none none ds k
  have q1 := r1 hN p none none none none none none none none none [Wc ds (k + p.m)] (worths ds k p.m) (by omega)
  obtain ⟨a, row, hr, hrf, hmx, ha, q2⟩ := r2 hN p (vS (sglT (worths ds k p.m))) none none none none none none none none [Wc ds (k + p.m)] (worths ds k p.m) wl (fun y hy => worths_pos hy)
  have q3 := r3 hN p none none none none none none none [Wc ds (k + p.m)] (worths ds k p.m) wl (fun y hy => worths_pos hy) a row hr hrf hmx
  have q4 := r4 hN p (vS (.lst ((worths ds k p.m).map .int))) (vS (sglT (worths ds k p.m))) (vS (.tup [.int a, .tup (prs row)])) none none none none none none none [Wc ds (k + p.m)]
  have q5 := r5 hN p (vS (.lst ((worths ds k p.m).map .int))) (vS (sglT (worths ds k p.m))) (vS (.tup [.int a, .tup (prs row)])) none none none none none none [Wc ds (k + p.m)]
  have q6 := r6 hN p (vS (.lst ((worths ds k p.m).map .int))) (vS (sglT (worths ds k p.m))) (vS (.tup [.int a, .tup (prs row)])) none none none none none none [Wc ds (k + p.m)]
  have q7 := r7 hN p (vS (.lst ((worths ds k p.m).map .int))) (vS (sglT (worths ds k p.m))) (vS (.tup [.int a, .tup (prs row)])) (vS (longT p)) none none none none none none [Wc ds (k + p.m)]
  have q8 := r8 hN p (vS (.lst ((worths ds k p.m).map .int))) (vS (sglT (worths ds k p.m))) (vS (.tup [.int a, .tup (prs row)])) (vS (longT p)) none none none none none none [Wc ds (k + p.m)]
  have q9 := r9 hN p (vS (.lst ((worths ds k p.m).map .int))) (vS (sglT (worths ds k p.m))) (vS (.tup [.int a, .tup (prs row)])) (vS (longT p)) none none none none none none ds (k + p.m)
  have ap := nx_lo ds (k + p.m) p.e0
  have aq := nx_hi ds (k + p.m) p.e0
  generalize nx ds (k + p.m) p.e = at' at q9 ap aq
  generalize 1 + nx ds (k + p.m + 1) 20 = pa at q9
  have q10 := r10 hN p (vS (.lst ((worths ds k p.m).map .int))) (vS (sglT (worths ds k p.m))) (vS (.tup [.int a, .tup (prs row)])) (vS (longT p)) none none none none [Wc ds (k + p.m + 2)] at' pa
  have q11 := r11 hN p (vS (.lst ((worths ds k p.m).map .int))) (vS (sglT (worths ds k p.m))) (vS (.tup [.int a, .tup (prs row)])) (vS (longT p)) (iS (at' / p.s)) (vS (.bl (decide (p.f < at' % p.s)))) none none [Wc ds (k + p.m + 2)] at' pa
  have q12 := r12 hN p (vS (.lst ((worths ds k p.m).map .int))) (vS (sglT (worths ds k p.m))) (vS (.tup [.int a, .tup (prs row)])) (vS (longT p)) none [Wc ds (k + p.m + 2)] at' pa ap aq
  have q13 := r13 hN p (vS (.lst ((worths ds k p.m).map .int))) (vS (sglT (worths ds k p.m))) (vS (.tup [.int a, .tup (prs row)])) (vS (longT p)) (iS at') (iS pa) (iS (at' / p.s)) (vS (.bl (decide (p.f < at' % p.s)))) (vS (.tup (prs ((bz p.s p.f p.n).map (wp at' pa))))) none ds (k + p.m + 2)
  have mp := nx_lo ds (k + p.m + 2) (m := p.e + 30) (by have := p.e0; omega)
  generalize nx ds (k + p.m + 2) (p.e + 30) = mo at q13 mp
  have q14 := r14 hN p (vS (.lst ((worths ds k p.m).map .int))) (vS (sglT (worths ds k p.m))) (vS (.tup [.int a, .tup (prs row)])) (vS (longT p)) (iS at') (iS pa) (iS (at' / p.s)) (vS (.bl (decide (p.f < at' % p.s)))) (vS (.tup (prs ((bz p.s p.f p.n).map (wp at' pa))))) [Wc ds (k + p.m + 2 + 1)] mo mp
  have q15 := r15 hN p (vS (.lst ((worths ds k p.m).map .int))) (vS (sglT (worths ds k p.m))) (vS (.tup [.int a, .tup (prs row)])) (vS (longT p)) (iS at') (iS pa) (iS (at' / p.s)) (vS (.bl (decide (p.f < at' % p.s)))) (vS (.tup (prs ((bz p.s p.f p.n).map (wp at' pa))))) [Wc ds (k + p.m + 2 + 1)] mo
  have q16 := r16 hN p (vS (.lst ((worths ds k p.m).map .int))) (vS (sglT (worths ds k p.m))) (vS (.tup [.int a, .tup (prs row)])) (vS (longT p)) (iS at') (iS pa) (iS (at' / p.s)) (vS (.bl (decide (p.f < at' % p.s)))) (vS (.tup (prs ((bz p.s p.f p.n).map (wp at' pa))))) (iS mo) [Wc ds (k + p.m + 2 + 1)]
  refine ⟨k + p.m + 2 + 1, ?_⟩
  rw [u__law_rest]
  have hb : evSs (callN prog N) f__law_rest.body (rE p none none none none none none none none none none) [Wc ds k] = some (.rt (.v (.bl true)) [Wc ds (k + p.m + 2 + 1)]) := by
    show evSs _ (.cons _ (.cons _ (.cons _ (.cons _ (.cons _ (.cons _ (.cons _ (.cons _ (.cons _ (.cons _ (.cons _ (.cons _ (.cons _ (.cons _ (.cons _ (.cons _ (.cons _ .nil))))))))))))))))) _ _ = _
    rw [seq q0, seq q1, seq q2, seq q3, seq q4, seq q5, seq q6, seq q7, seq q8, seq q9, seq q10, seq q11, seq q12, seq q13, seq q14, seq q15, seqR q16]
  exact runF_ret rfl hb (by simp [retn])
end Ev

set_option Elab.async false
set_option linter.all false
set_option maxRecDepth 100000
set_option maxHeartbeats 1000000
namespace Ev
theorem cut_1 {α : Type} (x : α) (xs : List α) : cut (x :: xs) (some 1) none = xs := by
  unfold cut sIx
  simp
theorem cut_init {α : Type} (x : α) (xs : List α) : cut (xs ++ [x]) none (some (-1)) = xs := by
  unfold cut sIx
  simp only [Nat.sub_zero, List.drop_zero, List.length_append, List.length_cons, List.length_nil]
  rw [if_pos (by omega), show ((-1 : Int) + ((xs.length + (0 + 1) : Nat) : Int)).toNat = xs.length by omega]
  simp
theorem atI_last {α : Type} (x : α) (xs : List α) : atI (xs ++ [x]) (-1) = some x := by
  unfold atI ixN
  simp only [List.length_append, List.length_cons, List.length_nil]
  rw [if_neg (by omega), if_pos (by omega)]
  simp only [Option.bind_some]
  rw [show ((-1 : Int) + ((xs.length + (0 + 1) : Nat) : Int)).toNat = xs.length by omega]
  simp
theorem e_blt2 {C : Calls} {b : Blt} {a1 a2 : Ex} {e : En} {h h1 h2 : AH} {p q r : PV} (ha : evE C a1 e h = some (.v p, h1)) (hb : evE C a2 e h1 = some (.v q, h2)) (hr : blt2 b p q = some r) : evE C (.blt false b (.cons a1 (.cons a2 .nil))) e h = some (.v r, h2) := by
  simp only [evE, evL, ha, hb, bltE, hr, Option.map_some]
namespace Par
variable (p : Par)
def c : Nat := (p.f / p.z).toNat
def M : Nat := min p.m (p.n * p.c)
def R : List (Int × Int) := rowF p.s p.z p.c 0 0 p.M
theorem c_eq : p.f / p.z = (p.c : Int) := by
  have := Int.ediv_nonneg (show 0 ≤ p.f by have := p.f0; omega) (show 0 ≤ p.z by have := p.z0; omega)
  unfold c; omega
theorem even : Even p.s p.f p.z p.c p.n := by
  have e1 := Int.mul_ediv_add_emod p.f p.z
  have e2 := Int.emod_nonneg p.f (show p.z ≠ 0 by have := p.z0; omega)
  have e3 := Int.emod_lt_of_pos p.f p.z0
  rw [p.c_eq] at e1
  exact ⟨p.f0, p.fs, p.z0, by omega, by omega, p.n0⟩
theorem M5 : p.M ≤ 5 := by have := p.m1; unfold M; omega
theorem Mm : p.M ≤ p.m := by unfold M; omega
theorem Mn : p.M ≤ p.n * p.c := by unfold M; omega
theorem R_len : p.R.length = p.M := by simp [R, rowF]
end Par
def LE (x0 x2 x3 x4 x5 x6 x7 x8 x9 x10 x11 x12 x13 x14 x15 x16 x17 x18 x19 x20 x21 x22 : Option SV) : En := [x0, some (.o 0), x2, x3, x4, x5, x6, x7, x8, x9, x10, x11, x12, x13, x14, x15, x16, x17, x18, x19, x20, x21, x22]
section
variable {L : Nat} (hL : 14 ≤ L) (p : Par) (x0 x2 x3 x4 x5 x6 x7 x8 x9 x10 x11 x12 x13 x14 x15 x16 x17 x18 x19 x20 x21 x22 : Option SV) (h : AH)
include hL
theorem b1 (ds : List Int) (k : Nat) (e1 : 1 + nx ds k 4 = p.n) (e2 : 1 + nx ds (k + 1) 12 = p.f) (e3 : 1 + nx ds (k + 2) 9 = p.t) : evS (callN prog L) S_law_1 (LE x0 x2 x3 x4 x5 x6 x7 x8 x9 x10 x11 x12 x13 x14 x15 x16 x17 x18 x19 x20 x21 x22) [Wc ds k] = some (.nx (LE x0 x2 (iS p.n) (iS p.f) (iS p.t) x6 x7 x8 x9 x10 x11 x12 x13 x14 x15 x16 x17 x18 x19 x20 x21 x22) [Wc ds (k + 3)]) := by
  have q0 := nextL (L := L) (by omega) ds k 4 [] (by omega)
  have q1 := nextL (L := L) (by omega) ds (k + 1) 12 [] (by omega)
  have q2 := nextL (L := L) (by omega) ds (k + 2) 9 [] (by omega)
  rw [show k + 2 = k + 1 + 1 by omega] at q2 e3
  rw [show k + 3 = k + 1 + 1 + 1 by omega]
  simp [S_law_1, runF, startE, evSs, evS, evE, evL, evT, evI, evD, asgT, rdVar, peek, part, sliceP, binP, binA, cmpP, truP, bltE, blt1, blt2, lenP, mkR, mkL, mkD, retn, pvs, SV.pv, wipeE, walkOf, itemsP, notD, idxP, isKey, keyEq, dlook, dhas, dput, dictEq, okDict, mthE, mthC, mthP, mthT, argsM, isLst, changes, isiTy, smallR, finL, finD, tupP, listP, dicP, onL, onS, min2P, max2P, blt3, argsN, revP, inP, isP, isNon, eqP, okD, plainD, plainDs, dep, deps, eqv, eqvs, beqI, beqS, atI_0, atI_1, atI_2, LE]
  simp [Wc] at q0 q1 q2 ⊢
  simp [q0, q1, q2, e1, e2, e3]
theorem b2 : evS (callN prog L) S_law_2 (LE x0 x2 (iS p.n) (iS p.f) (iS p.t) x6 x7 x8 x9 x10 x11 x12 x13 x14 x15 x16 x17 x18 x19 x20 x21 x22) h = some (.nx (LE x0 x2 (iS p.n) (iS p.f) (iS p.t) (iS p.s) x7 x8 x9 x10 x11 x12 x13 x14 x15 x16 x17 x18 x19 x20 x21 x22) h) := by
  simp [S_law_2, runF, startE, evSs, evS, evE, evL, evT, evI, evD, asgT, rdVar, peek, part, sliceP, binP, binA, cmpP, truP, bltE, blt1, blt2, lenP, mkR, mkL, mkD, retn, pvs, SV.pv, wipeE, walkOf, itemsP, notD, idxP, isKey, keyEq, dlook, dhas, dput, dictEq, okDict, mthE, mthC, mthP, mthT, argsM, isLst, changes, isiTy, smallR, finL, finD, tupP, listP, dicP, onL, onS, min2P, max2P, blt3, argsN, revP, inP, isP, isNon, eqP, okD, plainD, plainDs, dep, deps, eqv, eqvs, beqI, beqS, atI_0, atI_1, atI_2, LE, Par.s]
theorem mulS (x : Int) : mulOk p.s x = true := mulOk_small (by have := p.s0; omega) (by have := p.s1; omega)
theorem b3 : evS (callN prog L) S_law_3 (LE x0 x2 (iS p.n) (iS p.f) (iS p.t) (iS p.s) x7 x8 x9 x10 x11 x12 x13 x14 x15 x16 x17 x18 x19 x20 x21 x22) h = some (.nx (LE x0 x2 (iS p.n) (iS p.f) (iS p.t) (iS p.s) (iS p.e) x8 x9 x10 x11 x12 x13 x14 x15 x16 x17 x18 x19 x20 x21 x22) h) := by
  have m := mulS hL p p.n
  have bm : binP .mul (.int p.s) (.int (p.n : Int)) = some (.int p.e) := by simp only [binP, m, if_true]; rfl
  exact e_asg (i := 7) (e_bin (h1 := h) (h2 := h) (p := .int p.s) (q := .int p.n) rfl rfl bm)
theorem b4 : evS (callN prog L) S_law_4 (LE x0 x2 (iS p.n) (iS p.f) (iS p.t) (iS p.s) (iS p.e) x8 x9 x10 x11 x12 x13 x14 x15 x16 x17 x18 x19 x20 x21 x22) h = some (.nx (LE x0 x2 (iS p.n) (iS p.f) (iS p.t) (iS p.s) (iS p.e) (vS p.B) x9 x10 x11 x12 x13 x14 x15 x16 x17 x18 x19 x20 x21 x22) h) := by
  have n1 := p.n1
  have mk : ∀ x, mulOk p.s x = true := mulS hL p
  have c := comp_map (C := callN prog L) (elt := .tup (.cons (.bin .add (.bin .mul (.var 6 false) (.var 22 false)) (.var 4 false)) (.cons (.bin .add (.bin .mul (.var 6 false) (.var 22 false)) (.var 6 false)) .nil))) (own := [22]) (tg := .nm 22) (it := .rng1 (.var 3 false)) (e := LE x0 x2 (iS p.n) (iS p.f) (iS p.t) (iS p.s) (iS p.e) x8 x9 x10 x11 x12 x13 x14 x15 x16 x17 x18 x19 x20 x21 x22) (h := h) (g := none) (List.range p.n) (fun i : Nat => .int i) (fun i : Nat => prI (p.s * i + p.f, p.s * i + p.s))
    (by simp [evI, evE, LE, rdVar, smallR, rngs_map']; omega) (le_sz (by simp; omega)) (fun _ => rfl) (fun j hj acc => ⟨_, rfl, by simp [runF, startE, evSs, evS, evE, evL, evT, evI, evD, asgT, rdVar, peek, part, sliceP, binP, binA, cmpP, truP, bltE, blt1, blt2, lenP, mkR, mkL, mkD, retn, pvs, SV.pv, wipeE, walkOf, itemsP, notD, idxP, isKey, keyEq, dlook, dhas, dput, dictEq, okDict, mthE, mthC, mthP, mthT, argsM, isLst, changes, isiTy, smallR, finL, finD, tupP, listP, dicP, onL, onS, min2P, max2P, blt3, argsN, revP, inP, isP, isNon, eqP, okD, plainD, plainDs, dep, deps, eqv, eqvs, beqI, beqS, atI_0, atI_1, atI_2, LE, sz0, sz1, sz2, sz3, sz4, sz5, sz6, sz7, sz8, sz9, sz10, sz11, sl0, sl1, sl2, sl3, sl4, sl5, prI, mk]⟩)
  have e : (List.range p.n).map (fun i : Nat => prI (p.s * i + p.f, p.s * i + p.s)) = prs (bz p.s p.f p.n) := by simp [bz, prs, Function.comp_def]
  rw [e] at c
  exact e_asg (i := 8) (e_blt1 (b := .tuple) (m := false) c rfl rfl)
theorem gz_e : evE (callN prog L) (.blt false .tuple (.cons (.comp false (.tup (.cons (.bin .mul (.var 6 false) (.var 22 false)) (.cons (.bin .add (.bin .mul (.var 6 false) (.var 22 false)) (.var 4 false)) .nil))) [22] (.nm 22) (.rng1 (.var 3 false)) .yes) .nil)) (LE x0 x2 (iS p.n) (iS p.f) (iS p.t) (iS p.s) (iS p.e) x8 x9 x10 x11 x12 x13 x14 x15 x16 x17 x18 x19 x20 x21 x22) h = some (.v (.tup (prs (gz p.s p.f p.n))), h) := by
  have n1 := p.n1
  have mk : ∀ x, mulOk p.s x = true := mulS hL p
  have c := comp_map (C := callN prog L) (elt := .tup (.cons (.bin .mul (.var 6 false) (.var 22 false)) (.cons (.bin .add (.bin .mul (.var 6 false) (.var 22 false)) (.var 4 false)) .nil))) (own := [22]) (tg := .nm 22) (it := .rng1 (.var 3 false)) (e := LE x0 x2 (iS p.n) (iS p.f) (iS p.t) (iS p.s) (iS p.e) x8 x9 x10 x11 x12 x13 x14 x15 x16 x17 x18 x19 x20 x21 x22) (h := h) (g := none) (List.range p.n) (fun i : Nat => .int i) (fun i : Nat => prI (p.s * i, p.s * i + p.f))
    (by simp [evI, evE, LE, rdVar, smallR, rngs_map']; omega) (le_sz (by simp; omega)) (fun _ => rfl) (fun j hj acc => ⟨_, rfl, by simp [runF, startE, evSs, evS, evE, evL, evT, evI, evD, asgT, rdVar, peek, part, sliceP, binP, binA, cmpP, truP, bltE, blt1, blt2, lenP, mkR, mkL, mkD, retn, pvs, SV.pv, wipeE, walkOf, itemsP, notD, idxP, isKey, keyEq, dlook, dhas, dput, dictEq, okDict, mthE, mthC, mthP, mthT, argsM, isLst, changes, isiTy, smallR, finL, finD, tupP, listP, dicP, onL, onS, min2P, max2P, blt3, argsN, revP, inP, isP, isNon, eqP, okD, plainD, plainDs, dep, deps, eqv, eqvs, beqI, beqS, atI_0, atI_1, atI_2, LE, sz0, sz1, sz2, sz3, sz4, sz5, sz6, sz7, sz8, sz9, sz10, sz11, sl0, sl1, sl2, sl3, sl4, sl5, prI, mk]⟩)
  have e : (List.range p.n).map (fun i : Nat => prI (p.s * i, p.s * i + p.f)) = prs (gz p.s p.f p.n) := by simp [gz, prs, Function.comp_def]
  rw [e] at c
  exact e_blt1 (b := .tuple) (m := false) c rfl rfl
theorem b5 : evS (callN prog L) S_law_5 (LE x0 x2 (iS p.n) (iS p.f) (iS p.t) (iS p.s) (iS p.e) (vS p.B) x9 x10 x11 x12 x13 x14 x15 x16 x17 x18 x19 x20 x21 x22) h = some (.nx (LE x0 x2 (iS p.n) (iS p.f) (iS p.t) (iS p.s) (iS p.e) (vS p.B) x9 x10 x11 x12 x13 x14 x15 x16 x17 x18 x19 x20 x21 x22) h) := by
  have e0 := p.e0
  have g1 := gapsL (L := L) (by omega) (bz p.s p.f p.n) p.bl p.e h
  rw [p.gaps] at g1
  have g2 := gapsL (L := L) (by omega) [] (by simp) p.e h
  rw [show gf p.e [] 0 = [(0, p.e)] by simp [gf, e0]] at g2
  have g3 := gapsL (L := L) (by omega) [(0, p.e)] (by simp) p.e h
  have e1 : ¬ p.e < 0 := by omega
  rw [show gf p.e [(0, p.e)] 0 = [] by simp [gf, mn, mx, e0, e1]] at g3
  have s1 := same_prs (L := L) (by omega) (gz p.s p.f p.n) (by have := p.n1; simp [gz]; omega) h
  have s2 := same_prs (L := L) (by omega) [(0, p.e)] (by simp) h
  refine s_skip (t_or (t_nt (t_no (e_call2 (e_call2 rfl rfl g1) (gz_e hL p _ _ _ _ _ _ _ _ _ _ _ _ _ _ _ _ _ h) s1))) (t_or (t_nt (t_no (e_call2 (e_call2 (h1 := h) (x := .v (.tup (prs []))) ?_ rfl g2) (h2 := h) (y := .v (.tup (prs [(0, p.e)]))) ?_ s2))) (t_no (e_cmp (e_call2 (h1 := h) (x := .v (.tup (prs [(0, p.e)]))) ?_ rfl g3) (h2 := h) (q := .tup []) ?_ ?_))))
  · simp [runF, startE, evSs, evS, evE, evL, evT, evI, evD, asgT, rdVar, peek, part, sliceP, binP, binA, cmpP, truP, bltE, blt1, blt2, lenP, mkR, mkL, mkD, retn, pvs, SV.pv, wipeE, walkOf, itemsP, notD, idxP, isKey, keyEq, dlook, dhas, dput, dictEq, okDict, mthE, mthC, mthP, mthT, argsM, isLst, changes, isiTy, smallR, finL, finD, tupP, listP, dicP, onL, onS, min2P, max2P, blt3, argsN, revP, inP, isP, isNon, eqP, okD, plainD, plainDs, dep, deps, eqv, eqvs, beqI, beqS, atI_0, atI_1, atI_2, sz0, sz1, sz2, sz3, sz4, sz5, sz6, sz7, sz8, sz9, sz10, sz11, sl0, sl1, sl2, sl3, sl4, sl5]
  · simp [runF, startE, evSs, evS, evE, evL, evT, evI, evD, asgT, rdVar, peek, part, sliceP, binP, binA, cmpP, truP, bltE, blt1, blt2, lenP, mkR, mkL, mkD, retn, pvs, SV.pv, wipeE, walkOf, itemsP, notD, idxP, isKey, keyEq, dlook, dhas, dput, dictEq, okDict, mthE, mthC, mthP, mthT, argsM, isLst, changes, isiTy, smallR, finL, finD, tupP, listP, dicP, onL, onS, min2P, max2P, blt3, argsN, revP, inP, isP, isNon, eqP, okD, plainD, plainDs, dep, deps, eqv, eqvs, beqI, beqS, atI_0, atI_1, atI_2, sz0, sz1, sz2, sz3, sz4, sz5, sz6, sz7, sz8, sz9, sz10, sz11, sl0, sl1, sl2, sl3, sl4, sl5, LE, prI]
  · simp [runF, startE, evSs, evS, evE, evL, evT, evI, evD, asgT, rdVar, peek, part, sliceP, binP, binA, cmpP, truP, bltE, blt1, blt2, lenP, mkR, mkL, mkD, retn, pvs, SV.pv, wipeE, walkOf, itemsP, notD, idxP, isKey, keyEq, dlook, dhas, dput, dictEq, okDict, mthE, mthC, mthP, mthT, argsM, isLst, changes, isiTy, smallR, finL, finD, tupP, listP, dicP, onL, onS, min2P, max2P, blt3, argsN, revP, inP, isP, isNon, eqP, okD, plainD, plainDs, dep, deps, eqv, eqvs, beqI, beqS, atI_0, atI_1, atI_2, sz0, sz1, sz2, sz3, sz4, sz5, sz6, sz7, sz8, sz9, sz10, sz11, sl0, sl1, sl2, sl3, sl4, sl5, LE, prI]
  · simp [runF, startE, evSs, evS, evE, evL, evT, evI, evD, asgT, rdVar, peek, part, sliceP, binP, binA, cmpP, truP, bltE, blt1, blt2, lenP, mkR, mkL, mkD, retn, pvs, SV.pv, wipeE, walkOf, itemsP, notD, idxP, isKey, keyEq, dlook, dhas, dput, dictEq, okDict, mthE, mthC, mthP, mthT, argsM, isLst, changes, isiTy, smallR, finL, finD, tupP, listP, dicP, onL, onS, min2P, max2P, blt3, argsN, revP, inP, isP, isNon, eqP, okD, plainD, plainDs, dep, deps, eqv, eqvs, beqI, beqS, atI_0, atI_1, atI_2, sz0, sz1, sz2, sz3, sz4, sz5, sz6, sz7, sz8, sz9, sz10, sz11, sl0, sl1, sl2, sl3, sl4, sl5]
  · simp [runF, startE, evSs, evS, evE, evL, evT, evI, evD, asgT, rdVar, peek, part, sliceP, binP, binA, cmpP, truP, bltE, blt1, blt2, lenP, mkR, mkL, mkD, retn, pvs, SV.pv, wipeE, walkOf, itemsP, notD, idxP, isKey, keyEq, dlook, dhas, dput, dictEq, okDict, mthE, mthC, mthP, mthT, argsM, isLst, changes, isiTy, smallR, finL, finD, tupP, listP, dicP, onL, onS, min2P, max2P, blt3, argsN, revP, inP, isP, isNon, eqP, okD, plainD, plainDs, dep, deps, eqv, eqvs, beqI, beqS, atI_0, atI_1, atI_2]
theorem b6 (ds : List Int) (k : Nat) (fi lo : Int) (e1 : nx ds k p.e = fi) (e2 : 1 + nx ds (k + 1) 14 = lo) (e3 : nx ds (k + 2) 20 = p.wd) : evS (callN prog L) S_law_6 (LE x0 x2 (iS p.n) (iS p.f) (iS p.t) (iS p.s) (iS p.e) (vS p.B) x9 x10 x11 x12 x13 x14 x15 x16 x17 x18 x19 x20 x21 x22) [Wc ds k] = some (.nx (LE x0 x2 (iS p.n) (iS p.f) (iS p.t) (iS p.s) (iS p.e) (vS p.B) (iS fi) (iS lo) (iS p.wd) x12 x13 x14 x15 x16 x17 x18 x19 x20 x21 x22) [Wc ds (k + 3)]) := by
  have q0 := nextL (L := L) (by omega) ds k p.e [] p.e0
  have q1 := nextL (L := L) (by omega) ds (k + 1) 14 [] (by omega)
  have q2 := nextL (L := L) (by omega) ds (k + 2) 20 [] (by omega)
  rw [show k + 2 = k + 1 + 1 by omega] at q2 e3
  rw [show k + 3 = k + 1 + 1 + 1 by omega]
  simp [S_law_6, runF, startE, evSs, evS, evE, evL, evT, evI, evD, asgT, rdVar, peek, part, sliceP, binP, binA, cmpP, truP, bltE, blt1, blt2, lenP, mkR, mkL, mkD, retn, pvs, SV.pv, wipeE, walkOf, itemsP, notD, idxP, isKey, keyEq, dlook, dhas, dput, dictEq, okDict, mthE, mthC, mthP, mthT, argsM, isLst, changes, isiTy, smallR, finL, finD, tupP, listP, dicP, onL, onS, min2P, max2P, blt3, argsN, revP, inP, isP, isNon, eqP, okD, plainD, plainDs, dep, deps, eqv, eqvs, beqI, beqS, atI_0, atI_1, atI_2, LE]
  simp [Wc] at q0 q1 q2 ⊢
  simp [q0, q1, q2, e1, e2, e3]
def bg (p : Par) (fi lo : Int) : Int := if fi % p.s + lo ≤ p.f then fi else fi - fi % p.s + p.s
def cn (p : Par) (fi lo : Int) : Bool := decide (lo ≤ p.f) && decide (bg p fi lo + lo ≤ p.e) && decide (bg p fi lo ≤ fi + p.wd)
theorem b7 (fi lo : Int) : evS (callN prog L) S_law_7 (LE x0 x2 (iS p.n) (iS p.f) (iS p.t) (iS p.s) (iS p.e) (vS p.B) (iS fi) (iS lo) (iS p.wd) x12 x13 x14 x15 x16 x17 x18 x19 x20 x21 x22) h = some (.nx (LE x0 x2 (iS p.n) (iS p.f) (iS p.t) (iS p.s) (iS p.e) (vS p.B) (iS fi) (iS lo) (iS p.wd) (iS (bg p fi lo)) x13 x14 x15 x16 x17 x18 x19 x20 x21 x22) h) := by
  have s0 := p.s0
  by_cases hc : fi % p.s + lo ≤ p.f
  · simp [S_law_7, runF, startE, evSs, evS, evE, evL, evT, evI, evD, asgT, rdVar, peek, part, sliceP, binP, binA, cmpP, truP, bltE, blt1, blt2, lenP, mkR, mkL, mkD, retn, pvs, SV.pv, wipeE, walkOf, itemsP, notD, idxP, isKey, keyEq, dlook, dhas, dput, dictEq, okDict, mthE, mthC, mthP, mthT, argsM, isLst, changes, isiTy, smallR, finL, finD, tupP, listP, dicP, onL, onS, min2P, max2P, blt3, argsN, revP, inP, isP, isNon, eqP, okD, plainD, plainDs, dep, deps, eqv, eqvs, beqI, beqS, atI_0, atI_1, atI_2, LE, s0, hc, bg]
  · simp [S_law_7, runF, startE, evSs, evS, evE, evL, evT, evI, evD, asgT, rdVar, peek, part, sliceP, binP, binA, cmpP, truP, bltE, blt1, blt2, lenP, mkR, mkL, mkD, retn, pvs, SV.pv, wipeE, walkOf, itemsP, notD, idxP, isKey, keyEq, dlook, dhas, dput, dictEq, okDict, mthE, mthC, mthP, mthT, argsM, isLst, changes, isiTy, smallR, finL, finD, tupP, listP, dicP, onL, onS, min2P, max2P, blt3, argsN, revP, inP, isP, isNon, eqP, okD, plainD, plainDs, dep, deps, eqv, eqvs, beqI, beqS, atI_0, atI_1, atI_2, LE, s0, hc, bg]
theorem b8 (fi lo : Int) : evS (callN prog L) S_law_8 (LE x0 x2 (iS p.n) (iS p.f) (iS p.t) (iS p.s) (iS p.e) (vS p.B) (iS fi) (iS lo) (iS p.wd) (iS (bg p fi lo)) x13 x14 x15 x16 x17 x18 x19 x20 x21 x22) h = some (.nx (LE x0 x2 (iS p.n) (iS p.f) (iS p.t) (iS p.s) (iS p.e) (vS p.B) (iS fi) (iS lo) (iS p.wd) (iS (bg p fi lo)) (vS (.bl (cn p fi lo))) x14 x15 x16 x17 x18 x19 x20 x21 x22) h) := by
  unfold cn
  generalize bg p fi lo = b
  by_cases h1 : lo ≤ p.f
  · by_cases h2 : b + lo ≤ p.e
    · simp [S_law_8, runF, startE, evSs, evS, evE, evL, evT, evI, evD, asgT, rdVar, peek, part, sliceP, binP, binA, cmpP, truP, bltE, blt1, blt2, lenP, mkR, mkL, mkD, retn, pvs, SV.pv, wipeE, walkOf, itemsP, notD, idxP, isKey, keyEq, dlook, dhas, dput, dictEq, okDict, mthE, mthC, mthP, mthT, argsM, isLst, changes, isiTy, smallR, finL, finD, tupP, listP, dicP, onL, onS, min2P, max2P, blt3, argsN, revP, inP, isP, isNon, eqP, okD, plainD, plainDs, dep, deps, eqv, eqvs, beqI, beqS, atI_0, atI_1, atI_2, LE, h1, h2]
    · simp [S_law_8, runF, startE, evSs, evS, evE, evL, evT, evI, evD, asgT, rdVar, peek, part, sliceP, binP, binA, cmpP, truP, bltE, blt1, blt2, lenP, mkR, mkL, mkD, retn, pvs, SV.pv, wipeE, walkOf, itemsP, notD, idxP, isKey, keyEq, dlook, dhas, dput, dictEq, okDict, mthE, mthC, mthP, mthT, argsM, isLst, changes, isiTy, smallR, finL, finD, tupP, listP, dicP, onL, onS, min2P, max2P, blt3, argsN, revP, inP, isP, isNon, eqP, okD, plainD, plainDs, dep, deps, eqv, eqvs, beqI, beqS, atI_0, atI_1, atI_2, LE, h1, h2]
  · simp [S_law_8, runF, startE, evSs, evS, evE, evL, evT, evI, evD, asgT, rdVar, peek, part, sliceP, binP, binA, cmpP, truP, bltE, blt1, blt2, lenP, mkR, mkL, mkD, retn, pvs, SV.pv, wipeE, walkOf, itemsP, notD, idxP, isKey, keyEq, dlook, dhas, dput, dictEq, okDict, mthE, mthC, mthP, mthT, argsM, isLst, changes, isiTy, smallR, finL, finD, tupP, listP, dicP, onL, onS, min2P, max2P, blt3, argsN, revP, inP, isP, isNon, eqP, okD, plainD, plainDs, dep, deps, eqv, eqvs, beqI, beqS, atI_0, atI_1, atI_2, LE, h1]
theorem b9 (fi lo : Int) (f0 : 0 ≤ fi) (f1 : fi < p.e) (l0 : 0 < lo) : evS (callN prog L) S_law_9 (LE x0 x2 (iS p.n) (iS p.f) (iS p.t) (iS p.s) (iS p.e) (vS p.B) (iS fi) (iS lo) (iS p.wd) (iS (bg p fi lo)) (vS (.bl (cn p fi lo))) x14 x15 x16 x17 x18 x19 x20 x21 x22) h = some (.nx (LE x0 x2 (iS p.n) (iS p.f) (iS p.t) (iS p.s) (iS p.e) (vS p.B) (iS fi) (iS lo) (iS p.wd) (iS (bg p fi lo)) (vS (.bl (cn p fi lo))) x14 x15 x16 x17 x18 x19 x20 x21 x22) h) := by
  have q := canL (L := L) (by omega) (bz p.s p.f p.n) p.bl p.e ⟨fi, fi + p.wd, lo, 1⟩ h
  have ce := can_even p.s p.f p.f0 p.fs p.n fi p.wd lo f0 f1 (by omega) l0
  rw [p.gaps, ce] at q
  by_cases hc : cn p fi lo = true
  · have hc' := hc
    rw [cn, Bool.and_eq_true, Bool.and_eq_true, decide_eq_true_eq, decide_eq_true_eq, decide_eq_true_eq] at hc'
    unfold bg Par.e at hc'
    rw [if_pos ⟨hc'.1.1, hc'.1.2, hc'.2⟩] at q
    have sm := same_int (L := L) (by omega) (bg p fi lo) h
    refine s_skip (t_nt (t_no (e_call2 (e_call3 rfl rfl (h3 := h) (z := .v (tlE ⟨fi, fi + p.wd, lo, 1⟩)) ?_ q) (h2 := h) (y := .v (.int (bg p fi lo))) ?_ sm)))
    · simp [runF, startE, evSs, evS, evE, evL, evT, evI, evD, asgT, rdVar, peek, part, sliceP, binP, binA, cmpP, truP, bltE, blt1, blt2, lenP, mkR, mkL, mkD, retn, pvs, SV.pv, wipeE, walkOf, itemsP, notD, idxP, isKey, keyEq, dlook, dhas, dput, dictEq, okDict, mthE, mthC, mthP, mthT, argsM, isLst, changes, isiTy, smallR, finL, finD, tupP, listP, dicP, onL, onS, min2P, max2P, blt3, argsN, revP, inP, isP, isNon, eqP, okD, plainD, plainDs, dep, deps, eqv, eqvs, beqI, beqS, atI_0, atI_1, atI_2, sz0, sz1, sz2, sz3, sz4, sz5, sz6, sz7, sz8, sz9, sz10, sz11, sl0, sl1, sl2, sl3, sl4, sl5, LE, tlE]
    · simp [runF, startE, evSs, evS, evE, evL, evT, evI, evD, asgT, rdVar, peek, part, sliceP, binP, binA, cmpP, truP, bltE, blt1, blt2, lenP, mkR, mkL, mkD, retn, pvs, SV.pv, wipeE, walkOf, itemsP, notD, idxP, isKey, keyEq, dlook, dhas, dput, dictEq, okDict, mthE, mthC, mthP, mthT, argsM, isLst, changes, isiTy, smallR, finL, finD, tupP, listP, dicP, onL, onS, min2P, max2P, blt3, argsN, revP, inP, isP, isNon, eqP, okD, plainD, plainDs, dep, deps, eqv, eqvs, beqI, beqS, atI_0, atI_1, atI_2, LE, hc]
  · have hc' := hc
    rw [cn, Bool.and_eq_true, Bool.and_eq_true, decide_eq_true_eq, decide_eq_true_eq, decide_eq_true_eq] at hc'
    unfold bg Par.e at hc'
    rw [if_neg (fun z => hc' ⟨⟨z.1, z.2.1⟩, z.2.2⟩)] at q
    have sm := same_non (L := L) (by omega) h
    refine s_skip (t_nt (t_no (e_call2 (e_call3 rfl rfl (h3 := h) (z := .v (tlE ⟨fi, fi + p.wd, lo, 1⟩)) ?_ q) (h2 := h) (y := .v .non) ?_ sm)))
    · simp [runF, startE, evSs, evS, evE, evL, evT, evI, evD, asgT, rdVar, peek, part, sliceP, binP, binA, cmpP, truP, bltE, blt1, blt2, lenP, mkR, mkL, mkD, retn, pvs, SV.pv, wipeE, walkOf, itemsP, notD, idxP, isKey, keyEq, dlook, dhas, dput, dictEq, okDict, mthE, mthC, mthP, mthT, argsM, isLst, changes, isiTy, smallR, finL, finD, tupP, listP, dicP, onL, onS, min2P, max2P, blt3, argsN, revP, inP, isP, isNon, eqP, okD, plainD, plainDs, dep, deps, eqv, eqvs, beqI, beqS, atI_0, atI_1, atI_2, sz0, sz1, sz2, sz3, sz4, sz5, sz6, sz7, sz8, sz9, sz10, sz11, sl0, sl1, sl2, sl3, sl4, sl5, LE, tlE]
    · simp [runF, startE, evSs, evS, evE, evL, evT, evI, evD, asgT, rdVar, peek, part, sliceP, binP, binA, cmpP, truP, bltE, blt1, blt2, lenP, mkR, mkL, mkD, retn, pvs, SV.pv, wipeE, walkOf, itemsP, notD, idxP, isKey, keyEq, dlook, dhas, dput, dictEq, okDict, mthE, mthC, mthP, mthT, argsM, isLst, changes, isiTy, smallR, finL, finD, tupP, listP, dicP, onL, onS, min2P, max2P, blt3, argsN, revP, inP, isP, isNon, eqP, okD, plainD, plainDs, dep, deps, eqv, eqvs, beqI, beqS, atI_0, atI_1, atI_2, LE, hc]
theorem b10 (ds : List Int) (k : Nat) (fi lo : Int) (e1 : nx ds k 6 = p.m) (e2 : 1 + nx ds (k + 1) 8 = p.z) (e3 : 1 + nx ds (k + 2) 5 = p.w) : evS (callN prog L) S_law_10 (LE x0 x2 (iS p.n) (iS p.f) (iS p.t) (iS p.s) (iS p.e) (vS p.B) x9 x10 (iS p.wd) x12 x13 x14 x15 x16 x17 x18 x19 x20 x21 x22) [Wc ds k] = some (.nx (LE x0 x2 (iS p.n) (iS p.f) (iS p.t) (iS p.s) (iS p.e) (vS p.B) x9 x10 (iS p.wd) x12 x13 (iS p.m) (iS p.z) (iS p.w) x17 x18 x19 x20 x21 x22) [Wc ds (k + 3)]) := by
  have q0 := nextL (L := L) (by omega) ds k 6 [] (by omega)
  have q1 := nextL (L := L) (by omega) ds (k + 1) 8 [] (by omega)
  have q2 := nextL (L := L) (by omega) ds (k + 2) 5 [] (by omega)
  rw [show k + 2 = k + 1 + 1 by omega] at q2 e3
  rw [show k + 3 = k + 1 + 1 + 1 by omega]
  simp [S_law_10, runF, startE, evSs, evS, evE, evL, evT, evI, evD, asgT, rdVar, peek, part, sliceP, binP, binA, cmpP, truP, bltE, blt1, blt2, lenP, mkR, mkL, mkD, retn, pvs, SV.pv, wipeE, walkOf, itemsP, notD, idxP, isKey, keyEq, dlook, dhas, dput, dictEq, okDict, mthE, mthC, mthP, mthT, argsM, isLst, changes, isiTy, smallR, finL, finD, tupP, listP, dicP, onL, onS, min2P, max2P, blt3, argsN, revP, inP, isP, isNon, eqP, okD, plainD, plainDs, dep, deps, eqv, eqvs, beqI, beqS, atI_0, atI_1, atI_2, LE]
  simp [Wc] at q0 q1 q2 ⊢
  simp [q0, q1, q2, e1, e2, e3]
theorem b11 : evS (callN prog L) S_law_11 (LE x0 x2 (iS p.n) (iS p.f) (iS p.t) (iS p.s) (iS p.e) (vS p.B) x9 x10 (iS p.wd) x12 x13 (iS p.m) (iS p.z) (iS p.w) x17 x18 x19 x20 x21 x22) h = some (.nx (LE x0 x2 (iS p.n) (iS p.f) (iS p.t) (iS p.s) (iS p.e) (vS p.B) x9 x10 (iS p.wd) x12 x13 (iS p.m) (iS p.z) (iS p.w) (vS p.T) x18 x19 x20 x21 x22) h) := by
  have m1 := p.m1
  have m2 : (p.m : Int) ≤ 1000 := by omega
  have m3 : (-1000 : Int) ≤ p.m := by omega
  simp [S_law_11, runF, startE, evSs, evS, evE, evL, evT, evI, evD, asgT, rdVar, peek, part, sliceP, binP, binA, cmpP, truP, bltE, blt1, blt2, lenP, mkR, mkL, mkD, retn, pvs, SV.pv, wipeE, walkOf, itemsP, notD, idxP, isKey, keyEq, dlook, dhas, dput, dictEq, okDict, mthE, mthC, mthP, mthT, argsM, isLst, changes, isiTy, smallR, finL, finD, tupP, listP, dicP, onL, onS, min2P, max2P, blt3, argsN, revP, inP, isP, isNon, eqP, okD, plainD, plainDs, dep, deps, eqv, eqvs, beqI, beqS, atI_0, atI_1, atI_2, LE, sz0, sz1, sz2, sz3, sz4, sz5, sz6, sz7, sz8, sz9, sz10, sz11, sl0, sl1, sl2, sl3, sl4, sl5, Par.T, Par.tl, tlE, repS_one, m2, m3]
theorem b12 : evS (callN prog L) S_law_12 (LE x0 x2 (iS p.n) (iS p.f) (iS p.t) (iS p.s) (iS p.e) (vS p.B) x9 x10 (iS p.wd) x12 x13 (iS p.m) (iS p.z) (iS p.w) (vS p.T) x18 x19 x20 x21 x22) h = some (.nx (LE x0 x2 (iS p.n) (iS p.f) (iS p.t) (iS p.s) (iS p.e) (vS p.B) x9 x10 (iS p.wd) x12 x13 (iS p.m) (iS p.z) (iS p.w) (vS p.T) (iS p.c) x19 x20 x21 x22) h) := by
  have z0 := p.z0
  have z2 : p.z < 1073741824 := by have := p.z1; omega
  simp [S_law_12, runF, startE, evSs, evS, evE, evL, evT, evI, evD, asgT, rdVar, peek, part, sliceP, binP, binA, cmpP, truP, bltE, blt1, blt2, lenP, mkR, mkL, mkD, retn, pvs, SV.pv, wipeE, walkOf, itemsP, notD, idxP, isKey, keyEq, dlook, dhas, dput, dictEq, okDict, mthE, mthC, mthP, mthT, argsM, isLst, changes, isiTy, smallR, finL, finD, tupP, listP, dicP, onL, onS, min2P, max2P, blt3, argsN, revP, inP, isP, isNon, eqP, okD, plainD, plainDs, dep, deps, eqv, eqvs, beqI, beqS, atI_0, atI_1, atI_2, LE, z0, z2, p.c_eq]
theorem b13 : evS (callN prog L) S_law_13 (LE x0 x2 (iS p.n) (iS p.f) (iS p.t) (iS p.s) (iS p.e) (vS p.B) x9 x10 (iS p.wd) x12 x13 (iS p.m) (iS p.z) (iS p.w) (vS p.T) (iS p.c) x19 x20 x21 x22) h = some (.nx (LE x0 x2 (iS p.n) (iS p.f) (iS p.t) (iS p.s) (iS p.e) (vS p.B) x9 x10 (iS p.wd) x12 x13 (iS p.m) (iS p.z) (iS p.w) (vS p.T) (iS p.c) (iS p.M) x20 x21 x22) h) := by
  have n1 := p.n1
  have mo : mulOk (p.n : Int) p.c = true := mulOk_small (by omega) (by omega)
  have e : (p.n : Int) * (p.c : Int) = ((p.n * p.c : Nat) : Int) := by simp
  have bm : binP .mul (.int (p.n : Int)) (.int (p.c : Int)) = some (.int ((p.n * p.c : Nat) : Int)) := by simp only [binP, mo, if_true, e]
  have mi : min2P (.int (p.m : Int)) (.int ((p.n * p.c : Nat) : Int)) = some (.int (p.M : Int)) := by
    simp only [min2P, Par.M]
    by_cases hc : p.n * p.c < p.m
    · rw [if_pos (by omega), Nat.min_eq_right (by omega)]
    · rw [if_neg (by omega), Nat.min_eq_left (by omega)]
  exact e_asg (i := 19) (e_blt2 (p := .int p.m) (h1 := h) rfl (e_bin (h1 := h) (h2 := h) (p := .int p.n) (q := .int p.c) rfl rfl bm) mi)
theorem b14 : evS (callN prog L) S_law_14 (LE x0 x2 (iS p.n) (iS p.f) (iS p.t) (iS p.s) (iS p.e) (vS p.B) x9 x10 (iS p.wd) x12 x13 (iS p.m) (iS p.z) (iS p.w) (vS p.T) (iS p.c) (iS p.M) x20 x21 x22) h = some (.nx (LE x0 x2 (iS p.n) (iS p.f) (iS p.t) (iS p.s) (iS p.e) (vS p.B) x9 x10 (iS p.wd) x12 x13 (iS p.m) (iS p.z) (iS p.w) (vS p.T) (iS p.c) (iS p.M) (vS (.tup (prs p.R))) x21 x22) h) := by
  have M5 := p.M5
  have mk : ∀ x, mulOk p.s x = true := mulS hL p
  have mz : ∀ x, mulOk p.z x = true := fun x => mulOk_small (by have := p.z0; omega) (by have := p.z1; omega)
  have c := comp_map (C := callN prog L) (elt := .tup (.cons (.var 22 false) (.cons (.bin .add (.bin .mul (.var 6 false) (.bin .fdiv (.var 22 false) (.var 18 false))) (.bin .mul (.var 15 false) (.bin .mod (.var 22 false) (.var 18 false)))) .nil))) (own := [22]) (tg := .nm 22) (it := .rng1 (.var 19 false)) (e := LE x0 x2 (iS p.n) (iS p.f) (iS p.t) (iS p.s) (iS p.e) (vS p.B) x9 x10 (iS p.wd) x12 x13 (iS p.m) (iS p.z) (iS p.w) (vS p.T) (iS p.c) (iS p.M) x20 x21 x22) (h := h) (g := none) (List.range p.M) (fun i : Nat => .int i) (fun i : Nat => prI ((i : Int), pos p.s p.z p.c i))
    (by simp [evI, evE, LE, rdVar, smallR, rngs_map']; omega) (le_sz (by simp; omega)) (fun _ => rfl) (fun j hj acc => ⟨_, rfl, by
      have hj := List.mem_range.mp hj
      have c0 : 0 < (p.c : Int) := by
        have := p.Mn
        have : p.c ≠ 0 := fun z => by rw [z] at this; omega
        omega
      have c1 : (p.c : Int) < 1073741824 := by
        have lo := p.even.lo
        have z0 := p.z0
        have f1 := p.f1
        have := Int.mul_le_mul_of_nonneg_right (show (1 : Int) ≤ p.z by omega) (show (0 : Int) ≤ p.c by omega)
        omega
      simp only [Int.natCast_pos] at c0
      simp [runF, startE, evSs, evS, evE, evL, evT, evI, evD, asgT, rdVar, peek, part, sliceP, binP, binA, cmpP, truP, bltE, blt1, blt2, lenP, mkR, mkL, mkD, retn, pvs, SV.pv, wipeE, walkOf, itemsP, notD, idxP, isKey, keyEq, dlook, dhas, dput, dictEq, okDict, mthE, mthC, mthP, mthT, argsM, isLst, changes, isiTy, smallR, finL, finD, tupP, listP, dicP, onL, onS, min2P, max2P, blt3, argsN, revP, inP, isP, isNon, eqP, okD, plainD, plainDs, dep, deps, eqv, eqvs, beqI, beqS, atI_0, atI_1, atI_2, LE, sz0, sz1, sz2, sz3, sz4, sz5, sz6, sz7, sz8, sz9, sz10, sz11, sl0, sl1, sl2, sl3, sl4, sl5, prI, mk, mz, c0, c1, pos]⟩)
  have e : (List.range p.M).map (fun i : Nat => prI ((i : Int), pos p.s p.z p.c i)) = prs p.R := by simp [Par.R, rowF, prs, Function.comp_def]
  rw [e] at c
  exact e_asg (i := 20) (e_blt1 (b := .tuple) (m := false) c rfl rfl)
end
end Ev

set_option Elab.async false
set_option linter.all false
set_option maxRecDepth 100000
set_option maxHeartbeats 1000000
namespace Ev
theorem row_mem {s z : Int} {c a r : Nat} {q : Int × Int} (h : q ∈ rowF s z c a a r) : ∃ x : Nat, x < r ∧ q.1 = ((a + x : Nat) : Int) := by
  obtain ⟨x, hx, rfl⟩ := List.mem_map.mp h
  exact ⟨x, List.mem_range.mp hx, rfl⟩
namespace Par
variable (p : Par)
theorem told_R : itl (gz p.s p.f p.n) p.tl p.m 0 (-1) p.R = true := by
  refine itl_row p.even p.w p.m p.M 0 0 (-1) (by omega) (by have := p.Mm; omega) (by have := p.Mn; omega) fun hr => ?_
  exact (pos_in p.even (show 0 < p.n * p.c by have := p.Mn; omega)).1
def R1 : List (Int × Int) := rowF p.s p.z p.c 1 1 (p.M - 1)
theorem R_eq (h : 0 < p.M) : p.R = (0, pos p.s p.z p.c 0) :: p.R1 := by
  unfold R R1
  obtain ⟨k, hk⟩ : ∃ k, p.M = k + 1 := ⟨p.M - 1, by omega⟩
  rw [hk, rowF_succ]
  rfl
theorem told_R1 (h : 0 < p.M) : itl (gz p.s p.f p.n) p.tl p.m 0 (-1) p.R1 = true := by
  refine itl_row p.even p.w p.m (p.M - 1) 1 0 (-1) (by omega) (by have := p.Mm; omega) (by have := p.Mn; omega) fun hr => ?_
  exact (pos_in p.even (show 1 < p.n * p.c by have := p.Mn; omega)).1
theorem R1_len : p.R1.length = p.M - 1 := by simp [R1, rowF]
theorem gaps_sum : ((gz p.s p.f p.n).map fun q => q.2 - q.1).sum = p.n * p.f := by
  unfold gz
  rw [List.map_map]
  have e : ((fun q : Int × Int => q.2 - q.1) ∘ fun k : Nat => (p.s * (k : Int), p.s * (k : Int) + p.f)) = fun _ => p.f := by
    funext k
    simp only [Function.comp_def]
    omega
  rw [e, sum_const]
  simp
end Par
theorem gap_not {s f z : Int} {n : Nat} (hf : 0 < f) (hs : f < s) (hz : 0 < z) (b : Int) : gapHas (gz s f n) z (b - b % s + f) = false := by
  rw [← Bool.not_eq_true]
  intro h
  unfold gapHas at h
  obtain ⟨q, hq, h⟩ := List.any_eq_true.mp h
  obtain ⟨k, _, rfl⟩ := gz_mem hq
  rw [Bool.and_eq_true, decide_eq_true_eq, decide_eq_true_eq] at h
  simp only at h
  have e := Int.mul_ediv_add_emod b s
  generalize b / s = d at e
  have e2 : b - b % s = s * d := by omega
  rw [e2] at h
  rcases Int.lt_or_le d k with h1 | h1
  · have := Int.mul_le_mul_of_nonneg_left (show d + 1 ≤ (k : Int) by omega) (show 0 ≤ s by omega)
    rw [Int.mul_add, Int.mul_one] at this
    omega
  · have := Int.mul_le_mul_of_nonneg_left h1 (show 0 ≤ s by omega)
    omega
/-- no bent row is told -/
theorem bent_no (p : Par) (h0 : 0 < p.M) (R0 : List (Int × Int)) (la : Int × Int) (hR : p.R = R0 ++ [la]) :
    itl (gz p.s p.f p.n) p.tl p.m 0 (-1) (p.R ++ [la]) = false ∧ itl (gz p.s p.f p.n) p.tl p.m 0 (-1) (R0 ++ [(la.1, la.2 - la.2 % p.s + p.f)]) = false ∧ itl (gz p.s p.f p.n) p.tl p.m 0 (-1) ((0, -1) :: p.R1) = false ∧ itl (gz p.s p.f p.n) p.tl p.m 0 (-1) [((p.m : Int), 0)] = false ∧
    (1 < p.M → itl (gz p.s p.f p.n) p.tl p.m 0 (-1) p.R.reverse = false) ∧ itl (gz p.s p.f p.n) p.tl p.m 0 (-1) (p.R ++ p.R) = false := by
  refine ⟨?_, ?_, ?_, ?_, fun h1 => ?_, ?_⟩
  · rw [← Bool.not_eq_true]
    intro h
    have := (itl_inv h).2
    rw [hR, List.append_assoc] at this
    have := (List.pairwise_append.mp this).2.1
    simp at this
  · rw [← Bool.not_eq_true]
    intro h
    have := ((itl_inv h).1 (la.1, la.2 - la.2 % p.s + p.f) (by simp)).2.2.2
    rw [show p.tl.l = p.z from rfl, gap_not p.f0 p.fs p.z0] at this
    cases this
  · rw [← Bool.not_eq_true]
    intro h
    have := ((itl_inv h).1 (0, -1) (by simp)).2.2.1
    rw [show p.tl.f = 0 from rfl] at this
    simp at this
  · rw [← Bool.not_eq_true]
    intro h
    have := ((itl_inv h).1 ((p.m : Int), 0) (by simp)).2.1
    simp at this
  · rw [← Bool.not_eq_true]
    intro h
    have a := (itl_inv h).2
    have b := (itl_inv p.told_R).2
    rw [List.pairwise_reverse] at a
    have len := p.R_len
    match hr : p.R, len, a, b with
    | [], len, _, _ => simp at len; omega
    | [x], len, _, _ => simp at len; omega
    | x :: y :: r, _, a, b =>
      have a := (List.pairwise_cons.mp a).1 y (by simp)
      have b := (List.pairwise_cons.mp b).1 y (by simp)
      omega
  · rw [← Bool.not_eq_true]
    intro h
    have := (List.pairwise_append.mp (itl_inv h).2).2.2 la (by rw [hR]; simp) la (by rw [hR]; simp)
    omega
section
variable {L : Nat} (hL : 14 ≤ L) (p : Par) (x0 x2 x3 x4 x5 x6 x7 x8 x9 x10 x11 x12 x13 x14 x15 x16 x17 x18 x19 x20 x21 x22 : Option SV) (h : AH)
def E2 (p : Par) (x0 x2 x9 x10 x12 x13 x21 x22 : Option SV) : En := LE x0 x2 (iS p.n) (iS p.f) (iS p.t) (iS p.s) (iS p.e) (vS p.B) x9 x10 (iS p.wd) x12 x13 (iS p.m) (iS p.z) (iS p.w) (vS p.T) (iS p.c) (iS p.M) (vS (.tup (prs p.R))) x21 x22
include hL
theorem toldR (row : List (Int × Int)) (hr : row.length ≤ 100) : callN prog L 9 [.v p.B, .v (.int p.e), .v p.T, .v (.tup (prs row))] h = some (.v (.bl (itl (gz p.s p.f p.n) p.tl p.m 0 (-1) row)), h) := by
  have m1 := p.m1
  have q := toldL (L := L) (by omega) (bz p.s p.f p.n) p.bl p.e p.tl p.m row (by omega) (by omega) h
  rw [p.gaps] at q
  exact q
theorem leftR (row : List (Int × Int)) (hr : row.length ≤ 100) (hm : ∀ q ∈ row, 0 ≤ q.1 ∧ q.1 < p.m) : callN prog L 10 [.v p.B, .v (.int p.e), .v (.tup (prs row)), .v p.T] h = some (.v (.int (p.n * p.f - row.length * p.z)), h) := by
  have m1 := p.m1
  have q := leftL (L := L) (by omega) (bz p.s p.f p.n) p.bl p.e p.tl p.m row (by omega) (by omega) hm h
  rw [p.gaps, p.gaps_sum] at q
  exact q
theorem b15 : evS (callN prog L) S_law_15 (E2 p x0 x2 x9 x10 x12 x13 x21 x22) h = some (.nx (E2 p x0 x2 x9 x10 x12 x13 x21 x22) h) := by
  have m1 := p.m1
  have M5 := p.M5
  have b := bestL (L := L) (ts := List.replicate p.m p.tl) (by simp; omega) (bz p.s p.f p.n) p.bl p.e h (by simp; omega)
  have be := best_even p.even p.w p.w0 p.m
  rw [p.gaps] at b
  have be' : rf (gz p.s p.f p.n) (List.replicate p.m p.tl) 0 0 = (-(p.w * (p.M : Int)), (p.M : Int), p.R) := be
  rw [be'] at b
  simp only [Int.neg_neg] at b
  have sm := same_best (L := L) (by omega) (p.w * (p.M : Int)) p.R (by rw [p.R_len]; omega) h
  have t := toldR hL p h p.R (by rw [p.R_len]; omega)
  rw [p.told_R] at t
  have mo : mulOk p.w (p.M : Int) = true := mulOk_small (by have := p.w0; omega) (by have := p.w1; omega)
  refine s_skip (t_or (t_nt (t_no (e_call2 (e_call3 rfl rfl rfl b) (h2 := h) (y := .v (.tup [.int (p.w * (p.M : Int)), .tup (prs p.R)])) ?_ sm))) (t_nisT (e_call4 rfl rfl rfl rfl t)))
  simp [runF, startE, evSs, evS, evE, evL, evT, evI, evD, asgT, rdVar, peek, part, sliceP, binP, binA, cmpP, truP, bltE, blt1, blt2, lenP, mkR, mkL, mkD, retn, pvs, SV.pv, wipeE, walkOf, itemsP, notD, idxP, isKey, keyEq, dlook, dhas, dput, dictEq, okDict, mthE, mthC, mthP, mthT, argsM, isLst, changes, isiTy, smallR, finL, finD, tupP, listP, dicP, onL, onS, min2P, max2P, blt3, argsN, revP, inP, isP, isNon, eqP, okD, plainD, plainDs, dep, deps, eqv, eqvs, beqI, beqS, atI_0, atI_1, atI_2, sz0, sz1, sz2, sz3, sz4, sz5, sz6, sz7, sz8, sz9, sz10, sz11, sl0, sl1, sl2, sl3, sl4, sl5, E2, LE, mo]
theorem b16 : evS (callN prog L) S_law_16 (E2 p x0 x2 x9 x10 x12 x13 x21 x22) h = some (.nx (E2 p x0 x2 x9 x10 x12 x13 x21 x22) h) := by
  have m1 := p.m1
  have M5 := p.M5
  have n1 := p.n1
  have w0 := p.w0
  have w1 := p.w1
  have lf := leftR hL p h p.R (by rw [p.R_len]; omega) (fun q hq => by
    obtain ⟨x, hx, e⟩ := row_mem hq
    have := p.Mm
    rw [e]; omega)
  rw [p.R_len] at lf
  have sm := same_int (L := L) (by omega) (p.n * p.f - (p.M : Int) * p.z) h
  have mo1 : mulOk (p.n : Int) p.f = true := mulOk_small (by omega) (by omega)
  have mo2 : mulOk (p.M : Int) p.z = true := mulOk_small (by omega) (by omega)
  have b1 : binP .mul (.int (p.n : Int)) (.int p.f) = some (.int (p.n * p.f)) := by simp only [binP, mo1, if_true]
  have b2 : binP .mul (.int (p.M : Int)) (.int p.z) = some (.int (p.M * p.z)) := by simp only [binP, mo2, if_true]
  have t1 : evT (callN prog L) (.not (.of (.call 18 (.cons (.call 10 (.cons (.var 8 false) (.cons (.var 7 false) (.cons (.var 20 false) (.cons (.var 17 false) .nil))))) (.cons (.bin .sub (.bin .mul (.var 3 false) (.var 4 false)) (.bin .mul (.var 19 false) (.var 15 false))) .nil))))) (E2 p x0 x2 x9 x10 x12 x13 x21 x22) h = some (false, h) :=
    t_nt (t_no (e_call2 (e_call4 rfl rfl rfl rfl lf) (e_bin (e_bin (p := .int p.n) (q := .int p.f) (h1 := h) rfl rfl b1) (e_bin (p := .int p.M) (q := .int p.z) (h1 := h) (h2 := h) rfl rfl b2) rfl) sm))
  by_cases hm : p.m = 0
  · have sh := share0L (L := L) (ts := List.replicate p.m p.tl) (by omega) (bz p.s p.f p.n) p.e h (by simp; omega) (by simp [hm])
    have s2 := same_two (L := L) (by omega) 1 1 h
    refine s_skip (t_or t1 (t_nt (t_no (e_call2 (e_call3 rfl rfl rfl sh) (h2 := h) (y := .v (.tup [.int 1, .int 1])) ?_ s2))))
    simp [runF, startE, evSs, evS, evE, evL, evT, evI, evD, asgT, rdVar, peek, part, sliceP, binP, binA, cmpP, truP, bltE, blt1, blt2, lenP, mkR, mkL, mkD, retn, pvs, SV.pv, wipeE, walkOf, itemsP, notD, idxP, isKey, keyEq, dlook, dhas, dput, dictEq, okDict, mthE, mthC, mthP, mthT, argsM, isLst, changes, isiTy, smallR, finL, finD, tupP, listP, dicP, onL, onS, min2P, max2P, blt3, argsN, revP, inP, isP, isNon, eqP, okD, plainD, plainDs, dep, deps, eqv, eqvs, beqI, beqS, atI_0, atI_1, atI_2, E2, LE, sz0, sz1, sz2, sz3, sz4, sz5, sz6, sz7, sz8, sz9, sz10, sz11, sl0, sl1, sl2, sl3, sl4, sl5, hm]
  · obtain ⟨wn, hwn⟩ : ∃ wn : Nat, p.w = wn := ⟨p.w.toNat, by omega⟩
    have wn0 : 0 < wn := by omega
    have be' : rf (gz p.s p.f p.n) (List.replicate p.m p.tl) 0 0 = (-(p.w * (p.M : Int)), (p.M : Int), p.R) := best_even p.even p.w p.w0 p.m
    have wm : wn * p.m < 2 ^ 29 := by
      have := Nat.mul_le_mul (show wn ≤ 5 by omega) (show p.m ≤ 5 by omega)
      omega
    have sh := shareL (L := L) (ts := List.replicate p.m p.tl) (by simp; omega) (bz p.s p.f p.n) p.bl p.e h (by simp; omega) (wn * p.M) (wn * p.m) (Nat.mul_pos wn0 (by omega)) wm (by rw [p.gaps, be', hwn]; simp) (by
      rw [List.map_replicate, show p.tl.w = p.w from rfl, hwn, List.sum_replicate_int]
      rw [Int.mul_comm]; simp)
    rw [frP_scale wn p.M p.m wn0] at sh
    have pa := partL (L := L) (by omega) p.M p.m (by omega) (by omega) h
    have s2 := same_two (L := L) (by omega) ((p.M / Nat.gcd p.M p.m : Nat) : Int) ((p.m / Nat.gcd p.M p.m : Nat) : Int) h
    refine s_skip (t_or t1 (t_nt (t_no (e_call2 (e_call3 rfl rfl rfl sh) (h2 := h) (y := .v (frP p.M p.m)) ?_ s2))))
    have hm' : 0 < p.m := by omega
    simp [runF, startE, evSs, evS, evE, evL, evT, evI, evD, asgT, rdVar, peek, part, sliceP, binP, binA, cmpP, truP, bltE, blt1, blt2, lenP, mkR, mkL, mkD, retn, pvs, SV.pv, wipeE, walkOf, itemsP, notD, idxP, isKey, keyEq, dlook, dhas, dput, dictEq, okDict, mthE, mthC, mthP, mthT, argsM, isLst, changes, isiTy, smallR, finL, finD, tupP, listP, dicP, onL, onS, min2P, max2P, blt3, argsN, revP, inP, isP, isNon, eqP, okD, plainD, plainDs, dep, deps, eqv, eqvs, beqI, beqS, atI_0, atI_1, atI_2, E2, LE, hm', pa]
/-- the six bent rows -/
theorem bents (X X0 X1 : List PV) (a b c d : Int) (hX : X.length ≤ 5) (h0 : X0.length ≤ 5) (h1 : X1.length ≤ 5) (e1 : atI X (-1) = some (.tup [.int a, .int b])) (e2 : cut X none (some (-1)) = X0) (e3 : cut X (some 1) none = X1) (e4 : atI X 0 = some (.tup [.int c, .int d])) (m M : Nat) (s f : Int) (s0 : 0 < s) : evE (callN prog L) (.lst false (.cons (.bin .add (.var 20 false) (.tup (.cons (.idx (.var 20 false) (.neg (.lit (.int 1)))) .nil))) (.cons (.bin .add (.slc (.var 20 false) .nil (.cons (.neg (.lit (.int 1))) .nil)) (.tup (.cons (.tup (.cons (.idx (.idx (.var 20 false) (.neg (.lit (.int 1)))) (.lit (.int 0))) (.cons (.bin .add (.bin .sub (.idx (.idx (.var 20 false) (.neg (.lit (.int 1)))) (.lit (.int 1))) (.bin .mod (.idx (.idx (.var 20 false) (.neg (.lit (.int 1)))) (.lit (.int 1))) (.var 6 false))) (.var 4 false)) .nil))) .nil))) (.cons (.bin .add (.tup (.cons (.tup (.cons (.idx (.idx (.var 20 false) (.lit (.int 0))) (.lit (.int 0))) (.cons (.bin .sub (.lit (.int 0)) (.lit (.int 1))) .nil))) .nil)) (.slc (.var 20 false) (.cons (.lit (.int 1)) .nil) .nil)) (.cons (.blt false .list (.cons (.var 20 false) .nil)) (.cons (.tup (.cons (.tup (.cons (.var 14 false) (.cons (.lit (.int 0)) .nil))) .nil)) (.cons (.ite (.of (.cmp .gt (.var 19 false) (.lit (.int 1)))) (.rev (.var 20 false)) (.bin .add (.var 20 false) (.var 20 false))) .nil)))))))
    (LE x0 x2 x3 (iS f) x5 (iS s) x7 x8 x9 x10 x11 x12 x13 (iS m) x15 x16 x17 x18 (iS M) (vS (.tup X)) x21 x22) h = some (.v (.lst [.tup (X ++ [.tup [.int a, .int b]]), .tup (X0 ++ [.tup [.int a, .int (b - b % s + f)]]), .tup (.tup [.int c, .int (-1)] :: X1), .lst X, .tup [.tup [.int m, .int 0]], .tup (if 1 < M then X.reverse else X ++ X)]), h) := by
  have l1 : X.length + 1 ≤ SZ := le_sz (by omega)
  have l2 : X0.length + 1 ≤ SZ := le_sz (by omega)
  have l3 : 1 + X1.length ≤ SZ := le_sz (by omega)
  have l4 : X.length + X.length ≤ SZ := le_sz (by omega)
  by_cases hM : 1 < M
  · have hM' : (1 : Int) < M := by omega
    simp [runF, startE, evSs, evS, evE, evL, evT, evI, evD, asgT, rdVar, peek, part, sliceP, binP, binA, cmpP, truP, bltE, blt1, blt2, lenP, mkR, mkL, mkD, retn, pvs, SV.pv, wipeE, walkOf, itemsP, notD, idxP, isKey, keyEq, dlook, dhas, dput, dictEq, okDict, mthE, mthC, mthP, mthT, argsM, isLst, changes, isiTy, smallR, finL, finD, tupP, listP, dicP, onL, onS, min2P, max2P, blt3, argsN, revP, inP, isP, isNon, eqP, okD, plainD, plainDs, dep, deps, eqv, eqvs, beqI, beqS, atI_0, atI_1, atI_2, sz0, sz1, sz2, sz3, sz4, sz5, sz6, sz7, sz8, sz9, sz10, sz11, sl0, sl1, sl2, sl3, sl4, sl5, LE, e1, e2, e3, e4, s0, l1, l2, l3, hM, hM', pvs]
  · have hM' : ¬ (1 : Int) < M := by omega
    simp [runF, startE, evSs, evS, evE, evL, evT, evI, evD, asgT, rdVar, peek, part, sliceP, binP, binA, cmpP, truP, bltE, blt1, blt2, lenP, mkR, mkL, mkD, retn, pvs, SV.pv, wipeE, walkOf, itemsP, notD, idxP, isKey, keyEq, dlook, dhas, dput, dictEq, okDict, mthE, mthC, mthP, mthT, argsM, isLst, changes, isiTy, smallR, finL, finD, tupP, listP, dicP, onL, onS, min2P, max2P, blt3, argsN, revP, inP, isP, isNon, eqP, okD, plainD, plainDs, dep, deps, eqv, eqvs, beqI, beqS, atI_0, atI_1, atI_2, sz0, sz1, sz2, sz3, sz4, sz5, sz6, sz7, sz8, sz9, sz10, sz11, sl0, sl1, sl2, sl3, sl4, sl5, LE, e1, e2, e3, e4, s0, l1, l2, l3, l4, hM, hM', pvs]
end
end Ev

set_option Elab.async false
set_option linter.all false
set_option maxRecDepth 100000
set_option maxHeartbeats 1000000
namespace Ev
section
variable {L : Nat} (hL : 14 ≤ L) (p : Par) (x0 x2 x3 x4 x5 x6 x7 x8 x9 x10 x11 x12 x13 x14 x15 x16 x17 x18 x19 x20 x21 x22 : Option SV) (h : AH)
include hL
theorem b17 (hM : 0 < p.M) (ds : List Int) (k : Nat) : ∃ bent, (∀ h, callN prog L 9 [.v p.B, .v (.int p.e), .v p.T, .v bent] h = some (.v (.bl false), h)) ∧ evS (callN prog L) S_law_17 (E2 p x0 x2 x9 x10 x12 x13 x21 x22) [Wc ds k] = some (.nx (E2 p x0 x2 x9 x10 x12 x13 (vS bent) x22) [Wc ds (k + 1)]) := by
  have M5 := p.M5
  have R1 := p.R_eq hM
  have len := p.R_len
  have len1 := p.R1_len
  obtain ⟨R0, la, hR⟩ : ∃ R0 la, p.R = R0 ++ [la] := by
    have ne : p.R ≠ [] := by rw [R1]; simp
    exact ⟨p.R.dropLast, p.R.getLast ne, (List.dropLast_concat_getLast ne).symm⟩
  have len0 : R0.length + 1 = p.M := by rw [← len, hR]; simp
  obtain ⟨n1, n2, n3, n4, n5, n6⟩ := bent_no p hM R0 la hR
  have q := bents hL x0 x2 (iS p.n) (iS p.t) (iS p.e) (vS p.B) x9 x10 (iS p.wd) x12 x13 (iS p.z) (iS p.w) (vS p.T) (iS p.c) x21 x22 [Wc ds k] (prs p.R) (prs R0) (prs p.R1) la.1 la.2 0 (pos p.s p.z p.c 0) (by rw [List.length_map]; omega) (by rw [List.length_map]; omega) (by rw [List.length_map]; omega)
    (by rw [hR, prs, List.map_append]; exact atI_last _ _) (by rw [hR, prs, List.map_append]; exact cut_init _ _) (by rw [R1]; exact cut_1 _ _) (by rw [R1]; exact atI_0 _ _) p.m p.M p.s p.f p.s0
  generalize hxs : [PV.tup (prs p.R ++ [.tup [.int la.1, .int la.2]]), .tup (prs R0 ++ [.tup [.int la.1, .int (la.2 - la.2 % p.s + p.f)]]), .tup (.tup [.int 0, .int (-1)] :: prs p.R1), .lst (prs p.R), .tup [.tup [.int p.m, .int 0]], .tup (if 1 < p.M then (prs p.R).reverse else prs p.R ++ prs p.R)] = xs at q
  have lx : xs.length = 6 := by rw [← hxs]; rfl
  obtain ⟨v, v1, v2⟩ := nxN ds k 6 (by omega)
  have vl : v < xs.length := by omega
  have pk := pickL (L := L) (by omega) ds k xs xs[v] (by omega) (by rw [lx]; rw [show nx ds k ((6 : Nat) : Int) = v from v1]; simp) []
  refine ⟨xs[v], fun h => ?_, ?_⟩
  · have mem : xs[v] ∈ xs := List.getElem_mem vl
    generalize xs[v] = x at mem
    rw [← hxs] at mem
    simp only [List.mem_cons, List.not_mem_nil, or_false] at mem
    rcases mem with rfl | rfl | rfl | rfl | rfl | rfl
    · have := toldR hL p h (p.R ++ [la]) (by rw [List.length_append, len]; simp; omega)
      rw [n1, prs, List.map_append] at this
      exact this
    · have := toldR hL p h (R0 ++ [(la.1, la.2 - la.2 % p.s + p.f)]) (by rw [List.length_append]; simp; omega)
      rw [n2, prs, List.map_append] at this
      exact this
    · have := toldR hL p h ((0, -1) :: p.R1) (by simp; omega)
      rw [n3] at this
      exact this
    · exact toldLst (by omega) _ _ _ _ h
    · have := toldR hL p h [((p.m : Int), 0)] (by simp)
      rw [n4] at this
      exact this
    · by_cases hm : 1 < p.M
      · rw [if_pos hm]
        have := toldR hL p h p.R.reverse (by rw [List.length_reverse]; omega)
        rw [n5 hm, prs, List.map_reverse] at this
        exact this
      · rw [if_neg hm]
        have := toldR hL p h (p.R ++ p.R) (by rw [List.length_append]; omega)
        rw [n6, prs, List.map_append] at this
        exact this
  · exact e_asg (i := 21) (e_call2 rfl q pk)
theorem sl_R (hM : 0 < p.M) : evE (callN prog L) (.slc (.var 20 false) (.cons (.lit (.int 1)) .nil) .nil) (E2 p x0 x2 x9 x10 x12 x13 x21 x22) h = some (.v (.tup (prs p.R1)), h) := by
  have c := cut_1 (prI (0, pos p.s p.z p.c 0)) (prs p.R1)
  have e : prs p.R = prI (0, pos p.s p.z p.c 0) :: prs p.R1 := by rw [p.R_eq hM]; rfl
  rw [← e] at c
  simp [runF, startE, evSs, evS, evE, evL, evT, evI, evD, asgT, rdVar, peek, part, sliceP, binP, binA, cmpP, truP, bltE, blt1, blt2, lenP, mkR, mkL, mkD, retn, pvs, SV.pv, wipeE, walkOf, itemsP, notD, idxP, isKey, keyEq, dlook, dhas, dput, dictEq, okDict, mthE, mthC, mthP, mthT, argsM, isLst, changes, isiTy, smallR, finL, finD, tupP, listP, dicP, onL, onS, min2P, max2P, blt3, argsN, revP, inP, isP, isNon, eqP, okD, plainD, plainDs, dep, deps, eqv, eqvs, beqI, beqS, atI_0, atI_1, atI_2, E2, LE, c]
theorem b18 (hM : 0 < p.M) (bent : PV) (hb : ∀ h, callN prog L 9 [.v p.B, .v (.int p.e), .v p.T, .v bent] h = some (.v (.bl false), h)) : evS (callN prog L) S_law_18 (E2 p x0 x2 x9 x10 x12 x13 (vS bent) x22) h = some (.nx (E2 p x0 x2 x9 x10 x12 x13 (vS bent) x22) h) := by
  have M5 := p.M5
  have t := toldR hL p h p.R1 (by rw [p.R1_len]; omega)
  rw [p.told_R1 hM] at t
  exact s_skip (t_or (t_nisF (e_call4 rfl rfl rfl rfl (hb h))) (t_nisT (e_call4 rfl rfl rfl (sl_R hL p x0 x2 x9 x10 x12 x13 (vS bent) x22 h hM) t)))
theorem b19 (hM : 0 < p.M) : evS (callN prog L) S_law_19 (E2 p x0 x2 x9 x10 x12 x13 x21 x22) h = some (.nx (E2 p x0 x2 x9 x10 x12 x13 x21 x22) h) := by
  have M5 := p.M5
  have n1 := p.n1
  have lf := leftR hL p h p.R1 (by rw [p.R1_len]; omega) (fun q hq => by
    obtain ⟨x, hx, e⟩ := row_mem hq
    have := p.Mm
    rw [e]; omega)
  rw [p.R1_len] at lf
  have e : (((p.M - 1 : Nat) : Nat) : Int) = (p.M : Int) - 1 := by omega
  rw [e] at lf
  have sm := same_int (L := L) (by omega) (p.n * p.f - ((p.M : Int) - 1) * p.z) h
  have mo1 : mulOk (p.n : Int) p.f = true := mulOk_small (by omega) (by omega)
  have mo2 : mulOk ((p.M : Int) - 1) p.z = true := mulOk_small (by omega) (by omega)
  have b1 : binP .mul (.int (p.n : Int)) (.int p.f) = some (.int (p.n * p.f)) := by simp only [binP, mo1, if_true]
  have b2 : binP .mul (.int ((p.M : Int) - 1)) (.int p.z) = some (.int (((p.M : Int) - 1) * p.z)) := by simp only [binP, mo2, if_true]
  exact s_skip (t_nt (t_no (e_call2 (e_call4 rfl rfl (sl_R hL p x0 x2 x9 x10 x12 x13 x21 x22 h hM) rfl lf) (e_bin (e_bin (p := .int p.n) (q := .int p.f) (h1 := h) rfl rfl b1) (e_bin (p := .int ((p.M : Int) - 1)) (q := .int p.z) (h1 := h) (h2 := h) (e_bin (p := .int p.M) (q := .int 1) (h1 := h) rfl rfl rfl) rfl b2) rfl) sm)))
theorem b20 (ds : List Int) (k : Nat) : ∃ k' y21, evS (callN prog L) S_law_20 (E2 p x0 x2 x9 x10 x12 x13 x21 x22) [Wc ds k] = some (.nx (E2 p x0 x2 x9 x10 x12 x13 y21 x22) [Wc ds k']) := by
  by_cases hM : 0 < p.M
  · obtain ⟨bent, hb, q17⟩ := b17 hL p x0 x2 x9 x10 x12 x13 x21 x22 hM ds k
    have q18 := b18 hL p x0 x2 x9 x10 x12 x13 x22 [Wc ds (k + 1)] hM bent hb
    have q19 := b19 hL p x0 x2 x9 x10 x12 x13 (vS bent) x22 [Wc ds (k + 1)] hM
    refine ⟨k + 1, vS bent, ?_⟩
    have t : evT (callN prog L) (.of (.cmp .gt (.var 19 false) (.lit (.int 0)))) (E2 p x0 x2 x9 x10 x12 x13 x21 x22) [Wc ds k] = some (true, [Wc ds k]) := by
      simp [runF, startE, evSs, evS, evE, evL, evT, evI, evD, asgT, rdVar, peek, part, sliceP, binP, binA, cmpP, truP, bltE, blt1, blt2, lenP, mkR, mkL, mkD, retn, pvs, SV.pv, wipeE, walkOf, itemsP, notD, idxP, isKey, keyEq, dlook, dhas, dput, dictEq, okDict, mthE, mthC, mthP, mthT, argsM, isLst, changes, isiTy, smallR, finL, finD, tupP, listP, dicP, onL, onS, min2P, max2P, blt3, argsN, revP, inP, isP, isNon, eqP, okD, plainD, plainDs, dep, deps, eqv, eqvs, beqI, beqS, atI_0, atI_1, atI_2, E2, LE, hM]
    rw [S_law_20, s_if t]
    show evSs _ (.cons _ (.cons _ (.cons _ .nil))) _ _ = _
    rw [seq q17, seq q18, seq q19, seqN]
  · refine ⟨k, x21, s_skip ?_⟩
    simp [runF, startE, evSs, evS, evE, evL, evT, evI, evD, asgT, rdVar, peek, part, sliceP, binP, binA, cmpP, truP, bltE, blt1, blt2, lenP, mkR, mkL, mkD, retn, pvs, SV.pv, wipeE, walkOf, itemsP, notD, idxP, isKey, keyEq, dlook, dhas, dput, dictEq, okDict, mthE, mthC, mthP, mthT, argsM, isLst, changes, isiTy, smallR, finL, finD, tupP, listP, dicP, onL, onS, min2P, max2P, blt3, argsN, revP, inP, isP, isNon, eqP, okD, plainD, plainDs, dep, deps, eqv, eqvs, beqI, beqS, atI_0, atI_1, atI_2, E2, LE, hM]
    try omega
theorem b21 (ds : List Int) (k : Nat) : ∃ k', evS (callN prog L) S_law_21 (E2 p x0 x2 x9 x10 x12 x13 x21 x22) [Wc ds k] = some (.nx (E2 p x0 x2 x9 x10 x12 x13 x21 x22) [Wc ds k']) := by
  obtain ⟨N, rfl⟩ : ∃ N, L = N + 1 := ⟨L - 1, by omega⟩
  obtain ⟨k', q⟩ := rest_ok N (by omega) p ds k
  refine ⟨k', s_skip (t_nisT ?_)⟩
  rw [evE]
  have : evL (callN prog (N + 1)) (.cons (.var 1 false) (.cons (.var 8 false) (.cons (.var 7 false) (.cons (.var 4 false) (.cons (.var 14 false) (.cons (.var 3 false) (.cons (.var 15 false) (.cons (.var 6 false) (.cons (.var 5 false) (.cons (.var 17 false) (.cons (.var 11 false) .nil))))))))))) (E2 p x0 x2 x9 x10 x12 x13 x21 x22) [Wc ds k] = some ([.o 0, .v p.B, .v (.int p.e), .v (.int p.f), .v (.int p.m), .v (.int p.n), .v (.int p.z), .v (.int p.s), .v (.int p.t), .v p.T, .v (.int p.wd)], [Wc ds k]) := rfl
  simp only [this, q]
theorem turn42 (ds : List Int) (k : Nat) : ∃ k' y3 y4 y5 y6 y7 y8 y9 y10 y11 y12 y13 y14 y15 y16 y17 y18 y19 y20 y21 y22, evSs (callN prog L) L_law_0 (LE x0 x2 x3 x4 x5 x6 x7 x8 x9 x10 x11 x12 x13 x14 x15 x16 x17 x18 x19 x20 x21 x22) [Wc ds k] = some (.nx (LE x0 x2 y3 y4 y5 y6 y7 y8 y9 y10 y11 y12 y13 y14 y15 y16 y17 y18 y19 y20 y21 y22) [Wc ds k']) := by
  obtain ⟨n, n1, n2⟩ := nxN ds k 4 (by omega)
  obtain ⟨f, f1, f2⟩ := nxN ds (k + 1) 12 (by omega)
  obtain ⟨t, t1, t2⟩ := nxN ds (k + 2) 9 (by omega)
  obtain ⟨wd, w1, w2⟩ := nxN ds (k + 3 + 2) 20 (by omega)
  obtain ⟨m, m1, m2⟩ := nxN ds (k + 3 + 3) 6 (by omega)
  obtain ⟨z, z1, z2⟩ := nxN ds (k + 3 + 3 + 1) 8 (by omega)
  obtain ⟨w, v1, v2⟩ := nxN ds (k + 3 + 3 + 2) 5 (by omega)
  obtain ⟨p, pn, pf, pt, pwd, pm, pz, pw⟩ : ∃ p : Par, p.n = 1 + n ∧ p.f = 1 + (f : Int) ∧ p.t = 1 + (t : Int) ∧ p.wd = wd ∧ p.m = m ∧ p.z = 1 + (z : Int) ∧ p.w = 1 + (w : Int) :=
    ⟨{ f := 1 + (f : Int), t := 1 + (t : Int), z := 1 + (z : Int), wd := wd, w := 1 + (w : Int), n := 1 + n, m := m, f0 := by omega, t0 := by omega, z0 := by omega, w0 := by omega, n0 := by omega, f1 := by omega, t1 := by omega, z1 := by omega, w1 := by omega, n1 := by omega, m1 := by omega, wd1 := by omega }, rfl, rfl, rfl, rfl, rfl, rfl, rfl⟩
  have s1 := b1 hL p x0 x2 x3 x4 x5 x6 x7 x8 x9 x10 x11 x12 x13 x14 x15 x16 x17 x18 x19 x20 x21 x22 ds k (by rw [n1, pn]; omega) (by rw [f1, pf]) (by rw [t1, pt])
  have s2 := b2 hL p x0 x2 x6 x7 x8 x9 x10 x11 x12 x13 x14 x15 x16 x17 x18 x19 x20 x21 x22 [Wc ds (k + 3)]
  have s3 := b3 hL p x0 x2 x7 x8 x9 x10 x11 x12 x13 x14 x15 x16 x17 x18 x19 x20 x21 x22 [Wc ds (k + 3)]
  have s4 := b4 hL p x0 x2 x8 x9 x10 x11 x12 x13 x14 x15 x16 x17 x18 x19 x20 x21 x22 [Wc ds (k + 3)]
  have s5 := b5 hL p x0 x2 x9 x10 x11 x12 x13 x14 x15 x16 x17 x18 x19 x20 x21 x22 [Wc ds (k + 3)]
  have fi0 := nx_lo ds (k + 3) p.e0
  have fi1 := nx_hi ds (k + 3) p.e0
  have lo0 := nx_lo ds (k + 3 + 1) (m := 14) (by omega)
  have s6 := b6 hL p x0 x2 x9 x10 x11 x12 x13 x14 x15 x16 x17 x18 x19 x20 x21 x22 ds (k + 3) (nx ds (k + 3) p.e) (1 + nx ds (k + 3 + 1) 14) rfl rfl (by rw [w1, pwd])
  generalize nx ds (k + 3) p.e = fi at s6 fi0 fi1
  generalize hlo : 1 + nx ds (k + 3 + 1) 14 = lo at s6
  have s7 := b7 hL p x0 x2 x12 x13 x14 x15 x16 x17 x18 x19 x20 x21 x22 [Wc ds (k + 3 + 3)] fi lo
  have s8 := b8 hL p x0 x2 x13 x14 x15 x16 x17 x18 x19 x20 x21 x22 [Wc ds (k + 3 + 3)] fi lo
  have s9 := b9 hL p x0 x2 x14 x15 x16 x17 x18 x19 x20 x21 x22 [Wc ds (k + 3 + 3)] fi lo fi0 fi1 (by omega)
  have s10 := b10 hL p x0 x2 (iS fi) (iS lo) (iS (bg p fi lo)) (vS (.bl (cn p fi lo))) x14 x15 x16 x17 x18 x19 x20 x21 x22 ds (k + 3 + 3) fi lo (by rw [m1, pm]) (by rw [z1, pz]) (by rw [v1, pw])
  have s11 := b11 hL p x0 x2 (iS fi) (iS lo) (iS (bg p fi lo)) (vS (.bl (cn p fi lo))) x17 x18 x19 x20 x21 x22 [Wc ds (k + 3 + 3 + 3)]
  have s12 := b12 hL p x0 x2 (iS fi) (iS lo) (iS (bg p fi lo)) (vS (.bl (cn p fi lo))) x18 x19 x20 x21 x22 [Wc ds (k + 3 + 3 + 3)]
  have s13 := b13 hL p x0 x2 (iS fi) (iS lo) (iS (bg p fi lo)) (vS (.bl (cn p fi lo))) x19 x20 x21 x22 [Wc ds (k + 3 + 3 + 3)]
  have s14 := b14 hL p x0 x2 (iS fi) (iS lo) (iS (bg p fi lo)) (vS (.bl (cn p fi lo))) x20 x21 x22 [Wc ds (k + 3 + 3 + 3)]
  have s15 := b15 hL p x0 x2 (iS fi) (iS lo) (iS (bg p fi lo)) (vS (.bl (cn p fi lo))) x21 x22 [Wc ds (k + 3 + 3 + 3)]
  have s16 := b16 hL p x0 x2 (iS fi) (iS lo) (iS (bg p fi lo)) (vS (.bl (cn p fi lo))) x21 x22 [Wc ds (k + 3 + 3 + 3)]
  obtain ⟨k', y21, s20⟩ := b20 hL p x0 x2 (iS fi) (iS lo) (iS (bg p fi lo)) (vS (.bl (cn p fi lo))) x21 x22 ds (k + 3 + 3 + 3)
  obtain ⟨k'', s21⟩ := b21 hL p x0 x2 (iS fi) (iS lo) (iS (bg p fi lo)) (vS (.bl (cn p fi lo))) y21 x22 ds k'
  refine ⟨k'', iS p.n, iS p.f, iS p.t, iS p.s, iS p.e, vS p.B, iS fi, iS lo, iS p.wd, iS (bg p fi lo), vS (.bl (cn p fi lo)), iS p.m, iS p.z, iS p.w, vS p.T, iS p.c, iS p.M, vS (.tup (prs p.R)), y21, x22, ?_⟩
  show evSs _ (.cons S_law_1 (.cons S_law_2 (.cons S_law_3 (.cons S_law_4 (.cons S_law_5 (.cons S_law_6 (.cons S_law_7 (.cons S_law_8 (.cons S_law_9 (.cons S_law_10 (.cons S_law_11 (.cons S_law_12 (.cons S_law_13 (.cons S_law_14 (.cons S_law_15 (.cons S_law_16 (.cons S_law_20 (.cons S_law_21 .nil)))))))))))))))))) _ _ = _
  unfold E2 at s15 s16 s20 s21
  rw [seq s1, seq s2, seq s3, seq s4, seq s5, seq s6, seq s7, seq s8, seq s9, seq s10, seq s11, seq s12, seq s13, seq s14, seq s15, seq s16, seq s20, seq s21, seqN]
end
theorem lq0 (N : Nat) (S : Option SV) (p : PV) (hS : S = some (.v p)) (ds : List Int) (hd' : callN prog (N + 14) 15 [.v p, .v (.int 900)] [.dict []] = some (.v (.lst (ds.map .int)), [.dict []])) : evS (callN prog (N + 14)) S_law_0 [S, none, none, none, none, none, none, none, none, none, none, none, none, none, none, none, none, none, none, none, none, none, none] [] = some (.nx (LE S none none none none none none none none none none none none none none none none none none none none none) [Wc ds 0]) := by
  subst hS
  simp [S_law_0, LE, evS, evE, evL, evD, w42, hd', isKey, mergeP, dput, keyEq, finD, asgT, Wc]
theorem lq1 (N : Nat) (S : Option SV) (ds : List Int) : ∃ x2 x3 x4 x5 x6 x7 x8 x9 x10 x11 x12 x13 x14 x15 x16 x17 x18 x19 x20 x21 x22 k, evS (callN prog (N + 14)) (.for (.nm 2) (.rng1 (.lit (.int 3))) L_law_0) (LE S none none none none none none none none none none none none none none none none none none none none none) [Wc ds 0] = some (.nx (LE S x2 x3 x4 x5 x6 x7 x8 x9 x10 x11 x12 x13 x14 x15 x16 x17 x18 x19 x20 x21 x22) [Wc ds k]) := by
  have e1 : evI (callN prog (N + 14)) (.rng1 (.lit (.int 3))) (LE S none none none none none none none none none none none none none none none none none none none none none) [Wc ds 0] = some (rngs 0 3, none, [Wc ds 0]) := by
    simp [evI, evE, smallR]
  obtain ⟨e', h', q1, x2, x3, x4, x5, x6, x7, x8, x9, x10, x11, x12, x13, x14, x15, x16, x17, x18, x19, x20, x21, x22, k, rfl, rfl⟩ := for_run (C := callN prog (N + 14)) (t := .nm 2) (b := L_law_0) (fun _ e h => ∃ x2 x3 x4 x5 x6 x7 x8 x9 x10 x11 x12 x13 x14 x15 x16 x17 x18 x19 x20 x21 x22 k, e = LE S x2 x3 x4 x5 x6 x7 x8 x9 x10 x11 x12 x13 x14 x15 x16 x17 x18 x19 x20 x21 x22 ∧ h = [Wc ds k]) e1
    ⟨none, none, none, none, none, none, none, none, none, none, none, none, none, none, none, none, none, none, none, none, none, 0, rfl, rfl⟩ (fun _ _ _ _ => rfl) (fun j x e h hx ⟨x2, x3, x4, x5, x6, x7, x8, x9, x10, x11, x12, x13, x14, x15, x16, x17, x18, x19, x20, x21, x22, k, he, hh⟩ => by
      subst he hh
      obtain ⟨k', y3, y4, y5, y6, y7, y8, y9, y10, y11, y12, y13, y14, y15, y16, y17, y18, y19, y20, y21, y22, q⟩ := turn42 (L := N + 14) (by omega) S (some (.v x)) x3 x4 x5 x6 x7 x8 x9 x10 x11 x12 x13 x14 x15 x16 x17 x18 x19 x20 x21 x22 ds k
      exact ⟨LE S (some (.v x)) x3 x4 x5 x6 x7 x8 x9 x10 x11 x12 x13 x14 x15 x16 x17 x18 x19 x20 x21 x22, _, _, by simp [asgT, LE], q, some (.v x), y3, y4, y5, y6, y7, y8, y9, y10, y11, y12, y13, y14, y15, y16, y17, y18, y19, y20, y21, y22, k', rfl, rfl⟩)
  exact ⟨_, _, _, _, _, _, _, _, _, _, _, _, _, _, _, _, _, _, _, _, _, _, q1⟩
theorem lq2 (C : Calls) (E : En) (h : AH) : evS C S_law_23 E h = some (.rt (.v (.bl true)) h) := by simp [S_law_23, evS, evE]
theorem law_gen (N : Nat) (ns : List Int) (hn : ns.length ≤ 63) : callN prog (N + 15) 22 [.v (.frl (ns.map .int))] [] = some (.v (.bl true), []) := by
  obtain ⟨ds, hd⟩ := draws_ok (C := callN prog (N + 13)) ns hn 900 (by omega) (by omega) [.dict []]
  have q0 := lq0 N (some (.v (.frl (ns.map .int)))) _ rfl ds ((u__law_draws (N + 13) _ _).trans hd)
  obtain ⟨x2, x3, x4, x5, x6, x7, x8, x9, x10, x11, x12, x13, x14, x15, x16, x17, x18, x19, x20, x21, x22, k, q1⟩ := lq1 N (some (.v (.frl (ns.map .int)))) ds
  rw [u_law]
  have hb : evSs (callN prog (N + 14)) f_law.body [some (.v (.frl (ns.map .int))), none, none, none, none, none, none, none, none, none, none, none, none, none, none, none, none, none, none, none, none, none, none] [] = some (.rt (.v (.bl true)) [Wc ds k]) := by
    show evSs _ (.cons _ (.cons _ (.cons _ .nil))) _ _ = _
    rw [seq q0, S_law_22, seq q1, seqR (lq2 _ _ _)]
  generalize callN prog (N + 14) = C at hb
  exact runF_ret (fn := f_law) rfl hb (by simp [retn])
theorem law_pure : ∀ ns : List Int, ns.length ≤ 63 → callN prog 30 22 [.v (.frl (ns.map .int))] [] = some (.v (.bl true), []) := fun ns hn => law_gen 15 ns hn
end Ev

set_option linter.all false
set_option maxRecDepth 100000
set_option maxHeartbeats 2000000
namespace Ev
open PySem PySem.Spec PyProof.Rows L2
/-! ### the text and its own form -/
def topS (i : Nat) : Stmt := PySem.Challenge.pw_captionwarrant_k42_whole_tellings_betwee.main.body.getD i (.Pass ⟨0, 0, 0, 0⟩)
theorem ok_0 : okB prog f_divisor (topS 1) = true := by decide +kernel
theorem nm_0 : strV f_divisor.name = "divisor" := by decide +kernel
theorem ps_0 : f_divisor.ps.map strV = (["a", "b"] : List Str) := by decide +kernel
theorem ok_1 : okB prog f_fraction (topS 2) = true := by decide +kernel
theorem nm_1 : strV f_fraction.name = "fraction" := by decide +kernel
theorem ps_1 : f_fraction.ps.map strV = (["a", "b"] : List Str) := by decide +kernel
theorem ok_2 : okB prog f_is_number (topS 4) = true := by decide +kernel
theorem nm_2 : strV f_is_number.name = "is_number" := by decide +kernel
theorem ps_2 : f_is_number.ps.map strV = (["thing"] : List Str) := by decide +kernel
theorem ok_3 : okB prog f_is_tuple_of (topS 5) = true := by decide +kernel
theorem nm_3 : strV f_is_tuple_of.name = "is_tuple_of" := by decide +kernel
theorem ps_3 : f_is_tuple_of.ps.map strV = (["thing", "many"] : List Str) := by decide +kernel
theorem ok_4 : okB prog f_gaps_for (topS 7) = true := by decide +kernel
theorem nm_4 : strV f_gaps_for.name = "gaps_for" := by decide +kernel
theorem ps_4 : f_gaps_for.ps.map strV = (["busy", "end"] : List Str) := by decide +kernel
theorem ok_5 : okB prog f_begin_from (topS 8) = true := by decide +kernel
theorem nm_5 : strV f_begin_from.name = "begin_from" := by decide +kernel
theorem ps_5 : f_begin_from.ps.map strV = (["busy", "end", "telling", "moment"] : List Str) := by decide +kernel
theorem ok_6 : okB prog f_can_tell (topS 9) = true := by decide +kernel
theorem nm_6 : strV f_can_tell.name = "can_tell" := by decide +kernel
theorem ps_6 : f_can_tell.ps.map strV = (["busy", "end", "telling"] : List Str) := by decide +kernel
theorem ok_7 : okB prog f_rows_from (topS 10) = true := by decide +kernel
theorem nm_7 : strV f_rows_from.name = "rows_from" := by decide +kernel
theorem ps_7 : f_rows_from.ps.map strV = (["busy", "end", "tellings", "k", "moment"] : List Str) := by decide +kernel
theorem ok_8 : okB prog f_best_told (topS 11) = true := by decide +kernel
theorem nm_8 : strV f_best_told.name = "best_told" := by decide +kernel
theorem ps_8 : f_best_told.ps.map strV = (["busy", "end", "tellings"] : List Str) := by decide +kernel
theorem ok_9 : okB prog f_is_told (topS 12) = true := by decide +kernel
theorem nm_9 : strV f_is_told.name = "is_told" := by decide +kernel
theorem ps_9 : f_is_told.ps.map strV = (["busy", "end", "tellings", "row"] : List Str) := by decide +kernel
theorem ok_10 : okB prog f_left_over (topS 13) = true := by decide +kernel
theorem nm_10 : strV f_left_over.name = "left_over" := by decide +kernel
theorem ps_10 : f_left_over.ps.map strV = (["busy", "end", "row", "tellings"] : List Str) := by decide +kernel
theorem ok_11 : okB prog f_must_shorten (topS 14) = true := by decide +kernel
theorem nm_11 : strV f_must_shorten.name = "must_shorten" := by decide +kernel
theorem ps_11 : f_must_shorten.ps.map strV = (["busy", "end", "tellings", "k"] : List Str) := by decide +kernel
theorem ok_12 : okB prog f_with_pause (topS 15) = true := by decide +kernel
theorem nm_12 : strV f_with_pause.name = "with_pause" := by decide +kernel
theorem ps_12 : f_with_pause.ps.map strV = (["busy", "at", "long"] : List Str) := by decide +kernel
theorem ok_13 : okB prog f_told_share (topS 16) = true := by decide +kernel
theorem nm_13 : strV f_told_share.name = "told_share" := by decide +kernel
theorem ps_13 : f_told_share.ps.map strV = (["busy", "end", "tellings"] : List Str) := by decide +kernel
theorem ok_14 : okB prog f_crowding (topS 17) = true := by decide +kernel
theorem nm_14 : strV f_crowding.name = "crowding" := by decide +kernel
theorem ps_14 : f_crowding.ps.map strV = (["tellings", "moment"] : List Str) := by decide +kernel
theorem ok_15 : okB prog f__law_draws (topS 19) = true := by decide +kernel
theorem nm_15 : strV f__law_draws.name = "_law_draws" := by decide +kernel
theorem ps_15 : f__law_draws.ps.map strV = (["script", "many"] : List Str) := by decide +kernel
theorem ok_16 : okB prog f__law_next (topS 20) = true := by decide +kernel
theorem nm_16 : strV f__law_next.name = "_law_next" := by decide +kernel
theorem ps_16 : f__law_next.ps.map strV = (["w", "many"] : List Str) := by decide +kernel
theorem ok_17 : okB prog f__law_pick (topS 21) = true := by decide +kernel
theorem nm_17 : strV f__law_pick.name = "_law_pick" := by decide +kernel
theorem ps_17 : f__law_pick.ps.map strV = (["w", "rows"] : List Str) := by decide +kernel
theorem ok_18 : okB prog f__law_same (topS 22) = true := by decide +kernel
theorem nm_18 : strV f__law_same.name = "_law_same" := by decide +kernel
theorem ps_18 : f__law_same.ps.map strV = (["seen", "due"] : List Str) := by decide +kernel
theorem ok_19 : okB prog f__law_gcd (topS 23) = true := by decide +kernel
theorem nm_19 : strV f__law_gcd.name = "_law_gcd" := by decide +kernel
theorem ps_19 : f__law_gcd.ps.map strV = (["a", "b"] : List Str) := by decide +kernel
theorem ok_20 : okB prog f__law_part (topS 24) = true := by decide +kernel
theorem nm_20 : strV f__law_part.name = "_law_part" := by decide +kernel
theorem ps_20 : f__law_part.ps.map strV = (["a", "b"] : List Str) := by decide +kernel
theorem ok_21 : okB prog f__law_rest (topS 25) = true := by decide +kernel
theorem nm_21 : strV f__law_rest.name = "_law_rest" := by decide +kernel
theorem ps_21 : f__law_rest.ps.map strV = (["w", "busy", "end", "free", "m", "n", "size", "step", "talk", "tellings", "wide"] : List Str) := by decide +kernel
theorem ok_22 : okB prog f_law (topS 26) = true := by decide +kernel
theorem nm_22 : strV f_law.name = "law" := by decide +kernel
theorem ps_22 : f_law.ps.map strV = (["script"] : List Str) := by decide +kernel
theorem all_mk {l : PySem.W.OpenLaw} {w : World} {K : PySem.W.Frag} {h : Heap} {mg : Str → Option Value} {fa f0 f1 f2 f3 f4 f5 f6 f7 f8 f9 f10 f11 f12 f13 f14 f15 f16 f17 f18 f19 f20 f21 f22 : Addr} (X : K.In h) (G : h.Ns mainGlobals mg) (hfa : mg "law" = some (.ref fa))
    {od0 an0 od1 an1 od2 an2 od3 an3 od4 an4 od5 an5 od6 an6 od7 an7 od8 an8 od9 an9 od10 an10 od11 an11 od12 an12 od13 an13 od14 an14 od15 an15 od16 an16 od17 an17 od18 an18 od19 an19 od20 an20 od21 an21 od22 an22 : Option Addr} {sl0 sl1 sl2 sl3 sl4 sl5 sl6 sl7 sl8 sl9 sl10 sl11 sl12 sl13 sl14 sl15 sl16 sl17 sl18 sl19 sl20 sl21 sl22 : Array (Option Value)} {oc0 kV0 dc0 pm0 cd0 ct0 oc1 kV1 dc1 pm1 cd1 ct1 oc2 kV2 dc2 pm2 cd2 ct2 oc3 kV3 dc3 pm3 cd3 ct3 oc4 kV4 dc4 pm4 cd4 ct4 oc5 kV5 dc5 pm5 cd5 ct5 oc6 kV6 dc6 pm6 cd6 ct6 oc7 kV7 dc7 pm7 cd7 ct7 oc8 kV8 dc8 pm8 cd8 ct8 oc9 kV9 dc9 pm9 cd9 ct9 oc10 kV10 dc10 pm10 cd10 ct10 oc11 kV11 dc11 pm11 cd11 ct11 oc12 kV12 dc12 pm12 cd12 ct12 oc13 kV13 dc13 pm13 cd13 ct13 oc14 kV14 dc14 pm14 cd14 ct14 oc15 kV15 dc15 pm15 cd15 ct15 oc16 kV16 dc16 pm16 cd16 ct16 oc17 kV17 dc17 pm17 cd17 ct17 oc18 kV18 dc18 pm18 cd18 ct18 oc19 kV19 dc19 pm19 cd19 ct19 oc20 kV20 dc20 pm20 cd20 ct20 oc21 kV21 dc21 pm21 cd21 ct21 oc22 kV22 dc22 pm22 cd22 ct22 : Value}
    (a0 : PySem.W.nsIn K mainGlobals "divisor" = some (some (.ref f0))) (l0 : K.lookup f0 = some ⟨oc0, od0, .func (PySem.W.fnOf "divisor" "divisor" (defArgs (topS 1)) (defBody (topS 1)) (defScope (topS 1)) .none kV0 dc0 pm0 an0 cd0 ct0), sl0⟩) (c0 : PySem.W.codeIn K cd0 "divisor" = true) (k0 : PySem.W.keepIn K (.ref f0) = true)
    (a1 : PySem.W.nsIn K mainGlobals "fraction" = some (some (.ref f1))) (l1 : K.lookup f1 = some ⟨oc1, od1, .func (PySem.W.fnOf "fraction" "fraction" (defArgs (topS 2)) (defBody (topS 2)) (defScope (topS 2)) .none kV1 dc1 pm1 an1 cd1 ct1), sl1⟩) (c1 : PySem.W.codeIn K cd1 "fraction" = true) (k1 : PySem.W.keepIn K (.ref f1) = true)
    (a2 : PySem.W.nsIn K mainGlobals "is_number" = some (some (.ref f2))) (l2 : K.lookup f2 = some ⟨oc2, od2, .func (PySem.W.fnOf "is_number" "is_number" (defArgs (topS 4)) (defBody (topS 4)) (defScope (topS 4)) .none kV2 dc2 pm2 an2 cd2 ct2), sl2⟩) (c2 : PySem.W.codeIn K cd2 "is_number" = true) (k2 : PySem.W.keepIn K (.ref f2) = true)
    (a3 : PySem.W.nsIn K mainGlobals "is_tuple_of" = some (some (.ref f3))) (l3 : K.lookup f3 = some ⟨oc3, od3, .func (PySem.W.fnOf "is_tuple_of" "is_tuple_of" (defArgs (topS 5)) (defBody (topS 5)) (defScope (topS 5)) .none kV3 dc3 pm3 an3 cd3 ct3), sl3⟩) (c3 : PySem.W.codeIn K cd3 "is_tuple_of" = true) (k3 : PySem.W.keepIn K (.ref f3) = true)
    (a4 : PySem.W.nsIn K mainGlobals "gaps_for" = some (some (.ref f4))) (l4 : K.lookup f4 = some ⟨oc4, od4, .func (PySem.W.fnOf "gaps_for" "gaps_for" (defArgs (topS 7)) (defBody (topS 7)) (defScope (topS 7)) .none kV4 dc4 pm4 an4 cd4 ct4), sl4⟩) (c4 : PySem.W.codeIn K cd4 "gaps_for" = true) (k4 : PySem.W.keepIn K (.ref f4) = true)
    (a5 : PySem.W.nsIn K mainGlobals "begin_from" = some (some (.ref f5))) (l5 : K.lookup f5 = some ⟨oc5, od5, .func (PySem.W.fnOf "begin_from" "begin_from" (defArgs (topS 8)) (defBody (topS 8)) (defScope (topS 8)) .none kV5 dc5 pm5 an5 cd5 ct5), sl5⟩) (c5 : PySem.W.codeIn K cd5 "begin_from" = true) (k5 : PySem.W.keepIn K (.ref f5) = true)
    (a6 : PySem.W.nsIn K mainGlobals "can_tell" = some (some (.ref f6))) (l6 : K.lookup f6 = some ⟨oc6, od6, .func (PySem.W.fnOf "can_tell" "can_tell" (defArgs (topS 9)) (defBody (topS 9)) (defScope (topS 9)) .none kV6 dc6 pm6 an6 cd6 ct6), sl6⟩) (c6 : PySem.W.codeIn K cd6 "can_tell" = true) (k6 : PySem.W.keepIn K (.ref f6) = true)
    (a7 : PySem.W.nsIn K mainGlobals "rows_from" = some (some (.ref f7))) (l7 : K.lookup f7 = some ⟨oc7, od7, .func (PySem.W.fnOf "rows_from" "rows_from" (defArgs (topS 10)) (defBody (topS 10)) (defScope (topS 10)) .none kV7 dc7 pm7 an7 cd7 ct7), sl7⟩) (c7 : PySem.W.codeIn K cd7 "rows_from" = true) (k7 : PySem.W.keepIn K (.ref f7) = true)
    (a8 : PySem.W.nsIn K mainGlobals "best_told" = some (some (.ref f8))) (l8 : K.lookup f8 = some ⟨oc8, od8, .func (PySem.W.fnOf "best_told" "best_told" (defArgs (topS 11)) (defBody (topS 11)) (defScope (topS 11)) .none kV8 dc8 pm8 an8 cd8 ct8), sl8⟩) (c8 : PySem.W.codeIn K cd8 "best_told" = true) (k8 : PySem.W.keepIn K (.ref f8) = true)
    (a9 : PySem.W.nsIn K mainGlobals "is_told" = some (some (.ref f9))) (l9 : K.lookup f9 = some ⟨oc9, od9, .func (PySem.W.fnOf "is_told" "is_told" (defArgs (topS 12)) (defBody (topS 12)) (defScope (topS 12)) .none kV9 dc9 pm9 an9 cd9 ct9), sl9⟩) (c9 : PySem.W.codeIn K cd9 "is_told" = true) (k9 : PySem.W.keepIn K (.ref f9) = true)
    (a10 : PySem.W.nsIn K mainGlobals "left_over" = some (some (.ref f10))) (l10 : K.lookup f10 = some ⟨oc10, od10, .func (PySem.W.fnOf "left_over" "left_over" (defArgs (topS 13)) (defBody (topS 13)) (defScope (topS 13)) .none kV10 dc10 pm10 an10 cd10 ct10), sl10⟩) (c10 : PySem.W.codeIn K cd10 "left_over" = true) (k10 : PySem.W.keepIn K (.ref f10) = true)
    (a11 : PySem.W.nsIn K mainGlobals "must_shorten" = some (some (.ref f11))) (l11 : K.lookup f11 = some ⟨oc11, od11, .func (PySem.W.fnOf "must_shorten" "must_shorten" (defArgs (topS 14)) (defBody (topS 14)) (defScope (topS 14)) .none kV11 dc11 pm11 an11 cd11 ct11), sl11⟩) (c11 : PySem.W.codeIn K cd11 "must_shorten" = true) (k11 : PySem.W.keepIn K (.ref f11) = true)
    (a12 : PySem.W.nsIn K mainGlobals "with_pause" = some (some (.ref f12))) (l12 : K.lookup f12 = some ⟨oc12, od12, .func (PySem.W.fnOf "with_pause" "with_pause" (defArgs (topS 15)) (defBody (topS 15)) (defScope (topS 15)) .none kV12 dc12 pm12 an12 cd12 ct12), sl12⟩) (c12 : PySem.W.codeIn K cd12 "with_pause" = true) (k12 : PySem.W.keepIn K (.ref f12) = true)
    (a13 : PySem.W.nsIn K mainGlobals "told_share" = some (some (.ref f13))) (l13 : K.lookup f13 = some ⟨oc13, od13, .func (PySem.W.fnOf "told_share" "told_share" (defArgs (topS 16)) (defBody (topS 16)) (defScope (topS 16)) .none kV13 dc13 pm13 an13 cd13 ct13), sl13⟩) (c13 : PySem.W.codeIn K cd13 "told_share" = true) (k13 : PySem.W.keepIn K (.ref f13) = true)
    (a14 : PySem.W.nsIn K mainGlobals "crowding" = some (some (.ref f14))) (l14 : K.lookup f14 = some ⟨oc14, od14, .func (PySem.W.fnOf "crowding" "crowding" (defArgs (topS 17)) (defBody (topS 17)) (defScope (topS 17)) .none kV14 dc14 pm14 an14 cd14 ct14), sl14⟩) (c14 : PySem.W.codeIn K cd14 "crowding" = true) (k14 : PySem.W.keepIn K (.ref f14) = true)
    (a15 : PySem.W.nsIn K mainGlobals "_law_draws" = some (some (.ref f15))) (l15 : K.lookup f15 = some ⟨oc15, od15, .func (PySem.W.fnOf "_law_draws" "_law_draws" (defArgs (topS 19)) (defBody (topS 19)) (defScope (topS 19)) .none kV15 dc15 pm15 an15 cd15 ct15), sl15⟩) (c15 : PySem.W.codeIn K cd15 "_law_draws" = true) (k15 : PySem.W.keepIn K (.ref f15) = true)
    (a16 : PySem.W.nsIn K mainGlobals "_law_next" = some (some (.ref f16))) (l16 : K.lookup f16 = some ⟨oc16, od16, .func (PySem.W.fnOf "_law_next" "_law_next" (defArgs (topS 20)) (defBody (topS 20)) (defScope (topS 20)) .none kV16 dc16 pm16 an16 cd16 ct16), sl16⟩) (c16 : PySem.W.codeIn K cd16 "_law_next" = true) (k16 : PySem.W.keepIn K (.ref f16) = true)
    (a17 : PySem.W.nsIn K mainGlobals "_law_pick" = some (some (.ref f17))) (l17 : K.lookup f17 = some ⟨oc17, od17, .func (PySem.W.fnOf "_law_pick" "_law_pick" (defArgs (topS 21)) (defBody (topS 21)) (defScope (topS 21)) .none kV17 dc17 pm17 an17 cd17 ct17), sl17⟩) (c17 : PySem.W.codeIn K cd17 "_law_pick" = true) (k17 : PySem.W.keepIn K (.ref f17) = true)
    (a18 : PySem.W.nsIn K mainGlobals "_law_same" = some (some (.ref f18))) (l18 : K.lookup f18 = some ⟨oc18, od18, .func (PySem.W.fnOf "_law_same" "_law_same" (defArgs (topS 22)) (defBody (topS 22)) (defScope (topS 22)) .none kV18 dc18 pm18 an18 cd18 ct18), sl18⟩) (c18 : PySem.W.codeIn K cd18 "_law_same" = true) (k18 : PySem.W.keepIn K (.ref f18) = true)
    (a19 : PySem.W.nsIn K mainGlobals "_law_gcd" = some (some (.ref f19))) (l19 : K.lookup f19 = some ⟨oc19, od19, .func (PySem.W.fnOf "_law_gcd" "_law_gcd" (defArgs (topS 23)) (defBody (topS 23)) (defScope (topS 23)) .none kV19 dc19 pm19 an19 cd19 ct19), sl19⟩) (c19 : PySem.W.codeIn K cd19 "_law_gcd" = true) (k19 : PySem.W.keepIn K (.ref f19) = true)
    (a20 : PySem.W.nsIn K mainGlobals "_law_part" = some (some (.ref f20))) (l20 : K.lookup f20 = some ⟨oc20, od20, .func (PySem.W.fnOf "_law_part" "_law_part" (defArgs (topS 24)) (defBody (topS 24)) (defScope (topS 24)) .none kV20 dc20 pm20 an20 cd20 ct20), sl20⟩) (c20 : PySem.W.codeIn K cd20 "_law_part" = true) (k20 : PySem.W.keepIn K (.ref f20) = true)
    (a21 : PySem.W.nsIn K mainGlobals "_law_rest" = some (some (.ref f21))) (l21 : K.lookup f21 = some ⟨oc21, od21, .func (PySem.W.fnOf "_law_rest" "_law_rest" (defArgs (topS 25)) (defBody (topS 25)) (defScope (topS 25)) .none kV21 dc21 pm21 an21 cd21 ct21), sl21⟩) (c21 : PySem.W.codeIn K cd21 "_law_rest" = true) (k21 : PySem.W.keepIn K (.ref f21) = true)
    (a22 : PySem.W.nsIn K mainGlobals "law" = some (some (.ref f22))) (l22 : K.lookup f22 = some ⟨oc22, od22, .func (PySem.W.fnOf "law" "law" (defArgs (topS 26)) (defBody (topS 26)) (defScope (topS 26)) .none kV22 dc22 pm22 an22 cd22 ct22), sl22⟩) (c22 : PySem.W.codeIn K cd22 "law" = true) (k22 : PySem.W.keepIn K (.ref f22) = true)
    (z_len : PySem.W.nsIn K mainGlobals "len" = some none)
    (z_abs : PySem.W.nsIn K mainGlobals "abs" = some none)
    (z_int : PySem.W.nsIn K mainGlobals "int" = some none)
    (z_min : PySem.W.nsIn K mainGlobals "min" = some none)
    (z_max : PySem.W.nsIn K mainGlobals "max" = some none)
    (z_sum : PySem.W.nsIn K mainGlobals "sum" = some none)
    (z_any : PySem.W.nsIn K mainGlobals "any" = some none)
    (z_all : PySem.W.nsIn K mainGlobals "all" = some none)
    (z_tuple : PySem.W.nsIn K mainGlobals "tuple" = some none)
    (z_list : PySem.W.nsIn K mainGlobals "list" = some none)
    (z_sorted : PySem.W.nsIn K mainGlobals "sorted" = some none)
    (z_dict : PySem.W.nsIn K mainGlobals "dict" = some none)
    (z_str : PySem.W.nsIn K mainGlobals "str" = some none)
    (z_range : PySem.W.nsIn K mainGlobals "range" = some none)
    (z_isinstance : PySem.W.nsIn K mainGlobals "isinstance" = some none)
    (z_bool : PySem.W.nsIn K mainGlobals "bool" = some none)
    (z_enumerate : PySem.W.nsIn K mainGlobals "enumerate" = some none)
    (z_zip : PySem.W.nsIn K mainGlobals "zip" = some none)
    (z_set : PySem.W.nsIn K mainGlobals "set" = some none)
    (pure : ∀ ns : List Int, ns.length ≤ 63 → callN prog 30 22 [.v (.frl (ns.map .int))] [] = some (.v (.bl true), [])) :
    ∃ fd : FuncData, (∀ (s : Shared) (v : Value), BindsTo s fd ⟨[v], []⟩ [("script", v)]) ∧ ∀ base : Heap, K.In base → base.Ns mainGlobals mg → FnOk l.prog w K mg base CX0 30 fa fd ["script"] (Ev.spLaw K) := by
  have e := hfa.symm.trans (PySem.W.mg_of X G a22)
  cases e
  have F0 := fun_mk (st := topS 1) l0 c0 k0
  have D0 : DefIn prog K mg f_divisor := ⟨topS 1, f0, _, by rw [nm_0]; exact F0, by rw [nm_0]; exact PySem.W.mg_of X G a0, by rw [ps_0]; exact F0.binds (ps := ["a", "b"]) fun _ _ _ _ _ _ us hl => match us, hl with | [_, _], _ => rfl, ok_0⟩
  have F1 := fun_mk (st := topS 2) l1 c1 k1
  have D1 : DefIn prog K mg f_fraction := ⟨topS 2, f1, _, by rw [nm_1]; exact F1, by rw [nm_1]; exact PySem.W.mg_of X G a1, by rw [ps_1]; exact F1.binds (ps := ["a", "b"]) fun _ _ _ _ _ _ us hl => match us, hl with | [_, _], _ => rfl, ok_1⟩
  have F2 := fun_mk (st := topS 4) l2 c2 k2
  have D2 : DefIn prog K mg f_is_number := ⟨topS 4, f2, _, by rw [nm_2]; exact F2, by rw [nm_2]; exact PySem.W.mg_of X G a2, by rw [ps_2]; exact F2.binds (ps := ["thing"]) fun _ _ _ _ _ _ us hl => match us, hl with | [_], _ => rfl, ok_2⟩
  have F3 := fun_mk (st := topS 5) l3 c3 k3
  have D3 : DefIn prog K mg f_is_tuple_of := ⟨topS 5, f3, _, by rw [nm_3]; exact F3, by rw [nm_3]; exact PySem.W.mg_of X G a3, by rw [ps_3]; exact F3.binds (ps := ["thing", "many"]) fun _ _ _ _ _ _ us hl => match us, hl with | [_, _], _ => rfl, ok_3⟩
  have F4 := fun_mk (st := topS 7) l4 c4 k4
  have D4 : DefIn prog K mg f_gaps_for := ⟨topS 7, f4, _, by rw [nm_4]; exact F4, by rw [nm_4]; exact PySem.W.mg_of X G a4, by rw [ps_4]; exact F4.binds (ps := ["busy", "end"]) fun _ _ _ _ _ _ us hl => match us, hl with | [_, _], _ => rfl, ok_4⟩
  have F5 := fun_mk (st := topS 8) l5 c5 k5
  have D5 : DefIn prog K mg f_begin_from := ⟨topS 8, f5, _, by rw [nm_5]; exact F5, by rw [nm_5]; exact PySem.W.mg_of X G a5, by rw [ps_5]; exact F5.binds (ps := ["busy", "end", "telling", "moment"]) fun _ _ _ _ _ _ us hl => match us, hl with | [_, _, _, _], _ => rfl, ok_5⟩
  have F6 := fun_mk (st := topS 9) l6 c6 k6
  have D6 : DefIn prog K mg f_can_tell := ⟨topS 9, f6, _, by rw [nm_6]; exact F6, by rw [nm_6]; exact PySem.W.mg_of X G a6, by rw [ps_6]; exact F6.binds (ps := ["busy", "end", "telling"]) fun _ _ _ _ _ _ us hl => match us, hl with | [_, _, _], _ => rfl, ok_6⟩
  have F7 := fun_mk (st := topS 10) l7 c7 k7
  have D7 : DefIn prog K mg f_rows_from := ⟨topS 10, f7, _, by rw [nm_7]; exact F7, by rw [nm_7]; exact PySem.W.mg_of X G a7, by rw [ps_7]; exact F7.binds (ps := ["busy", "end", "tellings", "k", "moment"]) fun _ _ _ _ _ _ us hl => match us, hl with | [_, _, _, _, _], _ => rfl, ok_7⟩
  have F8 := fun_mk (st := topS 11) l8 c8 k8
  have D8 : DefIn prog K mg f_best_told := ⟨topS 11, f8, _, by rw [nm_8]; exact F8, by rw [nm_8]; exact PySem.W.mg_of X G a8, by rw [ps_8]; exact F8.binds (ps := ["busy", "end", "tellings"]) fun _ _ _ _ _ _ us hl => match us, hl with | [_, _, _], _ => rfl, ok_8⟩
  have F9 := fun_mk (st := topS 12) l9 c9 k9
  have D9 : DefIn prog K mg f_is_told := ⟨topS 12, f9, _, by rw [nm_9]; exact F9, by rw [nm_9]; exact PySem.W.mg_of X G a9, by rw [ps_9]; exact F9.binds (ps := ["busy", "end", "tellings", "row"]) fun _ _ _ _ _ _ us hl => match us, hl with | [_, _, _, _], _ => rfl, ok_9⟩
  have F10 := fun_mk (st := topS 13) l10 c10 k10
  have D10 : DefIn prog K mg f_left_over := ⟨topS 13, f10, _, by rw [nm_10]; exact F10, by rw [nm_10]; exact PySem.W.mg_of X G a10, by rw [ps_10]; exact F10.binds (ps := ["busy", "end", "row", "tellings"]) fun _ _ _ _ _ _ us hl => match us, hl with | [_, _, _, _], _ => rfl, ok_10⟩
  have F11 := fun_mk (st := topS 14) l11 c11 k11
  have D11 : DefIn prog K mg f_must_shorten := ⟨topS 14, f11, _, by rw [nm_11]; exact F11, by rw [nm_11]; exact PySem.W.mg_of X G a11, by rw [ps_11]; exact F11.binds (ps := ["busy", "end", "tellings", "k"]) fun _ _ _ _ _ _ us hl => match us, hl with | [_, _, _, _], _ => rfl, ok_11⟩
  have F12 := fun_mk (st := topS 15) l12 c12 k12
  have D12 : DefIn prog K mg f_with_pause := ⟨topS 15, f12, _, by rw [nm_12]; exact F12, by rw [nm_12]; exact PySem.W.mg_of X G a12, by rw [ps_12]; exact F12.binds (ps := ["busy", "at", "long"]) fun _ _ _ _ _ _ us hl => match us, hl with | [_, _, _], _ => rfl, ok_12⟩
  have F13 := fun_mk (st := topS 16) l13 c13 k13
  have D13 : DefIn prog K mg f_told_share := ⟨topS 16, f13, _, by rw [nm_13]; exact F13, by rw [nm_13]; exact PySem.W.mg_of X G a13, by rw [ps_13]; exact F13.binds (ps := ["busy", "end", "tellings"]) fun _ _ _ _ _ _ us hl => match us, hl with | [_, _, _], _ => rfl, ok_13⟩
  have F14 := fun_mk (st := topS 17) l14 c14 k14
  have D14 : DefIn prog K mg f_crowding := ⟨topS 17, f14, _, by rw [nm_14]; exact F14, by rw [nm_14]; exact PySem.W.mg_of X G a14, by rw [ps_14]; exact F14.binds (ps := ["tellings", "moment"]) fun _ _ _ _ _ _ us hl => match us, hl with | [_, _], _ => rfl, ok_14⟩
  have F15 := fun_mk (st := topS 19) l15 c15 k15
  have D15 : DefIn prog K mg f__law_draws := ⟨topS 19, f15, _, by rw [nm_15]; exact F15, by rw [nm_15]; exact PySem.W.mg_of X G a15, by rw [ps_15]; exact F15.binds (ps := ["script", "many"]) fun _ _ _ _ _ _ us hl => match us, hl with | [_, _], _ => rfl, ok_15⟩
  have F16 := fun_mk (st := topS 20) l16 c16 k16
  have D16 : DefIn prog K mg f__law_next := ⟨topS 20, f16, _, by rw [nm_16]; exact F16, by rw [nm_16]; exact PySem.W.mg_of X G a16, by rw [ps_16]; exact F16.binds (ps := ["w", "many"]) fun _ _ _ _ _ _ us hl => match us, hl with | [_, _], _ => rfl, ok_16⟩
  have F17 := fun_mk (st := topS 21) l17 c17 k17
  have D17 : DefIn prog K mg f__law_pick := ⟨topS 21, f17, _, by rw [nm_17]; exact F17, by rw [nm_17]; exact PySem.W.mg_of X G a17, by rw [ps_17]; exact F17.binds (ps := ["w", "rows"]) fun _ _ _ _ _ _ us hl => match us, hl with | [_, _], _ => rfl, ok_17⟩
  have F18 := fun_mk (st := topS 22) l18 c18 k18
  have D18 : DefIn prog K mg f__law_same := ⟨topS 22, f18, _, by rw [nm_18]; exact F18, by rw [nm_18]; exact PySem.W.mg_of X G a18, by rw [ps_18]; exact F18.binds (ps := ["seen", "due"]) fun _ _ _ _ _ _ us hl => match us, hl with | [_, _], _ => rfl, ok_18⟩
  have F19 := fun_mk (st := topS 23) l19 c19 k19
  have D19 : DefIn prog K mg f__law_gcd := ⟨topS 23, f19, _, by rw [nm_19]; exact F19, by rw [nm_19]; exact PySem.W.mg_of X G a19, by rw [ps_19]; exact F19.binds (ps := ["a", "b"]) fun _ _ _ _ _ _ us hl => match us, hl with | [_, _], _ => rfl, ok_19⟩
  have F20 := fun_mk (st := topS 24) l20 c20 k20
  have D20 : DefIn prog K mg f__law_part := ⟨topS 24, f20, _, by rw [nm_20]; exact F20, by rw [nm_20]; exact PySem.W.mg_of X G a20, by rw [ps_20]; exact F20.binds (ps := ["a", "b"]) fun _ _ _ _ _ _ us hl => match us, hl with | [_, _], _ => rfl, ok_20⟩
  have F21 := fun_mk (st := topS 25) l21 c21 k21
  have D21 : DefIn prog K mg f__law_rest := ⟨topS 25, f21, _, by rw [nm_21]; exact F21, by rw [nm_21]; exact PySem.W.mg_of X G a21, by rw [ps_21]; exact F21.binds (ps := ["w", "busy", "end", "free", "m", "n", "size", "step", "talk", "tellings", "wide"]) fun _ _ _ _ _ _ us hl => match us, hl with | [_, _, _, _, _, _, _, _, _, _, _], _ => rfl, ok_21⟩
  have F22 := fun_mk (st := topS 26) l22 c22 k22
  have D22 : DefIn prog K mg f_law := ⟨topS 26, fa, _, by rw [nm_22]; exact F22, by rw [nm_22]; exact PySem.W.mg_of X G a22, by rw [ps_22]; exact F22.binds (ps := ["script"]) fun _ _ _ _ _ _ us hl => match us, hl with | [_], _ => rfl, ok_22⟩
  have hD : ∀ (i : Nat) (fn : Fn), prog[i]? = some fn → fn.ps ≠ [] → DefIn prog K mg fn := fun i fn h hne => by
    match i, h with
    | 0, h => cases (show some f_divisor = some fn from h); exact D0
    | 1, h => cases (show some f_fraction = some fn from h); exact D1
    | 2, h => cases (show some f_is_number = some fn from h); exact D2
    | 3, h => cases (show some f_is_tuple_of = some fn from h); exact D3
    | 4, h => cases (show some f_gaps_for = some fn from h); exact D4
    | 5, h => cases (show some f_begin_from = some fn from h); exact D5
    | 6, h => cases (show some f_can_tell = some fn from h); exact D6
    | 7, h => cases (show some f_rows_from = some fn from h); exact D7
    | 8, h => cases (show some f_best_told = some fn from h); exact D8
    | 9, h => cases (show some f_is_told = some fn from h); exact D9
    | 10, h => cases (show some f_left_over = some fn from h); exact D10
    | 11, h => cases (show some f_must_shorten = some fn from h); exact D11
    | 12, h => cases (show some f_with_pause = some fn from h); exact D12
    | 13, h => cases (show some f_told_share = some fn from h); exact D13
    | 14, h => cases (show some f_crowding = some fn from h); exact D14
    | 15, h => cases (show some f__law_draws = some fn from h); exact D15
    | 16, h => cases (show some f__law_next = some fn from h); exact D16
    | 17, h => cases (show some f__law_pick = some fn from h); exact D17
    | 18, h => cases (show some f__law_same = some fn from h); exact D18
    | 19, h => cases (show some f__law_gcd = some fn from h); exact D19
    | 20, h => cases (show some f__law_part = some fn from h); exact D20
    | 21, h => cases (show some f__law_rest = some fn from h); exact D21
    | 22, h => cases (show some f_law = some fn from h); exact D22
    | n + 23, h => exact absurd (List.getElem?_eq_some_iff.mp h).1 (by show ¬ n + 23 < 23; omega)
  have hG : ∀ (i : Nat) (fn : Fn) (p : PV), prog[i]? = some fn → fn.ps = [] → fn.lit = some p → ∃ v u, mg (strV fn.name) = some u ∧ RelV v u ∧ ∀ (K : PySem.W.Frag) M H, VR K M H v p := fun i fn p h hps hl => by
    match i, h with
    | 0, h => cases (show some f_divisor = some fn from h); exact absurd hps (by simp [f_divisor])
    | 1, h => cases (show some f_fraction = some fn from h); exact absurd hps (by simp [f_fraction])
    | 2, h => cases (show some f_is_number = some fn from h); exact absurd hps (by simp [f_is_number])
    | 3, h => cases (show some f_is_tuple_of = some fn from h); exact absurd hps (by simp [f_is_tuple_of])
    | 4, h => cases (show some f_gaps_for = some fn from h); exact absurd hps (by simp [f_gaps_for])
    | 5, h => cases (show some f_begin_from = some fn from h); exact absurd hps (by simp [f_begin_from])
    | 6, h => cases (show some f_can_tell = some fn from h); exact absurd hps (by simp [f_can_tell])
    | 7, h => cases (show some f_rows_from = some fn from h); exact absurd hps (by simp [f_rows_from])
    | 8, h => cases (show some f_best_told = some fn from h); exact absurd hps (by simp [f_best_told])
    | 9, h => cases (show some f_is_told = some fn from h); exact absurd hps (by simp [f_is_told])
    | 10, h => cases (show some f_left_over = some fn from h); exact absurd hps (by simp [f_left_over])
    | 11, h => cases (show some f_must_shorten = some fn from h); exact absurd hps (by simp [f_must_shorten])
    | 12, h => cases (show some f_with_pause = some fn from h); exact absurd hps (by simp [f_with_pause])
    | 13, h => cases (show some f_told_share = some fn from h); exact absurd hps (by simp [f_told_share])
    | 14, h => cases (show some f_crowding = some fn from h); exact absurd hps (by simp [f_crowding])
    | 15, h => cases (show some f__law_draws = some fn from h); exact absurd hps (by simp [f__law_draws])
    | 16, h => cases (show some f__law_next = some fn from h); exact absurd hps (by simp [f__law_next])
    | 17, h => cases (show some f__law_pick = some fn from h); exact absurd hps (by simp [f__law_pick])
    | 18, h => cases (show some f__law_same = some fn from h); exact absurd hps (by simp [f__law_same])
    | 19, h => cases (show some f__law_gcd = some fn from h); exact absurd hps (by simp [f__law_gcd])
    | 20, h => cases (show some f__law_part = some fn from h); exact absurd hps (by simp [f__law_part])
    | 21, h => cases (show some f__law_rest = some fn from h); exact absurd hps (by simp [f__law_rest])
    | 22, h => cases (show some f_law = some fn from h); exact absurd hps (by simp [f_law])
    | n + 23, h => exact absurd (List.getElem?_eq_some_iff.mp h).1 (by show ¬ n + 23 < 23; omega)
  have hb : ∀ x ∈ bltNames, mg (Str.ofString x) = none := by
    intro x hx
    simp only [bltNames, List.mem_cons, List.not_mem_nil, or_false] at hx
    rcases hx with rfl | rfl | rfl | rfl | rfl | rfl | rfl | rfl | rfl | rfl | rfl | rfl | rfl | rfl | rfl | rfl | rfl | rfl | rfl
    · exact PySem.W.mg_none_of X G z_len
    · exact PySem.W.mg_none_of X G z_abs
    · exact PySem.W.mg_none_of X G z_int
    · exact PySem.W.mg_none_of X G z_min
    · exact PySem.W.mg_none_of X G z_max
    · exact PySem.W.mg_none_of X G z_sum
    · exact PySem.W.mg_none_of X G z_any
    · exact PySem.W.mg_none_of X G z_all
    · exact PySem.W.mg_none_of X G z_tuple
    · exact PySem.W.mg_none_of X G z_list
    · exact PySem.W.mg_none_of X G z_sorted
    · exact PySem.W.mg_none_of X G z_dict
    · exact PySem.W.mg_none_of X G z_str
    · exact PySem.W.mg_none_of X G z_range
    · exact PySem.W.mg_none_of X G z_isinstance
    · exact PySem.W.mg_none_of X G z_bool
    · exact PySem.W.mg_none_of X G z_enumerate
    · exact PySem.W.mg_none_of X G z_zip
    · exact PySem.W.mg_none_of X G z_set
  have FL : Fun K (strV f_law.name) (strV f_law.name) (topS 26) fa (PySem.W.fnOf "law" "law" (defArgs (topS 26)) (defBody (topS 26)) (defScope (topS 26)) .none kV22 dc22 pm22 an22 cd22 ct22) := by rw [nm_22]; exact F22
  refine ⟨PySem.W.fnOf "law" "law" (defArgs (topS 26)) (defBody (topS 26)) (defScope (topS 26)) .none kV22 dc22 pm22 an22 cd22 ct22, fun s v => .of_eq rfl, fun base _ _ => ?_⟩
  have Z := law_of (P := l.prog) (w := w) (base := base) (n := 30) hb hG hD (i := 22) (fn := f_law) rfl FL ok_22 rfl pure
  rw [ps_22] at Z
  exact Z
end Ev
open PySem PySem.W PyProof.Rows
set_option maxRecDepth 100000 in
set_option maxHeartbeats 0 in
theorem PySem.Challenge.cw_captionwarrant_k42_whole_tellings_betwee_holds : PySem.Challenge.rw_captionwarrant_k42_whole_tellings_betwee.Holds := by
  w_on; o_law; k_head; (case hw => w_witness2)
  k_fill
  refine L2.walk_ofK (l := PySem.Challenge.rw_captionwarrant_k42_whole_tellings_betwee) (n := 63) (k := 30) (x := "script") (CX := L2.CX0) (sp := Ev.spLaw) rfl (by decide) rfl ⟨rfl, by decide, by decide⟩ (fun w h Y => PySem.W.kIn_of Y) ?F (fun _ _ a ns hl _ hS => ⟨a, ns, rfl, hS, hl, fun _ => rfl⟩) (fun _ _ _ _ h => h)
  case F =>
    intro w mg fa h KX G hmg
    refine' Ev.all_mk KX G hmg ?a0 ?l0 ?c0 ?k0 ?a1 ?l1 ?c1 ?k1 ?a2 ?l2 ?c2 ?k2 ?a3 ?l3 ?c3 ?k3 ?a4 ?l4 ?c4 ?k4 ?a5 ?l5 ?c5 ?k5 ?a6 ?l6 ?c6 ?k6 ?a7 ?l7 ?c7 ?k7 ?a8 ?l8 ?c8 ?k8 ?a9 ?l9 ?c9 ?k9 ?a10 ?l10 ?c10 ?k10 ?a11 ?l11 ?c11 ?k11 ?a12 ?l12 ?c12 ?k12 ?a13 ?l13 ?c13 ?k13 ?a14 ?l14 ?c14 ?k14 ?a15 ?l15 ?c15 ?k15 ?a16 ?l16 ?c16 ?k16 ?a17 ?l17 ?c17 ?k17 ?a18 ?l18 ?c18 ?k18 ?a19 ?l19 ?c19 ?k19 ?a20 ?l20 ?c20 ?k20 ?a21 ?l21 ?c21 ?k21 ?a22 ?l22 ?c22 ?k22 ?z_len ?z_abs ?z_int ?z_min ?z_max ?z_sum ?z_any ?z_all ?z_tuple ?z_list ?z_sorted ?z_dict ?z_str ?z_range ?z_isinstance ?z_bool ?z_enumerate ?z_zip ?z_set Ev.law_pure
    (case a0 => k_is); (case l0 => k_is); (case c0 => k_is); (case k0 => k_is)
    (case a1 => k_is); (case l1 => k_is); (case c1 => k_is); (case k1 => k_is)
    (case a2 => k_is); (case l2 => k_is); (case c2 => k_is); (case k2 => k_is)
    (case a3 => k_is); (case l3 => k_is); (case c3 => k_is); (case k3 => k_is)
    (case a4 => k_is); (case l4 => k_is); (case c4 => k_is); (case k4 => k_is)
    (case a5 => k_is); (case l5 => k_is); (case c5 => k_is); (case k5 => k_is)
    (case a6 => k_is); (case l6 => k_is); (case c6 => k_is); (case k6 => k_is)
    (case a7 => k_is); (case l7 => k_is); (case c7 => k_is); (case k7 => k_is)
    (case a8 => k_is); (case l8 => k_is); (case c8 => k_is); (case k8 => k_is)
    (case a9 => k_is); (case l9 => k_is); (case c9 => k_is); (case k9 => k_is)
    (case a10 => k_is); (case l10 => k_is); (case c10 => k_is); (case k10 => k_is)
    (case a11 => k_is); (case l11 => k_is); (case c11 => k_is); (case k11 => k_is)
    (case a12 => k_is); (case l12 => k_is); (case c12 => k_is); (case k12 => k_is)
    (case a13 => k_is); (case l13 => k_is); (case c13 => k_is); (case k13 => k_is)
    (case a14 => k_is); (case l14 => k_is); (case c14 => k_is); (case k14 => k_is)
    (case a15 => k_is); (case l15 => k_is); (case c15 => k_is); (case k15 => k_is)
    (case a16 => k_is); (case l16 => k_is); (case c16 => k_is); (case k16 => k_is)
    (case a17 => k_is); (case l17 => k_is); (case c17 => k_is); (case k17 => k_is)
    (case a18 => k_is); (case l18 => k_is); (case c18 => k_is); (case k18 => k_is)
    (case a19 => k_is); (case l19 => k_is); (case c19 => k_is); (case k19 => k_is)
    (case a20 => k_is); (case l20 => k_is); (case c20 => k_is); (case k20 => k_is)
    (case a21 => k_is); (case l21 => k_is); (case c21 => k_is); (case k21 => k_is)
    (case a22 => k_is); (case l22 => k_is); (case c22 => k_is); (case k22 => k_is)
    (case z_len => k_is)
    (case z_abs => k_is)
    (case z_int => k_is)
    (case z_min => k_is)
    (case z_max => k_is)
    (case z_sum => k_is)
    (case z_any => k_is)
    (case z_all => k_is)
    (case z_tuple => k_is)
    (case z_list => k_is)
    (case z_sorted => k_is)
    (case z_dict => k_is)
    (case z_str => k_is)
    (case z_range => k_is)
    (case z_isinstance => k_is)
    (case z_bool => k_is)
    (case z_enumerate => k_is)
    (case z_zip => k_is)
    (case z_set => k_is)
