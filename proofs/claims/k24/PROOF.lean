import PyProof.Rows.All
import PySem.Challenge.RW_twoabove_k24_any_value_as_closed_family
import Wide.All
import OpenK.AllK
import Wide.FinOn
import HandS.ForMost
import HandS.Deep
import HandS.Style
import HandS.Conv
import HandS.ForExc
import HandS.IsInst
import HandS.WordsDict
import HandS.Property
import HandS.Dict
import HandS.SortInts
import PyProof.ReprRoads
import KE.SortData
import HandS.Set
import HandS.SetFor
import HandS.TupSets
import HandS.EndBits
import HandS.WordsExc
import HandS.RaiseMore
import HandS.Words
import PyProof.ReprLen
section
set_option Elab.async false
set_option linter.all false
set_option maxRecDepth 100000
/-! Zs: a small pure interpreter: data trees, a small store, expressions and statements by slots. -/
namespace Z
open PySem (Str PyData sizeLine)
open L2 (Key)

inductive D where
  | non | bl (b : Bool) | int (i : Int) | str (x : Str)
  | lst (xs : List D) | tup (xs : List D) | dct (ks : List Key) (vs : List D)
  | ref (j : Nat) | scr (ns : List Int)
instance : Inhabited D := ⟨.non⟩

/-- the objects that change -/
inductive MO where
  | lst (xs : List D) | dic (ks : List Key) (vs : List D) | ins (c : Nat) (fs : List (Nat × D)) | dead
abbrev Mem := List MO

inductive R (α : Type) where
  | ok (a : α) (M : Mem)
  | ex (c : Nat) (d : Option D) (M : Mem)
  | no
def R.bind {α β : Type} (r : R α) (f : α → Mem → R β) : R β :=
  match r with
  | .ok a M => f a M
  | .ex c d M => .ex c d M
  | .no => .no
@[simp] theorem R.bind_ok {α β : Type} (a : α) (M : Mem) (f : α → Mem → R β) : (R.ok a M).bind f = f a M := rfl
@[simp] theorem R.bind_ex {α β : Type} (c : Nat) (d : Option D) (M : Mem) (f : α → Mem → R β) : (R.ex c d M : R α).bind f = .ex c d M := rfl
@[simp] theorem R.bind_no {α β : Type} (f : α → Mem → R β) : (R.no : R α).bind f = .no := rfl
/-- a pure result -/
def R.of {α : Type} (o : Option α) (M : Mem) : R α :=
  match o with
  | some a => .ok a M
  | none => .no
@[simp] theorem R.of_some {α : Type} (a : α) (M : Mem) : R.of (some a) M = .ok a M := rfl
@[simp] theorem R.of_none {α : Type} (M : Mem) : R.of (none : Option α) M = .no := rfl

abbrev Env := List (Option D)

def mapO {α β : Type} (f : α → Option β) : List α → Option (List β)
  | [] => some []
  | x :: xs =>
    match f x with
    | none => none
    | some y =>
      match mapO f xs with
      | none => none
      | some ys => some (y :: ys)
@[simp] theorem mapO_nil {α β : Type} (f : α → Option β) : mapO f [] = some [] := rfl

def keyOf : D → Option Key
  | .int i => some (.inl i)
  | .str x => some (.inr x)
  | _ => none
def keyPy : Key → PyData
  | .inl i => .int i
  | .inr x => .str x

/-- a value as plain data, lists of the store resolved -/
def py (M : Mem) : Nat → D → Option PyData
  | 0, _ => none
  | _ + 1, .non => some .none
  | _ + 1, .bl b => some (.bool b)
  | _ + 1, .int i => some (.int i)
  | _ + 1, .str x => some (.str x)
  | n + 1, .lst xs => (mapO (py M n) xs).map .list
  | n + 1, .tup xs => (mapO (py M n) xs).map .tuple
  | n + 1, .dct ks vs => (mapO (py M n) vs).map fun ds => .dict ((ks.map keyPy).zip ds)
  | n + 1, .ref j =>
    match M[j]? with
    | some (.lst xs) => (mapO (py M n) xs).map .list
    | _ => none
  | _ + 1, .scr ns => some (.list (ns.map .int))
def depthMax : Nat := 16

def asL (M : Mem) : D → Option (List D)
  | .lst xs => some xs
  | .ref j =>
    match M[j]? with
    | some (.lst xs) => some xs
    | _ => none
  | _ => none
def asS (M : Mem) : D → Option (List D)
  | .tup xs => some xs
  | d => asL M d
def isNon : D → Bool
  | .non => true
  | _ => false
def asInt : D → Option Int
  | .int i => some i
  | _ => none
def asBl : D → Option Bool
  | .bl b => some b
  | _ => none

inductive Bop where
  | add | sub | mul | div | mod | pow | shl | shr | band | bor | bxor
  deriving DecidableEq
inductive Cop where
  | eq | ne | lt | le | gt | ge | inn | nin
  deriving DecidableEq
inductive B1 where
  | len | abs | sum | all | any | int | str | tuple | list | sorted | repr | max | min | sset | lset
  deriving DecidableEq
inductive B2 where
  | max | min | divmod
  deriving DecidableEq
inductive Kd where
  | int | bool | str | list | tuple | listtuple | cls (c : Nat)
  deriving DecidableEq

def bop (op : Bop) (M : Mem) (a b : D) : Option D :=
  match op with
  | .add =>
    match a, b with
    | .int i, .int j => some (.int (i + j))
    | .str x, .str y => if x.length + y.length ≤ sizeLine then some (.str (x ++ y)) else none
    | .tup xs, .tup ys => if xs.length ≠ 0 ∧ xs.length + ys.length ≤ sizeLine then some (.tup (xs ++ ys)) else none
    | a, b =>
      match asL M a, asL M b with
      | some xs, some ys => if xs.length + ys.length ≤ sizeLine then some (.lst (xs ++ ys)) else none
      | _, _ => none
  | .mul =>
    match a, b with
    | .int i, .int j => if (-(2 ^ 64) < i ∧ i < 2 ^ 64) ∨ (-(2 ^ 64) < j ∧ j < 2 ^ 64) then some (.int (i * j)) else none
    | a, .int k =>
      match asL M a with
      | some xs => if -(2 ^ 63) ≤ k ∧ k < 2 ^ 63 ∧ xs.length * k.toNat ≤ sizeLine then some (.lst (List.replicate k.toNat xs).flatten) else none
      | none => none
    | _, _ => none
  | op =>
    match a, b with
    | .int i, .int j =>
      match op with
      | .sub => some (.int (i - j))
      | .div => if 0 < j ∧ j < 1073741824 then some (.int (i / j)) else none
      | .mod => if 0 < j then some (.int (i % j)) else none
      | .pow => if 0 ≤ j ∧ j ≤ 1000000 ∧ i.natAbs < 2 ^ 64 then some (.int (i ^ j.toNat)) else none
      | .shl => if 0 ≤ j ∧ j ≤ 1000000 ∧ i.natAbs < 2 ^ 64 then some (.int (i * 2 ^ j.toNat)) else none
      | .shr => if 0 ≤ j then some (.int (i / 2 ^ j.toNat)) else none
      | .band => some (.int (PySem.Builtin.bitAnd i j))
      | .bor => some (.int (PySem.Builtin.bitOr i j))
      | .bxor => some (.int (PySem.Builtin.bitXor i j))
      | _ => none
    | _, _ => none

def flatD : D → Bool
  | .non | .bl _ | .int _ | .str _ => true
  | _ => false
def eqF : D → D → Bool
  | .non, .non => true
  | .bl a, .bl b => a == b
  | .int a, .int b => a == b
  | .bl a, .int b => (if a then 1 else 0) == b
  | .int a, .bl b => a == (if b then 1 else 0)
  | .str a, .str b => a == b
  | _, _ => false

def eqDeep (M : Mem) (a b : D) : Option Bool :=
  match py M depthMax a, py M depthMax b with
  | some x, some y => if PySem.SeqAt.shaped x = true ∧ PySem.SeqAt.shaped y = true then some (PyData.eqv x y) else none
  | _, _ => none
def eqD (M : Mem) (a b : D) : Option Bool :=
  match a, b with
  | .str x, .str y => some (decide (x = y))
  | a, b => eqDeep M a b

/-- x in y -/
def inD (M : Mem) (x y : D) : Option Bool :=
  match y with
  | .tup ys => if flatD x = true ∧ ys.all flatD = true then some (ys.any fun z => eqF z x) else none
  | .ref j =>
    match M[j]? with
    | some (.dic ks _) =>
      match keyOf x with
      | some k => some (ks.any fun z => decide (z = k))
      | none => none
    | some (.lst ys) =>
      match py M depthMax x, mapO (py M depthMax) ys with
      | some d, some ds => if PySem.SeqAt.shaped d = true ∧ PySem.SeqAt.shaped (.list ds) = true then some (ds.any fun z => PyData.eqv z d) else none
      | _, _ => none
    | _ => none
  | .lst ys =>
    match py M depthMax x, mapO (py M depthMax) ys with
    | some d, some ds => if PySem.SeqAt.shaped d = true ∧ PySem.SeqAt.shaped (.list ds) = true then some (ds.any fun z => PyData.eqv z d) else none
    | _, _ => none
  | _ => none

def cop (op : Cop) (M : Mem) (a b : D) : Option Bool :=
  match op with
  | .eq => eqD M a b
  | .ne => (eqD M a b).map (!·)
  | .inn => inD M a b
  | .nin => (inD M a b).map (!·)
  | op =>
    match a, b with
    | .int i, .int j =>
      match op with
      | .lt => some (decide (i < j))
      | .le => some (decide (i ≤ j))
      | .gt => some (decide (j < i))
      | .ge => some (decide (j ≤ i))
      | _ => none
    | _, _ => none

def insB {α : Type} (le : α → α → Bool) (x : α) : List α → List α
  | [] => [x]
  | y :: ys => if le x y then x :: y :: ys else y :: insB le x ys
def isort {α : Type} (le : α → α → Bool) : List α → List α
  | [] => []
  | x :: xs => insB le x (isort le xs)
def leI (a b : Int) : Bool := decide (a ≤ b)
def lexLe : List Int → List Int → Bool
  | [], _ => true
  | _ :: _, [] => false
  | a :: as, b :: bs => if a = b then lexLe as bs else decide (a < b)
def dedup {α : Type} [DecidableEq α] : List α → List α
  | [] => []
  | x :: xs => if x ∈ xs then dedup xs else x :: dedup xs

def asIntsS (M : Mem) (d : D) : Option (List Int) :=
  match asS M d with
  | some xs => mapO asInt xs
  | none => none
def asInts (M : Mem) (d : D) : Option (List Int) :=
  match asL M d with
  | some xs => mapO asInt xs
  | none => none
def litInts : D → Option (List Int)
  | .lst xs => mapO asInt xs
  | _ => none
def sortD (M : Mem) (xs : List D) : Option (List D) :=
  match mapO asInt xs with
  | some ns => some ((isort leI ns).map .int)
  | none =>
    match mapO litInts xs with
    | some nss => some ((isort lexLe nss).map fun ns => .lst (ns.map .int))
    | none => none

def isin (M : Mem) (k : Kd) (d : D) : Option Bool :=
  match d with
  | .non => some false
  | .bl _ => some (match k with | .int | .bool => true | _ => false)
  | .int _ => some (match k with | .int => true | _ => false)
  | .str _ => some (match k with | .str => true | _ => false)
  | .lst _ | .scr _ => some (match k with | .list | .listtuple => true | _ => false)
  | .tup _ => some (match k with | .tuple | .listtuple => true | _ => false)
  | .dct _ _ => some false
  | .ref j =>
    match M[j]? with
    | some (.lst _) => some (match k with | .list | .listtuple => true | _ => false)
    | some (.dic _ _) => some false
    | some (.ins c _) => some (match k with | .cls c' => decide (c = c') | _ => false)
    | _ => none

def maxL : List Int → Int
  | [] => 0
  | [x] => x
  | x :: y :: xs => let m := maxL (y :: xs); if m ≤ x then x else m
def minL : List Int → Int
  | [] => 0
  | [x] => x
  | x :: y :: xs => let m := minL (y :: xs); if x ≤ m then x else m

def lenD (M : Mem) : D → Option Nat
  | .lst xs | .tup xs => some xs.length
  | .scr ns => some ns.length
  | .str x => if x.length ≤ sizeLine then some x.length else none
  | .ref j =>
    match M[j]? with
    | some (.lst xs) => some xs.length
    | some (.dic ks _) => some ks.length
    | _ => none
  | _ => none

def keyD : Key → D
  | .inl i => .int i
  | .inr x => .str x
def listD (M : Mem) (a : D) : Option (List D) :=
  match a with
  | .ref j =>
    match M[j]? with
    | some (.lst xs) => some xs
    | some (.dic ks _) => some (ks.map keyD)
    | _ => none
  | a => asS M a
def b1 (f : B1) (M : Mem) (a : D) : Option D :=
  match f with
  | .len => (lenD M a).map fun (n : Nat) => D.int (n : Int)
  | .abs => match a with | .int i => some (.int (if i < 0 then -i else i)) | _ => none
  | .int => match a with | .int i => some (.int i) | .bl k => some (.int (if k then 1 else 0)) | _ => none
  | .str => match a with | .int i => if i.natAbs.log2 < 1920 then some (.str (toString i : String)) else none | _ => none
  | .repr =>
    match py M depthMax a with
    | some p => if p.showable = true ∧ p.shown.length ≤ sizeLine then some (.str p.shown) else none
    | none => none
  | .tuple => match a with | .tup xs => some (.tup xs) | a => (asL M a).map .tup
  | .list => (listD M a).map .lst
  | .sum => (asInts M a).map fun ns => .int ns.sum
  | .all => match asL M a with | some xs => (mapO asBl xs).map fun bs => .bl (bs.all id) | none => none
  | .any => match asL M a with | some xs => (mapO asBl xs).map fun bs => .bl (bs.any id) | none => none
  | .max => match asInts M a with | some (n :: ns) => some (.int (maxL (n :: ns))) | _ => none
  | .min => match asInts M a with | some (n :: ns) => some (.int (minL (n :: ns))) | _ => none
  | .sorted => match asS M a with | some xs => (sortD M xs).map .lst | none => none
  | .sset => match asIntsS M a with | some ns => if (dedup ns).length < 64 ∧ ns.length ≤ 4000 then some (.lst ((isort leI (dedup ns)).map .int)) else none | none => none
  | .lset => match asIntsS M a with | some ns => if (dedup ns).length < 64 ∧ ns.length ≤ 4000 then some (.int (dedup ns).length) else none | none => none
def b2 (f : B2) (a b : D) : Option D :=
  match a, b with
  | .int i, .int j =>
    match f with
    | .max => some (.int (if j > i then j else i))
    | .min => some (.int (if j < i then j else i))
    | .divmod => if 0 < j ∧ j < 1073741824 then some (.tup [.int (i / j), .int (i % j)]) else none
  | _, _ => none

def lookK (k : Key) : List Key → List D → Option D
  | z :: ks, v :: vs => if z = k then some v else lookK k ks vs
  | _, _ => none
def repKv (k : Key) (d : D) : List Key → List D → List D
  | z :: ks, v :: vs => (if z = k then d else v) :: repKv k d ks vs
  | _, _ => []
def putKv (k : Key) (d : D) (ks : List Key) (vs : List D) : List Key × List D :=
  if (ks.any fun z => decide (z = k)) = true then (ks, repKv k d ks vs) else (ks ++ [k], vs ++ [d])
def atD (xs : List D) : D → Option D
  | .int n => L2.atI xs n
  | _ => none
def idxD (M : Mem) (a i : D) : Option D :=
  match a with
  | .ref j =>
    match M[j]? with
    | some (.lst xs) => atD xs i
    | some (.dic ks vs) => match keyOf i with | some k => lookK k ks vs | none => none
    | _ => none
  | .lst xs | .tup xs => atD xs i
  | .scr ns => match i with | .int n => (L2.atI ns n).map .int | _ => none
  | _ => none
def cut {α : Type} (xs : List α) (lo hi : Option Int) : List α := (xs.drop (HT.sIx xs.length 0 lo)).take (HT.sIx xs.length xs.length hi - HT.sIx xs.length 0 lo)
def slcD (M : Mem) (a : D) (lo hi : Option Int) : Option D :=
  match a with
  | .tup xs => if HT.sIx xs.length 0 lo = 0 ∧ HT.sIx xs.length xs.length hi = xs.length then none else some (.tup (cut xs lo hi))
  | .scr ns => some (.lst ((cut ns lo hi).map .int))
  | a => (asL M a).map fun xs => .lst (cut xs lo hi)
def revD (M : Mem) (a : D) : Option D :=
  (asL M a).map fun xs => .lst xs.reverse

def putN {α : Type} (f : Nat) (v : α) : List (Nat × α) → List (Nat × α)
  | [] => [(f, v)]
  | (g, w) :: r => if g = f then (f, v) :: r else (g, w) :: putN f v r
def lookN {α : Type} (f : Nat) : List (Nat × α) → Option α
  | [] => none
  | (g, w) :: r => if g = f then some w else lookN f r

inductive Tg where
  | one (i : Nat) | many (is : List Nat)
def setAll : List Nat → List D → Env → Option Env
  | [], [], env => some env
  | i :: is, x :: xs, env => setAll is xs (env.set i (some x))
  | _, _, _ => none
def bindT (t : Tg) (x : D) (env : Env) : Option Env :=
  match t with
  | .one i => some (env.set i (some x))
  | .many is =>
    match x with
    | .tup xs => setAll is xs env
    | _ => none
def wipeE (env : Env) : List Nat → Env
  | [] => env
  | v :: vs => (wipeE env vs).set v none

mutual
inductive E where
  | var (i : Nat) | lit (d : D) | glob (g : Nat)
  | tup (es : Es) | lst (es : Es) | dct0 | dct1 (k v : E)
  | bin (op : Bop) (a b : E) | inv (a : E) | neg (a : E)
  | cmp (op : Cop) (a b : E) | isN (ng : Bool) (a : E) | isB (ng b : Bool) (a : E)
  | chn (o1 o2 : Cop) (a b c : E)
  | and (a b : E) | or (a b : E) | not (a : E) | ite (c a b : E)
  | b1 (f : B1) (a : E) | b2 (f : B2) (a b : E)
  | lrng (tp : Bool) (it : It)
  | isin (k : Kd) (a : E)
  | call (f : Nat) (es : Es) | callk (f : Nat) (es : Es) (perm : List Nat)
  | mk (c : Nat) (es : Es) | meth (c m : Nat) (o : E) (es : Es) | prp (c m : Nat) (o : E)
  | fld (f : Nat) (o : E)
  | idx (a i : E) | slc (a : E) (lo hi : Oe) | rev (a : E)
  | cmpr (elt : E) (tg : Tg) (it : It) (cnd : Oe) (own : List Nat)
  | app (o e : E) | ext (o e : E) | pop (o : E) | popi (o i : E)
  | alloc (e : E)
inductive Es where
  | nil | cons (e : E) (es : Es)
inductive Oe where
  | none | some (e : E)
inductive It where
  | seq (e : E) | rng (a : E) | rng2 (a b : E) | enum (e : E) | zip (a b : E)
end

def isLst (M : Mem) (j : Nat) : Bool := match M[j]? with | some (.lst _) => true | _ => false
structure Gt where
  gl : Nat → D
  ini : Nat → Nat
  mfn : Nat → Nat

def rangeD (lo : Int) (n : Nat) : List D := (List.range n).map fun (i : Nat) => .int (lo + (i : Nat))
/-- the items of what is walked: a list or tuple that stands still -/
def seqD : D → Option (List D)
  | .lst xs | .tup xs => some xs
  | .scr ns => some (ns.map .int)
  | _ => none
def rng1D : D → Option (List D)
  | .int n => if -(2 ^ 62) ≤ n ∧ n < 2 ^ 62 then some (rangeD 0 n.toNat) else none
  | _ => none
def rng2D : D → D → Option (List D)
  | .int i, .int j => if -(2 ^ 62) ≤ i ∧ i < 2 ^ 62 ∧ -(2 ^ 62) ≤ j ∧ j < 2 ^ 62 then some (rangeD i (j - i).toNat) else none
  | _, _ => none
def enumD (xs : List D) : List D := (xs.zipIdx).map fun p => .tup [.int (p.2 : Nat), p.1]
def zipD (xs ys : List D) : List D := (xs.zip ys).map fun p => .tup [p.1, p.2]

def compL (body : D → Mem → R (Option D)) : List D → Mem → R (List D)
  | [], M => .ok [] M
  | x :: xs, M =>
    match body x M with
    | .ok none M1 => compL body xs M1
    | .ok (some y) M1 =>
      match compL body xs M1 with
      | .ok ys M2 => .ok (y :: ys) M2
      | _ => .no
    | _ => .no
def tst (r : R D) : R Bool :=
  match r with
  | .ok (.bl b) M => .ok b M
  | .ok _ _ => .no
  | .ex c d M => .ex c d M
  | .no => .no
def optI : Option D → Option (Option Int)
  | none => some none
  | some (.int i) => some (some i)
  | some _ => none

section
variable (G : Gt) (cl : Nat → List D → Mem → R D)
mutual
def ev : E → Env → Mem → R D
  | .var i, env, M => R.of ((env[i]?).bind id) M
  | .lit d, _, M => .ok d M
  | .glob g, _, M => .ok (G.gl g) M
  | .tup es, env, M => (evs es env M).bind fun xs M => .ok (.tup xs) M
  | .lst es, env, M => (evs es env M).bind fun xs M => .ok (.lst xs) M
  | .dct0, _, M => .ok (.dct [] []) M
  | .dct1 k v, env, M => (ev k env M).bind fun x M => (ev v env M).bind fun y M => R.of ((keyOf x).map fun z => .dct [z] [y]) M
  | .bin op a b, env, M => (ev a env M).bind fun x M => (ev b env M).bind fun y M => R.of (bop op M x y) M
  | .inv a, env, M => (ev a env M).bind fun x M => R.of ((asInt x).map fun i => .int (PySem.Builtin.bitNot i)) M
  | .neg a, env, M => (ev a env M).bind fun x M => R.of ((asInt x).map fun i => .int (-i)) M
  | .cmp op a b, env, M => (ev a env M).bind fun x M => (ev b env M).bind fun y M => R.of ((cop op M x y).map .bl) M
  | .isN ng a, env, M => (ev a env M).bind fun x M => .ok (.bl (xor ng (isNon x))) M
  | .isB ng b a, env, M => (ev a env M).bind fun x M => R.of ((asBl x).map fun k => .bl (xor ng (k == b))) M
  | .chn o1 o2 a b c, env, M => (ev a env M).bind fun x M => (ev b env M).bind fun y M =>
      (R.of (cop o1 M x y) M).bind fun k M => if k then (ev c env M).bind fun z M => R.of ((cop o2 M y z).map .bl) M else .ok (.bl false) M
  | .and a b, env, M => (tst (ev a env M)).bind fun k M => if k then ev b env M else .ok (.bl false) M
  | .or a b, env, M => (tst (ev a env M)).bind fun k M => if k then .ok (.bl true) M else ev b env M
  | .not a, env, M => (tst (ev a env M)).bind fun k M => .ok (.bl (!k)) M
  | .ite c a b, env, M => (tst (ev c env M)).bind fun k M => if k then ev a env M else ev b env M
  | .b1 f a, env, M => (ev a env M).bind fun x M => R.of (b1 f M x) M
  | .b2 f a b, env, M => (ev a env M).bind fun x M => (ev b env M).bind fun y M => R.of (b2 f x y) M
  | .lrng tp it, env, M => (evi it env M).bind fun xs M => if xs.length < sizeLine then .ok (if tp then .tup xs else .lst xs) M else .no
  | .isin k a, env, M => (ev a env M).bind fun x M => R.of ((isin M k x).map .bl) M
  | .call f es, env, M => (evs es env M).bind fun xs M => cl f xs M
  | .callk f es perm, env, M => (evs es env M).bind fun xs M => (R.of (mapO (fun i => xs[i]?) perm) M).bind fun ys M => cl f ys M
  | .mk c es, env, M => (evs es env M).bind fun xs M =>
      (cl (G.ini c) (.ref M.length :: xs) (M ++ [.ins c []])).bind fun r M' => match r with | .non => .ok (.ref M.length) M' | _ => .no
  | .meth c m o es, env, M => (ev o env M).bind fun x M => match x with
      | .ref j => match M[j]? with
        | some (.ins c' _) => if c' = c then (evs es env M).bind fun xs M => cl (G.mfn m) (.ref j :: xs) M else .no
        | _ => .no
      | _ => .no
  | .prp c m o, env, M => (ev o env M).bind fun x M => match x with
      | .ref j => match M[j]? with
        | some (.ins c' _) => if c' = c then cl (G.mfn m) [.ref j] M else .no
        | _ => .no
      | _ => .no
  | .fld f o, env, M => (ev o env M).bind fun x M => match x with
      | .ref j => match M[j]? with
        | some (.ins _ fs) => R.of (lookN f fs) M
        | _ => .no
      | _ => .no
  | .idx a i, env, M => (ev a env M).bind fun x M => (ev i env M).bind fun y M => R.of (idxD M x y) M
  | .slc a lo hi, env, M => (ev a env M).bind fun x M => ((evo lo env M).bind fun l M => R.of (optI l) M).bind fun l M =>
      ((evo hi env M).bind fun h M => R.of (optI h) M).bind fun h M => R.of (slcD M x l h) M
  | .rev a, env, M => (ev a env M).bind fun x M => R.of (revD M x) M
  | .cmpr elt tg it cnd own, env, M => (evi it env M).bind fun xs M =>
      (compL (fun x M => match bindT tg x (wipeE env own) with
        | none => .no
        | some env' => match cnd with
          | .none => (ev elt env' M).bind fun y M => .ok (some y) M
          | .some c => (tst (ev c env' M)).bind fun k M => if k then (ev elt env' M).bind fun y M => .ok (some y) M else .ok none M) xs M).bind
      fun ys M => if xs.length < sizeLine then .ok (.lst ys) M else .no
  | .app o e, env, M => (ev o env M).bind fun x M => match x with
      | .ref j => if isLst M j = true then (ev e env M).bind fun y M => match M[j]? with
        | some (.lst xs) => if xs.length < sizeLine then .ok .non (M.set j (.lst (xs ++ [y]))) else .no
        | _ => .no
        else .no
      | _ => .no
  | .ext o e, env, M => (ev o env M).bind fun x M => match x with
      | .ref j => if isLst M j = true then (ev e env M).bind fun y M => match M[j]?, asL M y with
        | some (.lst xs), some ys => if xs.length + ys.length ≤ sizeLine then .ok .non (M.set j (.lst (xs ++ ys))) else .no
        | _, _ => .no
        else .no
      | _ => .no
  | .pop o, env, M => (ev o env M).bind fun x M => match x with
      | .ref j => match M[j]? with
        | some (.lst xs) => match xs[xs.length - 1]? with
          | some y => .ok y (M.set j (.lst xs.dropLast))
          | none => .no
        | _ => .no
      | _ => .no
  | .popi o i, env, M => (ev o env M).bind fun x M => match x with
      | .ref j => if isLst M j = true then (ev i env M).bind fun y M => match M[j]?, y with
        | some (.lst xs), .int n => match L2.ixN xs.length n with
          | some k => match xs[k]? with
            | some z => if -(2 ^ 63) ≤ n ∧ n < 2 ^ 63 then .ok z (M.set j (.lst (xs.eraseIdx k))) else .no
            | none => .no
          | none => .no
        | _, _ => .no
        else .no
      | _ => .no
  | .alloc e, env, M => (ev e env M).bind fun x M => match x with
      | .lst xs => .ok (.ref M.length) (M ++ [.lst xs])
      | .dct ks vs => .ok (.ref M.length) (M ++ [.dic ks vs])
      | _ => .no
def evs : Es → Env → Mem → R (List D)
  | .nil, _, M => .ok [] M
  | .cons e es, env, M => (ev e env M).bind fun x M => (evs es env M).bind fun xs M => .ok (x :: xs) M
def evo : Oe → Env → Mem → R (Option D)
  | .none, _, M => .ok none M
  | .some e, env, M => (ev e env M).bind fun x M => .ok (some x) M
def evi : It → Env → Mem → R (List D)
  | .seq e, env, M => (ev e env M).bind fun x M => R.of (seqD x) M
  | .rng a, env, M => (ev a env M).bind fun x M => R.of (rng1D x) M
  | .rng2 a b, env, M => (ev a env M).bind fun x M => (ev b env M).bind fun y M => R.of (rng2D x y) M
  | .enum e, env, M => (ev e env M).bind fun x M => R.of ((seqD x).map enumD) M
  | .zip a b, env, M => (ev a env M).bind fun x M => (ev b env M).bind fun y M => R.of (match seqD x, seqD y with | some xs, some ys => some (zipD xs ys) | _, _ => none) M
end
end

/-! ### statements -/
inductive T where
  | nm (i : Nat) | sub (o i : E) | tp (ts : List T)
inductive Fl where
  | nx (env : Env) | rt (d : D) | bk (env : Env) | ct (env : Env)
mutual
inductive S where
  | pas | ex (e : E) | ret (e : E) | ret0
  | asg (t : T) (e : E) | par (is : List Nat) (es : Es) | aug (i : Nat) (op : Bop) (e : E)
  | ifs (c : E) (a b : Ss) | whl (c : E) (b : Ss) | fr (t : Tg) (it : It) (b : Ss)
  | fset (o : E) (f : Nat) (e : E) | dput (o i e : E)
  | rai (c : Nat) (e : Oe) | tri (b : Ss) (hs : Hs)
  | brk | cnt | frz (i : Nat) | stop
inductive Ss where
  | nil | cons (s : S) (r : Ss)
inductive Hs where
  | nil | cons (c : Nat) (as_ : Option Nat) (b : Ss) (r : Hs)
end

section
variable (G : Gt) (cl : Nat → List D → Mem → R D)
mutual
def asg : T → D → Env → Mem → R Env
  | .nm i, x, env, M => .ok (env.set i (some x)) M
  | .sub o i, x, env, M => (ev G cl o env M).bind fun a M => (ev G cl i env M).bind fun k M => match a, k with
      | .ref j, .int n => match M[j]? with
        | some (.lst xs) => match L2.ixN xs.length n with
          | some p => .ok env (M.set j (.lst (xs.set p x)))
          | none => .no
        | _ => .no
      | _, _ => .no
  | .tp ts, x, env, M => match x with
      | .tup xs => asgs ts xs env M
      | _ => .no
def asgs : List T → List D → Env → Mem → R Env
  | [], [], env, M => .ok env M
  | t :: ts, x :: xs, env, M => (asg t x env M).bind fun env M => asgs ts xs env M
  | _, _, _, _ => .no
end
def loopF (t : Tg) (body : Env → Mem → R Fl) : List D → Env → Mem → R Fl
  | [], env, M => .ok (.nx env) M
  | x :: xs, env, M =>
    match bindT t x env with
    | none => .no
    | some env1 => (body env1 M).bind fun f M => match f with
      | .nx env2 | .ct env2 => loopF t body xs env2 M
      | .bk env2 => .ok (.nx env2) M
      | .rt d => .ok (.rt d) M
def loopW (c : Env → Mem → R Bool) (body : Env → Mem → R Fl) : Nat → Env → Mem → R Fl
  | 0, _, _ => .no
  | n + 1, env, M => (c env M).bind fun k M => if k then
      (body env M).bind fun f M => match f with
        | .nx env2 | .ct env2 => loopW c body n env2 M
        | .bk env2 => .ok (.nx env2) M
        | .rt d => .ok (.rt d) M
    else .ok (.nx env) M
def fuelW : Nat := 1000000
mutual
def exs : S → Env → Mem → R Fl
  | .pas, env, M => .ok (.nx env) M
  | .ex e, env, M => (ev G cl e env M).bind fun _ M => .ok (.nx env) M
  | .ret e, env, M => (ev G cl e env M).bind fun x M => .ok (.rt x) M
  | .ret0, _, M => .ok (.rt .non) M
  | .asg t e, env, M => (ev G cl e env M).bind fun x M => (asg G cl t x env M).bind fun env M => .ok (.nx env) M
  | .par is es, env, M => (evs G cl es env M).bind fun xs M => (R.of (setAll is xs env) M).bind fun env M => .ok (.nx env) M
  | .aug i op e, env, M => (R.of ((env[i]?).bind id) M).bind fun x M => (ev G cl e env M).bind fun y M => (R.of (bop op M x y) M).bind fun z M => .ok (.nx (env.set i (some z))) M
  | .ifs c a b, env, M => (tst (ev G cl c env M)).bind fun k M => if k then exb a env M else exb b env M
  | .whl c b, env, M => loopW (fun env M => tst (ev G cl c env M)) (fun env M => exb b env M) fuelW env M
  | .fr t it b, env, M => (evi G cl it env M).bind fun xs M => loopF t (fun env M => exb b env M) xs env M
  | .fset o f e, env, M => (ev G cl e env M).bind fun y M => (ev G cl o env M).bind fun x M => match x with
      | .ref j => match M[j]? with
        | some (.ins c fs) => if fs.length < 100 then .ok (.nx env) (M.set j (.ins c (putN f y fs))) else .no
        | _ => .no
      | _ => .no
  | .dput o i e, env, M => (ev G cl e env M).bind fun y M => (ev G cl o env M).bind fun x M => (ev G cl i env M).bind fun k M => match x, keyOf k with
      | .ref j, some k => match M[j]? with
        | some (.dic ks vs) => if ks.length < sizeLine then .ok (.nx env) (M.set j (.dic (putKv k y ks vs).1 (putKv k y ks vs).2)) else .no
        | _ => .no
      | _, _ => .no
  | .rai c e, env, M => match e with
      | .none => .ex c none M
      | .some e => (ev G cl e env M).bind fun x M => .ex c (some x) M
  | .tri _ _, _, _ => .no
  | .stop, _, _ => .no
  | .brk, env, M => .ok (.bk env) M
  | .cnt, env, M => .ok (.ct env) M
  | .frz i, env, M => match (env[i]?).bind id with
      | some (.ref j) => match M[j]? with
        | some (.lst xs) => .ok (.nx (env.set i (some (.lst xs)))) (M.set j .dead)
        | _ => .ok (.nx env) M
      | _ => .ok (.nx env) M
def exb : Ss → Env → Mem → R Fl
  | .nil, env, M => .ok (.nx env) M
  | .cons s r, env, M => (exs s env M).bind fun f M => match f with
      | .nx env => exb r env M
      | f => .ok f M
end
end

structure Fn where
  ar : Nat
  sl : Nat
  body : Ss
def callI (G : Gt) (fns : Nat → Option Fn) : Nat → Nat → List D → Mem → R D
  | 0, _, _, _ => .no
  | n + 1, f, ds, M => match fns f with
      | none => .no
      | some fn => if ds.length = fn.ar then
          (exb G (callI G fns n) fn.body (ds.map some ++ List.replicate (fn.sl - ds.length) none) M).bind fun fl M => match fl with
            | .rt d => .ok d M
            | .nx _ => .ok .non M
            | _ => .no
        else .no
end Z
end
section
set_option Elab.async false
set_option linter.all false
set_option maxRecDepth 100000
set_option maxHeartbeats 4000000
/-! Zr: how trees and the small store stand in the hand layer's abstract heap. -/
namespace Z
open PySem L2

structure Wd where
  m : List Addr
  F : Hp
  H : Hp

mutual
def Rep (K : W.Frag) (W : Wd) : D → V → Prop
  | .non, v => v = .non
  | .bl b, v => v = .bl b
  | .int i, v => v = .int i
  | .str x, v => v = .str x
  | .lst xs, v => ∃ a vs, v = .ref a ∧ W.F a = some (.lst vs) ∧ Reps K W xs vs
  | .tup xs, v => ∃ a vs, v = .ref a ∧ SqT K W.F a vs ∧ Reps K W xs vs
  | .dct ks ds, v => ∃ a vs, v = .ref a ∧ W.F a = some (.dK (ks.zip vs)) ∧ ks.length = vs.length ∧ Reps K W ds vs
  | .ref j, v => ∃ a, W.m[j]? = some a ∧ v = .ref a
  | .scr ns, v => ∃ a, v = .ref a ∧ SqL K W.F a (ns.map V.int)
def Reps (K : W.Frag) (W : Wd) : List D → List V → Prop
  | [], vs => vs = []
  | x :: xs, vs => ∃ v r, vs = v :: r ∧ Rep K W x v ∧ Reps K W xs r
end

structure Ext (W W' : Wd) : Prop where
  m : ∃ t, W'.m = W.m ++ t ∧ ∀ a ∈ t, W.H a = none
  F : ∀ a o, W.F a = some o → W'.F a = some o
  new : ∀ a, W.H a ≠ none → W.F a = none → a ∉ W.m → W'.F a = none
  H : ∀ a o, W.H a = some o → a ∉ W.m → W'.H a = some o
  nn : ∀ a, W.H a ≠ none → W'.H a ≠ none
theorem Ext.refl (W : Wd) : Ext W W := ⟨⟨[], by simp, by simp⟩, fun _ _ h => h, fun _ _ h _ => h, fun _ _ h _ => h, fun _ h => h⟩
theorem Ext.notin {W W' : Wd} (x : Ext W W') {a : Addr} (h : W.H a ≠ none) (n : a ∉ W.m) : a ∉ W'.m := by
  obtain ⟨t, e, q⟩ := x.m
  rw [e]
  intro z
  rcases List.mem_append.mp z with z | z
  · exact n z
  · exact h (q a z)
theorem Ext.trans {W W1 W2 : Wd} (x : Ext W W1) (y : Ext W1 W2) : Ext W W2 := by
  refine ⟨?_, fun a o h => y.F a o (x.F a o h), fun a h n z => y.new a (x.nn a h) (x.new a h n z) (x.notin h z), fun a o h z => y.H a o (x.H a o h z) (x.notin (by rw [h]; simp) z), fun a h => y.nn a (x.nn a h)⟩
  obtain ⟨t, e, q⟩ := x.m
  obtain ⟨u, e', q'⟩ := y.m
  refine ⟨t ++ u, by rw [e', e, List.append_assoc], fun a ha => ?_⟩
  rcases List.mem_append.mp ha with z | z
  · exact q a z
  · cases h : W.H a with
    | none => rfl
    | some o => exact absurd (q' a z) (x.nn a (by rw [h]; simp))
theorem Ext.get {W W' : Wd} (x : Ext W W') {j : Nat} {a : Addr} (h : W.m[j]? = some a) : W'.m[j]? = some a := by
  obtain ⟨t, e, _⟩ := x.m
  rw [e, List.getElem?_append_left]
  · exact h
  · exact (List.getElem?_eq_some_iff.mp h).1

theorem sqT_mono {K : W.Frag} {F F' : Hp} (h : ∀ a o, F a = some o → F' a = some o) {a : Addr} {xs : List V} : SqT K F a xs → SqT K F' a xs
  | .inl (.inl e) => .inl (.inl (h _ _ e))
  | .inl (.inr ⟨o, e⟩) => .inl (.inr ⟨o, h _ _ e⟩)
  | .inr e => .inr e
theorem sqL_mono {K : W.Frag} {F F' : Hp} (h : ∀ a o, F a = some o → F' a = some o) {a : Addr} {xs : List V} : SqL K F a xs → SqL K F' a xs
  | .inl (.inl e) => .inl (.inl (h _ _ e))
  | .inl (.inr ⟨o, e⟩) => .inl (.inr ⟨o, h _ _ e⟩)
  | .inr e => .inr e

/-- what a tree's standing leans on -/
structure LeansOn (W W' : Wd) : Prop where
  m : ∀ (j : Nat) (a : Addr), W.m[j]? = some a → W'.m[j]? = some a
  F : ∀ a o, W.F a = some o → W'.F a = some o
theorem Ext.lean {W W' : Wd} (x : Ext W W') : LeansOn W W' := ⟨fun _ _ h => x.get h, x.F⟩
mutual
theorem Rep.lean {K : W.Frag} {W W' : Wd} (x : LeansOn W W') : ∀ {d : D} {v : V}, Rep K W d v → Rep K W' d v
  | .non, v, h => by simp only [Rep] at h ⊢; exact h
  | .bl b, v, h => by simp only [Rep] at h ⊢; exact h
  | .int i, v, h => by simp only [Rep] at h ⊢; exact h
  | .str i, v, h => by simp only [Rep] at h ⊢; exact h
  | .lst xs, v, h => by
    simp only [Rep] at h ⊢
    obtain ⟨a, vs, e, f, r⟩ := h
    exact ⟨a, vs, e, x.F _ _ f, Reps.lean x r⟩
  | .tup xs, v, h => by
    simp only [Rep] at h ⊢
    obtain ⟨a, vs, e, f, r⟩ := h
    exact ⟨a, vs, e, sqT_mono x.F f, Reps.lean x r⟩
  | .dct ks ds, v, h => by
    simp only [Rep] at h ⊢
    obtain ⟨a, vs, e, f, l, r⟩ := h
    exact ⟨a, vs, e, x.F _ _ f, l, Reps.lean x r⟩
  | .ref j, v, h => by
    simp only [Rep] at h ⊢
    obtain ⟨a, e, f⟩ := h
    exact ⟨a, x.m _ _ e, f⟩
  | .scr ns, v, h => by
    simp only [Rep] at h ⊢
    obtain ⟨a, e, f⟩ := h
    exact ⟨a, e, sqL_mono x.F f⟩
theorem Reps.lean {K : W.Frag} {W W' : Wd} (x : LeansOn W W') : ∀ {ds : List D} {vs : List V}, Reps K W ds vs → Reps K W' ds vs
  | [], vs, h => by simp only [Reps] at h ⊢; exact h
  | d :: ds, vs, h => by
    simp only [Reps] at h ⊢
    obtain ⟨v, r, e, h1, h2⟩ := h
    exact ⟨v, r, e, Rep.lean x h1, Reps.lean x h2⟩
end
theorem Rep.mono {K : W.Frag} {W W' : Wd} (x : Ext W W') {d : D} {v : V} (h : Rep K W d v) : Rep K W' d v := h.lean x.lean
theorem Reps.mono {K : W.Frag} {W W' : Wd} (x : Ext W W') {ds : List D} {vs : List V} (h : Reps K W ds vs) : Reps K W' ds vs := h.lean x.lean

section
variable {K : W.Frag} {W W' : Wd}
theorem Reps.length : ∀ {ds : List D} {vs : List V}, Reps K W ds vs → ds.length = vs.length
  | [], vs, h => by simp only [Reps] at h; rw [h]; rfl
  | d :: ds, vs, h => by
    simp only [Reps] at h
    obtain ⟨v, r, e, h1, h2⟩ := h
    rw [e, List.length_cons, List.length_cons, Reps.length h2]
theorem Reps.nil : Reps K W [] [] := by simp only [Reps]
theorem Reps.cons {d : D} {v : V} {ds : List D} {vs : List V} (h : Rep K W d v) (r : Reps K W ds vs) : Reps K W (d :: ds) (v :: vs) := by
  simp only [Reps]; exact ⟨v, vs, rfl, h, r⟩
theorem Reps.inv {d : D} {ds : List D} {vs : List V} (h : Reps K W (d :: ds) vs) : ∃ v r, vs = v :: r ∧ Rep K W d v ∧ Reps K W ds r := by
  simp only [Reps] at h; exact h
theorem Reps.inv0 {vs : List V} (h : Reps K W [] vs) : vs = [] := by simp only [Reps] at h; exact h
theorem Reps.app : ∀ {ds es : List D} {vs us : List V}, Reps K W ds vs → Reps K W es us → Reps K W (ds ++ es) (vs ++ us)
  | [], es, vs, us, h, k => by rw [h.inv0]; exact k
  | d :: ds, es, vs, us, h, k => by
    obtain ⟨v, r, rfl, h1, h2⟩ := h.inv
    exact Reps.cons h1 (Reps.app h2 k)
theorem Reps.get : ∀ {ds : List D} {vs : List V} {i : Nat} {d : D}, Reps K W ds vs → ds[i]? = some d → ∃ v, vs[i]? = some v ∧ Rep K W d v
  | [], vs, i, d, h, e => by simp at e
  | x :: ds, vs, 0, d, h, e => by
    obtain ⟨v, r, rfl, h1, h2⟩ := h.inv
    simp at e; subst e; exact ⟨v, rfl, h1⟩
  | x :: ds, vs, i + 1, d, h, e => by
    obtain ⟨v, r, rfl, h1, h2⟩ := h.inv
    obtain ⟨u, q, z⟩ := Reps.get (i := i) h2 (by simpa using e)
    exact ⟨u, by simpa using q, z⟩
theorem Reps.get' {ds : List D} {vs : List V} {i : Nat} {v : V} (h : Reps K W ds vs) (e : vs[i]? = some v) : ∃ d, ds[i]? = some d ∧ Rep K W d v := by
  have hl := h.length
  have hi : i < ds.length := by rw [hl]; exact (List.getElem?_eq_some_iff.mp e).1
  obtain ⟨u, q, z⟩ := h.get (List.getElem?_eq_getElem hi)
  rw [e] at q; cases q
  exact ⟨_, List.getElem?_eq_getElem hi, z⟩
theorem Reps.take : ∀ (n : Nat) {ds : List D} {vs : List V}, Reps K W ds vs → Reps K W (ds.take n) (vs.take n)
  | 0, _, _, _ => by simpa using Reps.nil
  | n + 1, [], vs, h => by rw [h.inv0]; simpa using Reps.nil
  | n + 1, d :: ds, vs, h => by
    obtain ⟨v, r, rfl, h1, h2⟩ := h.inv
    exact Reps.cons h1 (Reps.take n h2)
theorem Reps.drop : ∀ (n : Nat) {ds : List D} {vs : List V}, Reps K W ds vs → Reps K W (ds.drop n) (vs.drop n)
  | 0, _, _, h => h
  | n + 1, [], vs, h => by rw [h.inv0]; simpa using Reps.nil
  | n + 1, d :: ds, vs, h => by
    obtain ⟨v, r, rfl, h1, h2⟩ := h.inv
    exact Reps.drop n h2
theorem Reps.rev : ∀ {ds : List D} {vs : List V}, Reps K W ds vs → Reps K W ds.reverse vs.reverse
  | [], vs, h => by rw [h.inv0]; simpa using Reps.nil
  | d :: ds, vs, h => by
    obtain ⟨v, r, rfl, h1, h2⟩ := h.inv
    rw [List.reverse_cons, List.reverse_cons]
    exact Reps.app (Reps.rev h2) (Reps.cons h1 Reps.nil)
theorem Reps.set : ∀ (i : Nat) {ds : List D} {vs : List V} {d : D} {v : V}, Reps K W ds vs → Rep K W d v → Reps K W (ds.set i d) (vs.set i v)
  | _, [], vs, _, _, h, _ => by rw [h.inv0]; exact Reps.nil
  | 0, d :: ds, vs, _, _, h, k => by
    obtain ⟨v, r, rfl, h1, h2⟩ := h.inv
    exact Reps.cons k h2
  | i + 1, d :: ds, vs, _, _, h, k => by
    obtain ⟨v, r, rfl, h1, h2⟩ := h.inv
    exact Reps.cons h1 (Reps.set i h2 k)
theorem Reps.dropLast {ds : List D} {vs : List V} (h : Reps K W ds vs) : Reps K W ds.dropLast vs.dropLast := by
  rw [List.dropLast_eq_take, List.dropLast_eq_take, ← h.length]; exact h.take _
theorem Reps.erase : ∀ (i : Nat) {ds : List D} {vs : List V}, Reps K W ds vs → Reps K W (ds.eraseIdx i) (vs.eraseIdx i)
  | _, [], vs, h => by rw [h.inv0]; exact Reps.nil
  | 0, d :: ds, vs, h => by
    obtain ⟨v, r, rfl, h1, h2⟩ := h.inv
    exact h2
  | i + 1, d :: ds, vs, h => by
    obtain ⟨v, r, rfl, h1, h2⟩ := h.inv
    exact Reps.cons h1 (Reps.erase i h2)
theorem Reps.rep {ds : List D} {vs : List V} (h : Reps K W ds vs) : ∀ k : Nat, Reps K W (List.replicate k ds).flatten (List.replicate k vs).flatten
  | 0 => by simpa using Reps.nil
  | k + 1 => by
    rw [List.replicate_succ, List.replicate_succ, List.flatten_cons, List.flatten_cons]
    exact Reps.app h (Reps.rep h k)
theorem Reps.ints : ∀ {ds : List D} {vs : List V} {ns : List Int}, Reps K W ds vs → mapO asInt ds = some ns → vs = ns.map V.int
  | [], vs, ns, h, e => by simp at e; subst e; rw [h.inv0]; rfl
  | d :: ds, vs, ns, h, e => by
    obtain ⟨v, r, rfl, h1, h2⟩ := h.inv
    unfold mapO at e
    cases d <;> simp only [asInt] at e <;> first | exact absurd e (by simp) | skip
    rename_i i
    cases q : mapO asInt ds with
    | none => rw [q] at e; simp at e
    | some ms =>
      rw [q] at e; simp at e; subst e
      simp only [Rep] at h1; subst h1
      rw [Reps.ints h2 q]; rfl
theorem Reps.bls : ∀ {ds : List D} {vs : List V} {bs : List Bool}, Reps K W ds vs → mapO asBl ds = some bs → vs = bs.map V.bl
  | [], vs, ns, h, e => by simp at e; subst e; rw [h.inv0]; rfl
  | d :: ds, vs, ns, h, e => by
    obtain ⟨v, r, rfl, h1, h2⟩ := h.inv
    unfold mapO at e
    cases d <;> simp only [asBl] at e <;> first | exact absurd e (by simp) | skip
    rename_i i
    cases q : mapO asBl ds with
    | none => rw [q] at e; simp at e
    | some ms =>
      rw [q] at e; simp at e; subst e
      simp only [Rep] at h1; subst h1
      rw [Reps.bls h2 q]; rfl
theorem reps_ints (ns : List Int) : Reps K W (ns.map D.int) (ns.map V.int) := by
  induction ns with
  | nil => exact Reps.nil
  | cons n ns ih => exact Reps.cons (by simp only [Rep]) ih
theorem rep_int {i : Int} : Rep K W (.int i) (.int i) := by simp only [Rep]
theorem rep_bl {i : Bool} : Rep K W (.bl i) (.bl i) := by simp only [Rep]
theorem rep_str {i : Str} : Rep K W (.str i) (.str i) := by simp only [Rep]
theorem rep_non : Rep K W .non .non := by simp only [Rep]
theorem Rep.lst {xs : List D} {a : Addr} {vs : List V} (h : W.F a = some (.lst vs)) (r : Reps K W xs vs) : Rep K W (.lst xs) (.ref a) := by simp only [Rep]; exact ⟨a, vs, rfl, h, r⟩
theorem Rep.tup {xs : List D} {a : Addr} {vs : List V} (h : W.F a = some (.tup vs)) (r : Reps K W xs vs) : Rep K W (.tup xs) (.ref a) := by simp only [Rep]; exact ⟨a, vs, rfl, .of h, r⟩
end

/-! ### the static tables and the state -/
structure Tab where
  fnm : Nat → Option (Str × List Str)
  cnm : Nat → Option Str
  gnm : Nat → Option Str
  fld : Nat → Str
  kn : Nat → Bool
  fk : Nat → Bool
structure Gw where
  G : Gt
  fns : Nat → Option Fn
  tb : Tab
  ca : Nat → Addr
  fa : Nat → Addr
  fd : Nat → FuncData

def fldV (g : Gw) (fs : List (Nat × D)) (vs : List V) : List (Str × V) := (fs.map fun p => g.tb.fld p.1).zip vs
def ObR (g : Gw) (K : W.Frag) (W : Wd) (a : Addr) : MO → Prop
  | .lst xs => W.F a = none ∧ ∃ vs, W.H a = some (.lst vs) ∧ Reps K W xs vs
  | .dic ks ds => W.F a = none ∧ ∃ vs, W.H a = some (.dK (ks.zip vs)) ∧ ks.length = vs.length ∧ Reps K W ds vs
  | .ins c fs => W.F a = none ∧ ∃ dx vs, W.H a = some (.ins (g.ca c) dx (fldV g fs vs)) ∧ Reps K W (fs.map (·.2)) vs ∧ g.tb.kn c = true ∧ ∀ p ∈ fs, g.tb.fk p.1 = true
  | .dead => W.H a ≠ none
structure SR (g : Gw) (K : W.Frag) (W : Wd) (M : Mem) : Prop where
  sub : ∀ a o, W.F a = some o → W.H a = some o
  nod : W.m.Nodup
  len : W.m.length = M.length
  obj : ∀ (j : Nat) (a : Addr) (o : MO), W.m[j]? = some a → M[j]? = some o → ObR g K W a o

structure ER (K : W.Frag) (W : Wd) (σ : St) (env : Env) : Prop where
  at_ : ∀ (i : Nat) (d : D), env[i]? = some (some d) → ∃ v, σ[i]? = some (some v) ∧ Rep K W d v
  len : env.length = σ.length
theorem ER.mono {K : W.Frag} {W W' : Wd} {σ : St} {env : Env} (x : Ext W W') (h : ER K W σ env) : ER K W' σ env :=
  ⟨fun i d e => let ⟨v, a, b⟩ := h.at_ i d e; ⟨v, a, b.mono x⟩, h.len⟩

def XR (g : Gw) (K : W.Frag) (W : Wd) (c : Nat) (d : Option D) (cls : Value) (dx : Option Addr) : Prop :=
  cls = .ref (g.ca c) ∧ match d with
    | none => True
    | some d => ∃ a f v, dx = some a ∧ W.H a = some (.xd [(f, v)]) ∧ Rep K W d v

/-- what an outcome is worth: of every state that it may stand for, the wish holds -/
def Run (g : Gw) (K : W.Frag) (W : Wd) {α β : Type} (Rp : Wd → α → β → Prop) (r : R α) (Q : β → Hp → Prop) (Zx : XK) : Prop :=
  match r with
  | .ok d M' => ∀ v W', Ext W W' → SR g K W' M' → Rp W' d v → Q v W'.H
  | .ex c d M' => ∀ cls dx W', Ext W W' → SR g K W' M' → XR g K W' c d cls dx → Zx cls dx W'.H
  | .no => False
section
variable {g : Gw} {K : W.Frag} {W W1 : Wd} {α β γ δ : Type} {Rp : Wd → α → β → Prop} {Sp' : Wd → γ → δ → Prop} {r : R α} {Q : β → Hp → Prop} {P : β → Hp → Prop} {Zx : XK}
theorem Run.mono (x : Ext W W1) (h : Run g K W Rp r Q Zx) : Run g K W1 Rp r Q Zx := by
  cases r with
  | ok d M => exact fun v W' y => h v W' (x.trans y)
  | ex c d M => exact fun cls dx W' y => h cls dx W' (x.trans y)
  | no => exact h
theorem Run.imp (h : Run g K W Rp r Q Zx) (hQ : ∀ v W' d M', r = .ok d M' → Ext W W' → SR g K W' M' → Rp W' d v → Q v W'.H → P v W'.H) : Run g K W Rp r P Zx := by
  cases r with
  | ok d M => exact fun v W' y s q => hQ v W' d M rfl y s q (h v W' y s q)
  | ex c d M => exact h
  | no => exact h
theorem Run.bind {k : α → Mem → R γ} {Q : δ → Hp → Prop} (h : Run g K W Sp' (r.bind k) Q Zx)
    (hk : ∀ d M1 v W1, r = .ok d M1 → Ext W W1 → SR g K W1 M1 → Rp W1 d v → Run g K W1 Sp' (k d M1) Q Zx → P v W1.H) : Run g K W Rp r P Zx := by
  cases r with
  | ok d M => exact fun v W' y s q => hk d M v W' rfl y s q (Run.mono y h)
  | ex c d M => exact h
  | no => exact h
theorem Run.okI {d : α} {M : Mem} (h : Run g K W Rp (.ok d M) Q Zx) {v : β} {W' : Wd} (x : Ext W W') (s : SR g K W' M) (q : Rp W' d v) : Q v W'.H := h v W' x s q
theorem Run.ofI {o : Option α} {M : Mem} (h : Run g K W Rp (R.of o M) Q Zx) : ∃ d, o = some d ∧ Run g K W Rp (.ok d M) Q Zx := by
  cases o with
  | none => exact h.elim
  | some d => exact ⟨d, rfl, h⟩
theorem Run.noI (h : Run g K W Rp (.no : R α) Q Zx) : False := h
end

/-! ### readings weakened -/
theorem peI {X : Cx} {e : Expr} {t t' : TE} (h : PE X e t) (i : ∀ σ H Q, t' σ H Q → t σ H Q) : PE X e t' := ⟨fun p s σ H Q I q => h.run p s σ H Q I (i σ H Q q)⟩
theorem ptI {X : Cx} {e : Expr} {t t' : TT} (h : PT X e t) (i : ∀ σ H Q, t' σ H Q → t σ H Q) : PT X e t' := ⟨fun p s σ H Q I q => h.run p s σ H Q I (i σ H Q q)⟩
theorem pwI {X : Cx} {e : Expr} {t t' : TT} (h : PW X e t) (i : ∀ σ H Q, t' σ H Q → t σ H Q) : PW X e t' := ⟨fun wh p s σ H Q I q => h.run wh p s σ H Q I (i σ H Q q)⟩
theorem paI {X : Cx} {es : List Expr} {t t' : TA} (h : PA X es t) (i : ∀ σ H Q, t' σ H Q → t σ H Q) : PA X es t' := ⟨fun ps p s σ H Q I q => h.run ps p s σ H Q I (i σ H Q q)⟩
theorem psI {X : Cx} {st : Stmt} {t t' : TS} (h : PS X st t) (i : ∀ D σ H, t' D σ H → t D σ H) : PS X st t' := ⟨fun p s σ H D I q => h.run p s σ H D I (i D σ H q)⟩
theorem pssI {X : Cx} {st : List Stmt} {t t' : TS} (h : PSs X st t) (i : ∀ D σ H, t' D σ H → t D σ H) : PSs X st t' := ⟨fun p s σ H D I q => h.run p s σ H D I (i D σ H q)⟩
end Z
end
section
set_option Elab.async false
set_option linter.all false
set_option maxRecDepth 100000
set_option maxHeartbeats 4000000
/-! Zx: expressions: if the interpreter gives it, the machine gives it. -/
namespace Z
open PySem L2

abbrev clN (g : Gw) (n : Nat) : Nat → List D → Mem → R D := callI g.G g.fns n
abbrev atS (Zx : WX) (σ : St) : XK := fun c d H => Zx c d σ H

section
variable (g : Gw) (K : W.Frag) (n : Nat)
def tE (e : E) (Zx : WX) : TE := fun σ H Q => ∃ W M env, W.H = H ∧ SR g K W M ∧ ER K W σ env ∧ Run g K W (Rep K) (ev g.G (clN g n) e env M) Q (atS Zx σ)
def tT (e : E) (Zx : WX) : TT := fun σ H Q => ∃ W M env, W.H = H ∧ SR g K W M ∧ ER K W σ env ∧ Run g K W (fun _ a b => a = b) (tst (ev g.G (clN g n) e env M)) Q (atS Zx σ)
def tA (es : Es) (Zx : WX) : TA := fun σ H Q => ∃ W M env, W.H = H ∧ SR g K W M ∧ ER K W σ env ∧ Run g K W (Reps K) (evs g.G (clN g n) es env M) Q (atS Zx σ)
/-- a new list, of which nobody knows -/
def RepF (W0 W : Wd) (d : D) (v : V) : Prop := ∃ p xs vs, d = .lst xs ∧ v = .ref p ∧ W.H p = some (.lst vs) ∧ W.F p = none ∧ p ∉ W.m ∧ W0.H p = none ∧ Reps K W xs vs
def tF (e : E) (Zx : WX) : TE := fun σ H Q => ∃ W M env, W.H = H ∧ SR g K W M ∧ ER K W σ env ∧
  (∀ d M', ev g.G (clN g n) e env M = .ok d M' → ∃ xs, d = .lst xs) ∧ Run g K W (RepF K W) (ev g.G (clN g n) e env M) Q (atS Zx σ)
end

section
variable {g : Gw} {K : W.Frag} {n : Nat} {W W' : Wd} {M : Mem} {a : Addr} {xs : List D} {vs : List V}
/-- a new list is taken into the trees -/
def Wd.free (W : Wd) (p : Addr) (vs : List V) : Wd := { W with F := upd W.F p (.lst vs) }
theorem Ext.tree {W0 : Wd} {p : Addr} (x : Ext W0 W) (h : W.H p = some (.lst vs)) (f : W.F p = none) (h0 : W0.H p = none) : Ext W0 (W.free p vs) := by
  refine ⟨x.m, fun b o e => ?_, fun b e f' z => ?_, x.H, x.nn⟩
  · have e' := x.F b o e
    show upd W.F p _ b = _
    rw [upd_ne (by rintro rfl; rw [f] at e'; cases e')]
    exact e'
  · show upd W.F p _ b = _
    rw [upd_ne (by rintro rfl; exact e h0)]
    exact x.new b e f' z
theorem lean_free {p : Addr} (f : W.F p = none) : LeansOn W (W.free p vs) := ⟨fun _ _ h => h, fun b o e => by
  show upd W.F p _ b = _
  rw [upd_ne (by rintro rfl; rw [f] at e; cases e)]; exact e⟩
theorem ObR.lean {o : MO} (x : LeansOn W W') (hH : W'.H a = W.H a) (hF : W.F a = none → W'.F a = none) (h : ObR g K W a o) : ObR g K W' a o := by
  cases o with
  | lst xs => obtain ⟨f, vs, e, r⟩ := h; exact ⟨hF f, vs, by rw [hH]; exact e, r.lean x⟩
  | dic ks ds => obtain ⟨f, vs, e, l, r⟩ := h; exact ⟨hF f, vs, by rw [hH]; exact e, l, r.lean x⟩
  | ins c fs => obtain ⟨f, dx, vs, e, r, rk⟩ := h; exact ⟨hF f, dx, vs, by rw [hH]; exact e, r.lean x, rk⟩
  | dead => show W'.H a ≠ none; rw [hH]; exact h
theorem SR.tree {p : Addr} (S : SR g K W M) (h : W.H p = some (.lst vs)) (f : W.F p = none) (hm : p ∉ W.m) : SR g K (W.free p vs) M := by
  refine ⟨fun b o e => ?_, S.nod, S.len, fun j b o e1 e2 => (S.obj j b o e1 e2).lean (lean_free f) rfl fun z => ?_⟩
  · by_cases hb : b = p
    · subst hb
      have e' : some (HO.lst vs) = some o := (upd_same (H := W.F)).symm.trans e
      rw [← e']; exact h
    · exact S.sub b o ((upd_ne hb).symm.trans e)
  · show upd W.F p _ b = none
    rw [upd_ne (by rintro rfl; exact hm (List.mem_of_getElem? e1))]; exact z
theorem RepF.tree {W0 : Wd} {d : D} {v : V} (x : Ext W0 W) (S : SR g K W M) (h : RepF K W0 W d v) : ∃ W', Ext W0 W' ∧ SR g K W' M ∧ Rep K W' d v ∧ W'.H = W.H := by
  obtain ⟨p, xs, vs, rfl, rfl, h1, h2, h3, h4, r⟩ := h
  exact ⟨W.free p vs, x.tree h1 h2 h4, S.tree h1 h2 h3, .lst upd_same (r.lean (lean_free h2)), rfl⟩
/-- .. or into the store -/
def Wd.put (W : Wd) (p : Addr) : Wd := { W with m := W.m ++ [p] }
theorem lean_put {p : Addr} : LeansOn W (W.put p) := ⟨fun j b h => by
  show (W.m ++ [p])[j]? = some b
  rw [List.getElem?_append_left]
  · exact h
  · exact (List.getElem?_eq_some_iff.mp h).1, fun _ _ h => h⟩
theorem Ext.put {W0 : Wd} {p : Addr} (x : Ext W0 W) (h0 : W0.H p = none) : Ext W0 (W.put p) := by
  obtain ⟨t, e, q⟩ := x.m
  refine ⟨⟨t ++ [p], by show W.m ++ [p] = _; rw [e, List.append_assoc], fun b hb => ?_⟩, x.F, x.new, x.H, x.nn⟩
  rcases List.mem_append.mp hb with z | z
  · exact q b z
  · rw [List.mem_singleton.mp z]; exact h0
theorem SR.put {p : Addr} {o : MO} (S : SR g K W M) (hm : p ∉ W.m) (h : ObR g K (W.put p) p o) : SR g K (W.put p) (M ++ [o]) := by
  refine ⟨S.sub, List.nodup_append.mpr ⟨S.nod, by simp, fun b hb c hc => ?_⟩, by show (W.m ++ [p]).length = _; simp [S.len], fun j b u e1 e2 => ?_⟩
  · rw [List.mem_singleton.mp hc]; rintro rfl; exact hm hb
  · by_cases hj : j < W.m.length
    · have e1' : W.m[j]? = some b := by
        have : (W.m ++ [p])[j]? = some b := e1
        rw [List.getElem?_append_left hj] at this; exact this
      rw [List.getElem?_append_left (by rw [← S.len]; exact hj)] at e2
      exact (S.obj j b u e1' e2).lean lean_put rfl id
    · have e1' : (W.m ++ [p])[j]? = some b := e1
      rw [List.getElem?_append_right (by omega)] at e1'
      rw [List.getElem?_append_right (by rw [← S.len]; omega)] at e2
      rw [← S.len] at e2
      have hj0 : j - W.m.length = 0 := by
        have := (List.getElem?_eq_some_iff.mp e1').1
        simp at this; omega
      rw [hj0] at e1' e2
      simp at e1' e2
      subst e1' e2
      exact h
end

section
variable {g : Gw} {X : Cx} {n : Nat} {x y z : Expr} {e a b c : E} {Zx : WX} {pos : Pos}
theorem tree_imp {K : W.Frag} (al : ∀ env M d M', ev g.G (clN g n) e env M = .ok d M' → ∃ xs, d = .lst xs) : ∀ σ H Q, tE g K n e Zx σ H Q → tF g K n e Zx σ H Q := by
  refine fun σ H Q ⟨W, M, env, hH, S, Er, r⟩ => ⟨W, M, env, hH, S, Er, al env M, ?_⟩
  cases q : ev g.G (clN g n) e env M with
  | ok d M' =>
    rw [q] at r
    intro v W' x' S' f
    obtain ⟨W2, x2, S2, r2, e2⟩ := f.tree x' S'
    rw [← e2]
    exact r v W2 x2 S2 r2
  | ex c d M' => rw [q] at r; exact r
  | no => rw [q] at r; exact r
theorem peTree (h : PE X x (tF g X.K n e Zx)) (al : ∀ env M d M', ev g.G (clN g n) e env M = .ok d M' → ∃ xs, d = .lst xs) : PE X x (tE g X.K n e Zx) := peI h (tree_imp al)
theorem alloc_imp {K : W.Frag} (al : ∀ env M d M', ev g.G (clN g n) (.alloc e) env M = .ok d M' → ∀ d' M'', ev g.G (clN g n) e env M = .ok d' M'' → ∃ xs, d' = .lst xs) : ∀ σ H Q, tE g K n (.alloc e) Zx σ H Q → tF g K n e Zx σ H Q := by
  refine fun σ H Q ⟨W, M, env, hH, S, Er, r⟩ => ⟨W, M, env, hH, S, Er, ?_, ?_⟩
  · intro d M' q
    cases q2 : ev g.G (clN g n) (.alloc e) env M with
    | ok d2 M2 => exact al env M d2 M2 q2 d M' q
    | ex c d2 M2 => 
      simp only [ev, q, R.bind_ok] at q2
      cases d <;> simp at q2
    | no => rw [q2] at r; exact r.elim
  · simp only [ev] at r
    cases q : ev g.G (clN g n) e env M with
    | ok d M' =>
      rw [q] at r
      simp only [R.bind_ok] at r
      intro v W' x' S' f
      obtain ⟨p, xs, vs, rfl, rfl, h1, h2, h3, h4, rr⟩ := f
      have S2 := S'.put (o := .lst xs) h3 ⟨h2, vs, h1, rr.lean lean_put⟩
      refine Run.okI r (W' := W'.put p) (x'.put h4) S2 ?_
      simp only [Rep]
      refine ⟨p, ?_, rfl⟩
      show (W'.m ++ [p])[M'.length]? = some p
      rw [← S'.len]; simp
    | ex c d M' => rw [q] at r; exact r
    | no => rw [q] at r; exact r
theorem peAlloc (h : PE X x (tF g X.K n e Zx)) (al : ∀ env M d M', ev g.G (clN g n) (.alloc e) env M = .ok d M' → ∀ d' M'', ev g.G (clN g n) e env M = .ok d' M'' → ∃ xs, d' = .lst xs) : PE X x (tE g X.K n (.alloc e) Zx) := peI h (alloc_imp al)

/-! ### names, constants, displays -/
theorem s_var {i : Nat} {nm : Str} (hN : X.N[i]? = some nm) (hv : Vis X.env.scope nm) (hd : (nm == ("__debug__" : Str)) = false) (hc : (nm == ("__classdict__" : Str)) = false) : PE X (.Name nm pos) (tE g X.K n (.var i) Zx) := by
  refine peI (pe_var (i := i) hN hv hd hc) fun σ H Q ⟨W, M, env, hH, S, Er, r⟩ => ?_
  simp only [ev] at r
  cases q : env[i]? with
  | none => rw [q] at r; exact r.elim
  | some o =>
    cases o with
    | none => rw [q] at r; exact r.elim
    | some d =>
      rw [q] at r
      obtain ⟨v, e1, e2⟩ := Er.at_ i d q
      subst hH
      exact ⟨v, e1, Run.okI r (Ext.refl W) S e2⟩
theorem s_lit {d : D} {v : V} (h : PE X x (tC v)) (hr : ∀ W, Rep X.K W d v) : PE X x (tE g X.K n (.lit d) Zx) :=
  peI h fun σ H Q ⟨W, M, env, hH, S, Er, r⟩ => by
    subst hH
    simp only [ev] at r
    exact Run.okI r (Ext.refl W) S (hr W)
theorem s_glob {k : Nat} {v : V} (h : PE X x (tC v)) (hr : ∀ W, Rep X.K W (g.G.gl k) v) : PE X x (tE g X.K n (.glob k) Zx) :=
  peI h fun σ H Q ⟨W, M, env, hH, S, Er, r⟩ => by
    subst hH
    simp only [ev] at r
    exact Run.okI r (Ext.refl W) S (hr W)
theorem s_nil : PA X [] (tA g X.K n .nil Zx) := paI pa_nil fun σ H Q ⟨W, M, env, hH, S, Er, r⟩ => by
  subst hH
  simp only [evs] at r
  exact Run.okI r (Ext.refl W) S Reps.nil
theorem s_cons {es : Es} {ys : List Expr} (h : PE X x (tE g X.K n e Zx)) (hs : PA X ys (tA g X.K n es Zx)) (hst : starEach (x :: ys) X.env = (false, eval x X.env) :: starEach ys X.env) : PA X (x :: ys) (tA g X.K n (.cons e es) Zx) :=
  paI (pa_cons h hs hst) fun σ H Q ⟨W, M, env, hH, S, Er, r⟩ => by
    simp only [evs] at r
    refine ⟨W, M, env, hH, S, Er, r.bind fun d M1 v W1 _ X1 S1 R1 r1 => ?_⟩
    refine ⟨W1, M1, env, rfl, S1, Er.mono X1, r1.bind fun ds M2 vs W2 _ X2 S2 R2 r2 => ?_⟩
    exact Run.okI r2 (Ext.refl W2) S2 (Reps.cons (R1.mono X2) R2)
def Wd.nH (W : Wd) (p : Addr) (o : HO) : Wd := { W with H := upd W.H p o }
def Wd.nF (W : Wd) (p : Addr) (o : HO) : Wd := { W with H := upd W.H p o, F := upd W.F p o }
theorem lean_nH {W : Wd} {p : Addr} {o : HO} : LeansOn W (W.nH p o) := ⟨fun _ _ z => z, fun _ _ z => z⟩
theorem lean_nF {W : Wd} {p : Addr} {o : HO} (h : W.F p = none) : LeansOn W (W.nF p o) := ⟨fun _ _ z => z, fun b u e => by
  show upd W.F p o b = _
  rw [upd_ne (by rintro rfl; rw [h] at e; cases e)]; exact e⟩
theorem ext_new {W : Wd} {p : Addr} {o : HO} (h : W.H p = none) : Ext W (W.nH p o) :=
  ⟨⟨[], (List.append_nil _).symm, by simp⟩, fun _ _ e => e, fun _ _ e _ => e, fun b u e _ => by
    show upd W.H p o b = _
    rw [upd_ne (by rintro rfl; rw [h] at e; cases e)]; exact e, fun b e => by
    show upd W.H p o b ≠ _
    by_cases hb : b = p
    · subst hb; rw [upd_same]; simp
    · rw [upd_ne hb]; exact e⟩
theorem ext_newF {W : Wd} {p : Addr} {o : HO} (h : W.H p = none) (hf : W.F p = none) : Ext W (W.nF p o) := by
  have x := ext_new (o := o) h
  refine ⟨x.m, (lean_nF hf).F, fun b e1 e2 _ => ?_, x.H, x.nn⟩
  show upd W.F p o b = _
  rw [upd_ne (by rintro rfl; exact e1 h)]; exact e2
theorem F_none {g : Gw} {K : W.Frag} {W : Wd} {M : Mem} (S : SR g K W M) {p : Addr} (h : W.H p = none) : W.F p = none := by
  cases q : W.F p with
  | none => rfl
  | some o => rw [S.sub p o q] at h; cases h
theorem m_none {g : Gw} {K : W.Frag} {W : Wd} {M : Mem} (S : SR g K W M) {p : Addr} (h : W.H p = none) : p ∉ W.m := fun z => by
  obtain ⟨j, hj⟩ := List.getElem?_of_mem z
  have hl : j < M.length := by rw [← S.len]; exact (List.getElem?_eq_some_iff.mp hj).1
  have := S.obj j p _ hj (List.getElem?_eq_getElem hl)
  cases q : M[j] with
  | lst xs => rw [q] at this; obtain ⟨_, vs, e, _⟩ := this; rw [h] at e; cases e
  | dic ks ds => rw [q] at this; obtain ⟨_, vs, e, _⟩ := this; rw [h] at e; cases e
  | ins c fs => rw [q] at this; obtain ⟨_, dx, vs, e, _⟩ := this; rw [h] at e; cases e
  | dead => rw [q] at this; exact this h
theorem SR.new {g : Gw} {K : W.Frag} {W : Wd} {M : Mem} {p : Addr} {o : HO} (S : SR g K W M) (h : W.H p = none) : SR g K (W.nH p o) M := by
  refine ⟨fun b u e => ?_, S.nod, S.len, fun j b u e1 e2 => ObR.lean lean_nH ?_ id (S.obj j b u e1 e2)⟩
  · show upd W.H p o b = _
    rw [upd_ne (by rintro rfl; have := S.sub _ _ e; rw [h] at this; cases this)]; exact S.sub b u e
  · show upd W.H p o b = _
    rw [upd_ne (by rintro rfl; exact m_none S h (List.mem_of_getElem? e1))]
theorem SR.newF {g : Gw} {K : W.Frag} {W : Wd} {M : Mem} {p : Addr} {o : HO} (S : SR g K W M) (h : W.H p = none) : SR g K (W.nF p o) M := by
  have hf := F_none S h
  refine ⟨fun b u e => ?_, S.nod, S.len, fun j b u e1 e2 => ObR.lean (lean_nF hf) ?_ (fun z => ?_) (S.obj j b u e1 e2)⟩
  · by_cases hb : b = p
    · subst hb
      show upd W.H b o b = some u
      have e' : upd W.F b o b = some u := e
      rw [upd_same] at e' ⊢; exact e'
    · have e' : upd W.F p o b = some u := e
      show upd W.H p o b = some u
      rw [upd_ne hb] at e' ⊢
      exact S.sub b u e'
  · show upd W.H p o b = _
    rw [upd_ne (by rintro rfl; exact m_none S h (List.mem_of_getElem? e1))]
  · show upd W.F p o b = none
    rw [upd_ne (by rintro rfl; exact m_none S h (List.mem_of_getElem? e1))]; exact z
/-- a new list object, as the fresh relation wants it -/
theorem repF_new {g : Gw} {K : W.Frag} {W0 W : Wd} {M : Mem} {p : Addr} {xs : List D} {vs : List V} (x : Ext W0 W) (S : SR g K W M) (h : W.H p = none) (r : Reps K W xs vs) :
    RepF K W0 (W.nH p (.lst vs)) (.lst xs) (.ref p) := by
  refine ⟨p, xs, vs, rfl, rfl, upd_same, F_none S h, m_none S h, ?_, r.lean lean_nH⟩
  cases q : W0.H p with
  | none => rfl
  | some o => exact absurd h (x.nn p (by rw [q]; simp))
theorem s_tup {es : Es} {ys : List Expr} {k : Nat} (h : PA X ys (tA g X.K n es Zx)) (hz : ys.length ≤ sizeLine) (hl : ∀ env M ds M', evs g.G (clN g n) es env M = .ok ds M' → ds.length = ys.length) : PE X (.Tuple ys k pos) (tE g X.K n (.tup es) Zx) :=
  peI (pe_tup h) fun σ H Q ⟨W, M, env, hH, S, Er, r⟩ => by
    simp only [ev] at r
    refine ⟨W, M, env, hH, S, Er, r.bind fun ds M1 vs W1 q X1 S1 R1 r1 => ⟨?_, fun p hp => ?_⟩⟩
    · rw [← R1.length, hl _ _ _ _ q]; exact hz
    · have hf := F_none S1 hp
      exact Run.okI r1 (W' := W1.nF p (.tup vs)) (ext_newF hp hf) (S1.newF hp) (.tup upd_same (R1.lean (lean_nF hf)))
theorem s_lstF {es : Es} {ys : List Expr} (h : PA X ys (tA g X.K n es Zx)) (hz : ys.length ≤ sizeLine) (hl : ∀ env M ds M', evs g.G (clN g n) es env M = .ok ds M' → ds.length = ys.length) : PE X (.List ys pos) (tF g X.K n (.lst es) Zx) :=
  peI (pe_lst h) fun σ H Q ⟨W, M, env, hH, S, Er, al, r⟩ => by
    simp only [ev] at r
    refine ⟨W, M, env, hH, S, Er, r.bind fun ds M1 vs W1 q X1 S1 R1 r1 => ⟨?_, fun p hp => ?_⟩⟩
    · rw [← R1.length, hl _ _ _ _ q]; exact hz
    · exact Run.okI r1 (W' := W1.nH p (.lst vs)) (ext_new hp) (S1.new hp) (repF_new X1 S1 hp R1)
end
end Z
end
section
set_option Elab.async false
set_option linter.all false
set_option maxRecDepth 100000
set_option maxHeartbeats 4000000
/-! Zx2: operators, comparisons, tests. -/
namespace Z
open PySem L2

section
variable {g : Gw} {K : W.Frag} {W : Wd} {M : Mem}
theorem asL_ok (S : SR g K W M) {d : D} {v : V} {xs : List D} (h : asL M d = some xs) (r : Rep K W d v) : ∃ a vs, v = .ref a ∧ W.H a = some (.lst vs) ∧ Reps K W xs vs := by
  cases d with
  | lst ys =>
    simp only [asL, Option.some.injEq] at h
    subst h
    simp only [Rep] at r
    obtain ⟨a, vs, e, f, q⟩ := r
    exact ⟨a, vs, e, S.sub _ _ f, q⟩
  | ref j =>
    simp only [asL] at h
    simp only [Rep] at r
    obtain ⟨a, e, f⟩ := r
    cases q : M[j]? with
    | none => rw [q] at h; simp at h
    | some o =>
      rw [q] at h
      cases o <;> simp at h
      subst h
      have := S.obj j a _ e q
      obtain ⟨_, vs, h1, h2⟩ := this
      exact ⟨a, vs, f, h1, h2⟩
  | _ => simp [asL] at h
theorem asS_ok (S : SR g K W M) {d : D} {v : V} {xs : List D} (h : asS M d = some xs) (r : Rep K W d v) : ∃ a vs, v = .ref a ∧ (SqL K W.H a vs ∨ SqT K W.H a vs) ∧ Reps K W xs vs := by
  have go : asL M d = some xs → ∃ a vs, v = .ref a ∧ (SqL K W.H a vs ∨ SqT K W.H a vs) ∧ Reps K W xs vs := fun h => by
    obtain ⟨a, vs, e, f, q⟩ := asL_ok S h r
    exact ⟨a, vs, e, .inl (.of f), q⟩
  cases d with
  | tup ys =>
    simp only [asS, Option.some.injEq] at h
    subst h
    simp only [Rep] at r
    obtain ⟨a, vs, e, f, q⟩ := r
    exact ⟨a, vs, e, .inr (sqT_mono S.sub f), q⟩
  | _ => exact go (by simpa [asS] using h)
theorem canAll : ∀ {ps : List PyData}, PyData.canLayAll0 ps = true → ∀ p ∈ ps, p.canLay0 = true
  | [], _, p, h => by simp at h
  | q :: ps, e, p, h => by
    simp only [PyData.canLayAll0, Bool.and_eq_true] at e
    rcases List.mem_cons.mp h with rfl | h
    · exact e.1
    · exact canAll e.2 p h
theorem mapO_dp {f : D → Option PyData} (hf : ∀ d v p, f d = some p → p.canLay0 = true → Rep K W d v → Dp K W.H v p) :
    ∀ {ds : List D} {ps : List PyData} {vs : List V}, mapO f ds = some ps → PyData.canLayAll0 ps = true → Reps K W ds vs → DpAll K W.H vs ps
  | [], ps, vs, h, c, r => by simp at h; subst h; rw [r.inv0]; exact .nil
  | d :: ds, ps, vs, h, c, r => by
    unfold mapO at h
    cases q : f d with
    | none => rw [q] at h; simp at h
    | some p =>
      rw [q] at h
      cases q2 : mapO f ds with
      | none => rw [q2] at h; simp at h
      | some qs =>
        rw [q2] at h; simp at h; subst h
        obtain ⟨v, us, rfl, r1, r2⟩ := r.inv
        simp only [PyData.canLayAll0, Bool.and_eq_true] at c
        exact .cons (hf d v p q c.1 r1) (mapO_dp hf q2 c.2 r2)
theorem dpAll_ints : ∀ ns : List Int, DpAll K W.H (ns.map V.int) (ns.map PyData.int)
  | [] => .nil
  | n :: ns => .cons (.int n) (dpAll_ints ns)
theorem py_dp (S : SR g K W M) : ∀ (n : Nat) (d : D) (v : V) (p : PyData), py M n d = some p → p.canLay0 = true → Rep K W d v → Dp K W.H v p
  | 0, d, v, p, h, c, r => by simp [py] at h
  | n + 1, d, v, p, h, c, r => by
    have ih := py_dp S n
    cases d with
    | non => simp [py] at h; subst h; simp only [Rep] at r; subst r; exact .non
    | bl b => simp [py] at h; subst h; simp only [Rep] at r; subst r; exact .bl b
    | int b => simp [py] at h; subst h; simp only [Rep] at r; subst r; exact .int b
    | str b => simp [py] at h; subst h; simp only [Rep] at r; subst r; exact .str b
    | lst xs =>
      simp only [py, Option.map_eq_some_iff] at h
      obtain ⟨ps, h, rfl⟩ := h
      simp only [Rep] at r
      obtain ⟨a, vs, rfl, f, q⟩ := r
      exact .lst (.of (S.sub _ _ f)) (mapO_dp ih h (by simpa [PyData.canLay0] using c) q)
    | tup xs =>
      simp only [py, Option.map_eq_some_iff] at h
      obtain ⟨ps, h, rfl⟩ := h
      simp only [Rep] at r
      obtain ⟨a, vs, rfl, f, q⟩ := r
      exact .tup (sqT_mono S.sub f) (mapO_dp ih h (by simpa [PyData.canLay0] using c) q)
    | dct ks ds =>
      simp only [py, Option.map_eq_some_iff] at h
      obtain ⟨ps, h, rfl⟩ := h
      simp [PyData.canLay0] at c
    | scr ns =>
      simp only [py, Option.some.injEq] at h
      subst h
      simp only [Rep] at r
      obtain ⟨a, rfl, f⟩ := r
      exact .lst (sqL_mono S.sub f) (dpAll_ints ns)
    | ref j =>
      simp only [py] at h
      cases q : M[j]? with
      | none => rw [q] at h; simp at h
      | some o =>
        rw [q] at h
        cases o <;> simp at h
        rename_i xs
        obtain ⟨ps, h, rfl⟩ := h
        simp only [Rep] at r
        obtain ⟨a, e, rfl⟩ := r
        obtain ⟨_, vs, h1, h2⟩ := S.obj j a _ e q
        exact .lst (.of h1) (mapO_dp ih h (by simpa [PyData.canLay0] using c) h2)
end

theorem bop_add {M : Mem} {x y d : D} (h : bop .add M x y = some d) :
    (∃ i j, x = .int i ∧ y = .int j ∧ d = .int (i + j)) ∨ (∃ a b, x = .str a ∧ y = .str b ∧ a.length + b.length ≤ sizeLine ∧ d = .str (a ++ b)) ∨
    (∃ a b, x = .tup a ∧ y = .tup b ∧ a.length ≠ 0 ∧ a.length + b.length ≤ sizeLine ∧ d = .tup (a ++ b)) ∨
    (∃ a b, asL M x = some a ∧ asL M y = some b ∧ a.length + b.length ≤ sizeLine ∧ d = .lst (a ++ b)) := by
  have gen : (match asL M x, asL M y with
      | some xs, some ys => if xs.length + ys.length ≤ sizeLine then some (D.lst (xs ++ ys)) else none
      | _, _ => none) = some d → (∃ a b, asL M x = some a ∧ asL M y = some b ∧ a.length + b.length ≤ sizeLine ∧ d = .lst (a ++ b)) := fun h => by
    cases q : asL M x with
    | none => rw [q] at h; simp at h
    | some a =>
      cases q2 : asL M y with
      | none => rw [q, q2] at h; simp at h
      | some b =>
        rw [q, q2] at h
        simp only at h
        split at h
        · rename_i hz
          exact ⟨a, b, rfl, rfl, hz, (Option.some.inj h).symm⟩
        · cases h
  unfold bop at h
  cases x <;> cases y <;> first
    | exact .inr (.inr (.inr (gen h)))
    | (simp only at h; first
        | exact .inl ⟨_, _, rfl, rfl, (Option.some.inj h).symm⟩
        | (split at h
           · rename_i hz
             first
               | exact .inr (.inl ⟨_, _, rfl, rfl, hz, (Option.some.inj h).symm⟩)
               | exact .inr (.inr (.inl ⟨_, _, rfl, rfl, hz.1, hz.2, (Option.some.inj h).symm⟩))
           · cases h))
theorem bop_mul {M : Mem} {x y d : D} (h : bop .mul M x y = some d) :
    (∃ i j, x = .int i ∧ y = .int j ∧ CMul i j ∧ d = .int (i * j)) ∨
    (∃ a k, asL M x = some a ∧ y = .int k ∧ -(2 ^ 63) ≤ k ∧ k < 2 ^ 63 ∧ a.length * k.toNat ≤ sizeLine ∧ d = .lst (List.replicate k.toNat a).flatten) := by
  have gen : ∀ k, (match asL M x with
      | some xs => if -(2 ^ 63) ≤ k ∧ k < 2 ^ 63 ∧ xs.length * k.toNat ≤ sizeLine then some (D.lst (List.replicate k.toNat xs).flatten) else none
      | none => none) = some d → ∃ a, asL M x = some a ∧ -(2 ^ 63) ≤ k ∧ k < 2 ^ 63 ∧ a.length * k.toNat ≤ sizeLine ∧ d = .lst (List.replicate k.toNat a).flatten := fun k h => by
    cases q : asL M x with
    | none => rw [q] at h; simp at h
    | some a =>
      rw [q] at h
      simp only at h
      split at h
      · rename_i hz
        exact ⟨a, rfl, hz.1, hz.2.1, hz.2.2, (Option.some.inj h).symm⟩
      · cases h
  unfold bop at h
  cases y with
  | int k =>
    cases x with
    | int i =>
      simp only at h
      split at h
      · rename_i hz
        exact .inl ⟨_, _, rfl, rfl, hz, (Option.some.inj h).symm⟩
      · cases h
    | _ =>
      obtain ⟨a, e, h1, h2, h3, h4⟩ := gen k h
      exact .inr ⟨a, k, e, rfl, h1, h2, h3, h4⟩
  | _ => cases x <;> simp at h
def intOp (op : Bop) : Bool := match op with | .add | .mul => false | _ => true
theorem bop_int {M : Mem} {op : Bop} {x y d : D} (ho : intOp op = true) (h : bop op M x y = some d) : ∃ i j, x = .int i ∧ y = .int j := by
  cases op <;> simp only [intOp] at ho <;> first
    | exact absurd ho (by decide)
    | (unfold bop at h; cases x <;> cases y <;> simp at h <;> exact ⟨_, _, rfl, rfl⟩)

def bopM : Bop → Operator
  | .add => .Add | .sub => .Sub | .mul => .Mult | .div => .FloorDiv | .mod => .Mod | .pow => .Pow | .shl => .LShift | .shr => .RShift
  | .band => .BitAnd | .bor => .BitOr | .bxor => .BitXor

section
variable {g : Gw} {X : Cx} {n : Nat} {x y z : Expr} {e a b c : E} {Zx : WX} {pos : Pos}
/-- two operands, then an operator: the general step -/
theorem two_step {ta : R2} {k : D → D → Mem → R D} {σ : St} {H : Hp} {Q : VK} {Wm : Wd} {M : Mem} {env : Env} (S : SR g X.K Wm M) (Er : ER X.K Wm σ env) (hH : Wm.H = H)
    (r : Run g X.K Wm (Rep X.K) ((ev g.G (clN g n) a env M).bind fun u M => (ev g.G (clN g n) b env M).bind fun v M => k u v M) Q (atS Zx σ))
    (h : ∀ u v M2 W2 p q, Ext Wm W2 → SR g X.K W2 M2 → Rep X.K W2 u p → Rep X.K W2 v q → Run g X.K W2 (Rep X.K) (k u v M2) Q (atS Zx σ) → ta p q W2.H Q) :
    tOp ta (tE g X.K n a Zx) (tE g X.K n b Zx) σ H Q := by
  refine ⟨Wm, M, env, hH, S, Er, r.bind fun u M1 p W1 _ X1 S1 R1 r1 => ?_⟩
  refine ⟨W1, M1, env, rfl, S1, Er.mono X1, r1.bind fun v M2 q W2 _ X2 S2 R2 r2 => ?_⟩
  exact h u v M2 W2 p q (X1.trans X2) S2 (R1.mono X2) R2 r2
theorem s_bin {op : Bop} (ha : PE X x (tE g X.K n a Zx)) (hb : PE X y (tE g X.K n b Zx)) : PE X (.BinOp x (bopM op) y pos) (tE g X.K n (.bin op a b) Zx) := by
  have int1 : ∀ {op : Operator} {bo : Bop} {r : R2}, OpR X (binaryOp op) r → intOp bo = true → (∀ i j d M, bop bo M (.int i) (.int j) = some d → ∀ H Q, (∀ v, (∃ k, d = .int k ∧ v = V.int k) → Q v H) → r (.int i) (.int j) H Q) →
      PE X (.BinOp x op y pos) (tE g X.K n (.bin bo a b) Zx) := fun {op bo r} ho hi hr =>
    peI (pe_op ho ha hb) fun σ H Q ⟨W, M, env, hH, S, Er, rr⟩ => by
      simp only [ev] at rr
      refine two_step S Er hH rr fun u v M2 W2 p q _ S2 R1 R2 r2 => ?_
      obtain ⟨d, e, r3⟩ := r2.ofI
      obtain ⟨i, j, rfl, rfl⟩ := bop_int hi e
      simp only [Rep] at R1 R2
      subst R1; subst R2
      refine hr i j d M2 e _ _ fun v ⟨k, e1, e2⟩ => ?_
      subst e1; subst e2
      exact Run.okI r3 (Ext.refl _) S2 rep_int
  cases op with
  | add =>
    refine peI (pe_op (op_add.or (op_add_str.or (op_catT.or op_cat))) ha hb) fun σ H Q ⟨W, M, env, hH, S, Er, rr⟩ => ?_
    simp only [ev] at rr
    refine two_step S Er hH rr fun u v M2 W2 p q X2 S2 R1 R2 r2 => ?_
    obtain ⟨d, e, r3⟩ := r2.ofI
    rcases bop_add e with ⟨i, j, rfl, rfl, rfl⟩ | ⟨i, j, rfl, rfl, hz, rfl⟩ | ⟨i, j, rfl, rfl, h0, hz, rfl⟩ | ⟨i, j, hi, hj, hz, rfl⟩
    · simp only [Rep] at R1 R2
      subst R1; subst R2
      exact .inl ⟨i, j, rfl, rfl, Run.okI r3 (Ext.refl _) S2 rep_int⟩
    · simp only [Rep] at R1 R2
      subst R1; subst R2
      exact .inr (.inl ⟨i, j, rfl, rfl, hz, Run.okI r3 (Ext.refl _) S2 rep_str⟩)
    · simp only [Rep] at R1 R2
      obtain ⟨s, us, rfl, f1, q1⟩ := R1
      obtain ⟨t, ws, rfl, f2, q2⟩ := R2
      refine .inr (.inr (.inl ⟨s, t, us, ws, rfl, rfl, sqT_mono S2.sub f1, sqT_mono S2.sub f2, ?_, ?_, ?_, ?_⟩))
      · rintro rfl; exact h0 (by rw [q1.length]; rfl)
      · rw [← q1.length, ← q2.length]; exact hz
      · rintro rfl
        refine Run.okI r3 (Ext.refl _) S2 ?_
        have : j = [] := by have := q2.length; cases j with | nil => rfl | cons _ _ => simp at this
        subst this
        rw [List.append_nil]
        simp only [Rep]
        exact ⟨s, us, rfl, f1, q1⟩
      · intro hne p' hp
        have hf := F_none S2 hp
        exact Run.okI r3 (W' := W2.nF p' (.tup (us ++ ws))) (ext_newF hp hf) (S2.newF hp) (.tup upd_same ((q1.app q2).lean (lean_nF hf)))
    · obtain ⟨s, us, rfl, f1, q1⟩ := asL_ok S2 hi R1
      obtain ⟨t, ws, rfl, f2, q2⟩ := asL_ok S2 hj R2
      refine .inr (.inr (.inr ⟨s, t, us, ws, rfl, rfl, f1, f2, by rw [← q1.length, ← q2.length]; exact hz, fun p' hp => ?_⟩))
      have hf := F_none S2 hp
      exact Run.okI r3 (W' := W2.nF p' (.lst (us ++ ws))) (ext_newF hp hf) (S2.newF hp) (.lst upd_same ((q1.app q2).lean (lean_nF hf)))
  | mul =>
    refine peI (pe_op (op_mul.or op_rep) ha hb) fun σ H Q ⟨W, M, env, hH, S, Er, rr⟩ => ?_
    simp only [ev] at rr
    refine two_step S Er hH rr fun u v M2 W2 p q X2 S2 R1 R2 r2 => ?_
    obtain ⟨d, e, r3⟩ := r2.ofI
    rcases bop_mul e with ⟨i, j, rfl, rfl, hz, rfl⟩ | ⟨i, j, hi, rfl, h1, h2, hz, rfl⟩
    · simp only [Rep] at R1 R2
      subst R1; subst R2
      exact .inl ⟨i, j, rfl, rfl, hz, Run.okI r3 (Ext.refl _) S2 rep_int⟩
    · obtain ⟨s, us, rfl, f1, q1⟩ := asL_ok S2 hi R1
      simp only [Rep] at R2
      subst R2
      refine .inr ⟨s, j, us, rfl, rfl, f1, h1, h2, by rw [← q1.length]; exact hz, fun p' hp => ?_⟩
      have hf := F_none S2 hp
      exact Run.okI r3 (W' := W2.nF p' (.lst _)) (ext_newF hp hf) (S2.newF hp) (.lst upd_same ((q1.rep _).lean (lean_nF hf)))
  | sub =>
    exact int1 op_sub rfl fun i j d M e H Q k => by simp [bop] at e; exact ⟨i, j, rfl, rfl, k _ ⟨_, e.symm, rfl⟩⟩
  | div =>
    exact int1 op_fdiv rfl fun i j d M e H Q k => by
      simp only [bop] at e
      split at e
      · rename_i hz; exact ⟨i, j, rfl, rfl, hz, k _ ⟨_, (Option.some.inj e).symm, rfl⟩⟩
      · cases e
  | mod =>
    exact int1 op_mod rfl fun i j d M e H Q k => by
      simp only [bop] at e
      split at e
      · rename_i hz; exact ⟨i, j, rfl, rfl, hz, k _ ⟨_, (Option.some.inj e).symm, rfl⟩⟩
      · cases e
  | pow =>
    exact int1 op_pow rfl fun i j d M e H Q k => by
      simp only [bop] at e
      split at e
      · rename_i hz; exact ⟨i, j, rfl, rfl, hz, k _ ⟨_, (Option.some.inj e).symm, rfl⟩⟩
      · cases e
  | shl =>
    exact int1 op_shl rfl fun i j d M e H Q k => by
      simp only [bop] at e
      split at e
      · rename_i hz; exact ⟨i, j, rfl, rfl, hz, k _ ⟨_, (Option.some.inj e).symm, rfl⟩⟩
      · cases e
  | shr =>
    exact int1 op_shr rfl fun i j d M e H Q k => by
      simp only [bop] at e
      split at e
      · rename_i hz; exact ⟨i, j, rfl, rfl, hz, k _ ⟨_, (Option.some.inj e).symm, rfl⟩⟩
      · cases e
  | band =>
    exact int1 op_and rfl fun i j d M e H Q k => by simp [bop] at e; exact ⟨i, j, rfl, rfl, k _ ⟨_, e.symm, rfl⟩⟩
  | bor =>
    exact int1 op_or rfl fun i j d M e H Q k => by simp [bop] at e; exact ⟨i, j, rfl, rfl, k _ ⟨_, e.symm, rfl⟩⟩
  | bxor =>
    exact int1 op_xor rfl fun i j d M e H Q k => by simp [bop] at e; exact ⟨i, j, rfl, rfl, k _ ⟨_, e.symm, rfl⟩⟩
/-- a new list of an operator -/
theorem s_binF {op : Bop} (ho : op = .add ∨ op = .mul) (ha : PE X x (tE g X.K n a Zx)) (hb : PE X y (tE g X.K n b Zx)) : PE X (.BinOp x (bopM op) y pos) (tF g X.K n (.bin op a b) Zx) := by
  have step : ∀ {ta : R2} {k : D → D → Mem → R D} {σ : St} {H : Hp} {Q : VK} {Wm : Wd} {M : Mem} {env : Env}, SR g X.K Wm M → ER X.K Wm σ env → Wm.H = H →
      Run g X.K Wm (RepF X.K Wm) ((ev g.G (clN g n) a env M).bind fun u M => (ev g.G (clN g n) b env M).bind fun v M => k u v M) Q (atS Zx σ) →
      (∀ u v M1 M2 W2 p q, ev g.G (clN g n) a env M = .ok u M1 → ev g.G (clN g n) b env M1 = .ok v M2 → Ext Wm W2 → SR g X.K W2 M2 → Rep X.K W2 u p → Rep X.K W2 v q → Run g X.K W2 (RepF X.K Wm) (k u v M2) Q (atS Zx σ) → ta p q W2.H Q) →
      tOp ta (tE g X.K n a Zx) (tE g X.K n b Zx) σ H Q := fun {ta k σ H Q Wm M env} S Er hH r h => by
    refine ⟨Wm, M, env, hH, S, Er, r.bind fun u M1 p W1 e1 X1 S1 R1 r1 => ?_⟩
    refine ⟨W1, M1, env, rfl, S1, Er.mono X1, r1.bind fun v M2 q W2 e2 X2 S2 R2 r2 => ?_⟩
    exact h u v M1 M2 W2 p q e1 e2 (X1.trans X2) S2 (R1.mono X2) R2 r2
  rcases ho with rfl | rfl
  · refine peI (pe_op op_cat ha hb) fun σ H Q ⟨W, M, env, hH, S, Er, al, rr⟩ => ?_
    simp only [ev] at rr al
    refine step S Er hH rr fun u v M1 M2 W2 p q e1 e2 X2 S2 R1 R2 r2 => ?_
    obtain ⟨d, e, r3⟩ := r2.ofI
    obtain ⟨xs, rfl⟩ := al d M2 (by simp only [e1, e2, R.bind_ok, e, R.of_some])
    rcases bop_add e with ⟨i, j, rfl, rfl, h⟩ | ⟨i, j, rfl, rfl, hz, h⟩ | ⟨i, j, rfl, rfl, h0, hz, h⟩ | ⟨i, j, hi, hj, hz, h⟩
    · cases h
    · cases h
    · cases h
    · cases h
      obtain ⟨s, us, rfl, f1, q1⟩ := asL_ok S2 hi R1
      obtain ⟨t, ws, rfl, f2, q2⟩ := asL_ok S2 hj R2
      refine ⟨s, t, us, ws, rfl, rfl, f1, f2, by rw [← q1.length, ← q2.length]; exact hz, fun p' hp => ?_⟩
      exact Run.okI r3 (W' := W2.nH p' (.lst (us ++ ws))) (ext_new hp) (S2.new hp) (repF_new X2 S2 hp (q1.app q2))
  · refine peI (pe_op op_rep ha hb) fun σ H Q ⟨W, M, env, hH, S, Er, al, rr⟩ => ?_
    simp only [ev] at rr al
    refine step S Er hH rr fun u v M1 M2 W2 p q e1 e2 X2 S2 R1 R2 r2 => ?_
    obtain ⟨d, e, r3⟩ := r2.ofI
    obtain ⟨xs, rfl⟩ := al d M2 (by simp only [e1, e2, R.bind_ok, e, R.of_some])
    rcases bop_mul e with ⟨i, j, rfl, rfl, hz, h⟩ | ⟨i, j, hi, rfl, h1, h2, hz, h⟩
    · cases h
    · cases h
      obtain ⟨s, us, rfl, f1, q1⟩ := asL_ok S2 hi R1
      simp only [Rep] at R2
      subst R2
      refine ⟨s, j, us, rfl, rfl, f1, h1, h2, by rw [← q1.length]; exact hz, fun p' hp => ?_⟩
      exact Run.okI r3 (W' := W2.nH p' (.lst _)) (ext_new hp) (S2.new hp) (repF_new X2 S2 hp (q1.rep _))
theorem s_inv (ha : PE X x (tE g X.K n a Zx)) : PE X (.UnaryOp .Invert x pos) (tE g X.K n (.inv a) Zx) :=
  peI (pe_un un_inv ha) fun σ H Q ⟨W, M, env, hH, S, Er, r⟩ => by
    simp only [ev] at r
    refine ⟨W, M, env, hH, S, Er, r.bind fun u M1 p W1 _ X1 S1 R1 r1 => ?_⟩
    obtain ⟨d, e, r3⟩ := r1.ofI
    cases u <;> simp [asInt] at e
    subst e
    simp only [Rep] at R1; subst R1
    exact ⟨_, rfl, Run.okI r3 (Ext.refl _) S1 rep_int⟩
theorem s_neg (ha : PE X x (tE g X.K n a Zx)) : PE X (.UnaryOp .USub x pos) (tE g X.K n (.neg a) Zx) :=
  peI (pe_un un_neg ha) fun σ H Q ⟨W, M, env, hH, S, Er, r⟩ => by
    simp only [ev] at r
    refine ⟨W, M, env, hH, S, Er, r.bind fun u M1 p W1 _ X1 S1 R1 r1 => ?_⟩
    obtain ⟨d, e, r3⟩ := r1.ofI
    cases u <;> simp [asInt] at e
    subst e
    simp only [Rep] at R1; subst R1
    exact ⟨_, rfl, Run.okI r3 (Ext.refl _) S1 rep_int⟩
end
end Z
end
section
set_option Elab.async false
set_option linter.all false
set_option maxRecDepth 100000
set_option maxHeartbeats 4000000
/-! Zx3: comparisons, tests, and, or, not, the conditional expression. -/
namespace Z
open PySem L2

def copM : Cop → CmpOp
  | .eq => .Eq | .ne => .NotEq | .lt => .Lt | .le => .LtE | .gt => .Gt | .ge => .GtE | .inn => .In | .nin => .NotIn

section
variable {X : Cx}
def rInDic : R2 := fun y x H Q => ∃ a o, x = .ref a ∧ DGet H a y o ∧ Q (.bl o.isSome) H
def rNinDic : R2 := fun y x H Q => ∃ a o, x = .ref a ∧ DGet H a y o ∧ Q (.bl (!o.isSome)) H
theorem op_inDic (hu : X.A.units + 1 < cLine) : OpR X (compareOp .In) rInDic := by
  intro pins s σ H y x u v Q I ry rx h
  obtain ⟨a, o, rfl, gt, q⟩ := h
  cases rx
  exact d_in hu I gt ry fun s' I' => ⟨.bl _, H, I', rfl, q⟩
theorem op_ninDic (hu : X.A.units + 1 < cLine) : OpR X (compareOp .NotIn) rNinDic := by
  intro pins s σ H y x u v Q I ry rx h
  obtain ⟨a, o, rfl, gt, q⟩ := h
  cases rx
  exact d_notIn hu I gt ry fun s' I' => ⟨.bl _, H, I', rfl, q⟩
end

section
variable {g : Gw} {K : W.Frag} {W : Wd} {M : Mem}
theorem flat_ok {d : D} {v : V} (f : flatD d = true) (r : Rep K W d v) : flatV v = true := by
  cases d <;> simp only [flatD] at f <;> first
    | exact absurd f (by decide)
    | (simp only [Rep] at r; subst r; rfl)
theorem flats_ok : ∀ {ds : List D} {vs : List V}, ds.all flatD = true → Reps K W ds vs → vs.all flatV = true
  | [], vs, f, r => by rw [r.inv0]; rfl
  | d :: ds, vs, f, r => by
    obtain ⟨v, us, rfl, r1, r2⟩ := r.inv
    rw [List.all_cons, Bool.and_eq_true] at f
    rw [List.all_cons, Bool.and_eq_true]
    exact ⟨flat_ok f.1 r1, flats_ok f.2 r2⟩
theorem eqF_ok {d e : D} {v u : V} (f : flatD d = true) (f' : flatD e = true) (r : Rep K W d v) (r' : Rep K W e u) : eqV v u = eqF d e := by
  cases d <;> simp only [flatD] at f <;> first
    | exact absurd f (by decide)
    | (cases e <;> simp only [flatD] at f' <;> first
        | exact absurd f' (by decide)
        | (simp only [Rep] at r r'; subst r; subst r'; rfl))
theorem anyF_ok {d : D} {v : V} (f : flatD d = true) (r : Rep K W d v) : ∀ {ds : List D} {vs : List V}, ds.all flatD = true → Reps K W ds vs → inV v vs = ds.any fun z => eqF z d
  | [], vs, f', r' => by rw [r'.inv0]; rfl
  | e :: ds, vs, f', r' => by
    obtain ⟨u, us, rfl, r1, r2⟩ := r'.inv
    rw [List.all_cons, Bool.and_eq_true] at f'
    unfold inV
    rw [List.any_cons, List.any_cons, eqF_ok f'.1 f r1 r]
    have := anyF_ok f r f'.2 r2
    unfold inV at this
    rw [this]
theorem keyOf_ok {d : D} {v : V} {k : Key} (e : keyOf d = some k) (r : Rep K W d v) : v = kV k := by
  cases d <;> simp [keyOf] at e
  · subst e; simp only [Rep] at r; exact r
  · subst e; simp only [Rep] at r; exact r
theorem valV_any' (k : Key) : ∀ (ks : List Key) (vs : List V), ks.length = vs.length → (valV (ks.zip vs) k).isSome = ks.any fun z => decide (z = k)
  | [], vs, h => by simp [valV_nil]
  | z :: ks, [], h => by simp at h
  | z :: ks, v :: vs, h => by
    rw [List.zip_cons_cons, List.any_cons]
    by_cases e : z = k
    · rw [valV_pos e]; simp [e]
    · rw [valV_neg e, valV_any' k ks vs (by simpa using h)]; simp [e]
theorem inD_cases (S : SR g K W M) {x y : D} {p q : V} {k : Bool} (h : inD M x y = some k) (rx : Rep K W x p) (ry : Rep K W y q) :
    (∃ a us, q = .ref a ∧ (SqL K W.H a us ∨ SqT K W.H a us) ∧ flatV p = true ∧ us.all flatV = true ∧ inV p us = k) ∨
    (∃ a o, q = .ref a ∧ DGet W.H a p o ∧ o.isSome = k) ∨
    (∃ d ds, Dp K W.H p d ∧ Dp K W.H q (.list ds) ∧ SeqAt.shaped d = true ∧ SeqAt.shaped (.list ds) = true ∧ (ds.any fun z => PyData.eqv z d) = k) := by
  have deep : ∀ ys, (py M depthMax y = (mapO (py M 15) ys).map .list) → (match py M depthMax x, mapO (py M depthMax) ys with
      | some d, some ds => if SeqAt.shaped d = true ∧ SeqAt.shaped (.list ds) = true then some (ds.any fun z => PyData.eqv z d) else none
      | _, _ => none) = some k → (∃ a vs, q = .ref a ∧ W.H a = some (.lst vs) ∧ Reps K W ys vs) →
      ∃ d ds, Dp K W.H p d ∧ Dp K W.H q (.list ds) ∧ SeqAt.shaped d = true ∧ SeqAt.shaped (.list ds) = true ∧ (ds.any fun z => PyData.eqv z d) = k := by
    intro ys _ h ⟨a, vs, e, f, r⟩
    cases q1 : py M depthMax x with
    | none => rw [q1] at h; simp at h
    | some d =>
      cases q2 : mapO (py M depthMax) ys with
      | none => rw [q1, q2] at h; simp at h
      | some ds =>
        rw [q1, q2] at h
        simp only at h
        split at h
        · rename_i hz
          refine ⟨d, ds, py_dp S _ _ _ _ q1 (SeqAt.canLay_of_shaped hz.1) rx, ?_, hz.1, hz.2, Option.some.inj h⟩
          rw [e]
          have c := SeqAt.canLay_of_shaped hz.2
          exact .lst (.of f) (mapO_dp (fun d v p => py_dp S _ d v p) q2 (by simpa [PyData.canLay0] using c) r)
        · cases h
  cases y with
  | tup ys =>
    simp only [inD] at h
    split at h
    · rename_i hz
      simp only [Rep] at ry
      obtain ⟨a, us, rfl, f, r⟩ := ry
      refine .inl ⟨a, us, rfl, .inr (sqT_mono S.sub f), flat_ok hz.1 rx, flats_ok hz.2 r, ?_⟩
      rw [anyF_ok hz.1 rx hz.2 r]; exact Option.some.inj h
    · cases h
  | lst ys =>
    simp only [inD] at h
    exact .inr (.inr (deep ys rfl h (asL_ok S rfl ry)))
  | ref j =>
    simp only [inD] at h
    cases q1 : M[j]? with
    | none => rw [q1] at h; simp at h
    | some o =>
      rw [q1] at h
      cases o with
      | lst ys =>
        simp only at h
        exact .inr (.inr (deep ys (by simp [py, depthMax, q1]) h (asL_ok S (by simp [asL, q1]) ry)))
      | dic ks ds =>
        simp only at h
        cases q2 : keyOf x with
        | none => rw [q2] at h; simp at h
        | some kk =>
          rw [q2] at h
          simp only [Option.some.injEq] at h
          simp only [Rep] at ry
          obtain ⟨a, e, rfl⟩ := ry
          obtain ⟨_, vs, h1, h2, h3⟩ := S.obj j a _ e q1
          refine .inr (.inl ⟨a, _, rfl, by rw [keyOf_ok q2 rx]; exact DGet.k h1, ?_⟩)
          rw [valV_any' kk ks vs h2]; exact h
      | ins c fs => simp at h
      | dead => simp at h
  | _ => simp [inD] at h
end

section
variable {g : Gw} {X : Cx} {n : Nat} {x y z : Expr} {e a b c : E} {Zx : WX} {pos : Pos}
/-- a comparison of two values, by its rule -/
structure CopR (g : Gw) (X : Cx) (op : Cop) (r : R2) : Prop where
  ok : OpR X (compareOp (copM op)) r
  at_ : ∀ {u v : D} {M : Mem} {W : Wd} {p q : V} {k : Bool}, cop op M u v = some k → SR g X.K W M → Rep X.K W u p → Rep X.K W v q → ∀ Q : VK, Q (.bl k) W.H → r p q W.H Q
theorem copR (hu : X.A.units + 65 < cLine) (op : Cop) : ∃ r, CopR g X op r := by
  have int1 : ∀ {op : Cop} {f : Int → Int → Bool}, (∀ u v M k, cop op M u v = some k → ∃ i j, u = .int i ∧ v = .int j ∧ k = f i j) → OpR X (compareOp (copM op)) (rI0 fun i j => .bl (f i j)) → ∃ r, CopR g X op r := fun {op f} h ho =>
    ⟨_, ho, fun {u v M W p q k} e S ru rv Q hq => by
      obtain ⟨i, j, rfl, rfl, rfl⟩ := h _ _ _ _ e
      simp only [Rep] at ru rv
      subst ru; subst rv
      exact ⟨i, j, rfl, rfl, hq⟩⟩
  have eq1 : ∀ {u v : D} {M : Mem} {W : Wd} {p q : V} {k : Bool}, eqD M u v = some k → SR g X.K W M → Rep X.K W u p → Rep X.K W v q → (scal p q = true ∧ decide (p = q) = k) ∨ ∃ d e, Dp X.K W.H p d ∧ Dp X.K W.H q e ∧ SeqAt.shaped d = true ∧ SeqAt.shaped e = true ∧ PyData.eqv d e = k := fun {u v M W p q k} h S ru rv => by
    by_cases hst : ∃ x y, u = .str x ∧ v = .str y
    · obtain ⟨x, y, rfl, rfl⟩ := hst
      simp only [eqD, Option.some.injEq] at h
      subst h
      simp only [Rep] at ru rv
      subst ru; subst rv
      refine .inl ⟨rfl, decide_eq_decide.mpr ⟨fun z => by injection z, fun z => by rw [z]⟩⟩
    refine .inr ?_
    have h : eqDeep M u v = some k := by
      rw [← h]
      cases u <;> cases v <;> first | rfl | exact absurd ⟨_, _, rfl, rfl⟩ hst
    unfold eqDeep at h
    cases q1 : py M depthMax u with
    | none => rw [q1] at h; simp at h
    | some d =>
      cases q2 : py M depthMax v with
      | none => rw [q1, q2] at h; simp at h
      | some e =>
        rw [q1, q2] at h
        simp only at h
        split at h
        · rename_i hz
          exact ⟨d, e, py_dp S _ _ _ _ q1 (SeqAt.canLay_of_shaped hz.1) ru, py_dp S _ _ _ _ q2 (SeqAt.canLay_of_shaped hz.2) rv, hz.1, hz.2, Option.some.inj h⟩
        · cases h
  cases op with
  | lt => exact int1 (fun u v M k h => by cases u <;> cases v <;> simp [cop] at h; exact ⟨_, _, rfl, rfl, h.symm⟩) op_lt
  | le => exact int1 (fun u v M k h => by cases u <;> cases v <;> simp [cop] at h; exact ⟨_, _, rfl, rfl, h.symm⟩) op_le
  | gt => exact int1 (fun u v M k h => by cases u <;> cases v <;> simp [cop] at h; exact ⟨_, _, rfl, rfl, h.symm⟩) op_gt
  | ge => exact int1 (fun u v M k h => by cases u <;> cases v <;> simp [cop] at h; exact ⟨_, _, rfl, rfl, h.symm⟩) op_ge
  | eq =>
    refine ⟨_, op_eq.or (op_eqD (by omega)), fun {u v M W p q k} e S ru rv Q hq => ?_⟩
    rcases eq1 e S ru rv with ⟨h1, rfl⟩ | ⟨d, e', h1, h2, h3, h4, rfl⟩
    · exact .inl ⟨h1, hq⟩
    · exact .inr ⟨d, e', h1, h2, h3, h4, hq⟩
  | ne =>
    refine ⟨_, op_ne.or (op_neD (by omega)), fun {u v M W p q k} e S ru rv Q hq => ?_⟩
    simp only [cop, Option.map_eq_some_iff] at e
    obtain ⟨k', e, rfl⟩ := e
    rcases eq1 e S ru rv with ⟨h1, rfl⟩ | ⟨d, e', h1, h2, h3, h4, rfl⟩
    · exact .inl ⟨h1, hq⟩
    · exact .inr ⟨d, e', h1, h2, h3, h4, hq⟩
  | inn =>
    refine ⟨_, op_in_seq.or ((op_inDic (by omega)).or (op_inD hu)), fun {u v M W p q k} e S ru rv Q hq => ?_⟩
    rcases inD_cases S e ru rv with ⟨s, us, rfl, h1, h2, h3, rfl⟩ | ⟨s, o, rfl, h1, rfl⟩ | ⟨d, ds, h1, h2, h3, h4, rfl⟩
    · exact .inl ⟨s, us, rfl, h1, h2, h3, hq⟩
    · exact .inr (.inl ⟨s, o, rfl, h1, hq⟩)
    · exact .inr (.inr ⟨d, ds, h1, h2, h3, h4, hq⟩)
  | nin =>
    refine ⟨_, op_notIn_seq.or ((op_ninDic (by omega)).or (op_notInD hu)), fun {u v M W p q k} e S ru rv Q hq => ?_⟩
    simp only [cop, Option.map_eq_some_iff] at e
    obtain ⟨k', e, rfl⟩ := e
    rcases inD_cases S e ru rv with ⟨s, us, rfl, h1, h2, h3, rfl⟩ | ⟨s, o, rfl, h1, rfl⟩ | ⟨d, ds, h1, h2, h3, h4, rfl⟩
    · exact .inl ⟨s, us, rfl, h1, h2, h3, hq⟩
    · exact .inr (.inl ⟨s, o, rfl, h1, hq⟩)
    · exact .inr (.inr ⟨d, ds, h1, h2, h3, h4, hq⟩)

theorem Run.tst {K : W.Frag} {W : Wd} {r : R D} {Q : Bool → Hp → Prop} {Zk : XK} (h : Run g K W (fun _ a b => a = b) (tst r) Q Zk) : Run g K W (Rep K) r (fun v H => ∃ c, v = .bl c ∧ Q c H) Zk := by
  cases r with
  | ok d M =>
    cases d <;> simp only [Z.tst] at h <;> first
      | exact h.elim
      | skip
    rename_i k
    intro v W' x s q
    simp only [Rep] at q
    exact ⟨k, q, h k W' x s rfl⟩
  | ex c d M => exact h
  | no => exact h
theorem Run.tstI {K : W.Frag} {W : Wd} {k : Bool} {M : Mem} {Q : Bool → Hp → Prop} {Zk : XK} (h : Run g K W (fun _ a b => a = b) (Z.tst (R.ok (.bl k) M)) Q Zk) (S : SR g K W M) : Q k W.H := h k W (Ext.refl W) S rfl
/-- any expression as a test, by its value -/
theorem pt_def (h : PE X x (tE g X.K n e Zx)) (he : ∀ whole, isTrue x X.env whole = (do let v ← whole; standAt x.pos; holding [v] (truthy v))) : PT X x (tT g X.K n e Zx) :=
  ptI (pt_val h he) fun σ H Q ⟨W, M, env, hH, S, Er, r⟩ => ⟨W, M, env, hH, S, Er, Run.tst r⟩

theorem s_cmp {op : Cop} (hu : X.A.units + 65 < cLine) (ha : PE X x (tE g X.K n a Zx)) (hb : PE X y (tE g X.K n b Zx)) (hm : behindInMarks (copM op) y = false) :
    PE X (.Compare x [copM op] [y] pos) (tE g X.K n (.cmp op a b) Zx) ∧ PT X (.Compare x [copM op] [y] pos) (tT g X.K n (.cmp op a b) Zx) := by
  obtain ⟨r, hr⟩ := copR (g := g) hu op
  constructor
  · refine peI (pe_cmpR hr.ok ha hb hm) fun σ H Q ⟨W, M, env, hH, S, Er, rr⟩ => ?_
    simp only [ev] at rr
    refine two_step S Er hH rr fun u v M2 W2 p q _ S2 R1 R2 r2 => ?_
    obtain ⟨d, e, r3⟩ := r2.ofI
    obtain ⟨k, e2, rfl⟩ := Option.map_eq_some_iff.mp e
    exact hr.at_ e2 S2 R1 R2 Q (Run.okI r3 (Ext.refl _) S2 rep_bl)
  · refine ptI (pt_cmpR hr.ok ha hb hm) fun σ H Q ⟨W, M, env, hH, S, Er, rr⟩ => ?_
    have rr := Run.tst rr
    simp only [ev] at rr
    refine two_step S Er hH rr fun u v M2 W2 p q _ S2 R1 R2 r2 => ?_
    obtain ⟨d, e, r3⟩ := r2.ofI
    obtain ⟨k, e2, rfl⟩ := Option.map_eq_some_iff.mp e
    exact hr.at_ e2 S2 R1 R2 _ (Run.okI r3 (Ext.refl _) S2 rep_bl)
theorem chn_step {r1 r2 : R2} {o1 o2 : Cop} {σ : St} {H : Hp} {Q : VK} {Wm : Wd} {M : Mem} {env : Env} (h1 : CopR g X o1 r1) (h2 : CopR g X o2 r2) (S : SR g X.K Wm M) (Er : ER X.K Wm σ env) (hH : Wm.H = H)
    (rr : Run g X.K Wm (Rep X.K) (ev g.G (clN g n) (.chn o1 o2 a b c) env M) Q (atS Zx σ)) : tChain r1 r2 (tE g X.K n a Zx) (tE g X.K n b Zx) (tE g X.K n c Zx) σ H Q := by
  simp only [ev] at rr
  refine ⟨Wm, M, env, hH, S, Er, rr.bind fun u M1 p W1 _ X1 S1 R1 q1 => ?_⟩
  refine ⟨W1, M1, env, rfl, S1, Er.mono X1, q1.bind fun v M2 q W2 _ X2 S2 R2 q2 => ?_⟩
  cases e : cop o1 M2 u v with
  | none => rw [e] at q2; exact q2.elim
  | some k =>
    rw [e] at q2
    refine h1.at_ e S2 (R1.mono X2) R2 _ ⟨k, rfl, ?_⟩
    cases k with
    | false => exact Run.okI q2 (Ext.refl _) S2 rep_bl
    | true =>
      rw [if_pos rfl]
      simp only [R.of_some, R.bind_ok, if_true] at q2
      refine ⟨W2, M2, env, rfl, S2, (Er.mono X1).mono X2, q2.bind fun w M3 t W3 _ X3 S3 R3 q3 => ?_⟩
      obtain ⟨d, e', q4⟩ := q3.ofI
      obtain ⟨k', e2, rfl⟩ := Option.map_eq_some_iff.mp e'
      exact h2.at_ e2 S3 (R2.mono X3) R3 Q (Run.okI q4 (Ext.refl _) S3 rep_bl)
theorem s_chn {o1 o2 : Cop} (hu : X.A.units + 65 < cLine) (ha : PE X x (tE g X.K n a Zx)) (hb : PE X y (tE g X.K n b Zx)) (hc : PE X z (tE g X.K n c Zx)) (hm : lastMarks [copM o1, copM o2] [y, z] = false) :
    PE X (.Compare x [copM o1, copM o2] [y, z] pos) (tE g X.K n (.chn o1 o2 a b c) Zx) ∧ PT X (.Compare x [copM o1, copM o2] [y, z] pos) (tT g X.K n (.chn o1 o2 a b c) Zx) := by
  obtain ⟨r1, h1⟩ := copR (g := g) hu o1
  obtain ⟨r2, h2⟩ := copR (g := g) hu o2
  constructor
  · exact peI (pe_chain h1.ok h2.ok ha hb hc hm) fun σ H Q ⟨W, M, env, hH, S, Er, rr⟩ => chn_step h1 h2 S Er hH rr
  · exact ptI (pt_chain h1.ok h2.ok ha hb hc hm) fun σ H Q ⟨W, M, env, hH, S, Er, rr⟩ => chn_step h1 h2 S Er hH (Run.tst rr)
def isnM (ng : Bool) : CmpOp := if ng then .IsNot else .Is
theorem non_iff {K : W.Frag} {W : Wd} {d : D} {v : V} (r : Rep K W d v) : decide (v = .non) = isNon d := by
  cases d <;> simp only [Rep] at r
  · subst r; rfl
  · subst r; rfl
  · subst r; rfl
  · subst r; rfl
  · obtain ⟨a, vs, rfl, _⟩ := r; rfl
  · obtain ⟨a, vs, rfl, _⟩ := r; rfl
  · obtain ⟨a, vs, rfl, _⟩ := r; rfl
  · obtain ⟨a, _, rfl⟩ := r; rfl
  · obtain ⟨a, rfl, _⟩ := r; rfl
theorem s_isN {ng : Bool} {k : Nat} {p2 : Pos} (ha : PE X x (tE g X.K n a Zx)) :
    PE X (.Compare x [isnM ng] [.Constant .none k p2] pos) (tE g X.K n (.isN ng a) Zx) ∧ PT X (.Compare x [isnM ng] [.Constant .none k p2] pos) (tT g X.K n (.isN ng a) Zx) := by
  have st : ∀ {σ H} {Q : VK}, tE g X.K n (.isN ng a) Zx σ H Q → tE g X.K n a Zx σ H fun p H1 => Q (.bl (xor ng (decide (p = .non)))) H1 := fun {σ H Q} ⟨W, M, env, hH, S, Er, rr⟩ => by
    simp only [ev] at rr
    refine ⟨W, M, env, hH, S, Er, rr.bind fun u M1 p W1 _ X1 S1 R1 q1 => ?_⟩
    rw [non_iff R1]
    exact Run.okI q1 (Ext.refl _) S1 rep_bl
  have tt : ∀ {σ H} {Q : Bool → Hp → Prop}, tT g X.K n (.isN ng a) Zx σ H Q → tE g X.K n (.isN ng a) Zx σ H fun p H1 => ∃ k, p = .bl k ∧ Q k H1 := fun {σ H Q} ⟨W, M, env, hH, S, Er, rr⟩ => ⟨W, M, env, hH, S, Er, Run.tst rr⟩
  cases ng with
  | false =>
    constructor
    · exact peI (pe_cmpR op_isN ha pe_non (nomark _)) fun σ H Q h => by
        obtain ⟨W, M, env, hH, S, Er, rr⟩ := st h
        exact ⟨W, M, env, hH, S, Er, rr.imp fun v W' d M' _ _ _ _ q => ⟨rfl, by simpa using q⟩⟩
    · exact ptI (pt_cmpR op_isN ha pe_non (nomark _)) fun σ H Q h => by
        obtain ⟨W, M, env, hH, S, Er, rr⟩ := st (tt h)
        exact ⟨W, M, env, hH, S, Er, rr.imp fun v W' d M' _ _ _ _ q => ⟨rfl, by simpa using q⟩⟩
  | true =>
    constructor
    · exact peI (pe_cmpR op_notN ha pe_non (nomark _)) fun σ H Q h => by
        obtain ⟨W, M, env, hH, S, Er, rr⟩ := st h
        exact ⟨W, M, env, hH, S, Er, rr.imp fun v W' d M' _ _ _ _ q => ⟨rfl, by simpa using q⟩⟩
    · exact ptI (pt_cmpR op_notN ha pe_non (nomark _)) fun σ H Q h => by
        obtain ⟨W, M, env, hH, S, Er, rr⟩ := st (tt h)
        exact ⟨W, M, env, hH, S, Er, rr.imp fun v W' d M' _ _ _ _ q => ⟨rfl, by simpa using q⟩⟩
theorem s_isB {ng b' : Bool} {k : Nat} {p2 : Pos} (ha : PE X x (tE g X.K n a Zx)) :
    PE X (.Compare x [isnM ng] [.Constant (.bool b') k p2] pos) (tE g X.K n (.isB ng b' a) Zx) ∧ PT X (.Compare x [isnM ng] [.Constant (.bool b') k p2] pos) (tT g X.K n (.isB ng b' a) Zx) := by
  have st : ∀ {σ H} {Q : VK}, tE g X.K n (.isB ng b' a) Zx σ H Q → tE g X.K n a Zx σ H fun p H1 => ∃ t, p = .bl t ∧ Q (.bl (xor ng (decide (t = b')))) H1 := fun {σ H Q} ⟨W, M, env, hH, S, Er, rr⟩ => by
    simp only [ev] at rr
    refine ⟨W, M, env, hH, S, Er, rr.bind fun u M1 p W1 _ X1 S1 R1 q1 => ?_⟩
    obtain ⟨d, e, q2⟩ := q1.ofI
    obtain ⟨t, e1, rfl⟩ := Option.map_eq_some_iff.mp e
    have e3 : u = .bl t := by
      cases u <;> simp only [asBl] at e1 <;> first
        | exact congrArg D.bl (Option.some.inj e1)
        | exact absurd e1 (by simp)
    subst e3
    simp only [Rep] at R1
    refine ⟨_, R1, ?_⟩
    have := Run.okI q2 (Ext.refl _) S1 rep_bl
    have e2 : (t == b') = decide (t = b') := by cases t <;> cases b' <;> rfl
    rw [e2] at this
    exact this
  have tt : ∀ {σ H} {Q : Bool → Hp → Prop}, tT g X.K n (.isB ng b' a) Zx σ H Q → tE g X.K n (.isB ng b' a) Zx σ H fun p H1 => ∃ k, p = .bl k ∧ Q k H1 := fun {σ H Q} ⟨W, M, env, hH, S, Er, rr⟩ => ⟨W, M, env, hH, S, Er, Run.tst rr⟩
  cases ng with
  | false =>
    constructor
    · exact peI (pe_cmpR op_isBl ha pe_bl (nomark _)) fun σ H Q h => by
        obtain ⟨W, M, env, hH, S, Er, rr⟩ := st h
        exact ⟨W, M, env, hH, S, Er, rr.imp fun v W' d M' _ _ _ _ ⟨t, e, q⟩ => ⟨t, b', e, rfl, by simpa using q⟩⟩
    · exact ptI (pt_cmpR op_isBl ha pe_bl (nomark _)) fun σ H Q h => by
        obtain ⟨W, M, env, hH, S, Er, rr⟩ := st (tt h)
        exact ⟨W, M, env, hH, S, Er, rr.imp fun v W' d M' _ _ _ _ ⟨t, e, q⟩ => ⟨t, b', e, rfl, by simpa using q⟩⟩
  | true =>
    constructor
    · exact peI (pe_cmpR op_notBl ha pe_bl (nomark _)) fun σ H Q h => by
        obtain ⟨W, M, env, hH, S, Er, rr⟩ := st h
        exact ⟨W, M, env, hH, S, Er, rr.imp fun v W' d M' _ _ _ _ ⟨t, e, q⟩ => ⟨t, b', e, rfl, by simpa using q⟩⟩
    · exact ptI (pt_cmpR op_notBl ha pe_bl (nomark _)) fun σ H Q h => by
        obtain ⟨W, M, env, hH, S, Er, rr⟩ := st (tt h)
        exact ⟨W, M, env, hH, S, Er, rr.imp fun v W' d M' _ _ _ _ ⟨t, e, q⟩ => ⟨t, b', e, rfl, by simpa using q⟩⟩

/-! ### and, or, not, if .. else -/
theorem and_tst (a b : E) (env : Env) (M : Mem) : tst (ev g.G (clN g n) (.and a b) env M) = (tst (ev g.G (clN g n) a env M)).bind fun k M => if k then tst (ev g.G (clN g n) b env M) else .ok false M := by
  simp only [ev]
  cases tst (ev g.G (clN g n) a env M) with
  | ok k M1 => cases k <;> rfl
  | ex c d M1 => rfl
  | no => rfl
theorem or_tst (a b : E) (env : Env) (M : Mem) : tst (ev g.G (clN g n) (.or a b) env M) = (tst (ev g.G (clN g n) a env M)).bind fun k M => if k then .ok true M else tst (ev g.G (clN g n) b env M) := by
  simp only [ev]
  cases tst (ev g.G (clN g n) a env M) with
  | ok k M1 => cases k <;> rfl
  | ex c d M1 => rfl
  | no => rfl
theorem w_and {ys : List Expr} (ha : PT X x (tT g X.K n a Zx)) (hb : PW X (.BoolOp .And (y :: ys) pos) (tT g X.K n b Zx)) : PW X (.BoolOp .And (x :: y :: ys) pos) (tT g X.K n (.and a b) Zx) :=
  pwI (pw_and ha hb) fun σ H Q ⟨W, M, env, hH, S, Er, rr⟩ => by
    rw [and_tst] at rr
    refine ⟨W, M, env, hH, S, Er, rr.bind fun k M1 k' W1 _ X1 S1 R1 q1 => ?_⟩
    subst R1
    cases k with
    | false => exact Run.okI q1 (Ext.refl _) S1 rfl
    | true => exact ⟨W1, M1, env, rfl, S1, Er.mono X1, q1⟩
theorem w_or {ys : List Expr} (ha : PT X x (tT g X.K n a Zx)) (hb : PW X (.BoolOp .Or (y :: ys) pos) (tT g X.K n b Zx)) : PW X (.BoolOp .Or (x :: y :: ys) pos) (tT g X.K n (.or a b) Zx) :=
  pwI (pw_or ha hb) fun σ H Q ⟨W, M, env, hH, S, Er, rr⟩ => by
    rw [or_tst] at rr
    refine ⟨W, M, env, hH, S, Er, rr.bind fun k M1 k' W1 _ X1 S1 R1 q1 => ?_⟩
    subst R1
    cases k with
    | true => exact Run.okI q1 (Ext.refl _) S1 rfl
    | false => exact ⟨W1, M1, env, rfl, S1, Er.mono X1, q1⟩
theorem w_one {op : BoolOp} (ha : PT X x (tT g X.K n a Zx)) : PW X (.BoolOp op [x] pos) (tT g X.K n a Zx) := by
  cases op with
  | And => exact pw_and1 ha
  | Or => exact pw_or1 ha
theorem Run.tstB {K : W.Frag} {W : Wd} {r : R D} {α : Type} {k : Bool → Mem → R α} {β : Type} {Rp : Wd → α → β → Prop} {Q : β → Hp → Prop} {P : VK} {Zk : XK} (h : Run g K W Rp ((Z.tst r).bind k) Q Zk)
    (hk : ∀ c M1 W1, Ext W W1 → SR g K W1 M1 → Run g K W1 Rp (k c M1) Q Zk → P (.bl c) W1.H) : Run g K W (Rep K) r P Zk := by
  cases r with
  | ok d M =>
    cases d <;> simp only [Z.tst, R.bind_ok, R.bind_no] at h <;> first
      | exact h.elim
      | skip
    rename_i c
    intro v W' x s q
    simp only [Rep] at q
    subst q
    exact hk c M W' x s (Run.mono x h)
  | ex c d M => exact h
  | no => exact h
theorem v_and {ys : List Expr} (ha : PE X x (tE g X.K n a Zx)) (hb : PE X (.BoolOp .And (y :: ys) pos) (tE g X.K n b Zx)) : PE X (.BoolOp .And (x :: y :: ys) pos) (tE g X.K n (.and a b) Zx) :=
  peI (pe_and ha hb) fun σ H Q ⟨W, M, env, hH, S, Er, rr⟩ => by
    simp only [ev] at rr
    refine ⟨W, M, env, hH, S, Er, rr.tstB fun k M1 W1 X1 S1 q1 => ⟨k, rfl, ?_⟩⟩
    cases k with
    | false => exact Run.okI q1 (Ext.refl _) S1 rep_bl
    | true => exact ⟨W1, M1, env, rfl, S1, Er.mono X1, q1⟩
theorem v_or {ys : List Expr} (ha : PE X x (tE g X.K n a Zx)) (hb : PE X (.BoolOp .Or (y :: ys) pos) (tE g X.K n b Zx)) : PE X (.BoolOp .Or (x :: y :: ys) pos) (tE g X.K n (.or a b) Zx) :=
  peI (pe_or ha hb) fun σ H Q ⟨W, M, env, hH, S, Er, rr⟩ => by
    simp only [ev] at rr
    refine ⟨W, M, env, hH, S, Er, rr.tstB fun k M1 W1 X1 S1 q1 => ⟨k, rfl, ?_⟩⟩
    cases k with
    | true => exact Run.okI q1 (Ext.refl _) S1 rep_bl
    | false => exact ⟨W1, M1, env, rfl, S1, Er.mono X1, q1⟩
theorem v_not (ha : PE X x (tE g X.K n a Zx)) : PE X (.UnaryOp .Not x pos) (tE g X.K n (.not a) Zx) :=
  peI (pe_not ha) fun σ H Q ⟨W, M, env, hH, S, Er, rr⟩ => by
    simp only [ev] at rr
    exact ⟨W, M, env, hH, S, Er, rr.tstB fun k M1 W1 X1 S1 q1 => ⟨k, rfl, Run.okI q1 (Ext.refl _) S1 rep_bl⟩⟩
theorem t_not (ha : PT X x (tT g X.K n a Zx)) : PT X (.UnaryOp .Not x pos) (tT g X.K n (.not a) Zx) :=
  ptI (pt_not ha) fun σ H Q ⟨W, M, env, hH, S, Er, rr⟩ => by
    have e : tst (ev g.G (clN g n) (.not a) env M) = (tst (ev g.G (clN g n) a env M)).bind fun k M => .ok (!k) M := by
      simp only [ev]
      cases tst (ev g.G (clN g n) a env M) with
      | ok k M1 => rfl
      | ex c d M1 => rfl
      | no => rfl
    rw [e] at rr
    refine ⟨W, M, env, hH, S, Er, rr.bind fun k M1 k' W1 _ X1 S1 R1 q1 => ?_⟩
    subst R1
    exact Run.okI q1 (Ext.refl _) S1 rfl
theorem v_ite (hc : PT X z (tT g X.K n c Zx)) (ha : PE X x (tE g X.K n a Zx)) (hb : PE X y (tE g X.K n b Zx)) : PE X (.IfExp z x y pos) (tE g X.K n (.ite c a b) Zx) :=
  peI (pe_ifExp hc ha hb) fun σ H Q ⟨W, M, env, hH, S, Er, rr⟩ => by
    simp only [ev] at rr
    refine ⟨W, M, env, hH, S, Er, rr.bind fun k M1 k' W1 _ X1 S1 R1 q1 => ?_⟩
    subst R1
    cases k with
    | true => exact ⟨W1, M1, env, rfl, S1, Er.mono X1, q1⟩
    | false => exact ⟨W1, M1, env, rfl, S1, Er.mono X1, q1⟩
end
end Z
end
section
set_option Elab.async false
set_option linter.all false
set_option maxRecDepth 100000
set_option maxHeartbeats 4000000
/-! Zx4: built-in functions, isinstance, items, slices. -/
namespace Z
open PySem L2

section
variable {g : Gw} {X : Cx} {n : Nat} {x y z : Expr} {e a b c : E} {Zx : WX} {pos : Pos}
/-- a function of one value, by its rule -/
theorem s_b1 {f : B1} {r : List V → Hp → VK → Prop} (h : PE X z (tCB r (tCons (tE g X.K n a Zx) tNil)))
    (hr : ∀ {u d : D} {M : Mem} {W : Wd} {v : V}, b1 f M u = some d → SR g X.K W M → Rep X.K W u v → ∀ Q : VK, (∀ v' W', Ext W W' → SR g X.K W' M → Rep X.K W' d v' → Q v' W'.H) → r [v] W.H Q) : PE X z (tE g X.K n (.b1 f a) Zx) :=
  peI h fun σ H Q ⟨W, M, env, hH, S, Er, rr⟩ => by
    simp only [ev] at rr
    refine ⟨W, M, env, hH, S, Er, rr.bind fun u M1 v W1 _ X1 S1 R1 q1 => ?_⟩
    obtain ⟨d, e, q2⟩ := q1.ofI
    exact hr e S1 R1 Q fun v' W' X' S' R' => Run.okI q2 X' S' R'
theorem s_b2 {f : B2} {r : List V → Hp → VK → Prop} (h : PE X z (tCB r (tCons (tE g X.K n a Zx) (tCons (tE g X.K n b Zx) tNil))))
    (hr : ∀ {i j : Int} {d : D} {M : Mem} {W : Wd}, b2 f (.int i) (.int j) = some d → SR g X.K W M → ∀ Q : VK, (∀ v' W', Ext W W' → SR g X.K W' M → Rep X.K W' d v' → Q v' W'.H) → r [.int i, .int j] W.H Q) : PE X z (tE g X.K n (.b2 f a b) Zx) :=
  peI h fun σ H Q ⟨W, M, env, hH, S, Er, rr⟩ => by
    simp only [ev] at rr
    refine ⟨W, M, env, hH, S, Er, rr.bind fun u M1 p W1 _ X1 S1 R1 q1 => ?_⟩
    refine ⟨W1, M1, env, rfl, S1, Er.mono X1, q1.bind fun v M2 q W2 _ X2 S2 R2 q2 => ?_⟩
    obtain ⟨d, e, q3⟩ := q2.ofI
    have e' : ∃ i j, u = .int i ∧ v = .int j := by
      cases u <;> cases v <;> simp [b2] at e
      exact ⟨_, _, rfl, rfl⟩
    obtain ⟨i, j, rfl, rfl⟩ := e'
    have R1' := R1.mono X2
    simp only [Rep] at R1' R2
    subst R1'; subst R2
    exact hr e S2 Q fun v' W' X' S' R' => Run.okI q3 X' S' R'
end

section
variable {g : Gw} {X : Cx} {W : Wd} {M : Mem}
theorem r_len {u d : D} {v : V} (h : b1 .len M u = some d) (S : SR g X.K W M) (R : Rep X.K W u v) (Q : VK) (q : ∀ v' W', Ext W W' → SR g X.K W' M → Rep X.K W' d v' → Q v' W'.H) :
    (∃ x n, [v] = [x] ∧ LenV X.K x W.H n ∧ Q (.int n) W.H) ∨ (∃ a kvs, [v] = [V.ref a] ∧ W.H a = some (.dK kvs) ∧ Q (.int kvs.length) W.H) := by
  simp only [b1, Option.map_eq_some_iff] at h
  obtain ⟨k, h, rfl⟩ := h
  have fin : Q (.int k) W.H := q _ W (Ext.refl W) S rep_int
  cases u with
  | lst xs =>
    simp only [lenD, Option.some.injEq] at h; subst h
    simp only [Rep] at R
    obtain ⟨a, vs, rfl, f, r⟩ := R
    exact .inl ⟨_, _, rfl, .inl ⟨vs, .of (S.sub _ _ f), r.length⟩, fin⟩
  | tup xs =>
    simp only [lenD, Option.some.injEq] at h; subst h
    simp only [Rep] at R
    obtain ⟨a, vs, rfl, f, r⟩ := R
    exact .inl ⟨_, _, rfl, .inr ⟨vs, sqT_mono S.sub f, r.length⟩, fin⟩
  | scr ns =>
    simp only [lenD, Option.some.injEq] at h; subst h
    simp only [Rep] at R
    obtain ⟨a, rfl, f⟩ := R
    exact .inl ⟨_, _, rfl, .inl ⟨_, sqL_mono S.sub f, by simp⟩, fin⟩
  | str x =>
    simp only [lenD] at h
    split at h
    · rename_i hz
      cases h
      simp only [Rep] at R; subst R
      exact .inl ⟨_, _, rfl, ⟨hz, rfl⟩, fin⟩
    · cases h
  | ref j =>
    simp only [lenD] at h
    cases q1 : M[j]? with
    | none => rw [q1] at h; simp at h
    | some o =>
      rw [q1] at h
      simp only [Rep] at R
      obtain ⟨a, e, rfl⟩ := R
      have ob := S.obj j a o e q1
      cases o with
      | lst xs =>
        simp only [Option.some.injEq] at h; subst h
        obtain ⟨_, vs, h1, h2⟩ := ob
        exact .inl ⟨_, _, rfl, .inl ⟨vs, .of h1, h2.length⟩, fin⟩
      | dic ks ds =>
        simp only [Option.some.injEq] at h; subst h
        obtain ⟨_, vs, h1, h2, h3⟩ := ob
        refine .inr ⟨a, _, rfl, h1, ?_⟩
        rw [List.length_zip, ← h2, Nat.min_self]
        exact fin
      | ins c fs => simp at h
      | dead => simp at h
  | _ => simp [lenD] at h
theorem r_abs {u d : D} {v : V} (h : b1 .abs M u = some d) (S : SR g X.K W M) (R : Rep X.K W u v) (Q : VK) (q : ∀ v' W', Ext W W' → SR g X.K W' M → Rep X.K W' d v' → Q v' W'.H) :
    ∃ i, [v] = [V.int i] ∧ Q (.int (if i < 0 then -i else i)) W.H := by
  cases u <;> simp [b1] at h
  subst h
  simp only [Rep] at R; subst R
  exact ⟨_, rfl, q _ W (Ext.refl W) S rep_int⟩
theorem r_int {u d : D} {v : V} (h : b1 .int M u = some d) (S : SR g X.K W M) (R : Rep X.K W u v) (Q : VK) (q : ∀ v' W', Ext W W' → SR g X.K W' M → Rep X.K W' d v' → Q v' W'.H) :
    (∃ i, [v] = [V.int i] ∧ Q (.int i) W.H) ∨ ∃ k, [v] = [V.bl k] ∧ Q (.int (if k then 1 else 0)) W.H := by
  cases u <;> simp [b1] at h
  · subst h
    simp only [Rep] at R; subst R
    exact .inr ⟨_, rfl, q _ W (Ext.refl W) S rep_int⟩
  · subst h
    simp only [Rep] at R; subst R
    exact .inl ⟨_, rfl, q _ W (Ext.refl W) S rep_int⟩
theorem r_str {u d : D} {v : V} (h : b1 .str M u = some d) (S : SR g X.K W M) (R : Rep X.K W u v) (Q : VK) (q : ∀ v' W', Ext W W' → SR g X.K W' M → Rep X.K W' d v' → Q v' W'.H) :
    ∃ i, [v] = [V.int i] ∧ i.natAbs.log2 < 1920 ∧ Q (.str (toString i)) W.H := by
  cases u with
  | int i =>
    simp only [b1] at h
    split at h
    · rename_i hz
      cases h
      simp only [Rep] at R; subst R
      exact ⟨_, rfl, hz, q _ W (Ext.refl W) S rep_str⟩
    · cases h
  | _ => simp [b1] at h
theorem r_all {u d : D} {v : V} (h : b1 .all M u = some d) (S : SR g X.K W M) (R : Rep X.K W u v) (Q : VK) (q : ∀ v' W', Ext W W' → SR g X.K W' M → Rep X.K W' d v' → Q v' W'.H) : rAll X.K [v] W.H Q := by
  simp only [b1] at h
  cases q1 : asL M u with
  | none => rw [q1] at h; simp at h
  | some xs =>
    rw [q1] at h
    simp only [Option.map_eq_some_iff] at h
    obtain ⟨bs, h, rfl⟩ := h
    obtain ⟨a, vs, rfl, f, r⟩ := asL_ok S q1 R
    have := r.bls h
    subst this
    exact ⟨a, bs, rfl, .of f, q _ W (Ext.refl W) S rep_bl⟩
theorem r_any {u d : D} {v : V} (h : b1 .any M u = some d) (S : SR g X.K W M) (R : Rep X.K W u v) (Q : VK) (q : ∀ v' W', Ext W W' → SR g X.K W' M → Rep X.K W' d v' → Q v' W'.H) : rAny X.K [v] W.H Q := by
  simp only [b1] at h
  cases q1 : asL M u with
  | none => rw [q1] at h; simp at h
  | some xs =>
    rw [q1] at h
    simp only [Option.map_eq_some_iff] at h
    obtain ⟨bs, h, rfl⟩ := h
    obtain ⟨a, vs, rfl, f, r⟩ := asL_ok S q1 R
    have := r.bls h
    subst this
    exact ⟨a, bs, rfl, .of f, q _ W (Ext.refl W) S rep_bl⟩
theorem asInts_ok {u : D} {v : V} {ns : List Int} (h : asInts M u = some ns) (S : SR g X.K W M) (R : Rep X.K W u v) : ∃ a, v = .ref a ∧ W.H a = some (.lst (ns.map V.int)) := by
  unfold asInts at h
  cases q1 : asL M u with
  | none => rw [q1] at h; simp at h
  | some xs =>
    rw [q1] at h
    obtain ⟨a, vs, rfl, f, r⟩ := asL_ok S q1 R
    have := r.ints h
    subst this
    exact ⟨a, rfl, f⟩
theorem r_sum {u d : D} {v : V} (h : b1 .sum M u = some d) (S : SR g X.K W M) (R : Rep X.K W u v) (Q : VK) (q : ∀ v' W', Ext W W' → SR g X.K W' M → Rep X.K W' d v' → Q v' W'.H) : rSum X.K [v] W.H Q := by
  simp only [b1, Option.map_eq_some_iff] at h
  obtain ⟨ns, h, rfl⟩ := h
  obtain ⟨a, rfl, f⟩ := asInts_ok h S R
  exact ⟨a, ns, rfl, .of f, q _ W (Ext.refl W) S rep_int⟩
theorem maxL_ok : ∀ (n : Int) (ns : List Int), maxL (n :: ns) ∈ n :: ns ∧ ∀ y, y ∈ n :: ns → y ≤ maxL (n :: ns)
  | n, [] => by simp [maxL]
  | n, m :: ns => by
    obtain ⟨h1, h2⟩ := maxL_ok m ns
    unfold maxL
    simp only
    split
    · rename_i hle
      refine ⟨List.mem_cons_self, fun y hy => ?_⟩
      rcases List.mem_cons.mp hy with rfl | hy
      · exact Int.le_refl _
      · exact Int.le_trans (h2 y hy) hle
    · rename_i hle
      refine ⟨List.mem_cons_of_mem _ h1, fun y hy => ?_⟩
      rcases List.mem_cons.mp hy with rfl | hy
      · omega
      · exact h2 y hy
theorem minL_ok : ∀ (n : Int) (ns : List Int), minL (n :: ns) ∈ n :: ns ∧ ∀ y, y ∈ n :: ns → minL (n :: ns) ≤ y
  | n, [] => by simp [minL]
  | n, m :: ns => by
    obtain ⟨h1, h2⟩ := minL_ok m ns
    unfold minL
    simp only
    split
    · rename_i hle
      refine ⟨List.mem_cons_self, fun y hy => ?_⟩
      rcases List.mem_cons.mp hy with rfl | hy
      · exact Int.le_refl _
      · exact Int.le_trans hle (h2 y hy)
    · rename_i hle
      refine ⟨List.mem_cons_of_mem _ h1, fun y hy => ?_⟩
      rcases List.mem_cons.mp hy with rfl | hy
      · omega
      · exact h2 y hy
theorem r_max {u d : D} {v : V} (h : b1 .max M u = some d) (S : SR g X.K W M) (R : Rep X.K W u v) (Q : VK) (q : ∀ v' W', Ext W W' → SR g X.K W' M → Rep X.K W' d v' → Q v' W'.H) : rMax X.K [v] W.H Q := by
  simp only [b1] at h
  cases q1 : asInts M u with
  | none => rw [q1] at h; simp at h
  | some ns =>
    rw [q1] at h
    cases ns with
    | nil => simp at h
    | cons k ns =>
      simp only [Option.some.injEq] at h; subst h
      obtain ⟨a, rfl, f⟩ := asInts_ok q1 S R
      refine ⟨a, _, rfl, .of f, by simp, fun m hm hle => ?_⟩
      obtain ⟨h1, h2⟩ := maxL_ok k ns
      have : m = maxL (k :: ns) := Int.le_antisymm (h2 m hm) (hle _ h1)
      rw [this]
      exact q _ W (Ext.refl W) S rep_int
theorem r_min {u d : D} {v : V} (h : b1 .min M u = some d) (S : SR g X.K W M) (R : Rep X.K W u v) (Q : VK) (q : ∀ v' W', Ext W W' → SR g X.K W' M → Rep X.K W' d v' → Q v' W'.H) : rMin X.K [v] W.H Q := by
  simp only [b1] at h
  cases q1 : asInts M u with
  | none => rw [q1] at h; simp at h
  | some ns =>
    rw [q1] at h
    cases ns with
    | nil => simp at h
    | cons k ns =>
      simp only [Option.some.injEq] at h; subst h
      obtain ⟨a, rfl, f⟩ := asInts_ok q1 S R
      refine ⟨a, _, rfl, .of f, by simp, fun m hm hle => ?_⟩
      obtain ⟨h1, h2⟩ := minL_ok k ns
      have : m = minL (k :: ns) := Int.le_antisymm (hle _ h1) (h2 m hm)
      rw [this]
      exact q _ W (Ext.refl W) S rep_int
theorem r_tuple {u d : D} {v : V} (h : b1 .tuple M u = some d) (S : SR g X.K W M) (R : Rep X.K W u v) (Q : VK) (q : ∀ v' W', Ext W W' → SR g X.K W' M → Rep X.K W' d v' → Q v' W'.H) :
    ∃ p ys, [v] = [V.ref p] ∧ ((SqL X.K W.H p ys ∧ ∀ l, W.H l = none → Q (.ref l) (upd W.H l (.tup ys))) ∨ (SqT X.K W.H p ys ∧ Q (.ref p) W.H)) := by
  have gen : (asL M u).map D.tup = some d → ∃ p ys, [v] = [V.ref p] ∧ ((SqL X.K W.H p ys ∧ ∀ l, W.H l = none → Q (.ref l) (upd W.H l (.tup ys))) ∨ (SqT X.K W.H p ys ∧ Q (.ref p) W.H)) := fun h => by
    simp only [Option.map_eq_some_iff] at h
    obtain ⟨xs, h', rfl⟩ := h
    obtain ⟨a, vs, rfl, f, r⟩ := asL_ok S h' R
    refine ⟨a, vs, rfl, .inl ⟨.of f, fun p hp => ?_⟩⟩
    have hf := F_none S hp
    exact q _ (W.nF p (.tup vs)) (ext_newF hp hf) (S.newF hp) (.tup upd_same (r.lean (lean_nF hf)))
  cases u with
  | tup xs =>
    simp only [b1, Option.some.injEq] at h; subst h
    have R' := R
    simp only [Rep] at R'
    obtain ⟨a, vs, rfl, f, r⟩ := R'
    exact ⟨a, vs, rfl, .inr ⟨sqT_mono S.sub f, q _ W (Ext.refl W) S R⟩⟩
  | _ => exact gen (by simpa [b1] using h)
theorem keys_ok (ks : List Key) : Reps X.K W (ks.map keyD) (ks.map fun k => kV k) := by
  induction ks with
  | nil => exact Reps.nil
  | cons k ks ih =>
    refine Reps.cons ?_ ih
    cases k <;> simp only [keyD, kV, Rep]
theorem zip_fst : ∀ (ks : List Key) (vs : List V), ks.length = vs.length → (ks.zip vs).map (fun kv => kV kv.1) = ks.map fun k => kV k
  | [], _, _ => rfl
  | k :: ks, [], h => by simp at h
  | k :: ks, v :: vs, h => by rw [List.zip_cons_cons, List.map_cons, List.map_cons, zip_fst ks vs (by simpa using h)]
theorem r_listF {u : D} {v : V} {xs : List D} {W0 : Wd} (x : Ext W0 W) (h : listD M u = some xs) (S : SR g X.K W M) (R : Rep X.K W u v) (Q : VK) (q : ∀ v' W', Ext W W' → SR g X.K W' M → RepF X.K W0 W' (.lst xs) v' → Q v' W'.H) :
    (∃ p ys, [v] = [V.ref p] ∧ (SqL X.K W.H p ys ∨ SqT X.K W.H p ys) ∧ ∀ l, W.H l = none → Q (.ref l) (upd W.H l (.lst ys))) ∨
    (∃ p kvs, [v] = [V.ref p] ∧ W.H p = some (.dK kvs) ∧ ∀ l, W.H l = none → Q (.ref l) (upd W.H l (.lst (kvs.map fun kv => kV kv.1)))) := by
  have gen : asS M u = some xs → ∃ p ys, [v] = [V.ref p] ∧ (SqL X.K W.H p ys ∨ SqT X.K W.H p ys) ∧ ∀ l, W.H l = none → Q (.ref l) (upd W.H l (.lst ys)) := fun h => by
    obtain ⟨a, vs, rfl, f, r⟩ := asS_ok S h R
    exact ⟨a, vs, rfl, f, fun p hp => q _ (W.nH p (.lst vs)) (ext_new hp) (S.new hp) (repF_new x S hp r)⟩
  cases u with
  | ref j =>
    simp only [listD] at h
    cases q1 : M[j]? with
    | none => rw [q1] at h; simp at h
    | some o =>
      rw [q1] at h
      cases o with
      | lst ys => exact .inl (gen (by simpa [asS, asL, q1] using h))
      | dic ks ds =>
        simp only [Option.some.injEq] at h; subst h
        simp only [Rep] at R
        obtain ⟨a, e, rfl⟩ := R
        obtain ⟨_, vs, h1, h2, h3⟩ := S.obj j a _ e q1
        refine .inr ⟨a, _, rfl, h1, fun p hp => ?_⟩
        rw [zip_fst ks vs h2]
        exact q _ (W.nH p (.lst _)) (ext_new hp) (S.new hp) (repF_new x S hp (keys_ok ks))
      | ins c fs => simp at h
      | dead => simp at h
  | _ => exact .inl (gen (by simpa [listD] using h))
end

section
variable {g : Gw} {X : Cx} {n : Nat} {x y z : Expr} {e a b c : E} {Zx : WX} {pos : Pos}
theorem s_listF (h : PE X z (tCB (fun xs H Q => (∃ p ys, xs = [V.ref p] ∧ (SqL X.K H p ys ∨ SqT X.K H p ys) ∧ ∀ l, H l = none → Q (.ref l) (upd H l (.lst ys))) ∨ rListD xs H Q) (tCons (tE g X.K n a Zx) tNil))) : PE X z (tF g X.K n (.b1 .list a) Zx) :=
  peI h fun σ H Q ⟨W, M, env, hH, S, Er, al, rr⟩ => by
    simp only [ev] at rr
    refine ⟨W, M, env, hH, S, Er, rr.bind fun u M1 v W1 _ X1 S1 R1 q1 => ?_⟩
    obtain ⟨d, e, q2⟩ := q1.ofI
    simp only [b1, Option.map_eq_some_iff] at e
    obtain ⟨xs, e, rfl⟩ := e
    exact r_listF X1 e S1 R1 Q fun v' W' X' S' R' => Run.okI q2 X' S' R'

/-! ### items -/
theorem atI_ok {K : W.Frag} {W : Wd} {ds : List D} {vs : List V} {i : Int} {d : D} (r : Reps K W ds vs) (h : atI ds i = some d) : ∃ v, atI vs i = some v ∧ Rep K W d v := by
  unfold atI at h ⊢
  rw [← r.length]
  cases q : ixN ds.length i with
  | none => rw [q] at h; cases h
  | some j =>
    rw [q] at h
    exact r.get h
theorem atI_map {ns : List Int} {i : Int} {d : Int} (h : atI ns i = some d) : atI (ns.map V.int) i = some (.int d) := by
  unfold atI at h ⊢
  rw [List.length_map]
  cases q : ixN ns.length i with
  | none => rw [q] at h; cases h
  | some j =>
    rw [q] at h
    have h' : ns[j]? = some d := h
    show (ns.map V.int)[j]? = _
    rw [List.getElem?_map, h']; rfl
theorem lookK_ok {K : W.Frag} {W : Wd} {k : Key} {d : D} : ∀ {ks : List Key} {ds : List D} {vs : List V}, ks.length = vs.length → Reps K W ds vs → lookK k ks ds = some d → ∃ v, valV (ks.zip vs) k = some v ∧ Rep K W d v
  | [], ds, vs, l, r, h => by simp [lookK] at h
  | z :: ks, [], vs, l, r, h => by simp [lookK] at h
  | z :: ks, d' :: ds, vs, l, r, h => by
    obtain ⟨v, us, rfl, r1, r2⟩ := r.inv
    unfold lookK at h
    rw [List.zip_cons_cons]
    by_cases e : z = k
    · rw [if_pos e] at h
      cases h
      exact ⟨v, valV_pos e, r1⟩
    · rw [if_neg e] at h
      rw [valV_neg e]
      exact lookK_ok (by simpa using l) r2 h
theorem idx_ok {g : Gw} {K : W.Frag} {W : Wd} {M : Mem} {a i d : D} {v k : V} (h : idxD M a i = some d) (S : SR g K W M) (ra : Rep K W a v) (ri : Rep K W i k) :
    (∃ p xs j w, v = .ref p ∧ k = .int j ∧ (SqL K W.H p xs ∨ SqT K W.H p xs) ∧ atI xs j = some w ∧ Rep K W d w) ∨ (∃ p w, v = .ref p ∧ DGet W.H p k (some w) ∧ Rep K W d w) := by
  have go : ∀ {xs : List D}, atD xs i = some d → (∃ p vs, v = .ref p ∧ (SqL K W.H p vs ∨ SqT K W.H p vs) ∧ Reps K W xs vs) →
      ∃ p xs j w, v = .ref p ∧ k = .int j ∧ (SqL K W.H p xs ∨ SqT K W.H p xs) ∧ atI xs j = some w ∧ Rep K W d w := fun {xs} h ⟨p, vs, e, f, r⟩ => by
    cases i <;> simp [atD] at h
    simp only [Rep] at ri
    obtain ⟨w, h1, h2⟩ := atI_ok r h
    exact ⟨p, vs, _, w, e, ri, f, h1, h2⟩
  cases a with
  | lst xs => exact .inl (go h (asS_ok (M := M) S rfl ra))
  | tup xs => exact .inl (go h (asS_ok (M := M) S rfl ra))
  | scr ns =>
    simp only [idxD] at h
    cases i <;> simp at h
    obtain ⟨w, h', rfl⟩ := h
    simp only [Rep] at ra ri
    obtain ⟨p, rfl, f⟩ := ra
    exact .inl ⟨p, _, _, .int w, rfl, ri, .inl (sqL_mono S.sub f), atI_map h', rep_int⟩
  | ref j =>
    simp only [idxD] at h
    cases q1 : M[j]? with
    | none => rw [q1] at h; simp at h
    | some o =>
      rw [q1] at h
      cases o with
      | lst xs => exact .inl (go h (asS_ok (M := M) S (by simp [asS, asL, q1]) ra))
      | dic ks ds =>
        simp only at h
        cases q2 : keyOf i with
        | none => rw [q2] at h; simp at h
        | some kk =>
          rw [q2] at h
          simp only [Rep] at ra
          obtain ⟨p, e, rfl⟩ := ra
          obtain ⟨_, vs, h1, h2, h3⟩ := S.obj j p _ e q1
          obtain ⟨w, h4, h5⟩ := lookK_ok h2 h3 h
          refine .inr ⟨p, w, rfl, ?_, h5⟩
          rw [keyOf_ok q2 ri, ← h4]
          exact DGet.k h1
      | ins c fs => simp at h
      | dead => simp at h
  | _ => simp [idxD] at h
end
end Z
end
section
set_option Elab.async false
set_option linter.all false
set_option maxRecDepth 100000
set_option maxHeartbeats 4000000
/-! Zx5: items, slices, what is walked, list comprehensions. -/
namespace Z
open PySem L2

section
variable {X : Cx}
def rIxDic : R2 := fun x y H Q => ∃ a v, x = .ref a ∧ DGet H a y (some v) ∧ Q v H
theorem ix_dic (hu : X.A.units + 1 < cLine) : IxR X rIxDic := by
  intro value slice pins s σ H x y v u Q I rx ry h hs
  obtain ⟨a, w', rfl, gt, q⟩ := h
  cases rx
  exact PyProof.Rows.tail_any (dict_typeIs I gt) PySem.F.slot_dict_getitem.lookup (d_getItem hu I gt ry fun w2 s' I' rw' => ⟨w', H, I', rw', q⟩) hs
end

section
variable {g : Gw} {X : Cx} {n : Nat} {x y z : Expr} {e a b c : E} {Zx : WX} {pos : Pos}
theorem s_idx (hu : X.A.units + 1 < cLine) (ha : PE X x (tE g X.K n a Zx)) (hb : PE X y (tE g X.K n b Zx)) (hs : PlainIx y) : PE X (.Subscript x y pos) (tE g X.K n (.idx a b) Zx) :=
  peI (pe_ix (ix_list.or (ix_tup.or (ix_dic hu))) ha hb hs) fun σ H Q ⟨W, M, env, hH, S, Er, rr⟩ => by
    simp only [ev] at rr
    refine two_step S Er hH rr fun u v M2 W2 p q X2 S2 R1 R2 r2 => ?_
    obtain ⟨d, e, r3⟩ := r2.ofI
    rcases idx_ok e S2 R1 R2 with ⟨s, vs, j, w, rfl, rfl, f, h1, h2⟩ | ⟨s, w, rfl, h1, h2⟩
    · rcases f with f | f
      · exact .inl ⟨s, vs, j, w, rfl, rfl, f, h1, Run.okI r3 (Ext.refl _) S2 h2⟩
      · exact .inr (.inl ⟨s, vs, j, w, rfl, rfl, f, h1, Run.okI r3 (Ext.refl _) S2 h2⟩)
    · exact .inr (.inr ⟨s, w, rfl, h1, Run.okI r3 (Ext.refl _) S2 h2⟩)

/-! ### slices -/
def tO (g : Gw) (K : W.Frag) (n : Nat) (o : Oe) (Zx : WX) : TO := fun σ H Q => ∃ W M env, W.H = H ∧ SR g K W M ∧ ER K W σ env ∧ Run g K W (fun _ (d v : Option Int) => d = v) ((evo g.G (clN g n) o env M).bind fun l M => R.of (optI l) M) Q (atS Zx σ)
theorem poI {X : Cx} {e : Option Expr} {t t' : TO} (h : PO X e t) (i : ∀ σ H Q, t' σ H Q → t σ H Q) : PO X e t' := ⟨fun p s σ H Q I q => h.run p s σ H Q I (i σ H Q q)⟩
theorem s_oN : PO X none (tO g X.K n .none Zx) := poI po_none fun σ H Q ⟨W, M, env, hH, S, Er, rr⟩ => by
  subst hH
  simp only [evo, R.bind_ok, optI, R.of_some] at rr
  exact Run.okI rr (Ext.refl _) S rfl
theorem s_oS (h : PE X x (tE g X.K n e Zx)) : PO X (some x) (tO g X.K n (.some e) Zx) := poI (po_some h) fun σ H Q ⟨W, M, env, hH, S, Er, rr⟩ => by
  have e1 : ((evo g.G (clN g n) (.some e) env M).bind fun l M => R.of (optI l) M) = (ev g.G (clN g n) e env M).bind fun d M => R.of (optI (some d)) M := by
    simp only [evo]
    cases ev g.G (clN g n) e env M <;> rfl
  rw [e1] at rr
  refine ⟨W, M, env, hH, S, Er, rr.bind fun d M1 v W1 _ X1 S1 R1 q1 => ?_⟩
  obtain ⟨o, e2, q2⟩ := q1.ofI
  cases d <;> simp only [optI, reduceCtorEq, Option.some.injEq] at e2
  subst e2
  simp only [Rep] at R1
  exact ⟨_, R1, Run.okI q2 (Ext.refl _) S1 rfl⟩
theorem cut_ok {K : W.Frag} {W : Wd} {ds : List D} {vs : List V} {lo hi : Option Int} (r : Reps K W ds vs) : Reps K W (cut ds lo hi) (cutV vs lo hi) := by
  unfold cut cutV
  rw [← r.length]
  exact (r.drop _).take _
theorem cut_ints {K : W.Frag} {W : Wd} {ns : List Int} {lo hi : Option Int} : Reps K W ((cut ns lo hi).map D.int) (cutV (ns.map V.int) lo hi) := by
  have e : cutV (ns.map V.int) lo hi = (cut ns lo hi).map V.int := by
    unfold cut cutV
    rw [List.length_map, List.map_take, List.map_drop]
  rw [e]
  exact reps_ints _
theorem slc_cases {g : Gw} {K : W.Frag} {W : Wd} {M : Mem} {u d : D} {v : V} {lo hi : Option Int} (h : slcD M u lo hi = some d) (S : SR g K W M) (r : Rep K W u v) :
    (∃ a us ds, v = .ref a ∧ SqL K W.H a us ∧ d = .lst ds ∧ Reps K W ds (cutV us lo hi)) ∨
    (∃ a us ds, v = .ref a ∧ SqT K W.H a us ∧ ¬ (HT.sIx us.length 0 lo = 0 ∧ HT.sIx us.length us.length hi = us.length) ∧ d = .tup ds ∧ Reps K W ds (cutV us lo hi)) := by
  have gen : ((asL M u).map fun xs => D.lst (cut xs lo hi)) = some d → (∃ a us ds, v = .ref a ∧ SqL K W.H a us ∧ d = .lst ds ∧ Reps K W ds (cutV us lo hi)) := fun h => by
    obtain ⟨xs, h', rfl⟩ := Option.map_eq_some_iff.mp h
    obtain ⟨a, us, rfl, f, q⟩ := asL_ok S h' r
    exact ⟨a, us, _, rfl, .of f, rfl, cut_ok q⟩
  cases u with
  | tup xs =>
    simp only [slcD] at h
    split at h
    · cases h
    · rename_i hz
      simp only [Rep] at r
      obtain ⟨a, us, rfl, f, q⟩ := r
      cases h
      exact .inr ⟨a, us, _, rfl, sqT_mono S.sub f, by rw [← q.length]; exact hz, rfl, cut_ok q⟩
  | scr ns =>
    simp only [slcD, Option.some.injEq] at h
    simp only [Rep] at r
    obtain ⟨a, rfl, f⟩ := r
    exact .inl ⟨a, _, _, rfl, sqL_mono S.sub f, h.symm, cut_ints⟩
  | _ => exact .inl (gen (by simpa [slcD] using h))
theorem slc_step {r : V → Option Int → Option Int → Hp → VK → Prop} {lo hi : Oe} {Rp : Wd → Wd → D → V → Prop} {σ : St} {H : Hp} {Q : VK} {Wm : Wd} {M : Mem} {env : Env} (S : SR g X.K Wm M) (Er : ER X.K Wm σ env) (hH : Wm.H = H)
    (rr : Run g X.K Wm (Rp Wm) (ev g.G (clN g n) (.slc a lo hi) env M) Q (atS Zx σ))
    (h : ∀ u v l t d M2 W2, Ext Wm W2 → SR g X.K W2 M2 → Rep X.K W2 u v → slcD M2 u l t = some d → ev g.G (clN g n) (.slc a lo hi) env M = .ok d M2 → Run g X.K W2 (Rp Wm) (.ok d M2) Q (atS Zx σ) → r v l t W2.H Q) :
    tSl r (tE g X.K n a Zx) (tO g X.K n lo Zx) (tO g X.K n hi Zx) σ H Q := by
  have e0 : ev g.G (clN g n) (.slc a lo hi) env M = (ev g.G (clN g n) a env M).bind fun x M => ((evo g.G (clN g n) lo env M).bind fun l M => R.of (optI l) M).bind fun l M =>
      ((evo g.G (clN g n) hi env M).bind fun h M => R.of (optI h) M).bind fun h M => R.of (slcD M x l h) M := by simp only [ev]
  have rr' := rr
  rw [e0] at rr'
  refine ⟨Wm, M, env, hH, S, Er, rr'.bind fun u M1 v W1 e1 X1 S1 R1 q1 => ?_⟩
  refine ⟨W1, M1, env, rfl, S1, Er.mono X1, q1.bind fun l M2 l' W2 e2 X2 S2 R2 q2 => ?_⟩
  subst R2
  refine ⟨W2, M2, env, rfl, S2, (Er.mono X1).mono X2, q2.bind fun t M3 t' W3 e3 X3 S3 R3 q3 => ?_⟩
  subst R3
  obtain ⟨d, e4, q4⟩ := q3.ofI
  refine h u v l t d M3 W3 ((X1.trans X2).trans X3) S3 ((R1.mono X2).mono X3) e4 ?_ q4
  rw [e0, e1, R.bind_ok, e2, R.bind_ok, e3, R.bind_ok, e4, R.of_some]
theorem s_slc {l t : Option Expr} {lo hi : Oe} {p2 : Pos} (ha : PE X x (tE g X.K n a Zx)) (hl : PO X l (tO g X.K n lo Zx)) (ht : PO X t (tO g X.K n hi Zx)) : PE X (.Subscript x (.Slice l t none p2) pos) (tE g X.K n (.slc a lo hi) Zx) :=
  peI (pe_slice (sl_list.or sl_tup) ha hl ht) fun σ H Q ⟨W, M, env, hH, S, Er, rr⟩ => by
    refine slc_step (Rp := fun _ => Rep X.K) S Er hH rr fun u v l t d M2 W2 X2 S2 R2 e2 _ q2 => ?_
    rcases slc_cases e2 S2 R2 with ⟨s, us, ds, rfl, f, rfl, q⟩ | ⟨s, us, ds, rfl, f, hz, rfl, q⟩
    · refine .inl ⟨s, us, rfl, f, fun p hp => ?_⟩
      have hf := F_none S2 hp
      exact Run.okI q2 (W' := W2.nF p (.lst _)) (ext_newF hp hf) (S2.newF hp) (.lst upd_same (q.lean (lean_nF hf)))
    · refine .inr ⟨s, us, rfl, f, hz, fun p hp => ?_⟩
      have hf := F_none S2 hp
      exact Run.okI q2 (W' := W2.nF p (.tup _)) (ext_newF hp hf) (S2.newF hp) (.tup upd_same (q.lean (lean_nF hf)))
theorem s_slcF {l t : Option Expr} {lo hi : Oe} {p2 : Pos} (ha : PE X x (tE g X.K n a Zx)) (hl : PO X l (tO g X.K n lo Zx)) (ht : PO X t (tO g X.K n hi Zx)) : PE X (.Subscript x (.Slice l t none p2) pos) (tF g X.K n (.slc a lo hi) Zx) :=
  peI (pe_slice sl_list ha hl ht) fun σ H Q ⟨W, M, env, hH, S, Er, al, rr⟩ => by
    refine slc_step (Rp := RepF X.K) S Er hH rr fun u v l t d M2 W2 X2 S2 R2 e2 e3 q2 => ?_
    obtain ⟨xs, rfl⟩ := al d M2 e3
    rcases slc_cases e2 S2 R2 with ⟨s, us, ds, rfl, f, h, q⟩ | ⟨s, us, ds, rfl, f, hz, h, q⟩
    · cases h
      refine ⟨s, us, rfl, f, fun p hp => ?_⟩
      exact Run.okI q2 (W' := W2.nH p (.lst _)) (ext_new hp) (S2.new hp) (repF_new X2 S2 hp q)
    · cases h
theorem s_revF {k : Nat} {p1 p2 p3 : Pos} (ha : PE X x (tE g X.K n a Zx)) : PE X (.Subscript x (.Slice none none (some (.UnaryOp .USub (.Constant (.int 1) k p1) p2)) p3) pos) (tF g X.K n (.rev a) Zx) :=
  peI (pe_revL ha) fun σ H Q ⟨W, M, env, hH, S, Er, al, rr⟩ => by
    simp only [ev] at rr
    refine ⟨W, M, env, hH, S, Er, rr.bind fun u M1 v W1 e1 X1 S1 R1 q1 => ?_⟩
    obtain ⟨d, e2, q2⟩ := q1.ofI
    obtain ⟨xs, e3, rfl⟩ := Option.map_eq_some_iff.mp e2
    obtain ⟨s, us, rfl, f, q⟩ := asL_ok S1 e3 R1
    refine ⟨s, us, rfl, .of f, fun p hp => ?_⟩
    exact Run.okI q2 (W' := W1.nH p (.lst _)) (ext_new hp) (S1.new hp) (repF_new X1 S1 hp q.rev)
theorem rev_al {env : Env} {M M' : Mem} {d : D} (h : ev g.G (clN g n) (.rev a) env M = .ok d M') : ∃ xs, d = .lst xs := by
  simp only [ev] at h
  cases q1 : ev g.G (clN g n) a env M with
  | ok x M1 =>
    rw [q1] at h
    simp only [R.bind_ok] at h
    cases q2 : revD M1 x with
    | none => rw [q2] at h; simp at h
    | some d' =>
      rw [q2] at h
      obtain ⟨xs, _, rfl⟩ := Option.map_eq_some_iff.mp q2
      simp only [R.of_some, R.ok.injEq] at h
      exact ⟨_, h.1.symm⟩
  | ex c d M3 => rw [q1] at h; simp at h
  | no => rw [q1] at h; simp at h
end
end Z
end
section
set_option Elab.async false
set_option linter.all false
set_option maxRecDepth 100000
set_option maxHeartbeats 4000000
/-! Zx6: what is walked; targets; list comprehensions. -/
namespace Z
open PySem L2

/-- the iterator J gives the trees ds one behind the other, from the state W on -/
structure Gives (g : Gw) (K : W.Frag) (W : Wd) (ds : List D) (J : L2.It) : Prop where
  step : ∀ (W' : Wd) (M' : Mem) (i : Nat) (d : D), Ext W W' → SR g K W' M' → ds[i]? = some d → J.go i W'.H ∧ ∀ x H', J.yld i W'.H x H' → ∃ W'', Ext W' W'' ∧ W''.H = H' ∧ Rep K W'' d x ∧ SR g K W'' M'
  stop : ∀ (W' : Wd) (M' : Mem), Ext W W' → SR g K W' M' → J.stop ds.length W'.H
def tI (g : Gw) (K : W.Frag) (n : Nat) (it : It) (Zx : WX) : TI := fun σ H R => ∃ W M env, W.H = H ∧ SR g K W M ∧ ER K W σ env ∧
  (match evi g.G (clN g n) it env M with
    | .ok ds M' => ∀ W' J, Ext W W' → SR g K W' M' → Gives g K W' ds J → R J W'.H
    | .ex c d M' => ∀ cls dx W', Ext W W' → SR g K W' M' → XR g K W' c d cls dx → Zx cls dx σ W'.H
    | .no => False)
theorem piI {X : Cx} {tg e : Expr} {t t' : TI} (h : PI X tg e t) (i : ∀ σ H Q, t' σ H Q → t σ H Q) : PI X tg e t' := ⟨fun p s σ H Q I q => h.run p s σ H Q I (i σ H Q q)⟩

section
variable {g : Gw} {K : W.Frag} {W : Wd} {M : Mem}
theorem gives_list {a : Addr} {vs : List V} {ds : List D} (f : SqL K W.F a vs) (r : Reps K W ds vs) (uniq : ∀ (W' : Wd), Ext W W' → ∀ us, SqL K W'.H a us → us = vs) : Gives g K W ds (Itl K a) := by
  refine ⟨fun W' M' i d x S e => ?_, fun W' M' x S => ⟨vs, sqL_mono S.sub (sqL_mono x.F f), by rw [r.length]; exact Nat.le_refl _⟩⟩
  obtain ⟨v, e1, e2⟩ := r.get e
  refine ⟨⟨vs, v, sqL_mono S.sub (sqL_mono x.F f), e1⟩, fun y H' ⟨h1, h2⟩ => ⟨W', Ext.refl _, h1.symm, ?_, S⟩⟩
  have := h2 vs (sqL_mono S.sub (sqL_mono x.F f))
  rw [e1] at this; cases this
  exact e2.mono x
theorem gives_list' {a : Addr} {vs : List V} {ds : List D} (f : SqL K W.F a vs) (r : Reps K W ds vs) : Gives g K W ds (Itl K a) := by
  refine ⟨fun W' M' i d x S e => ?_, fun W' M' x S => ⟨vs, sqL_mono S.sub (sqL_mono x.F f), by rw [r.length]; exact Nat.le_refl _⟩⟩
  obtain ⟨v, e1, e2⟩ := r.get e
  refine ⟨⟨vs, v, sqL_mono S.sub (sqL_mono x.F f), e1⟩, fun y H' ⟨h1, h2⟩ => ⟨W', Ext.refl _, h1.symm, ?_, S⟩⟩
  have := h2 vs (sqL_mono S.sub (sqL_mono x.F f))
  rw [e1] at this; cases this
  exact e2.mono x
theorem gives_tup {a : Addr} {vs : List V} {ds : List D} (f : SqT K W.F a vs) (r : Reps K W ds vs) : Gives g K W ds (Itt K a) := by
  refine ⟨fun W' M' i d x S e => ?_, fun W' M' x S => ⟨vs, sqT_mono S.sub (sqT_mono x.F f), by rw [r.length]; exact Nat.le_refl _⟩⟩
  obtain ⟨v, e1, e2⟩ := r.get e
  refine ⟨⟨vs, v, sqT_mono S.sub (sqT_mono x.F f), e1⟩, fun y H' ⟨h1, h2⟩ => ⟨W', Ext.refl _, h1.symm, ?_, S⟩⟩
  have := h2 vs (sqT_mono S.sub (sqT_mono x.F f))
  rw [e1] at this; cases this
  exact e2.mono x
theorem gives_range {lo : Int} {k : Nat} : Gives g K W (rangeD lo k) (Itr lo k) := by
  have hl : (rangeD lo k).length = k := by simp [rangeD]
  refine ⟨fun W' M' i d x S e => ?_, fun W' M' x S => by rw [hl]; exact Nat.le_refl _⟩
  have hi : i < k := by rw [← hl]; exact (List.getElem?_eq_some_iff.mp e).1
  refine ⟨hi, fun y H' ⟨h1, h2⟩ => ⟨W', Ext.refl _, h1.symm, ?_, S⟩⟩
  have e' : d = .int (lo + i) := by
    unfold rangeD at e
    rw [List.getElem?_map, List.getElem?_range hi] at e
    exact (Option.some.inj e).symm
  subst e' h2
  exact rep_int
theorem zipIdx_get {α : Type} (xs : List α) (i : Nat) : xs.zipIdx[i]? = (xs[i]?).map fun x => (x, i) := by
  rw [List.getElem?_zipIdx]; simp
theorem gives_pair {ds : List D} {J : L2.It} {W : Wd} (d1 d2 : Nat → D) (n : Nat) (hl : ds.length = n) (hd : ∀ i, i < n → ds[i]? = some (.tup [d1 i, d2 i]))
    (go : ∀ W' M' i, Ext W W' → SR g K W' M' → i < n → J.go i W'.H) (st : ∀ W' M', Ext W W' → SR g K W' M' → J.stop n W'.H)
    (yl : ∀ W' M' i v H', Ext W W' → SR g K W' M' → i < n → J.yld i W'.H v H' → ∃ T x y, v = .ref T ∧ W'.H T = none ∧ H' = upd W'.H T (.tup [x, y]) ∧ Rep K W' (d1 i) x ∧ Rep K W' (d2 i) y) : Gives g K W ds J := by
  refine ⟨fun W' M' i d x S e => ?_, fun W' M' x S => by rw [hl]; exact st W' M' x S⟩
  have hi : i < n := by rw [← hl]; exact (List.getElem?_eq_some_iff.mp e).1
  have e' : d = .tup [d1 i, d2 i] := by rw [hd i hi] at e; exact (Option.some.inj e).symm
  subst e'
  refine ⟨go W' M' i x S hi, fun y H' hy => ?_⟩
  obtain ⟨T, u, w', rfl, hT, rfl, h1, h2⟩ := yl W' M' i y H' x S hi hy
  have hf := F_none S hT
  exact ⟨W'.nF T (.tup [u, w']), ext_newF hT hf, rfl, .tup upd_same (Reps.cons (h1.lean (lean_nF hf)) (Reps.cons (h2.lean (lean_nF hf)) Reps.nil)), S.newF hT⟩
theorem gives_enum {a : Addr} {vs : List V} {ds : List D} (f : SqL K W.F a vs) (r : Reps K W ds vs) : Gives g K W (enumD ds) (Ite K a) := by
  refine gives_pair (fun i => .int (i : Nat)) (fun i => ds.getD i .non) ds.length (by simp [enumD]) (fun i hi => ?_) (fun W' M' i x S hi => ?_) (fun W' M' x S => ⟨vs, sqL_mono S.sub (sqL_mono x.F f), by rw [r.length]; exact Nat.le_refl _⟩) (fun W' M' i v H' x S hi hy => ?_)
  · unfold enumD
    rw [List.getElem?_map, zipIdx_get, List.getElem?_eq_getElem hi]
    simp [List.getD_eq_getElem?_getD, hi]
  · obtain ⟨u, e1, _⟩ := r.get (List.getElem?_eq_getElem hi)
    exact ⟨vs, u, sqL_mono S.sub (sqL_mono x.F f), e1⟩
  · obtain ⟨T, u, rfl, hT, rfl, h⟩ := hy
    obtain ⟨u', e1, e2⟩ := r.get (List.getElem?_eq_getElem hi)
    have := h vs (sqL_mono S.sub (sqL_mono x.F f))
    rw [e1] at this; cases this
    refine ⟨T, _, _, rfl, hT, rfl, rep_int, ?_⟩
    rw [List.getD_eq_getElem?_getD, List.getElem?_eq_getElem hi]
    exact e2.mono x
theorem gives_zip {a b : Addr} {vs us : List V} {ds es : List D} (f : SqL K W.F a vs) (r : Reps K W ds vs) (f2 : SqL K W.F b us) (r2 : Reps K W es us) : Gives g K W (zipD ds es) (Itz K a b) := by
  have hl : (zipD ds es).length = min ds.length es.length := by simp [zipD]
  refine gives_pair (fun i => ds.getD i .non) (fun i => es.getD i .non) (min ds.length es.length) hl (fun i hi => ?_) (fun W' M' i x S hi => ?_) (fun W' M' x S => ⟨vs, us, sqL_mono S.sub (sqL_mono x.F f), sqL_mono S.sub (sqL_mono x.F f2), ?_⟩) (fun W' M' i v H' x S hi hy => ?_)
  · have h1 : i < ds.length := by omega
    have h2 : i < es.length := by omega
    unfold zipD
    have hz : i < (ds.zip es).length := by rw [List.length_zip]; exact hi
    rw [List.getElem?_map, List.getElem?_eq_getElem hz, List.getElem_zip]
    simp [List.getD_eq_getElem?_getD, h1, h2]
  · obtain ⟨u, e1, _⟩ := r.get (List.getElem?_eq_getElem (show i < ds.length by omega))
    obtain ⟨w', e2, _⟩ := r2.get (List.getElem?_eq_getElem (show i < es.length by omega))
    exact ⟨vs, us, u, w', sqL_mono S.sub (sqL_mono x.F f), sqL_mono S.sub (sqL_mono x.F f2), e1, e2⟩
  · rw [← r.length, ← r2.length]; omega
  · obtain ⟨T, p, q, rfl, hT, rfl, h, h'⟩ := hy
    have h1 : i < ds.length := by omega
    have h2 : i < es.length := by omega
    obtain ⟨u', e1, e2⟩ := r.get (List.getElem?_eq_getElem h1)
    obtain ⟨w', e3, e4⟩ := r2.get (List.getElem?_eq_getElem h2)
    have q1 := h vs (sqL_mono S.sub (sqL_mono x.F f))
    have q2 := h' us (sqL_mono S.sub (sqL_mono x.F f2))
    rw [e1] at q1; cases q1
    rw [e3] at q2; cases q2
    refine ⟨T, _, _, rfl, hT, rfl, ?_, ?_⟩
    · rw [List.getD_eq_getElem?_getD, List.getElem?_eq_getElem h1]; exact e2.mono x
    · rw [List.getD_eq_getElem?_getD, List.getElem?_eq_getElem h2]; exact e4.mono x
end

section
variable {g : Gw} {X : Cx} {n : Nat} {x y z tg : Expr} {e a b c : E} {Zx : WX} {pos : Pos}

theorem i_seq (h : PE X x (tE g X.K n e Zx)) : PI X tg x (tI g X.K n (.seq e) Zx) := by
  refine ⟨fun pins s σ H Rk I ⟨W, M, env, hH, S, Er, r⟩ => ?_⟩
  have e1 : evi g.G (clN g n) (.seq e) env M = (ev g.G (clN g n) e env M).bind fun x M => R.of (seqD x) M := by simp only [evi]
  rw [e1] at r
  cases q : ev g.G (clN g n) e env M with
  | no => rw [q] at r; exact r.elim
  | ex c d M' =>
    rw [q] at r
    refine (pi_list (tg := tg) h).run pins s σ H Rk I ⟨W, M, env, hH, S, Er, ?_⟩
    rw [q]; exact r
  | ok d M' =>
    rw [q] at r
    simp only [R.bind_ok] at r
    have lst : ∀ ds, seqD d = some ds → (∀ W', Rep X.K W' d = Rep X.K W' d) → (∀ W' v, Rep X.K W' d v → ∃ a vs, v = .ref a ∧ SqL X.K W'.F a vs ∧ Reps X.K W' ds vs) → wpAny (model X.prog X.w) X.A (eval x X.env) (fun v s1 => wpAny (model X.prog X.w) X.A (pyIter v) (PIE X pins σ tg Rk) X.xe s1) X.xe s := fun ds e2 _ hr => by
      refine (pi_list (tg := tg) h).run pins s σ H Rk I ⟨W, M, env, hH, S, Er, ?_⟩
      rw [q]
      rw [e2] at r
      intro v W' X' S' R'
      obtain ⟨a, vs, rfl, f, rs⟩ := hr W' v R'
      exact ⟨a, rfl, ⟨vs, sqL_mono S'.sub f⟩, r W' _ X' S' (gives_list' f rs)⟩
    cases d with
    | lst xs =>
      exact lst xs rfl (fun _ => rfl) fun W' v hv => by
        simp only [Rep] at hv
        obtain ⟨a, vs, e3, f, rs⟩ := hv
        exact ⟨a, vs, e3, .of f, rs⟩
    | scr ns =>
      exact lst _ rfl (fun _ => rfl) fun W' v hv => by
        simp only [Rep] at hv
        obtain ⟨a, e3, f⟩ := hv
        exact ⟨a, _, e3, f, reps_ints ns⟩
    | tup xs =>
      refine (pi_tup (tg := tg) h).run pins s σ H Rk I ⟨W, M, env, hH, S, Er, ?_⟩
      rw [q]
      simp only [seqD, R.of_some] at r
      intro v W' X' S' R'
      simp only [Rep] at R'
      obtain ⟨a, vs, rfl, f, rs⟩ := R'
      exact ⟨a, rfl, ⟨vs, sqT_mono S'.sub f⟩, r W' _ X' S' (gives_tup f rs)⟩
    | _ => simp only [seqD, R.of_none] at r
theorem rng1D_ok {d : D} {ds : List D} (h : rng1D d = some ds) : ∃ k, d = .int k ∧ -(2 ^ 62) ≤ k ∧ k < 2 ^ 62 ∧ ds = rangeD 0 k.toNat := by
  cases d <;> simp only [rng1D, reduceCtorEq] at h
  split at h
  · rename_i hz
    exact ⟨_, rfl, hz.1, hz.2, (Option.some.inj h).symm⟩
  · cases h
theorem rng2D_ok {d e : D} {ds : List D} (h : rng2D d e = some ds) : ∃ i j, d = .int i ∧ e = .int j ∧ (-(2 ^ 62) ≤ i ∧ i < 2 ^ 62 ∧ -(2 ^ 62) ≤ j ∧ j < 2 ^ 62) ∧ ds = rangeD i (j - i).toNat := by
  cases d <;> cases e <;> simp only [rng2D, reduceCtorEq] at h
  split at h
  · rename_i hz
    exact ⟨_, _, rfl, rfl, hz, (Option.some.inj h).symm⟩
  · cases h
theorem i_rng {p : Pos} (hgl : Gl X "range") (hm : X.mg "range" = none) (h : PA X [x] (tCons (tE g X.K n a Zx) tNil)) (hs : starEach [x] X.env = [(false, eval x X.env)]) : PI X tg (.Call (.Name "range" p) [x] [] pos) (tI g X.K n (.rng a) Zx) :=
  piI (pi_range1 hgl hm h hs) fun σ H Rk ⟨W, M, env, hH, S, Er, r⟩ => by
    have e1 : evi g.G (clN g n) (.rng a) env M = (ev g.G (clN g n) a env M).bind fun x M => R.of (rng1D x) M := by simp only [evi]
    rw [e1] at r
    refine ⟨W, M, env, hH, S, Er, ?_⟩
    cases q : ev g.G (clN g n) a env M with
    | no => rw [q] at r; exact r.elim
    | ex c d M' => rw [q] at r; exact r
    | ok d M' =>
      rw [q] at r
      simp only [R.bind_ok] at r
      intro v W' X' S' R'
      cases q2 : rng1D d with
      | none => rw [q2] at r; exact r.elim
      | some ds =>
        rw [q2] at r
        obtain ⟨k, rfl, h1, h2, rfl⟩ := rng1D_ok q2
        simp only [Rep] at R'
        subst R'
        exact ⟨k, rfl, h1, h2, r W' _ X' S' gives_range⟩
theorem i_rng2 {p : Pos} (hgl : Gl X "range") (hm : X.mg "range" = none) (h : PA X [x, y] (tCons (tE g X.K n a Zx) (tCons (tE g X.K n b Zx) tNil))) (hs : starEach [x, y] X.env = [(false, eval x X.env), (false, eval y X.env)]) (hs2 : starEach [y] X.env = [(false, eval y X.env)]) :
    PI X tg (.Call (.Name "range" p) [x, y] [] pos) (tI g X.K n (.rng2 a b) Zx) :=
  piI (pi_range2 hgl hm h hs hs2) fun σ H Rk ⟨W, M, env, hH, S, Er, r⟩ => by
    have e1 : evi g.G (clN g n) (.rng2 a b) env M = (ev g.G (clN g n) a env M).bind fun x M => (ev g.G (clN g n) b env M).bind fun y M => R.of (rng2D x y) M := by simp only [evi]
    rw [e1] at r
    refine ⟨W, M, env, hH, S, Er, ?_⟩
    cases q : ev g.G (clN g n) a env M with
    | no => rw [q] at r; exact r.elim
    | ex c d M' => rw [q] at r; exact r
    | ok d M' =>
      rw [q] at r
      simp only [R.bind_ok] at r
      intro v W' X' S' R'
      refine ⟨W', M', env, rfl, S', Er.mono X', ?_⟩
      cases q2 : ev g.G (clN g n) b env M' with
      | no => rw [q2] at r; exact r.elim
      | ex c d M2 => rw [q2] at r; exact fun cls dx W2 X2 => r cls dx W2 (X'.trans X2)
      | ok d2 M2 =>
        rw [q2] at r
        simp only [R.bind_ok] at r
        intro v2 W2 X2 S2 R2
        cases q3 : rng2D d d2 with
        | none => rw [q3] at r; exact r.elim
        | some ds =>
          rw [q3] at r
          obtain ⟨i, j, rfl, rfl, h1, rfl⟩ := rng2D_ok q3
          simp only [Rep] at R' R2
          subst R' R2
          exact ⟨_, _, rfl, h1, r W2 _ (X'.trans X2) S2 gives_range⟩

/-! ### targets of loops -/
def gAll : List Nat → TGs
  | [] => gNil
  | i :: is => gCons (gName i) (gAll is)
def gT (K : W.Frag) : Tg → TG
  | .one i => gName i
  | .many is => gTup K is.length (gAll is)
theorem ER.set {K : W.Frag} {W : Wd} {σ : St} {env : Env} {i : Nat} {d : D} {v : V} (h : ER K W σ env) (r : Rep K W d v) : ER K W (σ.set i (some v)) (env.set i (some d)) := by
  refine ⟨fun j d' e => ?_, by simp [h.len]⟩
  by_cases hj : i = j
  · subst hj
    by_cases hi : i < env.length
    · rw [List.getElem?_set_self hi] at e
      cases e
      exact ⟨v, List.getElem?_set_self (by rw [← h.len]; exact hi), r⟩
    · rw [List.getElem?_eq_none (by simpa using hi)] at e; cases e
  · rw [List.getElem?_set_ne hj] at e ⊢
    exact h.at_ j d' e
theorem wipe_set (σ : St) (v : V) : ∀ (vs : List Nat) (i : Nat), i ∈ vs → wipe (σ.set i (some v)) vs = wipe σ vs
  | u :: vs, i, h => by
    unfold wipe
    by_cases hi : i ∈ vs
    · rw [wipe_set σ v vs i hi]
    · have : i = u := by
        rcases List.mem_cons.mp h with e | e
        · exact e
        · exact absurd e hi
      subst this
      have comm : ∀ (ws : List Nat), i ∉ ws → wipe (σ.set i (some v)) ws = (wipe σ ws).set i (some v) := by
        intro ws
        induction ws with
        | nil => intro _; rfl
        | cons w ws ih =>
          intro hw
          have h1 : i ≠ w := fun e => hw (by rw [e]; exact List.mem_cons_self)
          have h2 : i ∉ ws := fun e => hw (List.mem_cons_of_mem _ e)
          unfold wipe
          rw [ih h2, List.set_comm _ _ h1]
      rw [comm vs hi, List.set_set]
theorem wipe_wipe (σ : St) (vs : List Nat) : wipe (wipe σ vs) vs = wipe σ vs := by
  apply List.ext_getElem?
  intro j
  have key : ∀ (ws : List Nat) (τ : St), (wipe τ ws)[j]? = if j ∈ ws then (if j < τ.length then some none else none) else τ[j]? := by
    intro ws
    induction ws with
    | nil => intro τ; simp [wipe]
    | cons w ws ih =>
      intro τ
      unfold wipe
      by_cases hj : w = j
      · subst hj
        rw [if_pos List.mem_cons_self]
        by_cases hl : w < τ.length
        · rw [List.getElem?_set_self (by rw [wipe_length]; exact hl), if_pos hl]
        · rw [List.getElem?_eq_none (by simpa [wipe_length] using hl), if_neg hl]
      · rw [List.getElem?_set_ne hj, ih τ]
        have : (j ∈ w :: ws) ↔ j ∈ ws := by
          rw [List.mem_cons]
          exact ⟨fun h => h.elim (fun e => absurd e.symm hj) id, .inr⟩
        by_cases hm : j ∈ ws
        · rw [if_pos hm, if_pos (this.mpr hm)]
        · rw [if_neg hm, if_neg (fun z => hm (this.mp z))]
  rw [key, key, wipe_length]
  split
  · rfl
  · rfl
theorem ER.wipe {K : W.Frag} {W : Wd} {σ : St} {env : Env} (h : ER K W σ env) : ∀ vs : List Nat, ER K W (L2.wipe σ vs) (wipeE env vs)
  | [] => h
  | u :: vs => by
    have ih := ER.wipe h vs
    refine ⟨fun j d e => ?_, by unfold wipeE L2.wipe; simp [ih.len]⟩
    unfold wipeE at e
    unfold L2.wipe
    by_cases hj : u = j
    · subst hj
      by_cases hi : u < (wipeE env vs).length
      · rw [List.getElem?_set_self hi] at e; cases e
      · rw [List.getElem?_eq_none (by simpa using hi)] at e; cases e
    · rw [List.getElem?_set_ne hj] at e ⊢
      exact ih.at_ j d e
/-- names stored one behind another -/
theorem gAll_ok {K : W.Frag} {W : Wd} {own : List Nat} {P : St → Prop} : ∀ {is : List Nat} {ds : List D} {env env' : Env} {vs : List V} {σ : St} {H : Hp} {Q : St → Hp → Prop}, setAll is ds env = some env' → Reps K W ds vs → ER K W σ env →
    (∀ σ', ER K W σ' env' → (∀ vs, (∀ i ∈ is, i ∈ vs) → L2.wipe σ' vs = L2.wipe σ vs) → Q σ' H) → gAll is vs σ H Q
  | [], [], env, env', vs, σ, H, Q, h, r, er, q => by
    simp only [setAll, Option.some.injEq] at h; subst h
    exact ⟨r.inv0, q σ er fun _ _ => rfl⟩
  | [], _ :: _, env, env', vs, σ, H, Q, h, r, er, q => by simp [setAll] at h
  | _ :: _, [], env, env', vs, σ, H, Q, h, r, er, q => by simp [setAll] at h
  | i :: is, d :: ds, env, env', vs, σ, H, Q, h, r, er, q => by
    obtain ⟨v, us, rfl, r1, r2⟩ := r.inv
    simp only [setAll] at h
    refine ⟨v, us, rfl, ?_⟩
    refine gAll_ok (own := own) (P := P) h r2 (er.set r1) fun σ' e' w' => q σ' e' fun vs hvs => ?_
    rw [w' vs fun j hj => hvs j (List.mem_cons_of_mem _ hj), wipe_set σ v vs i (hvs i List.mem_cons_self)]
def tgIs : Tg → List Nat
  | .one i => [i]
  | .many is => is
theorem gT_ok {W : Wd} {M : Mem} {t : Tg} {d : D} {env env' : Env} {v : V} {σ : St} {Q : St → Hp → Prop} (h : bindT t d env = some env') (S : SR g X.K W M) (r : Rep X.K W d v) (er : ER X.K W σ env)
    (q : ∀ σ', ER X.K W σ' env' → (∀ vs, (∀ i ∈ tgIs t, i ∈ vs) → L2.wipe σ' vs = L2.wipe σ vs) → Q σ' W.H) : gT X.K t v σ W.H Q := by
  cases t with
  | one i =>
    simp only [bindT, Option.some.injEq] at h; subst h
    exact q _ (er.set r) fun vs hvs => wipe_set σ v vs i (hvs i (by simp [tgIs]))
  | many is =>
    simp only [bindT] at h
    cases d <;> simp only [reduceCtorEq] at h
    rename_i xs
    simp only [Rep] at r
    obtain ⟨a, us, rfl, f, rs⟩ := r
    have hl : us.length = is.length := by
      rw [← rs.length]
      have : ∀ (is : List Nat) (xs : List D) (env env' : Env), setAll is xs env = some env' → xs.length = is.length := by
        intro is
        induction is with
        | nil => intro xs env env' h; cases xs with | nil => rfl | cons _ _ => simp [setAll] at h
        | cons i is ih => intro xs env env' h; cases xs with | nil => simp [setAll] at h | cons x xs => simp only [setAll] at h; rw [List.length_cons, List.length_cons, ih _ _ _ h]
      exact this _ _ _ _ h
    exact ⟨a, us, rfl, sqT_mono S.sub f, hl, gAll_ok (own := []) (P := fun _ => True) h rs er q⟩

/-! ### list comprehensions -/
def bodyC (g : Gw) (n : Nat) (env : Env) (elt : E) (tg : Tg) (cnd : Oe) (own : List Nat) (x : D) (M : Mem) : R (Option D) :=
  match bindT tg x (wipeE env own) with
  | none => .no
  | some env' => match cnd with
    | .none => (ev g.G (clN g n) elt env' M).bind fun y M => .ok (some y) M
    | .some c => (tst (ev g.G (clN g n) c env' M)).bind fun k M => if k then (ev g.G (clN g n) elt env' M).bind fun y M => .ok (some y) M else .ok none M
theorem ev_cmpr (env : Env) (M : Mem) (elt : E) (tg : Tg) (it : It) (cnd : Oe) (own : List Nat) : ev g.G (clN g n) (.cmpr elt tg it cnd own) env M =
    (evi g.G (clN g n) it env M).bind fun xs M => (compL (bodyC g n env elt tg cnd own) xs M).bind fun ys M => if xs.length < sizeLine then .ok (.lst ys) M else .no := by
  simp only [ev]; rfl
def tCn (g : Gw) (K : W.Frag) (n : Nat) (cnd : Oe) (Zx : WX) : TT := match cnd with
  | .none => tYes
  | .some c => tT g K n c Zx
abbrev Z0 : WX := fun _ _ _ _ => False
theorem lc_imp {own : List Nat} {tg : Tg} {it : It} {cnd : Oe} (hsub : ∀ i ∈ tgIs tg, i ∈ own) : ∀ σ H Q, tF g X.K n (.cmpr e tg it cnd own) Zx σ H Q → tLc (tI g X.K n it Zx) (gT X.K tg) (tCn g X.K n cnd Z0) (tE g X.K n e Z0) own σ H Q :=
  fun σ H Q ⟨W, M, env, hH, S, Er, al, rr⟩ => by
    rw [ev_cmpr] at rr
    refine ⟨W, M, env, hH, S, Er, ?_⟩
    cases q : evi g.G (clN g n) it env M with
    | no => rw [q] at rr; exact rr.elim
    | ex c d M' => rw [q] at rr; exact rr
    | ok ds M1 =>
      rw [q] at rr
      simp only [R.bind_ok] at rr
      intro W1 J X1 S1 gv
      cases q2 : compL (bodyC g n env e tg cnd own) ds M1 with
      | no => rw [q2] at rr; exact rr.elim
      | ex c d M' =>
        exfalso
        have : ∀ (f : D → Mem → R (Option D)) ds M c d M', compL f ds M ≠ .ex c d M' := by
          intro f ds
          induction ds with
          | nil => intro M c d M' h; simp [compL] at h
          | cons y ys ih =>
            intro M c d M' h
            unfold compL at h
            split at h
            · exact ih _ _ _ _ h
            · split at h
              · cases h
              · cases h
            · cases h
        exact this _ _ _ _ _ _ q2
      | ok total Mf =>
        rw [q2] at rr
        simp only [R.bind_ok] at rr
        split at rr
        · rename_i hlen
          intro Dn hD
          have hD0 : W.H Dn = none := by
            cases z : W.H Dn with
            | none => rfl
            | some o => exact absurd hD (X1.nn Dn (by rw [z]; simp))
          refine ⟨fun i m H => m = ds.length - i ∧ i ≤ ds.length ∧ ∃ W' M' acc vacc ys, W'.H = H ∧ Ext W1 W' ∧ SR g X.K W' M' ∧ W'.H Dn = some (.lst vacc) ∧ W'.F Dn = none ∧ Dn ∉ W'.m ∧ Reps X.K W' acc vacc ∧ vacc.length ≤ i ∧
            compL (bodyC g n env e tg cnd own) (ds.drop i) M' = .ok ys Mf ∧ acc ++ ys = total, ?_, ?_⟩
          · exact ⟨ds.length, by simp, Nat.zero_le _, W1.nH Dn (.lst []), M1, [], [], total, rfl, ext_new hD, S1.new hD, upd_same, F_none S1 hD, m_none S1 hD, Reps.nil, Nat.le_refl _, q2, rfl⟩
          · rintro i m H2 ⟨rfl, hi', W2, M2, acc, vacc, ys, rfl, X2, S2, d1, d2, d3, ra, la, hc2, htot⟩
            by_cases hlt : i < ds.length
            · have hdi : ds[i]? = some ds[i] := List.getElem?_eq_getElem hlt
              obtain ⟨go, yl⟩ := gv.step W2 M2 i ds[i] X2 S2 hdi
              have hdrop : ds.drop i = ds[i] :: ds.drop (i + 1) := List.drop_eq_getElem_cons hlt
              rw [hdrop] at hc2
              -- what the next turn reaches
              refine .inr ⟨go, fun H' => ∃ W' M' acc vacc ys, W'.H = H' ∧ Ext W1 W' ∧ SR g X.K W' M' ∧ W'.H Dn = some (.lst vacc) ∧ W'.F Dn = none ∧ Dn ∉ W'.m ∧ Reps X.K W' acc vacc ∧ vacc.length ≤ i + 1 ∧
                compL (bodyC g n env e tg cnd own) (ds.drop (i + 1)) M' = .ok ys Mf ∧ acc ++ ys = total, fun H' h => ⟨ds.length - (i + 1), by omega, rfl, hlt, h⟩, fun x H' hy => ?_⟩
              obtain ⟨W3, X3, rfl, rx, S3⟩ := yl x H' hy
              unfold compL at hc2
              cases hb : bodyC g n env e tg cnd own ds[i] M2 with
              | no => rw [hb] at hc2; cases hc2
              | ex c d M' => rw [hb] at hc2; cases hc2
              | ok o M4 =>
                rw [hb] at hc2
                unfold bodyC at hb
                cases hbt : bindT tg ds[i] (wipeE env own) with
                | none => rw [hbt] at hb; cases hb
                | some env' =>
                  rw [hbt] at hb
                  simp only at hb
                  have er3 : ER X.K W3 (L2.wipe σ own) (wipeE env own) := (((Er.mono X1).mono X2).mono X3).wipe _
                  refine gT_ok hbt S3 rx er3 fun σ' er' hw => ⟨?_, ?_⟩
                  · rw [hw _ hsub, wipe_wipe]
                  have d1' := X3.H _ _ d1 d3
                  have d2' := X3.new Dn (by rw [d1]; simp) d2 d3
                  have d3' := X3.notin (by rw [d1]; simp) d3
                  -- the element
                  have elm : ∀ (W5 : Wd) (M5 : Mem) (env5 : Env), env5 = env' → Ext W3 W5 → SR g X.K W5 M5 → ER X.K W5 σ' env5 → (∃ y, o = some y ∧ ev g.G (clN g n) e env5 M5 = .ok y M4) →
                      tE g X.K n e Z0 σ' W5.H fun y H4 => ∃ acc, H4 Dn = some (.lst acc) ∧ acc.length < sizeLine ∧ (fun H' => ∃ W' M' acc vacc ys, W'.H = H' ∧ Ext W1 W' ∧ SR g X.K W' M' ∧ W'.H Dn = some (.lst vacc) ∧ W'.F Dn = none ∧ Dn ∉ W'.m ∧ Reps X.K W' acc vacc ∧ vacc.length ≤ i + 1 ∧
                        compL (bodyC g n env e tg cnd own) (ds.drop (i + 1)) M' = .ok ys Mf ∧ acc ++ ys = total) (upd H4 Dn (.lst (acc ++ [y]))) := by
                    rintro W5 M5 env5 rfl X5 S5 er5 ⟨y, rfl, hev⟩
                    refine ⟨W5, M5, env5, rfl, S5, er5, ?_⟩
                    rw [hev]
                    intro v W6 X6 S6 rv
                    have X36 := X5.trans X6
                    have e1 := X36.H _ _ d1' d3'
                    have e2 := X36.new Dn (by rw [d1']; simp) d2' d3'
                    have e3 := X36.notin (by rw [d1']; simp) d3'
                    simp only at hc2
                    cases hr : compL (bodyC g n env e tg cnd own) (ds.drop (i + 1)) M4 with
                    | no => rw [hr] at hc2; cases hc2
                    | ex c d M' => rw [hr] at hc2; cases hc2
                    | ok zs M' =>
                      rw [hr] at hc2
                      simp only [R.ok.injEq] at hc2
                      obtain ⟨rfl, rfl⟩ := hc2
                      refine ⟨vacc, e1, by omega, W6.nH Dn (.lst (vacc ++ [v])), M4, acc ++ [y], vacc ++ [v], zs, rfl, ?_, ?_, upd_same, e2, e3, ?_, by rw [List.length_append]; simp; omega, hr, by rw [List.append_assoc]; exact htot⟩
                      · -- W1 to the state with the longer list
                        have XX := (X2.trans X3).trans X36
                        refine ⟨XX.m, XX.F, XX.new, fun b u eb nb => ?_, fun b eb => ?_⟩
                        · show upd W6.H Dn _ b = _
                          rw [upd_ne (by rintro rfl; rw [hD] at eb; cases eb)]
                          exact XX.H b u eb nb
                        · show upd W6.H Dn _ b ≠ _
                          by_cases hb' : b = Dn
                          · subst hb'; rw [upd_same]; simp
                          · rw [upd_ne hb']; exact XX.nn b eb
                      · refine ⟨fun b u eb => ?_, S6.nod, S6.len, fun j b u eb1 eb2 => ObR.lean lean_nH ?_ id (S6.obj j b u eb1 eb2)⟩
                        · show upd W6.H Dn _ b = _
                          rw [upd_ne (by rintro rfl; have z : W6.F b = some u := eb; rw [e2] at z; cases z)]
                          exact S6.sub b u eb
                        · show upd W6.H Dn _ b = _
                          rw [upd_ne (by rintro rfl; exact e3 (List.mem_of_getElem? eb1))]
                      · have ra' : Reps X.K W6 acc vacc := (ra.mono X3).mono X36
                        exact (ra'.app (Reps.cons rv Reps.nil)).lean lean_nH
                  cases cnd with
                  | none =>
                    simp only at hb
                    simp only [tCn, tYes, if_true]
                    cases hev : ev g.G (clN g n) e env' M2 with
                    | no => rw [hev] at hb; simp at hb
                    | ex c d M' => rw [hev] at hb; simp at hb
                    | ok y M' =>
                      rw [hev] at hb
                      simp only [R.bind_ok, R.ok.injEq] at hb
                      obtain ⟨rfl, rfl⟩ := hb
                      exact elm W3 M2 env' rfl (Ext.refl _) S3 er' ⟨y, rfl, hev⟩
                  | some cc =>
                    simp only at hb
                    simp only [tCn]
                    refine ⟨W3, M2, env', rfl, S3, er', ?_⟩
                    cases hev : tst (ev g.G (clN g n) cc env' M2) with
                    | no => simp only [hev] at hb; simp at hb
                    | ex c d M' => simp only [hev] at hb; simp at hb
                    | ok k M' =>
                      simp only [hev, R.bind_ok] at hb
                      intro k' W4 X4 S4 ek
                      subst ek
                      cases k with
                      | false =>
                        simp only [Bool.false_eq_true, if_false, R.ok.injEq] at hb ⊢
                        obtain ⟨rfl, rfl⟩ := hb
                        simp only at hc2
                        exact ⟨W4, M', acc, vacc, ys, rfl, (X2.trans X3).trans X4, S4, X4.H _ _ d1' d3', X4.new Dn (by rw [d1']; simp) d2' d3', X4.notin (by rw [d1']; simp) d3', (ra.mono X3).mono X4, by omega, hc2, htot⟩
                      | true =>
                        simp only [if_true] at hb ⊢
                        cases hev2 : ev g.G (clN g n) e env' M' with
                        | no => rw [hev2] at hb; simp at hb
                        | ex c d M2 => rw [hev2] at hb; simp at hb
                        | ok y M2 =>
                          rw [hev2] at hb
                          simp only [R.bind_ok, R.ok.injEq] at hb
                          obtain ⟨rfl, rfl⟩ := hb
                          exact elm W4 M' env' rfl X4 S4 (er'.mono X4) ⟨y, rfl, hev2⟩
            · have e' : i = ds.length := by omega
              subst e'
              refine .inl ⟨gv.stop W2 M2 X2 S2, ?_⟩
              rw [List.drop_length] at hc2
              simp only [compL, R.ok.injEq] at hc2
              obtain ⟨rfl, rfl⟩ := hc2
              rw [List.append_nil] at htot
              subst htot
              exact Run.okI rr (X1.trans X2) S2 ⟨Dn, acc, vacc, rfl, rfl, d1, d2, d3, hD0, ra⟩
        · exact rr.elim
theorem s_cmprF {elt tge iter : Expr} {ifs : List Expr} {scope : Scope} {own : List (Str × Nat)} {tg : Tg} {it : It} {cnd : Oe} (hc : X.calm = true) (hN : X.N.Nodup) (hi : PI X tge iter (tI g X.K n it Zx)) (ok : BlkOk X.N X.env.scope scope own)
    (hsub : ∀ i ∈ tgIs tg, i ∈ own.map (·.2))
    (hg : ∀ (s : Shared) (H : Hp) (C : Addr) (cl : List (Str × Addr)) (fp : List Addr), PG (X.blk s H scope (compEnvC scope cl C X.env) fp) tge (gT X.K tg))
    (ht : ∀ (s : Shared) (H : Hp) (C : Addr) (cl : List (Str × Addr)) (fp : List Addr), PTs (X.blk s H scope (compEnvC scope cl C X.env) fp) ifs (tCn g X.K n cnd Z0))
    (he : ∀ (s : Shared) (H : Hp) (C : Addr) (cl : List (Str × Addr)) (fp : List Addr), PE (X.blk s H scope (compEnvC scope cl C X.env) fp) elt (tE g X.K n e Z0)) (hs : ∀ x, foldedSetIterable iter X.env x = pure x) :
    PE X (.ListComp elt [⟨tge, iter, ifs, 0⟩] scope pos) (tF g X.K n (.cmpr e tg it cnd (own.map (·.2))) Zx) :=
  peI (pe_lc hc hN hi ok hg ht he hs) (lc_imp hsub)
theorem cmpr_al {env : Env} {M M' : Mem} {d : D} {tg : Tg} {it : It} {cnd : Oe} {own : List Nat} (h : ev g.G (clN g n) (.cmpr e tg it cnd own) env M = .ok d M') : ∃ xs, d = .lst xs := by
  rw [ev_cmpr] at h
  cases q1 : evi g.G (clN g n) it env M with
  | ok x M1 =>
    rw [q1] at h
    simp only [R.bind_ok] at h
    cases q2 : compL (bodyC g n env e tg cnd own) x M1 with
    | ok ys M2 =>
      rw [q2] at h
      simp only [R.bind_ok] at h
      split at h
      · simp only [R.ok.injEq] at h; exact ⟨_, h.1.symm⟩
      · cases h
    | ex c d M3 => rw [q2] at h; simp at h
    | no => rw [q2] at h; simp at h
  | ex c d M3 => rw [q1] at h; simp at h
  | no => rw [q1] at h; simp at h
end
end Z
end
section
set_option Elab.async false
set_option linter.all false
set_option maxRecDepth 100000
set_option maxHeartbeats 4000000
/-! Zx7: defs called where no repr runs around (the layer's own promise does not say so). -/
namespace Z
open PySem L2

/-- a def's promise, for calls with no repr around -/
structure FnG (P : Program) (w : World) (K : W.Frag) (mg : Str → Option Value) (base : Heap) (k : Nat) (f : Addr) (fd : FuncData) (ps : List Str) (sp : Sp) : Prop where
  len : ∀ vs H Q E, sp vs H Q E → vs.length = ps.length
  go : ∀ (A : Around) (outer : List PySem.Env) (s : Shared) (H : Hp) (args : Args) (us : List Value) (vs : List V) (Q : VK) (E : XK), Room k A → A.guards = some [] →
    Env0 P w K mg base A outer s H → BindsTo s fd args (ps.zip us) → Vals vs us → sp vs H Q E → codeAny (model P w) A (.call (.ref f) args) (CR (L2.CX P w) outer P w H s Q E) s

section
variable {X : Cx} {k : Nat} {f C : Addr} {fd : FuncData} {ps : List Str} {sp : Sp} {Zx : WX} {x m : Str} {p pos apos : Pos} {e o : Expr} {es : List Expr} {ta : TE} {t : TA} {σ : St} {H : Hp} {s : Shared} {pins : List (Addr × Obj)} {Q : VK}
theorem back_ok (tk : Takes X Zx) (I : L2.Inv X pins σ H s) {r : Result} {s' : Shared} (hq : CR (L2.CX X.prog X.w) X.stack X.prog X.w H s Q (fun c d H => Zx c d σ H) r s') :
    (match r with
      | .ok (.ret u) => EP X pins σ Q u s'
      | .ok _ => False
      | .error er => X.xe er s') := by
  cases r with
  | error er => exact passAt tk σ pins H s er s' I hq
  | ok fl =>
    cases fl with
    | ret u => exact I.after hq
    | next => exact hq
    | brk => exact hq
    | cont => exact hq
theorem call_go (F : FnG X.prog X.w X.K X.mg X.base k f fd ps sp) (hr : Room k X.A) (hgd : X.A.guards = some []) (tk : Takes X Zx) {us zs : List Value} {kw : List (Str × Value)} {vs : List V} (I : L2.Inv X pins σ H s)
    (hb : BindsTo s fd ⟨us, kw⟩ (ps.zip zs)) (r : Vals vs zs) (h : sp vs H Q (fun c d H => Zx c d σ H)) : wpAny (model X.prog X.w) X.A (call (.ref f) us kw) (EP X pins σ Q) X.xe s := by
  refine wpAny_call (codeAny_mono (F.go X.A X.stack s H ⟨us, kw⟩ zs vs Q _ hr hgd I.env0 hb r h) fun res s' hq => ?_)
  have z := back_ok tk I hq
  cases res with
  | error er => exact z
  | ok fl => cases fl <;> first | exact z | exact z.elim
/-- f(e, ..) -/
theorem g_call (F : FnG X.prog X.w X.K X.mg X.base k f fd ps sp) (hr : Room k X.A) (hgd : X.A.guards = some []) (tk : Takes X Zx) (gl : Gl X x) (hm : X.mg x = some (.ref f)) (hk : W.keepIn X.K (.ref f) = true) (hb : Binds X.K fd ps []) (ha : PA X (e :: es) t)
    (hdb : (x == ("__debug__" : Str)) = false) (he : starEach (e :: es) X.env = (false, eval e X.env) :: starEach es X.env) (hpl : (backTo pos (starEach es X.env)).any (·.1) = false) :
    PE X (.Call (.Name x p) (e :: es) [] pos) (fun σ H Q => t σ H fun vs H1 => sp vs H1 Q (fun c d H => Zx c d σ H)) := by
  constructor
  intro pins s σ H Q I h
  apply wpAny_Call_Name_kw (ld_glob I gl hm _ hdb)
  apply W.callWith_K (h₀ := X.base) I.ok.mod.kin hk _ he hpl
  apply thn (ha.run pos pins s σ H _ I h)
  rintro us s1 ⟨vs, H1, I1, r, q⟩
  refine ⟨I1.kIn, ?_⟩
  have hl : us.length = ps.length := by rw [← r.length]; exact F.len _ _ _ _ q
  have b := hb s1 us I1.kIn (by rw [List.append_nil]; exact hl)
  rw [List.append_nil] at b
  exact call_go F hr hgd tk I1 b r q
theorem g_call0 (F : FnG X.prog X.w X.K X.mg X.base k f fd [] sp) (hr : Room k X.A) (hgd : X.A.guards = some []) (tk : Takes X Zx) (gl : Gl X x) (hm : X.mg x = some (.ref f)) (hk : W.keepIn X.K (.ref f) = true) (hb : Binds X.K fd [] [])
    (hdb : (x == ("__debug__" : Str)) = false) : PE X (.Call (.Name x p) [] [] pos) (fun σ H Q => sp [] H Q (fun c d H => Zx c d σ H)) := by
  constructor
  intro pins s σ H Q I h
  apply wpAny_Call_Name_kw (ld_glob I gl hm _ hdb)
  exact W.callWith_K0 I.kIn hk (call_go F hr hgd tk I (hb s [] I.kIn rfl) .nil h)
/-- f(e, .., k = v, ..) -/
theorem g_callk {ks : List Str} {kws : List Keyword} {tk' : TA} {gf : List Value → List Value → List Value} {gV : List V → List V → List V} (F : FnG X.prog X.w X.K X.mg X.base k f fd ps sp) (hr : Room k X.A) (hgd : X.A.guards = some []) (tk : Takes X Zx) (gl : Gl X x)
    (hm : X.mg x = some (.ref f)) (hk : W.keepIn X.K (.ref f) = true) (hb : KBinds X.K fd ps ks gf gV) (ha : PA X (e :: es) t) (hkw : PK X kws tk') (hall : (backToKw pos (keywordEach kws X.env)).all (·.1.isSome) = true)
    (hks : (backToKw pos (keywordEach kws X.env)).filterMap (·.1) = ks) (hdb : (x == ("__debug__" : Str)) = false) (he : starEach (e :: es) X.env = (false, eval e X.env) :: starEach es X.env)
    (hpl : ((backTo pos (starEach (e :: es) X.env)).any (·.1) || (backToKw pos (keywordEach kws X.env)).any (·.1.isNone)) = false) :
    PE X (.Call (.Name x p) (e :: es) kws pos) (fun σ H Q => t σ H fun vs H1 => tk' σ H1 fun zs H2 => sp (gV vs zs) H2 Q (fun c d H => Zx c d σ H)) := by
  constructor
  intro pins s σ H Q I h
  apply wpAny_Call_Name_kw (ld_glob I gl hm _ hdb)
  apply W.callWith_KW (h₀ := X.base) I.ok.mod.kin hk hall _ hpl he
  apply thn (ha.run pos pins s σ H _ I h)
  rintro us s1 ⟨vs, H1, I1, r, q⟩
  apply thn (hkw.run pos pins s1 σ H1 _ I1 q)
  rintro ws s2 ⟨zs, H2, I2, rz, q2⟩
  refine ⟨I2.kIn, ?_⟩
  rw [hks]
  have r2 := hb.rel r rz
  exact call_go F hr hgd tk I2 (hb.to s2 us ws I2.kIn (by rw [← r2.length]; exact F.len _ _ _ _ q2)) r2 q2
theorem g_callk0 {ks : List Str} {kws : List Keyword} {tk' : TA} {gf : List Value → List Value → List Value} {gV : List V → List V → List V} (F : FnG X.prog X.w X.K X.mg X.base k f fd ps sp) (hr : Room k X.A) (hgd : X.A.guards = some []) (tk : Takes X Zx) (gl : Gl X x)
    (hm : X.mg x = some (.ref f)) (hk : W.keepIn X.K (.ref f) = true) (hb : KBinds X.K fd ps ks gf gV) (hkw : PK X kws tk') (hall : (backToKw pos (keywordEach kws X.env)).all (·.1.isSome) = true)
    (hks : (backToKw pos (keywordEach kws X.env)).filterMap (·.1) = ks) (hdb : (x == ("__debug__" : Str)) = false)
    (hpl : ((backTo pos (starEach [] X.env)).any (·.1) || (backToKw pos (keywordEach kws X.env)).any (·.1.isNone)) = false) :
    PE X (.Call (.Name x p) [] kws pos) (fun σ H Q => tk' σ H fun zs H2 => sp (gV [] zs) H2 Q (fun c d H => Zx c d σ H)) := by
  constructor
  intro pins s σ H Q I h
  apply wpAny_Call_Name_kw (ld_glob I gl hm _ hdb)
  apply W.callWith_KW0 (h₀ := X.base) I.ok.mod.kin hk hall _ hpl
  apply thn (hkw.run pos pins s σ H _ I h)
  rintro ws s2 ⟨zs, H2, I2, rz, q2⟩
  refine ⟨I2.kIn, ?_⟩
  rw [hks]
  have r2 := hb.rel .nil rz
  exact call_go F hr hgd tk I2 (hb.to s2 [] ws I2.kIn (by rw [← r2.length]; exact F.len _ _ _ _ q2)) r2 q2
theorem guards_make {A : Around} (h : A.guards = some []) {D : Addr} {us : List Value} {kw : List (Str × Value)} : (A.under (.builtin "type.__call__" ⟨.ref D :: us, kw⟩)).guards = some [] := by
  first | exact h | (simp [Around.under, h, pushGuards, Code.guards, Code.isGuard, guardIds])
theorem make_go (Mm : Mk X.K C f) (F : FnG X.prog X.w X.K X.mg X.base k f fd ps sp) (hr : Room (k + 1) X.A) (hgd : X.A.guards = some []) (tk : Takes X Zx) (hb : Binds X.K fd ps []) {us : List Value} {vs : List V} (I : L2.Inv X pins σ H s) (r : Vals vs us)
    (h : ∀ a dx, H a = none → H dx = none → dx ≠ a → sp (.ref a :: vs) (upd (upd H dx (.own a)) a (.ins C dx [])) (fun v H2 => v = .non ∧ Q (.ref a) H2) (fun c d H => Zx c d σ H)) :
    wpAny (model X.prog X.w) X.A (call (.ref C) us) (EP X pins σ Q) X.xe s := by
  have hq := h (s.heap.objs.size + 1) s.heap.objs.size (I.hok.fresh (Nat.le_succ _)) (I.hok.fresh (Nat.le_refl _)) (Nat.ne_of_lt (Nat.lt_succ_self _))
  have I2 := Inv.made (C := C) I
  have r2 : Vals (V.ref (s.heap.objs.size + 1) :: vs) (Value.ref (s.heap.objs.size + 1) :: us) := .cons rfl r
  have b := hb _ (Value.ref (s.heap.objs.size + 1) :: us) I2.kIn (by rw [List.append_nil, ← r2.length]; exact F.len _ _ _ _ hq)
  rw [List.append_nil] at b
  apply wpAny_call
  apply make_map (f := f) I.kIn Mm.makes Mm.init (beq_iff_eq.mp Mm.fn)
  apply codeAny_mono (F.go _ X.stack _ _ ⟨Value.ref (s.heap.objs.size + 1) :: us, []⟩ _ _ _ _ (hr.make C us []) (guards_make hgd) (I2.env0.make C us []) b r2 hq)
  intro res s' hq'
  have z := back_ok tk I2 hq'
  cases res with
  | error er => exact z
  | ok fl =>
    cases fl with
    | ret u =>
      obtain ⟨v, H', I3, rv, ev, q3⟩ := z
      subst ev
      exact ⟨rv, V.ref (s.heap.objs.size + 1), H', I3, rfl, q3⟩
    | next => exact z.elim
    | brk => exact z.elim
    | cont => exact z.elim
theorem g_make (Mm : Mk X.K C f) (F : FnG X.prog X.w X.K X.mg X.base k f fd ps sp) (hr : Room (k + 1) X.A) (hgd : X.A.guards = some []) (tk : Takes X Zx) (gl : Gl X x) (hm : X.mg x = some (.ref C)) (hb : Binds X.K fd ps []) (ha : PA X (e :: es) t)
    (hdb : (x == ("__debug__" : Str)) = false) (he : starEach (e :: es) X.env = (false, eval e X.env) :: starEach es X.env) (hpl : (backTo pos (starEach es X.env)).any (·.1) = false) :
    PE X (.Call (.Name x p) (e :: es) [] pos) (fun σ H Q => t σ H fun vs H1 => ∀ a dx, H1 a = none → H1 dx = none → dx ≠ a → sp (.ref a :: vs) (upd (upd H1 dx (.own a)) a (.ins C dx [])) (fun v H2 => v = .non ∧ Q (.ref a) H2) (fun c d H => Zx c d σ H)) := by
  constructor
  intro pins s σ H Q I h
  apply wpAny_Call_Name_kw (ld_glob I gl hm _ hdb)
  apply W.callWith_K (h₀ := X.base) I.ok.mod.kin Mm.kp _ he hpl
  apply thn (ha.run pos pins s σ H _ I h)
  rintro us s1 ⟨vs, H1, I1, r, q⟩
  exact ⟨I1.kIn, make_go Mm F hr hgd tk hb I1 r q⟩
/-- o.m(e, ..), o.m() -/
theorem g_meth {pl : Sem Bool} (he : PE X o ta) (c : Cls X.K C) (hm : Meth X.K C m f) (F : FnG X.prog X.w X.K X.mg X.base k f fd ps sp) (hr : Room k X.A) (hgd : X.A.guards = some []) (tk : Takes X Zx) (hb : Binds X.K fd ps []) (ha : PA X (e :: es) t)
    (hst : starEach (e :: es) X.env = (false, eval e X.env) :: starEach es X.env) (hpl : (backTo pos (starEach es X.env)).any (·.1) = false)
    (ht : eval (.Call (.Attribute o m apos) (e :: es) [] pos) X.env = (do
      let ov ← eval o X.env
      standAt apos.atName
      let (f, first) ← holding [ov] (getMethod ov m pl)
      callWith pos f first (backTo pos (starEach (e :: es) X.env)) (backToKw pos (keywordEach [] X.env)))) :
    PE X (.Call (.Attribute o m apos) (e :: es) [] pos) (fun σ H Q => ta σ H fun v H1 => ∃ a dx fs, v = .ref a ∧ H1 a = some (.ins C dx fs) ∧ fs.lookup m = none ∧ t σ H1 fun vs H2 => sp (v :: vs) H2 Q (fun c d H => Zx c d σ H)) := by
  constructor
  intro pins s σ H Q I h
  apply W.methodCall_KW (pl := pl) _ ht
  apply thn (he.run pins s σ H _ I h)
  rintro u s1 ⟨v, H1, I1, rx, a, dx, fs, rfl, ea, l, q⟩
  obtain rfl : u = Value.ref a := rx
  apply getmeth_ok I1 ea c hm l
  apply W.callWith_K (first := [.ref a]) (h₀ := X.base) I.ok.mod.kin hm.kp _ hst hpl
  apply thn (ha.run pos pins s1 σ H1 _ I1 q)
  rintro us s2 ⟨vs, H2, I2, r, q2⟩
  refine ⟨I2.kIn, ?_⟩
  have r2 : Vals (V.ref a :: vs) (Value.ref a :: us) := .cons rfl r
  have b := hb s2 (Value.ref a :: us) I2.kIn (by rw [List.append_nil, ← r2.length]; exact F.len _ _ _ _ q2)
  rw [List.append_nil] at b
  exact call_go F hr hgd tk I2 b r2 q2
theorem g_meth0 {pl : Sem Bool} (he : PE X o ta) (c : Cls X.K C) (hm : Meth X.K C m f) (F : FnG X.prog X.w X.K X.mg X.base k f fd ps sp) (hr : Room k X.A) (hgd : X.A.guards = some []) (tk : Takes X Zx) (hb : Binds X.K fd ps [])
    (ht : eval (.Call (.Attribute o m apos) [] [] pos) X.env = (do
      let ov ← eval o X.env
      standAt apos.atName
      let (f, first) ← holding [ov] (getMethod ov m pl)
      callWith pos f first (backTo pos (starEach [] X.env)) (backToKw pos (keywordEach [] X.env)))) :
    PE X (.Call (.Attribute o m apos) [] [] pos) (fun σ H Q => ta σ H fun v H1 => ∃ a dx fs, v = .ref a ∧ H1 a = some (.ins C dx fs) ∧ fs.lookup m = none ∧ sp [v] H1 Q (fun c d H => Zx c d σ H)) := by
  constructor
  intro pins s σ H Q I h
  apply W.methodCall_KW (pl := pl) _ ht
  apply thn (he.run pins s σ H _ I h)
  rintro u s1 ⟨v, H1, I1, rx, a, dx, fs, rfl, ea, l, q⟩
  obtain rfl : u = Value.ref a := rx
  apply getmeth_ok I1 ea c hm l
  have b := hb s1 [Value.ref a] I1.kIn (by rw [List.append_nil]; exact F.len _ _ _ _ q)
  rw [List.append_nil] at b
  exact W.callWith_K0 (first := [.ref a]) I1.kIn hm.kp (call_go (vs := [V.ref a]) F hr hgd tk I1 b (.cons rfl .nil) q)
end
end Z
end
section
set_option Elab.async false
set_option linter.all false
set_option maxRecDepth 100000
set_option maxHeartbeats 4000000
/-! Zx8: isinstance, repr, the store's objects, fields, calls of defs and classes, as the interpreter has them. -/
namespace Z
open PySem L2

/-! ### isinstance -/
structure ClsI (K : W.Frag) (C : Addr) : Prop where
  cl : Cls K C
  ha : W.findIn K (.ref C) "__class__" = some (some (.builtin "object.__class__"))
  hn : W.specialIn K (.builtin "object.__class__") "__get__" = some (some (.builtin "getset_descriptor.__get__"))
  htk : W.takesIn K (.builtin "object.__class__") = some true
  hm : W.mroIn K C (.type "object") = some true
/-- what a class answers to the types that stand in data -/
structure ClsA (K : W.Frag) (C : Addr) : Prop where
  none_ : W.kitOne K (.type "NoneType") (.ref C) = some false
  bool_ : W.kitOne K (.type "bool") (.ref C) = some false
  int_ : W.kitOne K (.type "int") (.ref C) = some false
  str_ : W.kitOne K (.type "str") (.ref C) = some false
  list_ : W.kitOne K (.type "list") (.ref C) = some false
  tuple_ : W.kitOne K (.type "tuple") (.ref C) = some false
  dict_ : W.kitOne K (.type "dict") (.ref C) = some false
/-- the class of an object asked for a class -/
structure ClsO (K : W.Frag) (C : Addr) : Prop where
  int_ : W.kitOne K (.ref C) (.type "int") = some false
  bool_ : W.kitOne K (.ref C) (.type "bool") = some false
  str_ : W.kitOne K (.ref C) (.type "str") = some false
  list_ : W.kitOne K (.ref C) (.type "list") = some false
  tuple_ : W.kitOne K (.ref C) (.type "tuple") = some false
structure IsF (g : Gw) (K : W.Frag) : Prop where
  i : ∀ c, (g.tb.kn c = true) → ClsI K (g.ca c) ∧ ClsO K (g.ca c)
  a : ∀ c, (g.tb.kn c = true) → ClsA K (g.ca c)
  o : ∀ c c', (g.tb.kn c = true) → (g.tb.kn c' = true) → W.kitOne K (.ref (g.ca c)) (.ref (g.ca c')) = some (decide (c = c'))

section
variable {g : Gw} {K : PySem.W.Frag} {W : Wd} {M : Mem}
/-- the type's name that a plain tree has -/
def tyN (M : Mem) : D → Option String
  | .non => some "NoneType" | .bl _ => some "bool" | .int _ => some "int" | .str _ => some "str"
  | .lst _ | .scr _ => some "list" | .tup _ => some "tuple" | .dct _ _ => some "dict"
  | .ref j => match M[j]? with
    | some (.lst _) => some "list"
    | some (.dic _ _) => some "dict"
    | _ => none
theorem sqL_ty {H : Hp} {a : Addr} {xs : List V} (h : SqL K H a xs) : TyX K H (.ref a) (.type "list") := by
  rcases h with (h | ⟨o, h⟩) | ⟨o, its, n, hk, hc, _⟩
  · exact .base (.lst h)
  · exact .base (.frz h)
  · exact .kList hk hc
theorem sqT_ty {H : Hp} {a : Addr} {xs : List V} (h : SqT K H a xs) : TyX K H (.ref a) (.type "tuple") := by
  rcases h with (h | ⟨o, h⟩) | ⟨o, its, n, hk, hc, _⟩
  · exact .base (.tup h)
  · exact .fTuple h
  · exact .kTuple hk hc
theorem tyN_ok {d : D} {v : V} {t : String} (h : tyN M d = some t) (S : SR g K W M) (r : Rep K W d v) : TyX K W.H v (.type t) := by
  cases d with
  | non => simp only [tyN, Option.some.injEq] at h; subst h; simp only [Rep] at r; subst r; exact .base .non
  | bl b => simp only [tyN, Option.some.injEq] at h; subst h; simp only [Rep] at r; subst r; exact .base (.bl b)
  | int b => simp only [tyN, Option.some.injEq] at h; subst h; simp only [Rep] at r; subst r; exact .base (.int b)
  | str b => simp only [tyN, Option.some.injEq] at h; subst h; simp only [Rep] at r; subst r; exact .base (.str b)
  | lst xs =>
    simp only [tyN, Option.some.injEq] at h; subst h; simp only [Rep] at r
    obtain ⟨a, vs, rfl, f, _⟩ := r
    exact .base (.lst (S.sub _ _ f))
  | tup xs =>
    simp only [tyN, Option.some.injEq] at h; subst h; simp only [Rep] at r
    obtain ⟨a, vs, rfl, f, _⟩ := r
    exact sqT_ty (sqT_mono S.sub f)
  | dct ks ds =>
    simp only [tyN, Option.some.injEq] at h; subst h; simp only [Rep] at r
    obtain ⟨a, vs, rfl, f, _⟩ := r
    exact .base (.dK (S.sub _ _ f))
  | scr ns =>
    simp only [tyN, Option.some.injEq] at h; subst h; simp only [Rep] at r
    obtain ⟨a, rfl, f⟩ := r
    exact sqL_ty (sqL_mono S.sub f)
  | ref j =>
    simp only [tyN] at h
    simp only [Rep] at r
    obtain ⟨a, e, rfl⟩ := r
    cases q : M[j]? with
    | none => rw [q] at h; simp at h
    | some o =>
      rw [q] at h
      have ob := S.obj j a o e q
      cases o with
      | lst xs => simp only [Option.some.injEq] at h; subst h; obtain ⟨_, vs, h1, _⟩ := ob; exact .base (.lst h1)
      | dic ks ds => simp only [Option.some.injEq] at h; subst h; obtain ⟨_, vs, h1, _⟩ := ob; exact .base (.dK h1)
      | ins c fs => simp at h
      | dead => simp at h
/-- the classes that a kind asks for -/
def kdCls (g : Gw) : Kd → List Value
  | .int => [.type "int"] | .bool => [.type "bool"] | .str => [.type "str"] | .list => [.type "list"] | .tuple => [.type "tuple"]
  | .listtuple => [.type "list", .type "tuple"] | .cls c => [.ref (g.ca c)]
def kdOk (g : Gw) : Kd → Prop
  | .cls c => g.tb.kn c = true
  | _ => True
theorem kit1 {t c : Value} {b : Bool} (h : PySem.W.kitOne K t c = some b) : PySem.W.kitAny K t [c] = some b := by
  refine kitAny_cons h (fun e => ?_) (fun e => e)
  rw [e]; exact kitAny_nil
theorem kit2 {t c d : Value} {b e : Bool} (h : PySem.W.kitOne K t c = some b) (h' : PySem.W.kitOne K t d = some e) : PySem.W.kitAny K t [c, d] = some (b || e) := by
  refine kitAny_cons h (fun q => ?_) (fun q => by rw [q]; rfl)
  rw [q, kit1 h']; rfl
theorem isin_ok (F : IsF g K) {k : Kd} {d : D} {v : V} {b : Bool} (hk : kdOk g k) (h : isin M k d = some b) (S : SR g K W M) (r : Rep K W d v) :
    ∃ t, TyX K W.H v t ∧ PySem.W.kitAny K t (kdCls g k) = some b := by
  have plain : ∀ t, tyN M d = some t → (t = "NoneType" ∨ t = "bool" ∨ t = "int" ∨ t = "str" ∨ t = "list" ∨ t = "tuple" ∨ t = "dict") → (∀ b', (match k with
      | .int => kitB t "int" | .bool => kitB t "bool" | .str => kitB t "str" | .list => kitB t "list" | .tuple => kitB t "tuple"
      | .listtuple => (match kitB t "list", kitB t "tuple" with | some x, some y => some (x || y) | _, _ => none)
      | .cls _ => some false) = some b' → b' = b) → (match k with
      | .int => kitB t "int" | .bool => kitB t "bool" | .str => kitB t "str" | .list => kitB t "list" | .tuple => kitB t "tuple"
      | .listtuple => (match kitB t "list", kitB t "tuple" with | some x, some y => some (x || y) | _, _ => none)
      | .cls _ => some false) ≠ none → ∃ t, TyX K W.H v t ∧ PySem.W.kitAny K t (kdCls g k) = some b := fun t ht hcase hb hn => by
    refine ⟨_, tyN_ok ht S r, ?_⟩
    cases k with
    | cls c =>
      have e := hb false rfl
      subst e
      have A := F.a c hk
      rcases hcase with rfl | rfl | rfl | rfl | rfl | rfl | rfl
      · exact kit1 A.none_
      · exact kit1 A.bool_
      · exact kit1 A.int_
      · exact kit1 A.str_
      · exact kit1 A.list_
      · exact kit1 A.tuple_
      · exact kit1 A.dict_
    | listtuple =>
      simp only at hb hn
      cases q1 : kitB t "list" with
      | none => rw [q1] at hn; exact absurd rfl hn
      | some x1 =>
        cases q2 : kitB t "tuple" with
        | none => rw [q1, q2] at hn; exact absurd rfl hn
        | some x2 =>
          rw [← hb (x1 || x2) (by rw [q1, q2])]
          exact kit2 (kit_ty q1) (kit_ty q2)
    | _ =>
      simp only at hb hn
      obtain ⟨b', q⟩ := Option.ne_none_iff_exists'.mp hn
      rw [← hb b' q]
      exact kit1 (kit_ty q)
  have dec : ∀ t, (t = "NoneType" ∨ t = "bool" ∨ t = "int" ∨ t = "str" ∨ t = "list" ∨ t = "tuple" ∨ t = "dict") → tyN M d = some t →
      (∀ k' : Kd, isin M k' d = some (match k' with | .int => (t == "int" || t == "bool") | .bool => t == "bool" | .str => t == "str" | .list => t == "list" | .tuple => t == "tuple" | .listtuple => (t == "list" || t == "tuple") | .cls _ => false)) →
      ∃ t, TyX K W.H v t ∧ PySem.W.kitAny K t (kdCls g k) = some b := fun t hcase ht hi => by
    have hk' := hi k
    rw [h] at hk'
    have hb := Option.some.inj hk'
    refine plain t ht hcase ?_ ?_
    · intro b' hb'
      rw [hb]
      rcases hcase with rfl | rfl | rfl | rfl | rfl | rfl | rfl <;> cases k <;> first
        | (exact (Option.some.inj hb').symm)
        | (have hd : some b' = some _ := hb'.symm.trans (by decide +kernel); exact Option.some.inj hd)
    · rcases hcase with rfl | rfl | rfl | rfl | rfl | rfl | rfl <;> cases k <;> first
        | (exact fun z => nomatch z)
        | decide +kernel
  cases d with
  | non => exact dec "NoneType" (by simp) rfl fun k' => by cases k' <;> rfl
  | bl x => exact dec "bool" (by simp) rfl fun k' => by cases k' <;> rfl
  | int x => exact dec "int" (by simp) rfl fun k' => by cases k' <;> rfl
  | str x => exact dec "str" (by simp) rfl fun k' => by cases k' <;> rfl
  | lst x => exact dec "list" (by simp) rfl fun k' => by cases k' <;> rfl
  | scr x => exact dec "list" (by simp) rfl fun k' => by cases k' <;> rfl
  | tup x => exact dec "tuple" (by simp) rfl fun k' => by cases k' <;> rfl
  | dct x y => exact dec "dict" (by simp) rfl fun k' => by cases k' <;> rfl
  | ref j =>
    cases q : M[j]? with
    | none => simp [isin, q] at h
    | some o =>
      cases o with
      | lst x => exact dec "list" (by simp) (by simp [tyN, q]) fun k' => by cases k' <;> simp [isin, q]
      | dic x y => exact dec "dict" (by simp) (by simp [tyN, q]) fun k' => by cases k' <;> simp [isin, q]
      | dead => simp [isin, q] at h
      | ins c fs =>
        simp only [isin, q, Option.some.injEq] at h
        simp only [Rep] at r
        obtain ⟨a, e, rfl⟩ := r
        obtain ⟨_, dx, vs, h1, _, hc, _⟩ := S.obj j a _ e q
        obtain ⟨I, O⟩ := F.i c hc
        refine ⟨.ref (g.ca c), .base (.ins h1 I.cl I.ha I.hn I.htk I.hm), ?_⟩
        cases k with
        | int => simp only at h; subst h; exact kit1 O.int_
        | bool => simp only at h; subst h; exact kit1 O.bool_
        | str => simp only at h; subst h; exact kit1 O.str_
        | list => simp only at h; subst h; exact kit1 O.list_
        | tuple => simp only at h; subst h; exact kit1 O.tuple_
        | listtuple => simp only at h; subst h; exact kit2 O.list_ O.tuple_
        | cls c' => simp only at h; subst h; exact kit1 (F.o c c' hc hk)
end
end Z
end
section
set_option Elab.async false
set_option linter.all false
set_option maxRecDepth 100000
set_option maxHeartbeats 4000000
/-! Zx9: the store's objects are changed: methods of lists, fields; calls of defs and classes, as the interpreter has them. -/
namespace Z
open PySem L2

def Wd.wr (W : Wd) (a : Addr) (o : HO) : Wd := { W with H := upd W.H a o }
section
variable {g : Gw} {K : PySem.W.Frag} {W : Wd} {M : Mem} {a : Addr} {o : HO} {j : Nat} {mo : MO}
theorem lean_wr : LeansOn W (W.wr a o) := ⟨fun _ _ h => h, fun _ _ h => h⟩
theorem ext_wr (ha : a ∈ W.m) : Ext W (W.wr a o) := by
  refine ⟨⟨[], (List.append_nil _).symm, by simp⟩, fun _ _ h => h, fun _ _ h _ => h, fun b u h n => ?_, fun b h => ?_⟩
  · show upd W.H a o b = _
    rw [upd_ne (by rintro rfl; exact n ha)]; exact h
  · show upd W.H a o b ≠ _
    by_cases hb : b = a
    · subst hb; rw [upd_same]; simp
    · rw [upd_ne hb]; exact h
theorem SR.wr (S : SR g K W M) (e : W.m[j]? = some a) (hf : W.F a = none) (h : ObR g K (W.wr a o) a mo) : SR g K (W.wr a o) (M.set j mo) := by
  refine ⟨fun b u hb => ?_, S.nod, by rw [List.length_set]; exact S.len, fun i b u e1 e2 => ?_⟩
  · show upd W.H a o b = _
    rw [upd_ne (by rintro rfl; have hb' : W.F b = some u := hb; rw [hf] at hb'; cases hb')]
    exact S.sub b u hb
  · by_cases hij : i = j
    · subst hij
      have e1' : W.m[i]? = some b := e1
      rw [e] at e1'; cases e1'
      have hl : i < M.length := by rw [← S.len]; exact (List.getElem?_eq_some_iff.mp e).1
      rw [List.getElem?_set_self hl] at e2
      cases e2; exact h
    · rw [List.getElem?_set_ne (Ne.symm hij)] at e2
      have hb : b ≠ a := by
        rintro rfl
        have e1' : W.m[i]? = some b := e1
        exact hij ((List.getElem?_inj (List.getElem?_eq_some_iff.mp e1').1 S.nod).mp (e1'.trans e.symm))
      refine (S.obj i b u e1 e2).lean lean_wr ?_ id
      show upd W.H a o b = _
      rw [upd_ne hb]
theorem isLst_ok (h : isLst M j = true) : ∃ xs, M[j]? = some (.lst xs) := by
  unfold isLst at h
  cases q : M[j]? with
  | none => rw [q] at h; simp at h
  | some o =>
    rw [q] at h
    cases o with
    | lst xs => exact ⟨xs, rfl⟩
    | _ => simp at h
theorem tyL_of (S : SR g K W M) {v : V} (h : isLst M j = true) (r : Rep K W (.ref j) v) : tyV K "list" v W.H := by
  obtain ⟨xs, e⟩ := isLst_ok h
  simp only [Rep] at r
  obtain ⟨a, e1, rfl⟩ := r
  obtain ⟨_, vs, h1, _⟩ := S.obj j a _ e1 e
  exact .inl ⟨rfl, vs, .of h1⟩
end

section
variable {g : Gw} {X : Cx} {n : Nat} {x y z : Expr} {e a b c o : E} {Zx : WX} {pos : Pos}
theorem s_app (h : PE X z (tBM X.K "list" rAppend (tE g X.K n o Zx) (tCons (tE g X.K n e Zx) tNil))) : PE X z (tE g X.K n (.app o e) Zx) :=
  peI h fun σ H Q ⟨W, M, env, hH, S, Er, rr⟩ => by
    simp only [ev] at rr
    refine ⟨W, M, env, hH, S, Er, rr.bind fun u M1 v W1 _ X1 S1 R1 q1 => ?_⟩
    cases u with
    | ref j =>
      simp only at q1
      by_cases hj : isLst M1 j = true
      · rw [if_pos hj] at q1
        refine ⟨tyL_of S1 hj R1, W1, M1, env, rfl, S1, Er.mono X1, q1.bind fun d M2 w W2 _ X2 S2 R2 q2 => ?_⟩
        have R1' := R1.mono X2
        simp only [Rep] at R1'
        obtain ⟨p, e1, rfl⟩ := R1'
        cases q3 : M2[j]? with
        | none => rw [q3] at q2; exact q2.elim
        | some ob =>
          rw [q3] at q2
          cases ob with
          | lst xs =>
            simp only at q2
            by_cases hz : xs.length < sizeLine
            · rw [if_pos hz] at q2
              obtain ⟨hf, vs, h1, h2⟩ := S2.obj j p _ e1 q3
              refine ⟨p, vs, w, rfl, rfl, h1, by rw [← h2.length]; exact hz, ?_⟩
              refine Run.okI q2 (W' := W2.wr p (.lst (vs ++ [w]))) (ext_wr (List.mem_of_getElem? e1)) (S2.wr e1 hf ⟨hf, _, upd_same, ?_⟩) (by simp only [Rep])
              exact Reps.app (h2.lean lean_wr) (Reps.cons (R2.lean lean_wr) Reps.nil)
            · rw [if_neg hz] at q2; exact q2.elim
          | _ => exact q2.elim
      · rw [if_neg hj] at q1; exact q1.elim
    | _ => exact q1.elim
theorem s_ext (h : PE X z (tBM X.K "list" rExtend (tE g X.K n o Zx) (tCons (tE g X.K n e Zx) tNil))) : PE X z (tE g X.K n (.ext o e) Zx) :=
  peI h fun σ H Q ⟨W, M, env, hH, S, Er, rr⟩ => by
    simp only [ev] at rr
    refine ⟨W, M, env, hH, S, Er, rr.bind fun u M1 v W1 _ X1 S1 R1 q1 => ?_⟩
    cases u with
    | ref j =>
      simp only at q1
      by_cases hj : isLst M1 j = true
      · rw [if_pos hj] at q1
        refine ⟨tyL_of S1 hj R1, W1, M1, env, rfl, S1, Er.mono X1, q1.bind fun d M2 w W2 _ X2 S2 R2 q2 => ?_⟩
        have R1' := R1.mono X2
        simp only [Rep] at R1'
        obtain ⟨p, e1, rfl⟩ := R1'
        cases q3 : M2[j]? with
        | none => rw [q3] at q2; exact q2.elim
        | some ob =>
          rw [q3] at q2
          cases ob with
          | lst xs =>
            cases q4 : asL M2 d with
            | none => rw [q4] at q2; exact q2.elim
            | some ys =>
              rw [q4] at q2
              simp only at q2
              by_cases hz : xs.length + ys.length ≤ sizeLine
              · rw [if_pos hz] at q2
                obtain ⟨hf, vs, h1, h2⟩ := S2.obj j p _ e1 q3
                obtain ⟨b', us, rfl, h3, h4⟩ := asL_ok S2 q4 R2
                refine ⟨p, b', vs, us, rfl, rfl, h1, h3, by rw [← h2.length, ← h4.length]; exact hz, ?_⟩
                refine Run.okI q2 (W' := W2.wr p (.lst (vs ++ us))) (ext_wr (List.mem_of_getElem? e1)) (S2.wr e1 hf ⟨hf, _, upd_same, ?_⟩) (by simp only [Rep])
                exact Reps.app (h2.lean lean_wr) (h4.lean lean_wr)
              · rw [if_neg hz] at q2; exact q2.elim
          | _ => exact q2.elim
      · rw [if_neg hj] at q1; exact q1.elim
    | _ => exact q1.elim
theorem s_pop (h : PE X z (tBM0 X.K "list" rPop (tE g X.K n o Zx))) : PE X z (tE g X.K n (.pop o) Zx) :=
  peI h fun σ H Q ⟨W, M, env, hH, S, Er, rr⟩ => by
    simp only [ev] at rr
    refine ⟨W, M, env, hH, S, Er, rr.bind fun u M1 v W1 _ X1 S1 R1 q1 => ?_⟩
    cases u with
    | ref j =>
      simp only at q1
      cases q3 : M1[j]? with
      | none => rw [q3] at q1; exact q1.elim
      | some ob =>
        rw [q3] at q1
        cases ob with
        | lst xs =>
          simp only at q1
          cases q4 : xs[xs.length - 1]? with
          | none => rw [q4] at q1; exact q1.elim
          | some y =>
            rw [q4] at q1
            refine ⟨tyL_of S1 (by unfold isLst; rw [q3]) R1, ?_⟩
            simp only [Rep] at R1
            obtain ⟨p, e1, rfl⟩ := R1
            obtain ⟨hf, vs, h1, h2⟩ := S1.obj j p _ e1 q3
            obtain ⟨w, q5, R5⟩ := h2.get q4
            refine ⟨p, vs, w, rfl, rfl, h1, by rw [← h2.length]; exact q5, ?_⟩
            exact Run.okI q1 (W' := W1.wr p (.lst vs.dropLast)) (ext_wr (List.mem_of_getElem? e1)) (S1.wr e1 hf ⟨hf, _, upd_same, h2.dropLast.lean lean_wr⟩) (R5.lean lean_wr)
        | _ => exact q1.elim
    | _ => exact q1.elim
theorem s_popi (h : PE X z (tBM X.K "list" rPopAt (tE g X.K n o Zx) (tCons (tE g X.K n e Zx) tNil))) : PE X z (tE g X.K n (.popi o e) Zx) :=
  peI h fun σ H Q ⟨W, M, env, hH, S, Er, rr⟩ => by
    simp only [ev] at rr
    refine ⟨W, M, env, hH, S, Er, rr.bind fun u M1 v W1 _ X1 S1 R1 q1 => ?_⟩
    cases u with
    | ref j =>
      simp only at q1
      by_cases hj : isLst M1 j = true
      · rw [if_pos hj] at q1
        refine ⟨tyL_of S1 hj R1, W1, M1, env, rfl, S1, Er.mono X1, q1.bind fun d M2 w W2 _ X2 S2 R2 q2 => ?_⟩
        have R1' := R1.mono X2
        simp only [Rep] at R1'
        obtain ⟨p, e1, rfl⟩ := R1'
        cases q3 : M2[j]? with
        | none => rw [q3] at q2; exact q2.elim
        | some ob =>
          rw [q3] at q2
          cases ob with
          | lst xs =>
            cases d with
            | int i =>
              simp only at q2
              cases q4 : ixN xs.length i with
              | none => rw [q4] at q2; exact q2.elim
              | some k =>
                rw [q4] at q2
                simp only at q2
                cases q5 : xs[k]? with
                | none => rw [q5] at q2; exact q2.elim
                | some y =>
                  rw [q5] at q2
                  simp only at q2
                  by_cases hz : -(2 ^ 63) ≤ i ∧ i < 2 ^ 63
                  · rw [if_pos hz] at q2
                    obtain ⟨hf, vs, h1, h2⟩ := S2.obj j p _ e1 q3
                    obtain ⟨u', q6, R6⟩ := h2.get q5
                    simp only [Rep] at R2
                    refine ⟨p, vs, i, k, u', rfl, by rw [R2], h1, hz.1, hz.2, by rw [← h2.length]; exact (ixN_seq q4).1, q6, ?_⟩
                    exact Run.okI q2 (W' := W2.wr p (.lst (vs.eraseIdx k))) (ext_wr (List.mem_of_getElem? e1)) (S2.wr e1 hf ⟨hf, _, upd_same, (h2.erase k).lean lean_wr⟩) (R6.lean lean_wr)
                  · rw [if_neg hz] at q2; exact q2.elim
            | _ => exact q2.elim
          | _ => exact q2.elim
      · rw [if_neg hj] at q1; exact q1.elim
    | _ => exact q1.elim

/-! ### fields -/
structure CF (g : Gw) (K : PySem.W.Frag) : Prop where
  cl : ∀ c, g.tb.kn c = true → Cls K (g.ca c)
  na : ∀ c f, g.tb.kn c = true → g.tb.fk f = true → NoAttr K (g.ca c) (g.tb.fld f)
  inj : ∀ f f', g.tb.fk f = true → g.tb.fk f' = true → g.tb.fld f = g.tb.fld f' → f = f'
theorem fld_get {g : Gw} {K : PySem.W.Frag} {W : Wd} (C : CF g K) {f : Nat} (hf : g.tb.fk f = true) : ∀ {fs : List (Nat × D)} {vs : List V} {d : D}, (∀ p ∈ fs, g.tb.fk p.1 = true) → Reps K W (fs.map (·.2)) vs → lookN f fs = some d →
    ∃ v, (fldV g fs vs).lookup (g.tb.fld f) = some v ∧ Rep K W d v
  | [], vs, d, _, _, h => by simp [lookN] at h
  | (f', d') :: fs, vs, d, hk, r, h => by
    obtain ⟨v, vr, rfl, r1, r2⟩ := Reps.inv r
    simp only [lookN] at h
    by_cases he : f' = f
    · rw [if_pos he] at h
      cases h
      refine ⟨v, ?_, r1⟩
      show List.lookup (g.tb.fld f) ((g.tb.fld f', v) :: fldV g fs vr) = _
      rw [he, List.lookup_cons_self]
    · rw [if_neg he] at h
      obtain ⟨u, h1, h2⟩ := fld_get C hf (fun p hp => hk p (List.mem_cons_of_mem _ hp)) r2 h
      refine ⟨u, ?_, h2⟩
      show List.lookup (g.tb.fld f) ((g.tb.fld f', v) :: fldV g fs vr) = _
      have hne : (g.tb.fld f == g.tb.fld f') = false := by
        cases q : (g.tb.fld f == g.tb.fld f') with
        | false => rfl
        | true => exact absurd (C.inj f' f (hk _ List.mem_cons_self) hf (beq_iff_eq.mp q).symm) he
      simp only [List.lookup, hne]
      exact h1
theorem fld_put {g : Gw} {K : PySem.W.Frag} {W : Wd} (C : CF g K) {f : Nat} (hf : g.tb.fk f = true) {d : D} {v : V} (rd : Rep K W d v) : ∀ {fs : List (Nat × D)} {vs : List V}, (∀ p ∈ fs, g.tb.fk p.1 = true) → Reps K W (fs.map (·.2)) vs →
    ∃ us, putF (g.tb.fld f) v (fldV g fs vs) = fldV g (putN f d fs) us ∧ Reps K W ((putN f d fs).map (·.2)) us ∧ (∀ p ∈ putN f d fs, g.tb.fk p.1 = true)
  | [], vs, _, r => by
    rw [Reps.inv0 r]
    exact ⟨[v], rfl, Reps.cons rd Reps.nil, fun p hp => by simp [putN] at hp; rw [hp]; exact hf⟩
  | (f', d') :: fs, vs, hk, r => by
    obtain ⟨u, vr, rfl, r1, r2⟩ := Reps.inv r
    by_cases he : f' = f
    · subst he
      refine ⟨v :: vr, ?_, ?_, ?_⟩
      · show putF _ v ((g.tb.fld f', u) :: fldV g fs vr) = _
        simp only [putF, putN, if_true]
        rfl
      · simp only [putN, if_true]
        exact Reps.cons rd r2
      · simp only [putN, if_true]
        intro p hp
        rcases List.mem_cons.mp hp with rfl | hp
        · exact hf
        · exact hk p (List.mem_cons_of_mem _ hp)
    · obtain ⟨us, h1, h2, h3⟩ := fld_put C hf rd (fun p hp => hk p (List.mem_cons_of_mem _ hp)) r2
      refine ⟨u :: us, ?_, ?_, ?_⟩
      · show putF _ v ((g.tb.fld f', u) :: fldV g fs vr) = _
        have hne : ¬ g.tb.fld f' = g.tb.fld f := fun q => he (C.inj f' f (hk _ List.mem_cons_self) hf q)
        simp only [putF, putN, if_neg hne, if_neg he]
        rw [h1]; rfl
      · simp only [putN, if_neg he]
        exact Reps.cons r1 h2
      · simp only [putN, if_neg he]
        intro p hp
        rcases List.mem_cons.mp hp with rfl | hp
        · exact hk _ List.mem_cons_self
        · exact h3 p hp
theorem s_fld {f : Nat} {nm : Str} (C : CF g X.K) (hf : g.tb.fk f = true) (hn : g.tb.fld f = nm) (ho : PE X x (tE g X.K n o Zx)) (hb : attributeBase x nm X.env (eval x X.env) = eval x X.env) : PE X (.Attribute x nm pos) (tE g X.K n (.fld f o) Zx) :=
  peI (pe_fld ho hb) fun σ H Q ⟨W, M, env, hH, S, Er, rr⟩ => by
    simp only [ev] at rr
    refine ⟨W, M, env, hH, S, Er, rr.bind fun u M1 v W1 _ X1 S1 R1 q1 => ?_⟩
    cases u with
    | ref j =>
      simp only at q1
      cases q3 : M1[j]? with
      | none => rw [q3] at q1; exact q1.elim
      | some ob =>
        rw [q3] at q1
        cases ob with
        | ins c fs =>
          simp only at q1
          obtain ⟨d, e1, q2⟩ := q1.ofI
          simp only [Rep] at R1
          obtain ⟨p, e2, rfl⟩ := R1
          obtain ⟨h0, dx, vs, h1, h2, h3, h4⟩ := S1.obj j p _ e2 q3
          obtain ⟨w, h5, h6⟩ := fld_get C hf h4 h2 e1
          subst hn
          exact ⟨p, g.ca c, dx, _, w, rfl, h1, C.cl c h3, C.na c f h3 hf, h5, Run.okI q2 (Ext.refl _) S1 h6⟩
        | _ => exact q1.elim
    | _ => exact q1.elim

/-! ### calls -/
def spI (g : Gw) (K : PySem.W.Frag) (n f ar : Nat) : Sp := fun vs H Q E => ∃ W M ds, W.H = H ∧ SR g K W M ∧ Reps K W ds vs ∧ ds.length = ar ∧ Run g K W (Rep K) (clN g n f ds M) Q E
theorem s_call {es : Es} {f ar : Nat} (h : PE X z (fun σ H Q => tA g X.K n es Zx σ H fun vs H1 => spI g X.K n f ar vs H1 Q (fun c d H => Zx c d σ H)))
    (hl : ∀ env M ds M', evs g.G (clN g n) es env M = .ok ds M' → ds.length = ar) : PE X z (tE g X.K n (.call f es) Zx) :=
  peI h fun σ H Q ⟨W, M, env, hH, S, Er, rr⟩ => by
    simp only [ev] at rr
    exact ⟨W, M, env, hH, S, Er, rr.bind fun ds M1 vs W1 e1 X1 S1 R1 q1 => ⟨W1, M1, ds, rfl, S1, R1, hl _ _ _ _ e1, q1⟩⟩
theorem s_call0 {f : Nat} (h : PE X z (fun σ H Q => spI g X.K n f 0 [] H Q (fun c d H => Zx c d σ H))) : PE X z (tE g X.K n (.call f .nil) Zx) :=
  peI h fun σ H Q ⟨W, M, env, hH, S, Er, rr⟩ => by
    simp only [ev, evs, R.bind_ok] at rr
    exact ⟨W, M, [], hH, S, Reps.nil, rfl, rr⟩
def pick {α : Type} (is : List Nat) (vs : List α) : List α := is.filterMap fun i => vs[i]?
theorem mapO_pick {K : PySem.W.Frag} {W : Wd} {ds : List D} {vs : List V} (r : Reps K W ds vs) : ∀ {is : List Nat} {es : List D}, mapO (fun i => ds[i]?) is = some es → Reps K W es (pick is vs)
  | [], es, h => by simp at h; subst h; exact Reps.nil
  | i :: is, es, h => by
    unfold mapO at h
    cases q : ds[i]? with
    | none => rw [q] at h; simp at h
    | some d =>
      rw [q] at h
      cases q2 : mapO (fun i => ds[i]?) is with
      | none => rw [q2] at h; simp at h
      | some es' =>
        rw [q2] at h
        simp at h; subst h
        obtain ⟨v, h1, h2⟩ := r.get q
        show Reps K W _ (List.filterMap _ (i :: is))
        rw [List.filterMap_cons, h1]
        exact Reps.cons h2 (mapO_pick r q2)
theorem mapO_len {α β : Type} {f : α → Option β} : ∀ {is : List α} {es : List β}, mapO f is = some es → es.length = is.length
  | [], es, h => by simp at h; subst h; rfl
  | i :: is, es, h => by
    unfold mapO at h
    cases q : f i with
    | none => rw [q] at h; simp at h
    | some d =>
      rw [q] at h
      cases q2 : mapO f is with
      | none => rw [q2] at h; simp at h
      | some es' => rw [q2] at h; simp at h; subst h; simp [mapO_len q2]
theorem s_callk {es : Es} {f ar : Nat} {is : List Nat} (h : PE X z (fun σ H Q => tA g X.K n es Zx σ H fun zs H2 => spI g X.K n f ar (pick is zs) H2 Q (fun c d H => Zx c d σ H))) (hl : is.length = ar) : PE X z (tE g X.K n (.callk f es is) Zx) :=
  peI h fun σ H Q ⟨W, M, env, hH, S, Er, rr⟩ => by
    simp only [ev] at rr
    refine ⟨W, M, env, hH, S, Er, rr.bind fun ds M1 vs W1 e1 X1 S1 R1 q1 => ?_⟩
    cases e2 : mapO (fun i => ds[i]?) is with
    | none => rw [e2] at q1; exact q1.elim
    | some ys =>
    rw [e2] at q1
    have q2 : Run g X.K W1 (Rep X.K) (clN g n f ys M1) Q (atS Zx σ) := q1
    exact ⟨W1, M1, ys, rfl, S1, mapO_pick R1 e2, by rw [mapO_len e2, hl], q2⟩
theorem s_mk {es : Es} {c f ar : Nat} (C : CF g X.K) (hk : g.tb.kn c = true) (hf : g.G.ini c = f)
    (h : PE X z (fun σ H Q => tA g X.K n es Zx σ H fun vs H1 => ∀ a dx, H1 a = none → H1 dx = none → dx ≠ a → spI g X.K n f ar (.ref a :: vs) (upd (upd H1 dx (.own a)) a (.ins (g.ca c) dx [])) (fun v H2 => v = .non ∧ Q (.ref a) H2) (fun c d H => Zx c d σ H)))
    (hl : ∀ env M ds M', evs g.G (clN g n) es env M = .ok ds M' → ds.length + 1 = ar) : PE X z (tE g X.K n (.mk c es) Zx) :=
  peI h fun σ H Q ⟨W, M, env, hH, S, Er, rr⟩ => by
    simp only [ev] at rr
    refine ⟨W, M, env, hH, S, Er, rr.bind fun ds M1 vs W1 e1 X1 S1 R1 q1 => fun a dx ha hdx hne => ?_⟩
    have X2 : Ext W1 (W1.nH dx (.own a)) := ext_new hdx
    have S2 := S1.new (o := .own a) hdx
    have ha2 : (W1.nH dx (.own a)).H a = none := by
      show upd W1.H dx _ a = none
      rw [upd_ne (Ne.symm hne)]; exact ha
    have X3 : Ext (W1.nH dx (.own a)) ((W1.nH dx (.own a)).nH a (.ins (g.ca c) dx [])) := ext_new ha2
    have S3 := S2.new (o := .ins (g.ca c) dx []) ha2
    have S4 := SR.put (o := .ins c []) S3 (m_none S2 ha2) ⟨F_none S2 ha2, dx, [], upd_same, Reps.nil, hk, fun p hp => absurd hp (by simp)⟩
    have X4 : Ext W1 (((W1.nH dx (.own a)).nH a (.ins (g.ca c) dx [])).put a) := (X2.trans X3).put ha
    have hm : (((W1.nH dx (.own a)).nH a (.ins (g.ca c) dx [])).put a).m[M1.length]? = some a := by
      show (W1.m ++ [a])[M1.length]? = some a
      rw [← S1.len]; simp
    subst hf
    refine ⟨_, _, .ref M1.length :: ds, rfl, S4, Reps.cons (by simp only [Rep]; exact ⟨a, hm, rfl⟩) (R1.mono X4), by rw [List.length_cons]; exact hl _ _ _ _ e1, ?_⟩
    refine (q1.mono X4).bind fun d M5 v W5 e5 X5 S5 R5 q5 => ?_
    cases d with
    | non =>
      simp only [Rep] at R5
      exact ⟨R5, Run.okI q5 (Ext.refl _) S5 (by simp only [Rep]; exact ⟨a, X5.get hm, rfl⟩)⟩
    | _ => exact q5.elim
end
end Z
end
section
set_option Elab.async false
set_option linter.all false
set_option maxRecDepth 100000
set_option maxHeartbeats 4000000
/-! Zx10: isinstance, repr, divmod, displays of dicts, lists of ranges. -/
namespace Z
open PySem L2

/-! ### isinstance -/
theorem kit_one {K : PySem.W.Frag} {t c : Value} {b : Bool} (h : PySem.W.kitAny K t [c] = some b) : PySem.W.kitOne K t c = some b := by
  unfold PySem.W.kitAny at h
  cases q : PySem.W.kitOne K t c with
  | none => rw [q] at h; cases h
  | some x =>
    rw [q] at h
    cases x with
    | true => simpa using h
    | false =>
      simp only [PySem.W.kitAny] at h
      exact h
section
variable {g : Gw} {X : Cx} {n : Nat} {x y z : Expr} {e a b c o : E} {Zx : WX} {pos : Pos}
theorem s_isin1 {k : Kd} {cv : V} {cu : Value} (F : IsF g X.K) (hk : kdOk g k) (hc : ClsV cv cu) (hcls : kdCls g k = [cu]) (h : PE X z (tCB (rIsi X.K) (tCons (tE g X.K n a Zx) (tCons (tC cv) tNil)))) : PE X z (tE g X.K n (.isin k a) Zx) :=
  peI h fun σ H Q ⟨W, M, env, hH, S, Er, rr⟩ => by
    simp only [ev] at rr
    refine ⟨W, M, env, hH, S, Er, rr.bind fun u M1 v W1 _ X1 S1 R1 q1 => ?_⟩
    obtain ⟨d, e1, q2⟩ := q1.ofI
    obtain ⟨b, e2, rfl⟩ := Option.map_eq_some_iff.mp e1
    obtain ⟨t, ty, hb⟩ := isin_ok F hk e2 S1 R1
    rw [hcls] at hb
    exact ⟨v, cv, t, cu, b, rfl, hc, ty, kit_one hb, Run.okI q2 (Ext.refl _) S1 rep_bl⟩
theorem s_isin2 {ta : TA} (F : IsF g X.K) (hta : ∀ σ H (Q : List V → Hp → Prop), Q [.ty "list", .ty "tuple"] H → ta σ H Q) (h : PE X z (tCB (rIsiT X.K) (tCons (tE g X.K n a Zx) (tCons (tTup ta) tNil)))) : PE X z (tE g X.K n (.isin .listtuple a) Zx) :=
  peI h fun σ H Q ⟨W, M, env, hH, S, Er, rr⟩ => by
    simp only [ev] at rr
    refine ⟨W, M, env, hH, S, Er, rr.bind fun u M1 v W1 _ X1 S1 R1 q1 => ?_⟩
    obtain ⟨d, e1, q2⟩ := q1.ofI
    obtain ⟨b, e2, rfl⟩ := Option.map_eq_some_iff.mp e1
    refine hta σ W1.H _ ⟨by decide, fun p hp => ?_⟩
    have S2 := S1.new (o := .tup [.ty "list", .ty "tuple"]) hp
    have X2 : Ext W1 (W1.nH p (.tup [.ty "list", .ty "tuple"])) := ext_new hp
    obtain ⟨t, ty, hb⟩ := isin_ok F (k := .listtuple) (by trivial) e2 S2 (R1.mono X2)
    exact ⟨v, p, _, t, _, b, rfl, upd_same, .cons (.ty "list") (.cons (.ty "tuple") .nil), ty, hb, Run.okI q2 X2 S2 rep_bl⟩
end

/-! ### repr -/
section
variable {g : Gw} {X : Cx} {pins : List (Addr × Obj)} {σ : St} {W : Wd} {M : Mem} {s : Shared}
/-- where the table of the modules stands, nothing is tracked -/
structure SysAt (H : Hp) (s : Shared) : Prop where
  obj : ∃ o es ep, s.heap.get? sysModules = some o ∧ o.data = .dict es ep
  no : H sysModules = none
theorem sys_of (I : L2.Inv X pins σ W.H s) (hb : ∃ mm, X.base.Ns sysModules mm) : SysAt W.H s := by
  obtain ⟨mm, o, es, ep, e, d, _⟩ := hb
  obtain ⟨h1, h2⟩ := I.bs _ _ e
  exact ⟨⟨o, es, ep, h1, d⟩, h2⟩
theorem reads_mapO {f : D → Option PyData} (hf : ∀ d v u p, f d = some p → Rep X.K W d v → RelV v u → ∃ as, Reads s.heap u p as ∧ sysModules ∉ as) :
    ∀ {ds : List D} {vs : List V} {us : List Value} {ps : List PyData}, mapO f ds = some ps → Reps X.K W ds vs → Vals vs us → ∃ as, ReadsAll s.heap us ps as ∧ sysModules ∉ as
  | [], vs, us, ps, h, r, rv => by
    simp at h; subst h
    rw [r.inv0] at rv
    cases rv
    exact ⟨[], .nil, by simp⟩
  | d :: ds, vs, us, ps, h, r, rv => by
    obtain ⟨v, vr, rfl, r1, r2⟩ := r.inv
    cases rv with
    | cons rv1 rv2 =>
      unfold mapO at h
      cases q : f d with
      | none => rw [q] at h; simp at h
      | some p =>
        rw [q] at h
        cases q2 : mapO f ds with
        | none => rw [q2] at h; simp at h
        | some ps' =>
          rw [q2] at h
          simp at h; subst h
          obtain ⟨as, h1, n1⟩ := hf _ _ _ _ q r1 rv1
          obtain ⟨bs, h2, n2⟩ := reads_mapO hf q2 r2 rv2
          exact ⟨as ++ bs, .cons h1 h2, by simp [n1, n2]⟩
theorem vals_of_ints : ∀ (ns : List Int) {us : List Value} {h : Heap}, Vals (ns.map V.int) us → ReadsAll h us (ns.map PyData.int) []
  | [], us, h, r => by cases r; exact .nil
  | n :: ns, us, h, r => by
    cases r with
    | cons r1 r2 =>
      obtain ⟨t, rfl⟩ := r1
      exact .cons (.int n t) (vals_of_ints ns r2)
theorem key_reads {h : Heap} {k : Key} {u : Value} (e : keyIs k u = true) : Reads h u (keyPy k) [] := by
  rcases keyIs_shape e with ⟨i, t, rfl, rfl⟩ | ⟨x, t, rfl, rfl⟩
  · exact .int i t
  · exact .str x t
theorem keys_reads {P : Program} {w : World} {h : Heap} : ∀ {es : List DictEntry} {kvs : List (Key × Value)}, Pairs (mixKind P w) es kvs → ReadsAll h (es.map (·.key)) (kvs.map fun kv => keyPy kv.1) [] := by
  intro es kvs hp
  induction hp with
  | nil => exact .nil
  | cons h1 h2 _ ih => exact .cons (key_reads h1) ih
theorem vals_eq {P : Program} {w : World} : ∀ {es : List DictEntry} {kvs : List (Key × Value)}, Pairs (mixKind P w) es kvs → es.map (·.val) = kvs.map (·.2) := by
  intro es kvs hp
  induction hp with
  | nil => rfl
  | cons h1 h2 _ ih => rw [List.map_cons, List.map_cons, ih, h2]
theorem kv_split : ∀ {kvs : List (Key × V)} {ws : List (Key × Value)}, KV kvs ws → kvs.map (·.1) = ws.map (·.1) ∧ Vals (kvs.map (·.2)) (ws.map (·.2))
  | _, _, .nil => ⟨rfl, .nil⟩
  | _, _, .cons h t => by
    obtain ⟨h1, h2⟩ := kv_split t
    exact ⟨by rw [List.map_cons, List.map_cons, h1, h.1], .cons h.2 h2⟩
theorem zip_1 {α β : Type} : ∀ (xs : List α) (ys : List β), xs.length = ys.length → (xs.zip ys).map (·.1) = xs
  | [], _, _ => rfl
  | x :: xs, [], h => by simp at h
  | x :: xs, y :: ys, h => by rw [List.zip_cons_cons, List.map_cons, zip_1 xs ys (by simpa using h)]
theorem zip_2 {α β : Type} : ∀ (xs : List α) (ys : List β), xs.length = ys.length → (xs.zip ys).map (·.2) = ys
  | [], [], _ => rfl
  | [], y :: ys, h => by simp at h
  | x :: xs, [], h => by simp at h
  | x :: xs, y :: ys, h => by rw [List.zip_cons_cons, List.map_cons, zip_2 xs ys (by simpa using h)]
theorem py_reads (S : SR g X.K W M) (I : L2.Inv X pins σ W.H s) (y : SysAt W.H s) : ∀ (n : Nat) (d : D) (v : V) (u : Value) (p : PyData), py M n d = some p → Rep X.K W d v → RelV v u → ∃ as, Reads s.heap u p as ∧ sysModules ∉ as := by
  obtain ⟨ob, oes, oep, yo, yd⟩ := y.obj
  have lne : ∀ {a : Addr} {o : Obj} {xs : Array Value} {m : Nat}, s.heap.get? a = some o → o.data = .seq xs m → sysModules ≠ a := fun {a o xs m} h1 h2 z => by
    subst z
    rw [yo] at h1; cases h1
    rw [yd] at h2; cases h2
  intro n
  induction n with
  | zero => intro d v u p h; simp [py] at h
  | succ n ih =>
    have lst : ∀ (a : Addr) (vs : List V) (xs : List D) (ps : List PyData), mapO (py M n) xs = some ps → SqL X.K W.H a vs → Reps X.K W xs vs → ∃ as, Reads s.heap (.ref a) (.list ps) as ∧ sysModules ∉ as := by
      intro a vs xs ps h f r
      obtain ⟨its, rv, ⟨o, m, ho, hc, _, hd⟩, _⟩ := I.list f
      obtain ⟨as, h1, h2⟩ := reads_mapO ih h r rv
      exact ⟨a :: as, .list ho hc hd h1, by simp only [List.mem_cons, not_or]; exact ⟨lne ho hd, h2⟩⟩
    intro d v u p h r ru
    cases d with
    | non => simp only [py, Option.some.injEq] at h; subst h; simp only [Rep] at r; subst r; obtain rfl : u = Value.none := ru; exact ⟨[], .none, by simp⟩
    | bl b => simp only [py, Option.some.injEq] at h; subst h; simp only [Rep] at r; subst r; obtain rfl : u = Value.bool b := ru; exact ⟨[], .bool b, by simp⟩
    | int i => simp only [py, Option.some.injEq] at h; subst h; simp only [Rep] at r; subst r; obtain ⟨t, rfl⟩ := ru; exact ⟨[], .int i t, by simp⟩
    | str x => simp only [py, Option.some.injEq] at h; subst h; simp only [Rep] at r; subst r; obtain ⟨t, rfl⟩ := ru; exact ⟨[], .str x t, by simp⟩
    | lst xs =>
      simp only [py, Option.map_eq_some_iff] at h
      obtain ⟨ps, h, rfl⟩ := h
      simp only [Rep] at r
      obtain ⟨a, vs, rfl, f, rs⟩ := r
      obtain rfl : u = Value.ref a := ru
      exact lst a vs xs ps h (.of (S.sub _ _ f)) rs
    | tup xs =>
      simp only [py, Option.map_eq_some_iff] at h
      obtain ⟨ps, h, rfl⟩ := h
      simp only [Rep] at r
      obtain ⟨a, vs, rfl, f, rs⟩ := r
      obtain rfl : u = Value.ref a := ru
      obtain ⟨its, rv, ⟨o, ho, hc, m, hd⟩, _⟩ := I.tuple (sqT_mono S.sub f)
      obtain ⟨as, h1, h2⟩ := reads_mapO ih h rs rv
      exact ⟨as, .tuple ho hc hd h1, h2⟩
    | dct ks ds =>
      simp only [py, Option.map_eq_some_iff] at h
      obtain ⟨ps, h, rfl⟩ := h
      simp only [Rep] at r
      obtain ⟨a, vs, rfl, f, hl, rs⟩ := r
      obtain rfl : u = Value.ref a := ru
      have fa := S.sub _ _ f
      obtain ⟨hz, hne, ws, kv, o, es, ep, ho, hex, hd, hko, prs, nd⟩ := I.hok a _ fa
      obtain ⟨k1, k2⟩ := kv_split kv
      rw [zip_1 ks vs hl] at k1
      rw [zip_2 ks vs hl] at k2
      obtain ⟨as, h1, h2⟩ := reads_mapO ih h rs k2
      have hlp : ks.length = ps.length := by rw [mapO_len h, rs.length, hl]
      have hlp' : (ks.map keyPy).length = ps.length := by rw [List.length_map]; exact hlp
      refine ⟨a :: [] ++ as, .dict (kvs := (ks.map keyPy).zip ps) ho hex.1 hd ?_ ?_, ?_⟩
      · rw [zip_1 _ _ hlp', k1, List.map_map]
        exact keys_reads prs
      · rw [zip_2 _ _ hlp', vals_eq prs]
        exact h1
      · simp only [List.cons_append, List.nil_append, List.mem_cons, not_or]
        refine ⟨fun z => ?_, h2⟩
        have := y.no
        rw [z, fa] at this; cases this
    | ref j =>
      simp only [py] at h
      simp only [Rep] at r
      obtain ⟨a, e, rfl⟩ := r
      obtain rfl : u = Value.ref a := ru
      cases q : M[j]? with
      | none => rw [q] at h; simp at h
      | some ob2 =>
        rw [q] at h
        cases ob2 with
        | lst xs =>
          simp only [Option.map_eq_some_iff] at h
          obtain ⟨ps, h, rfl⟩ := h
          obtain ⟨_, vs, h1, h2⟩ := S.obj j a _ e q
          exact lst a vs xs ps h (.of h1) h2
        | _ => simp at h
    | scr ns =>
      simp only [py, Option.some.injEq] at h
      subst h
      simp only [Rep] at r
      obtain ⟨a, rfl, f⟩ := r
      obtain rfl : u = Value.ref a := ru
      obtain ⟨its, rv, ⟨o, m, ho, hc, _, hd⟩, _⟩ := I.list (sqL_mono S.sub f)
      exact ⟨a :: [], .list ho hc hd (vals_of_ints ns rv), by simp only [List.mem_singleton]; exact lne ho hd⟩
theorem depthAll_le {n : Nat} : ∀ {ps : List PyData}, (∀ p ∈ ps, p.depth ≤ n) → PyData.depthAll ps ≤ n
  | [], _ => by simp [PyData.depthAll]
  | p :: ps, h => by
    simp only [PyData.depthAll]
    exact Nat.max_le.mpr ⟨h p List.mem_cons_self, depthAll_le fun q hq => h q (List.mem_cons_of_mem _ hq)⟩
theorem mapO_all {f : D → Option PyData} {Pr : PyData → Prop} (hf : ∀ d p, f d = some p → Pr p) : ∀ {ds : List D} {ps : List PyData}, mapO f ds = some ps → ∀ p ∈ ps, Pr p
  | [], ps, h, p, hp => by simp at h; subst h; simp at hp
  | d :: ds, ps, h, p, hp => by
    unfold mapO at h
    cases q : f d with
    | none => rw [q] at h; simp at h
    | some p0 =>
      rw [q] at h
      cases q2 : mapO f ds with
      | none => rw [q2] at h; simp at h
      | some ps' =>
        rw [q2] at h
        simp at h; subst h
        rcases List.mem_cons.mp hp with rfl | hp
        · exact hf _ _ q
        · exact mapO_all hf q2 p hp
theorem depthKv_le {n : Nat} : ∀ (ks : List Key) {ps : List PyData}, (∀ p ∈ ps, p.depth ≤ n) → PyData.depthKv ((ks.map keyPy).zip ps) ≤ n
  | [], ps, _ => by simp [PyData.depthKv]
  | k :: ks, [], _ => by simp [PyData.depthKv]
  | k :: ks, p :: ps, h => by
    rw [List.map_cons, List.zip_cons_cons]
    simp only [PyData.depthKv]
    have hk : (keyPy k).depth = 0 := by cases k <;> simp [keyPy, PyData.depth]
    rw [hk]
    exact Nat.max_le.mpr ⟨by simpa using h p List.mem_cons_self, depthKv_le ks fun q hq => h q (List.mem_cons_of_mem _ hq)⟩
theorem py_depth {M : Mem} : ∀ (n : Nat) (d : D) (p : PyData), py M n d = some p → p.depth ≤ n := by
  intro n
  induction n with
  | zero => intro d p h; simp [py] at h
  | succ n ih =>
    intro d p h
    cases d with
    | lst xs => simp only [py, Option.map_eq_some_iff] at h; obtain ⟨ps, h, rfl⟩ := h; simp only [PyData.depth]; have := depthAll_le (mapO_all ih h); omega
    | tup xs => simp only [py, Option.map_eq_some_iff] at h; obtain ⟨ps, h, rfl⟩ := h; simp only [PyData.depth]; have := depthAll_le (mapO_all ih h); omega
    | dct ks ds => simp only [py, Option.map_eq_some_iff] at h; obtain ⟨ps, h, rfl⟩ := h; simp only [PyData.depth]; have := depthKv_le ks (mapO_all ih h); omega
    | ref j =>
      simp only [py] at h
      cases q : M[j]? with
      | none => rw [q] at h; simp at h
      | some ob2 =>
        rw [q] at h
        cases ob2 with
        | lst xs => simp only [Option.map_eq_some_iff] at h; obtain ⟨ps, h, rfl⟩ := h; simp only [PyData.depth]; have := depthAll_le (mapO_all ih h); omega
        | _ => simp at h
    | scr ns =>
      simp only [py, Option.some.injEq] at h; subst h
      simp only [PyData.depth]
      have : PyData.depthAll (ns.map PyData.int) ≤ 0 := depthAll_le fun p hp => by
        obtain ⟨i, _, rfl⟩ := List.mem_map.mp hp
        simp [PyData.depth]
      omega
    | _ => simp only [py, Option.some.injEq] at h; subst h; simp [PyData.depth]
end
/-- repr(x), by what the tree is -/
def rReprI (g : Gw) (K : PySem.W.Frag) : List V → Hp → VK → Prop := fun xs H Q => ∃ W M d v p, xs = [v] ∧ W.H = H ∧ SR g K W M ∧ Rep K W d v ∧ py M depthMax d = some p ∧ p.showable = true ∧ p.shown.length ≤ sizeLine ∧ Q (.str p.shown) H
section
variable {g : Gw} {X : Cx} {n : Nat} {x y z : Expr} {e a b c o : E} {Zx : WX} {pos : Pos}
theorem call_reprI (hgd : X.A.guards = some []) (hu : X.A.units + 65 < cLine) (hb : ∃ mm, X.base.Ns sysModules mm) : CallR X (.builtin "repr") (rReprI g X.K) := by
  intro pins s σ H xs us Q I r h
  obtain ⟨W, M, d, v, p, rfl, rfl, S, R, hp, hs, hz, q⟩ := h
  obtain ⟨u, rfl, ru⟩ := Vals.one r
  obtain ⟨as, rd, na⟩ := py_reads S I (sys_of I hb) depthMax d v u p hp R ru
  have hdp : p.depth ≤ 16 := py_depth _ _ _ hp
  cases rd with
  | none => exact PySem.P.repr_of_none ⟨.str _, W.H, I.tok _, ⟨_, rfl⟩, q⟩
  | bool b0 => exact PySem.P.repr_of_bool ⟨.str _, W.H, I.tok _, ⟨_, rfl⟩, q⟩
  | int i t => exact PySem.P.repr_of_int (by simpa [PyData.showable] using hs) ⟨.str _, W.H, I.tok _, ⟨_, rfl⟩, q⟩
  | str x0 t => exact PySem.P.repr_of_str ⟨.str _, W.H, I.tok _, ⟨_, rfl⟩, q⟩ (by simpa [PyData.shown] using hz)
  | list h1 h2 h3 h4 =>
    exact repr_of_reads' (h₀ := s.heap) (.list h1 h2 h3 h4) hs (fun _ => na) hgd (by omega) (fun _ _ e => e) (fun h' u tk hk => ⟨.str _, W.H, I.kept hk, ⟨_, rfl⟩, q⟩) hz
  | tuple h1 h2 h3 h4 =>
    exact repr_of_reads' (h₀ := s.heap) (.tuple h1 h2 h3 h4) hs (fun _ => na) hgd (by omega) (fun _ _ e => e) (fun h' u tk hk => ⟨.str _, W.H, I.kept hk, ⟨_, rfl⟩, q⟩) hz
  | dict h1 h2 h3 h4 h5 =>
    exact repr_of_reads' (h₀ := s.heap) (.dict h1 h2 h3 h4 h5) hs (fun _ => na) hgd (by omega) (fun _ _ e => e) (fun h' u tk hk => ⟨.str _, W.H, I.kept hk, ⟨_, rfl⟩, q⟩) hz
theorem r_repr {W : Wd} {M : Mem} {u d : D} {v : V} (h : b1 .repr M u = some d) (S : SR g X.K W M) (R : Rep X.K W u v) (Q : VK) (q : ∀ v' W', Ext W W' → SR g X.K W' M → Rep X.K W' d v' → Q v' W'.H) : rReprI g X.K [v] W.H Q := by
  simp only [b1] at h
  cases e : py M depthMax u with
  | none => rw [e] at h; simp at h
  | some p =>
    rw [e] at h
    simp only at h
    split at h
    · rename_i hc
      cases h
      exact ⟨W, M, u, v, p, rfl, rfl, S, R, e, hc.1, hc.2, q _ W (Ext.refl _) S rep_str⟩
    · cases h
end
end Z
end
section
set_option Elab.async false
set_option linter.all false
set_option maxRecDepth 100000
set_option maxHeartbeats 4000000
/-! Zx11: sorted, of lists and tuples; list(range), divmod, displays of dicts. -/
namespace Z
open PySem L2

/-! ### the sorted list is one -/
theorem insB_perm {α : Type} (le : α → α → Bool) (x : α) : ∀ l : List α, (insB le x l).Perm (x :: l)
  | [] => List.Perm.refl _
  | y :: l => by
    unfold insB
    by_cases h : le x y = true
    · rw [if_pos h]
    · rw [if_neg h]
      exact ((insB_perm le x l).cons y).trans (List.Perm.swap x y l)
theorem isort_perm {α : Type} (le : α → α → Bool) : ∀ l : List α, (isort le l).Perm l
  | [] => List.Perm.refl _
  | x :: l => (insB_perm le x _).trans ((isort_perm le l).cons x)
theorem insB_sorted {α : Type} {le : α → α → Bool} (tr : ∀ a b c, le a b = true → le b c = true → le a c = true) (to : ∀ a b, (le a b || le b a) = true) (x : α) : ∀ l : List α, l.Pairwise (fun a b => le a b = true) → (insB le x l).Pairwise fun a b => le a b = true
  | [], _ => by simp [insB]
  | y :: l, h => by
    obtain ⟨h1, h2⟩ := List.pairwise_cons.mp h
    unfold insB
    by_cases hx : le x y = true
    · rw [if_pos hx]
      exact List.pairwise_cons.mpr ⟨fun z hz => by
        rcases List.mem_cons.mp hz with rfl | hz
        · exact hx
        · exact tr _ _ _ hx (h1 z hz), h⟩
    · rw [if_neg hx]
      have hyx : le y x = true := by
        have := to x y
        rw [Bool.or_eq_true] at this
        exact this.resolve_left hx
      exact List.pairwise_cons.mpr ⟨fun z hz => by
        rcases List.mem_cons.mp ((insB_perm le x l).mem_iff.mp hz) with rfl | hz
        · exact hyx
        · exact h1 z hz, insB_sorted tr to x l h2⟩
theorem isort_sorted {α : Type} {le : α → α → Bool} (tr : ∀ a b c, le a b = true → le b c = true → le a c = true) (to : ∀ a b, (le a b || le b a) = true) : ∀ l : List α, (isort le l).Pairwise fun a b => le a b = true
  | [] => List.Pairwise.nil
  | x :: l => insB_sorted tr to x _ (isort_sorted tr to l)
theorem sorted_one {α : Type} {le : α → α → Bool} (an : ∀ a b, le a b = true → le b a = true → a = b) : ∀ {l m : List α}, l.Perm m → l.Pairwise (fun a b => le a b = true) → m.Pairwise (fun a b => le a b = true) → l = m
  | [], m, p, _, _ => p.nil_eq
  | a :: l, [], p, _, _ => nomatch p.length_eq
  | a :: l, b :: m, p, h1, h2 => by
    obtain ⟨x1, x2⟩ := List.pairwise_cons.mp h1
    obtain ⟨y1, y2⟩ := List.pairwise_cons.mp h2
    have hab : a = b := by
      rcases List.mem_cons.mp (p.mem_iff.mp List.mem_cons_self) with h | h
      · exact h
      · rcases List.mem_cons.mp (p.mem_iff.mpr List.mem_cons_self) with h' | h'
        · exact h'.symm
        · exact an a b (x1 b h') (y1 a h)
    subst hab
    rw [sorted_one an (List.Perm.cons_inv p) x2 y2]
theorem isort_merge {α : Type} {le : α → α → Bool} (tr : ∀ a b c, le a b = true → le b c = true → le a c = true) (to : ∀ a b, (le a b || le b a) = true) (an : ∀ a b, le a b = true → le b a = true → a = b) (l : List α) : l.mergeSort le = isort le l :=
  sorted_one an ((List.mergeSort_perm l le).trans (isort_perm le l).symm) (List.pairwise_mergeSort tr to l) (isort_sorted tr to l)
theorem lexLe_iff : ∀ a b : List Int, lexLe a b = decide (a ≤ b)
  | [], b => by simp [lexLe]
  | a :: as, [] => by simp [lexLe]
  | a :: as, b :: bs => by
    unfold lexLe
    rw [lexLe_iff as bs]
    by_cases h : a = b
    · subst h
      rw [if_pos rfl]
      simp [List.cons_le_cons_iff]
    · rw [if_neg h]
      simp [List.cons_le_cons_iff, h]
theorem lexLe_trans (a b c : List Int) (h1 : lexLe a b = true) (h2 : lexLe b c = true) : lexLe a c = true := by
  rw [lexLe_iff, decide_eq_true_eq] at *
  exact List.le_trans h1 h2
theorem lexLe_total (a b : List Int) : (lexLe a b || lexLe b a) = true := by
  rw [lexLe_iff, lexLe_iff, Bool.or_eq_true, decide_eq_true_eq, decide_eq_true_eq]
  exact List.le_total a b
theorem lexLe_anti (a b : List Int) (h1 : lexLe a b = true) (h2 : lexLe b a = true) : a = b := by
  rw [lexLe_iff, decide_eq_true_eq] at *
  exact List.le_antisymm h1 h2
theorem leI_trans (a b c : Int) (h1 : leI a b = true) (h2 : leI b c = true) : leI a c = true := by
  simp only [leI, decide_eq_true_eq] at *; omega
theorem leI_total (a b : Int) : (leI a b || leI b a) = true := by
  simp only [leI, Bool.or_eq_true, decide_eq_true_eq]; omega
theorem leI_anti (a b : Int) (h1 : leI a b = true) (h2 : leI b a = true) : a = b := by
  simp only [leI, decide_eq_true_eq] at *; omega

/-! ### sorted(x), x a list or a tuple whose items read as data -/
section
open PySem.W PyProof.Rows
variable {prog : Program} {w : World} {A : Around} {E : Value → Shared → Prop} {t : Shared} {β : Type} {vs : List Value} {bs : List β} {enc : β → PyData} {Rl : Value → β → Prop} {l : Addr}
/-- a list's or a tuple's object -/
def SeqOb (h : Heap) (l : Addr) (vs : List Value) : Prop := ∃ o m, h.get? l = some o ∧ (o.cls = .type "list" ∨ o.cls = .type "tuple") ∧ o.data = .seq vs.toArray m
abbrev newL : Obj := seqObj "list" #[] 0
theorem collect_seq {Q : List Value → Shared → Prop} (hl : SeqOb t.heap l vs) (hz : vs.length ≤ sizeLine)
    (h : Q vs { t with heap := (t.heap.push newL).update t.heap.objs.size (Obj.mapSeq (· ++ vs.toArray)) }) : wpAny (model prog w) A (collect (.ref l)) Q E t := by
  obtain ⟨o, m, ho, hc, hd⟩ := hl
  rcases hc with hc | hc
  · exact collect_list ⟨o, ho, hc, m, hd⟩ h hz
  · have at0 : (t.heap.push newL).get? t.heap.objs.size = some newL := Heap.get?_push_size _ rfl
    have at1 : (t.heap.push newL).get? l = some o := Heap.get?_push_of_some _ ho
    unfold collect
    refine wpAny_bind (wpAny_runValue (codeAny_builtin F.entry_proto_collect ?_))
    rw [Around.under_plainId F.plain_proto_collect _]
    show wpAny _ _ (newList [] >>= fun r => again (.builtin "list.__iadd__" ⟨[r, .ref l], []⟩)) _ _ t
    refine wpAny_bind (wpAny_newList (wpAny_pure ⟨plainId_quiet F.plain_list_iadd _, codeAny_builtin F.entry_list_iadd ?_⟩))
    rw [Around.under_plainId F.plain_list_iadd _]
    show wpAny _ _ (Builtin.List.listExtendWith (.ref t.heap.objs.size) (.ref l) (.ref t.heap.objs.size)) _ _ { t with heap := t.heap.push newL }
    unfold Builtin.List.listExtendWith
    refine wpAny_bind (wpAny_typeOf (T := "tuple") ⟨o, at1, hc⟩ ?_)
    have e1 : (Value.type "tuple" == Value.type "tuple") = true := by rfl
    rw [if_pos (by rw [e1]; simp)]
    refine wpAny_bind (listItems_at at1 hd ?_)
    refine wpAny_bind (listItems_at (xs := #[]) (n := 0) at0 rfl ?_)
    rw [if_neg (by simp)]
    refine wpAny_bind (listUpdate_at (xs := #[]) (n := 0) at0 rfl ?_ (Nat.zero_le _) ?_)
    · refine wpAny_pure ?_
      refine wpAny_bind (wpAny_load (get?_update_seq at0 _) ?_)
      show wpAny _ _ (pure ((#[] : Array Value) ++ vs.toArray).toList) Q E _
      have e2 : ((#[] : Array Value) ++ vs.toArray).toList = vs := by simp
      rw [e2]
      exact wpAny_pure h
    · show (#[] ++ vs.toArray).size ≤ sizeLine + 1
      simp only [Array.size_append, List.size_toArray, List.length_nil]
      omega
theorem sorted_seq {Q : Value → Shared → Prop} (hl : SeqOb t.heap l vs) (e : EachIs Rl vs bs) (er : EachIs (fun v b => ∃ as, Reads t.heap v (enc b) as) vs bs) (hal : AllAlike (bs.map enc)) (hk : Sortable (bs.map enc)) (hz : bs.length ≤ sizeLine)
    (hu : ∀ b, b ∈ bs → A.units + 2 + (enc b).depth < cLine)
    (h : ∀ out, out.length = bs.length → EachIs Rl out (bs.mergeSort (dataLe false enc)) → Q (.ref (t.heap.objs.size + 1)) { t with heap := sortedAll t.heap vs (List.toArray out) }) : wpAny (model prog w) A (call (.builtin "sorted") [.ref l]) Q E t := by
  have hz' : vs.length ≤ sizeLine := by rw [e.length]; exact hz
  have er' : EachIs (fun v b => ∃ as, Reads (sortingHeap (copyHeap t.heap vs) (t.heap.objs.size + 1) vs) v (enc b) as) vs bs :=
    er.mono fun _ _ ⟨as, r⟩ => ⟨as, PyProof.Rows.Reads.keeps (fun _ _ => sorting_copy_old) r⟩
  have St : SortsAt prog w A.in1.in1 { t with heap := sortingHeap (copyHeap t.heap vs) (t.heap.objs.size + 1) vs } (dataKind (sortingHeap (copyHeap t.heap vs) (t.heap.objs.size + 1) vs) (bs.map enc)) vs :=
    SortsAt.data (s := { t with heap := sortingHeap (copyHeap t.heap vs) (t.heap.objs.size + 1) vs }) (each_map (R := fun v d => ∃ as, Reads (sortingHeap (copyHeap t.heap vs) (t.heap.objs.size + 1) vs) v d as) enc er') hal hk (bound_map hu)
  refine Calls.call_function_entry kind_sorted plain_sorted entry_sorted (args_sorted1 _) ?_
  unfold Builtin.«sorted»
  refine wpAny_bind (m := checkCount "sorted" 1 1 _) (wpAny_pure ?_)
  refine wpAny_bind (collect_seq hl hz' ?_)
  refine wpAny_bind (wpAny_newList ?_ hz')
  have sz : ((t.heap.push newL).update t.heap.objs.size (Obj.mapSeq (· ++ vs.toArray))).objs.size = t.heap.objs.size + 1 := by
    rw [Heap.size_update, size_push']
  show wpAny _ _ _ _ _ { t with heap := copyHeap t.heap vs }
  rw [sz]
  refine wpAny_bind (wpAny_holding (wpAny_call_entry slot_list_sort ⟨_, copyHeap_at t.heap vs, rfl⟩ entry_list_sort ?_ (args_list_sort _)))
  refine list_sort_vals (s := { t with heap := copyHeap t.heap vs }) (copyHeap_at t.heap vs) St hz' ⟨_, rfl, wpAny_pure ⟨_, rfl, ?_⟩⟩
  exact h _ (by rw [sortVals_length false rfl]; exact e.length) (sortVals_data false e er' hal)
end
end Z
end
section
set_option Elab.async false
set_option linter.all false
set_option maxRecDepth 100000
set_option maxHeartbeats 4000000
/-! Zx12: sorted as the interpreter has it; divmod; list(range); dicts. -/
namespace Z
open PySem L2 PyProof.Rows

theorem each_of {K : PySem.W.Frag} {W : Wd} {β : Type} (f : β → D) : ∀ {bs : List β} {vs : List V} {us : List Value}, Reps K W (bs.map f) vs → Vals vs us → PySem.W.EachIs (fun v b => ∃ x, RelV x v ∧ Rep K W (f b) x) us bs
  | [], vs, us, r, rv => by
    have hv : vs = [] := Reps.inv0 r
    have hu : us = [] := List.eq_nil_of_length_eq_zero (by rw [← rv.length, hv]; rfl)
    rw [hu]
    exact PySem.W.EachIs.nil
  | b :: bs, vs, us, r, rv => by
    obtain ⟨v, vr, rfl, r1, r2⟩ := Reps.inv r
    cases rv with
    | cons h t => exact .cons ⟨v, h, r1⟩ (each_of f r2 t)
theorem of_each {K : PySem.W.Frag} {W : Wd} {β : Type} (f : β → D) : ∀ {bs : List β} {us : List Value}, PySem.W.EachIs (fun v b => ∃ x, RelV x v ∧ Rep K W (f b) x) us bs → ∃ vs, Reps K W (bs.map f) vs ∧ Vals vs us
  | [], [], .nil => ⟨[], Reps.nil, .nil⟩
  | b :: bs, u :: us, .cons ⟨x, h, r⟩ t => by
    obtain ⟨vs, h1, h2⟩ := of_each f t
    exact ⟨x :: vs, Reps.cons r h1, .cons h h2⟩
theorem seq_ob {X : Cx} {pins : List (Addr × Obj)} {σ : L2.St} {H : Hp} {t : Shared} {a : Addr} {vs : List V} (I : L2.Inv X pins σ H t) (f : SqL X.K H a vs ∨ SqT X.K H a vs) : ∃ its, Vals vs its ∧ SeqOb t.heap a its ∧ its.length ≤ sizeLine := by
  rcases f with f | f
  · obtain ⟨its, rv, ⟨o, m, ho, hc, _, hd⟩, hz⟩ := I.list f
    exact ⟨its, rv, ⟨o, m, ho, .inl hc, hd⟩, by rw [← rv.length]; exact hz⟩
  · obtain ⟨its, rv, ⟨o, ho, hc, m, hd⟩, hz⟩ := I.tuple f
    exact ⟨its, rv, ⟨o, m, ho, .inr hc, hd⟩, by rw [← rv.length]; exact hz⟩
theorem mapO_ints : ∀ {xs : List D} {ns : List Int}, mapO asInt xs = some ns → xs = ns.map D.int
  | [], ns, h => by simp at h; subst h; rfl
  | x :: xs, ns, h => by
    unfold mapO at h
    cases x <;> simp only [asInt] at h <;> first | exact absurd h (by simp) | skip
    rename_i i
    cases q : mapO asInt xs with
    | none => rw [q] at h; simp at h
    | some ms => rw [q] at h; simp at h; subst h; rw [mapO_ints q]; rfl
def rowD (ns : List Int) : D := .lst (ns.map .int)
theorem mapO_rows : ∀ {xs : List D} {nss : List (List Int)}, mapO litInts xs = some nss → xs = nss.map rowD
  | [], ns, h => by simp at h; subst h; rfl
  | x :: xs, ns, h => by
    unfold mapO at h
    cases x <;> simp only [litInts] at h <;> first | exact absurd h (by simp) | skip
    rename_i l
    cases q0 : mapO asInt l with
    | none => rw [q0] at h; simp at h
    | some m =>
      rw [q0] at h
      simp only at h
      cases q : mapO litInts xs with
      | none => rw [q] at h; simp at h
      | some ms => rw [q] at h; simp at h; subst h; rw [mapO_rows q, mapO_ints q0]; rfl
/-- sorted(x), by the trees -/
def rSortT (g : Gw) (K : PySem.W.Frag) : List V → Hp → VK → Prop := fun xs H Q => ∃ W M d v ds es, xs = [v] ∧ W.H = H ∧ SR g K W M ∧ Rep K W d v ∧ asS M d = some ds ∧ sortD M ds = some es ∧
  ∀ p vs, H p = none → Reps K W es vs → Q (.ref p) (upd H p (.lst vs))
section
variable {g : Gw} {X : Cx} {n : Nat} {x y z : Expr} {e a b c o : E} {Zx : WX} {pos : Pos}
theorem call_sortT (hu : X.A.units + 65 < cLine) : CallR X (.builtin "sorted") (rSortT g X.K) := by
  intro pins t σ H xs us Q I r h
  obtain ⟨W, M, d, v, ds, es, rfl, rfl, S, R, hs, hd, q⟩ := h
  obtain ⟨u, rfl, ru⟩ := Vals.one r
  obtain ⟨p, vs, rfl, f, rs⟩ := asS_ok S hs R
  obtain rfl : u = Value.ref p := ru
  obtain ⟨its, rv, so, hz⟩ := seq_ob I f
  have fin : ∀ {out : List Value} {vs' : List V}, out.length = its.length → Vals vs' out → Reps X.K W es vs' → EP X pins σ Q (.ref (t.heap.objs.size + 1)) { t with heap := sortedAll t.heap its (List.toArray out) } := by
    intro out vs' hl hv hr
    obtain ⟨ep, he⟩ := PyProof.Rows.sortedAll_at t.heap its out.toArray
    have hlen : vs'.length ≤ sizeLine := by rw [hv.length, hl]; exact hz
    exact ⟨.ref _, upd W.H (t.heap.objs.size + 1) (.lst vs'), I.laid (t' := t.toks) (fun _ _ => PyProof.Rows.sortedAll_old) (Nat.le_succ _) ⟨hlen, out, ep, hv, he⟩, rfl, q _ _ (I.hok.fresh (Nat.le_succ _)) hr⟩
  unfold sortD at hd
  cases q1 : mapO asInt ds with
  | some ns =>
    rw [q1] at hd
    simp only [Option.some.injEq] at hd
    subst hd
    have eds := mapO_ints q1
    subst eds
    have ei : vs = ns.map V.int := rs.ints q1
    have e1 := each_of D.int rs rv
    have hln : ns.length = its.length := by rw [← e1.length]
    refine sorted_seq (enc := PyData.int) so e1 (e1.mono fun v b ⟨x, h1, h2⟩ => ?A) (PySem.W.AllAlike.of fun _ _ => by simp [PySem.W.alike]) (PySem.W.Sortable.others fun b => ⟨by simp, by simp⟩) (by rw [hln]; exact hz) (fun b _ => by simp [PyData.depth]; omega) fun out hlo ho => ?B
    case A =>
      simp only [Rep] at h2
      subst h2
      obtain ⟨k, rfl⟩ := h1
      exact ⟨[], .int b k⟩
    case B =>
      rw [show PySem.W.dataLe false PyData.int = leI from PySem.W.dataLe_int (fun b : Int => b), isort_merge leI_trans leI_total leI_anti] at ho
      obtain ⟨vs', h1, h2⟩ := of_each D.int ho
      exact fin (by rw [hlo, hln]) h2 h1
  | none =>
    rw [q1] at hd
    simp only at hd
    cases q2 : mapO litInts ds with
    | none => rw [q2] at hd; simp at hd
    | some nss =>
      rw [q2] at hd
      simp only [Option.some.injEq] at hd
      have hd' : (isort lexLe nss).map rowD = es := hd
      subst hd'
      have eds := mapO_rows q2
      subst eds
      have e1 := each_of rowD rs rv
      have hln : nss.length = its.length := by rw [← e1.length]
      refine sorted_seq (enc := fun ns : List Int => PyData.list (ns.map .int)) so e1 (e1.mono fun v b ⟨x, h1, h2⟩ => ?A) (PySem.W.AllAlike.of fun _ _ => by simp [PySem.W.alike, PySem.W.alike_ints]) (PySem.W.Sortable.others fun b => ⟨by simp, by simp⟩) (by rw [hln]; exact hz) (fun b _ => by simp only [PyData.depth, PySem.W.depth_ints]; omega) fun out hlo ho => ?B
      case A =>
        simp only [rowD, Rep] at h2
        obtain ⟨a1, vs1, rfl, f1, r1⟩ := h2
        obtain rfl : v = Value.ref a1 := h1
        obtain ⟨its1, rv1, ⟨o1, m1, ho1, hc1, _, hd1⟩, _⟩ := I.list (.of (S.sub _ _ f1))
        have ei1 : vs1 = b.map V.int := r1.ints (by
          have : ∀ l : List Int, mapO asInt (l.map D.int) = some l := by
            intro l
            induction l with
            | nil => rfl
            | cons i l ih => simp only [List.map_cons, mapO, asInt, ih]
          exact this b)
        subst ei1
        exact ⟨_, .list ho1 hc1 hd1 (vals_of_ints b rv1)⟩
      case B =>
        have ele : PySem.W.dataLe false (fun ns : List Int => PyData.list (ns.map .int)) = lexLe := by
          rw [PySem.W.dataLe_rows (fun b : List Int => b)]
          funext p q
          exact (lexLe_iff p q).symm
        rw [ele, isort_merge lexLe_trans lexLe_total lexLe_anti] at ho
        obtain ⟨vs', h1, h2⟩ := of_each rowD ho
        exact fin (by rw [hlo, hln]) h2 h1
theorem s_sortF (h : PE X z (tCB (rSortT g X.K) (tCons (tE g X.K n a Zx) tNil))) : PE X z (tF g X.K n (.b1 .sorted a) Zx) :=
  peI h fun σ H Q ⟨W, M, env, hH, S, Er, al, rr⟩ => by
    simp only [ev] at rr
    refine ⟨W, M, env, hH, S, Er, rr.bind fun u M1 v W1 _ X1 S1 R1 q1 => ?_⟩
    obtain ⟨d, e, q2⟩ := q1.ofI
    simp only [b1] at e
    cases e1 : asS M1 u with
    | none => rw [e1] at e; simp at e
    | some ds =>
      rw [e1] at e
      obtain ⟨es, e2, rfl⟩ := Option.map_eq_some_iff.mp e
      exact ⟨W1, M1, u, v, ds, es, rfl, rfl, S1, R1, e1, e2, fun p vs hp hr => Run.okI q2 (W' := W1.nH p (.lst vs)) (ext_new hp) (S1.new hp) (repF_new X1 S1 hp hr)⟩
theorem b1_al {f : B1} (hf : f = .sorted ∨ f = .list ∨ f = .sset) {env : Env} {M M' : Mem} {d : D} (h : ev g.G (clN g n) (.b1 f a) env M = .ok d M') : ∃ xs, d = .lst xs := by
  simp only [ev] at h
  cases q1 : ev g.G (clN g n) a env M with
  | ok x M1 =>
    rw [q1] at h
    simp only [R.bind_ok] at h
    cases q2 : b1 f M1 x with
    | none => rw [q2] at h; simp at h
    | some d' =>
      rw [q2] at h
      simp only [R.of_some, R.ok.injEq] at h
      obtain ⟨rfl, _⟩ := h
      rcases hf with rfl | rfl | rfl
      · simp only [b1] at q2
        split at q2
        · obtain ⟨xs, _, rfl⟩ := Option.map_eq_some_iff.mp q2; exact ⟨_, rfl⟩
        · cases q2
      · simp only [b1] at q2
        obtain ⟨xs, _, rfl⟩ := Option.map_eq_some_iff.mp q2; exact ⟨_, rfl⟩
      · simp only [b1] at q2
        split at q2
        · split at q2
          · cases q2; exact ⟨_, rfl⟩
          · cases q2
        · cases q2
  | ex c d M3 => rw [q1] at h; simp at h
  | no => rw [q1] at h; simp at h
theorem r_divmod {i j : Int} {d : D} {M : Mem} {W : Wd} (h : b2 .divmod (.int i) (.int j) = some d) (S : SR g X.K W M) (Q : VK) (q : ∀ v' W', Ext W W' → SR g X.K W' M → Rep X.K W' d v' → Q v' W'.H) :
    ∃ i' j', [V.int i, V.int j] = [.int i', .int j'] ∧ CDiv i' j' ∧ ∀ p, W.H p = none → Q (.ref p) (upd W.H p (.tup [.int (i' / j'), .int (i' % j')])) := by
  simp only [b2] at h
  split at h
  · rename_i hc
    cases h
    refine ⟨i, j, rfl, hc, fun p hp => q _ (W.nF p _) (ext_newF hp (F_none S hp)) (S.newF hp) (.tup upd_same ?_)⟩
    exact Reps.cons rep_int (Reps.cons rep_int Reps.nil)
  · cases h
theorem rg_reps {K : PySem.W.Frag} {W : Wd} (i j : Int) : Reps K W (rangeD i (j - i).toNat) (rgV i j) := by
  unfold rangeD rgV
  generalize (j - i).toNat = m
  have : ∀ l : List Nat, Reps K W (l.map fun (k : Nat) => D.int (i + (k : Nat))) (l.map fun (k : Nat) => V.int (i + (k : Nat))) := by
    intro l
    induction l with
    | nil => exact Reps.nil
    | cons k l ih => exact Reps.cons rep_int ih
  exact this _
theorem s_lrF (h : PE X z (tLstRg (tRg1 (tE g X.K n a Zx)))) : PE X z (tF g X.K n (.lrng false (.rng a)) Zx) :=
  peI h fun σ H Q ⟨W, M, env, hH, S, Er, al, rr⟩ => by
    simp only [ev, evi] at rr
    refine ⟨W, M, env, hH, S, Er, ?_⟩
    cases q0 : ev g.G (clN g n) a env M with
    | no => rw [q0] at rr; exact rr.elim
    | ex c d M' => rw [q0] at rr; exact rr
    | ok u M1 =>
      rw [q0] at rr
      simp only [R.bind_ok] at rr
      intro v W1 X1 S1 R1
      cases e1 : rng1D u with
      | none => rw [e1] at rr; exact rr.elim
      | some ds =>
        rw [e1] at rr
        simp only [R.of_some, R.bind_ok] at rr
        obtain ⟨k, rfl, h1, h2, rfl⟩ := rng1D_ok e1
        simp only [Rep] at R1
        subst R1
        split at rr
        · rename_i hl
          have hl' : k.toNat < 16777216 := by
            have : (rangeD 0 k.toNat).length = k.toNat := by simp [rangeD]
            rw [this, sizeLine_eq] at hl; exact hl
          refine ⟨k, rfl, ⟨by omega, by omega, h1, h2, by have : (k - 0).toNat = k.toNat := by rw [Int.sub_zero]
                                                          rw [this]; omega⟩, fun p hp => ?_⟩
          have hr : Reps X.K W1 (rangeD 0 k.toNat) (rgV 0 k) := by
            have := rg_reps (K := X.K) (W := W1) 0 k
            rw [Int.sub_zero] at this; exact this
          exact Run.okI rr (W' := W1.nH p _) (X1.trans (ext_new hp)) (S1.new hp) (repF_new X1 S1 hp hr)
        · exact rr.elim
theorem lr_al {it : It} {env : Env} {M M' : Mem} {d : D} (h : ev g.G (clN g n) (.lrng false it) env M = .ok d M') : ∃ xs, d = .lst xs := by
  simp only [ev] at h
  cases q1 : evi g.G (clN g n) it env M with
  | ok x M1 =>
    rw [q1] at h
    simp only [R.bind_ok, Bool.false_eq_true, if_false] at h
    split at h
    · cases h; exact ⟨_, rfl⟩
    · cases h
  | ex c d M3 => rw [q1] at h; simp at h
  | no => rw [q1] at h; simp at h
/-! ### displays of dicts -/
theorem s_d0 : PE X (.Dict [] [] pos) (tE g X.K n .dct0 Zx) := peI pe_dnewK fun σ H Q ⟨W, M, env, hH, S, Er, rr⟩ => by
  subst hH
  simp only [ev] at rr
  intro p hp
  refine Run.okI rr (W' := W.nF p (.dK [])) (ext_newF hp (F_none S hp)) (S.newF hp) ?_
  simp only [Rep]
  exact ⟨p, [], rfl, upd_same, rfl, Reps.nil⟩
theorem s_ad0 : PE X (.Dict [] [] pos) (tE g X.K n (.alloc .dct0) Zx) := peI pe_dnewK fun σ H Q ⟨W, M, env, hH, S, Er, rr⟩ => by
  subst hH
  simp only [ev, R.bind_ok] at rr
  intro p hp
  have S2 := S.new (o := .dK []) hp
  refine Run.okI rr (W' := (W.nH p (.dK [])).put p) ((ext_new hp).put hp) (S2.put (o := .dic [] []) (m_none S hp) ⟨F_none S hp, [], upd_same, rfl, Reps.nil⟩) ?_
  simp only [Rep]
  refine ⟨p, ?_, rfl⟩
  show (W.m ++ [p])[M.length]? = some p
  rw [← S.len]; simp
end
end Z
end
section
set_option Elab.async false
set_option linter.all false
set_option maxRecDepth 100000
set_option maxHeartbeats 8000000
/-! Zx13: sorted(set(x)), len(set(x)), x a list or a tuple of ints. -/
namespace Z
open PySem L2 PyProof.Rows
section
variable {P : Program} {w : World} {A : Around} {E : Value → Shared → Prop} {t : Shared}
abbrev emptyS (w : World) : Obj := { cls := .type "set", dict := none, data := .set #[] 0 (.fresh 0 0 (!w.params.followText "set-order")) }
theorem set_of_list {l : Addr} {items : Array Value} (ns : List Int) {Q : Value → Shared → Prop} (hh : A.handled = none) (hl : t.heap.IsList l items) (hit : IntsAre items.toList ns) (hb : ns.length + 1 < scanBound)
    (h : ∀ (h' : Heap) (tk c : Nat), SetR w h' t.heap.objs.size (fun j => decide (j ∈ ns)) c → c ≤ ns.length → (∀ b o, t.heap.get? b = some o → h'.get? b = some o) → Q (.ref t.heap.objs.size) { t with heap := h', toks := tk }) :
    wpAny (model P w) A (call (.type "set") [.ref l]) Q E t := by
  have size_is : items.size = ns.length := by
    have z := IntsAre.length hit
    rw [Array.length_toList] at z
    exact z
  obtain ⟨cM, tlM, mroM⟩ := F.called_set.mro
  have f1 := F.called_set.made
  have f2 := F.called_set.sub
  refine wpAny_call (codeAny_of_tree ?_)
  show wpAny _ _ (callAny (.type "set") _) _ _ _
  refine wpAny_pure ⟨Code.quiet_builtin _ (by decide +kernel), codeAny_builtin F.entry_type_call ?_⟩
  rw [Around.under_plain (weight_type_call_type "set" [.ref l] []) rfl]
  have f3 := F.called_set.notType
  have f4 := F.called_set.canCreate
  have f5 := F.typeCall_set_1 (.ref l)
  repeat (any_goals (first | assumption | wp_step))
  refine codeAny_mono (code_set_led1 (.ref l) (E := E) (Q₁ := fun ob t1 => ob = .ref t.heap.objs.size ∧ t1 = { t with heap := t.heap.push (emptyS w) }) ⟨rfl, rfl⟩) fun r t1 hr => ?_
  cases r with
  | error e => exact hr
  | ok fl =>
    cases fl with
    | ret ob =>
      obtain ⟨rfl, rfl⟩ := hr
      have at_ : (t.heap.push (emptyS w)).get? t.heap.objs.size = some (emptyS w) := Heap.get?_push_size _ rfl
      have ty_ : Shared.TypeIs { t with heap := t.heap.push (emptyS w) } (.ref t.heap.objs.size) "set" := ⟨_, at_, rfl⟩
      have f6 := F.called_set.init.lookup
      have f7 := F.called_set.init.bind (.ref t.heap.objs.size)
      repeat (any_goals (first | assumption | wp_step))
      refine codeAny_mono (codeAny_call_builtin (R := wants (fun r t2 => r = .none ∧ ∃ h' tk c, t2 = { t with heap := h', toks := tk } ∧ SetR w h' t.heap.objs.size (fun j => decide (j ∈ ns)) c ∧ c ≤ ns.length ∧
          (∀ b o, t.heap.get? b = some o → h'.get? b = some o)) E) F.called_set.init.plain F.entry_set_init (check_set_init_1 ty_ ?_)) fun r2 t2 hr2 => ?_
      · obtain ⟨ol, gol, cl_, nl, dl_⟩ := hl
        obtain ⟨ocls, odict, odata, oslots⟩ := ol
        simp only at cl_ dl_
        subst cl_; subst dl_
        have gol' : (t.heap.push (emptyS w)).get? l = some { cls := .type "list", dict := odict, data := .seq items nl, slots := oslots } := Heap.get?_push_of_some _ gol
        have f8 := F.sub_list_set
        have f9 := F.sub_list_frozenset
        have f10 : (Value.type "list" == Value.type "dict") = false := by decide
        have isl : (t.heap.push (emptyS w)).IsList l items := ⟨_, gol', rfl, nl, rfl⟩
        unfold Builtin.«set.__init__» noKeywords Builtin.Frozenset.updateFrom
        generalize hPI : pyIter = PI
        wp_walk
        subst hPI
        refine wpAny_pyIter_list isl ?_
        refine wpAny_bind (wpAny_runValue ?_)
        have lt_l : l < t.heap.objs.size := Heap.lt_size gol
        have hh3 : A.in1.in1.in1.handled = none := by simp [hh]
        have ne_l : l ≠ (t.heap.push (emptyS w)).objs.size := by
          rw [Heap.size_push]
          exact Nat.ne_of_lt (Nat.lt_succ_of_lt lt_l)
        have ne_s : t.heap.objs.size ∉ [(t.heap.push (emptyS w)).objs.size, l] := by
          rw [Heap.size_push]
          simp only [List.mem_cons, List.not_mem_nil, or_false, not_or]
          exact ⟨Nat.ne_of_lt (Nat.lt_succ_self _), Nat.ne_of_gt lt_l⟩
        have vals : ∀ (i : Nat) (v : Value), items[i]? = some v → ∃ k tk, ns[i]? = some k ∧ v = .int k tk := fun i v hv => by
          have hi : i < ns.length := by rw [← size_is]; exact (Array.getElem?_eq_some_iff.mp hv).1
          obtain ⟨tk, e⟩ := PyProof.Rows.IntsAre.int_at hit i v (by rw [Array.getElem?_toList]; exact hv)
          refine ⟨ns[i], tk, List.getElem?_eq_getElem hi, ?_⟩
          rw [e, List.getD_eq_getElem?_getD, List.getElem?_eq_getElem hi] <;> rfl
        refine set_update_ints ((Walks.list hh3 _ l ne_l items).toS) t.heap.objs.size ne_s ns size_is hb vals (items.size - 0) 0 _ (by omega) (Nat.zero_le _)
          ⟨⟨_, Heap.get?_push_size _ rfl, rfl, rfl⟩, (isl.push _)⟩ ?hS0 ?hR
        case hS0 =>
          have g1 : ((t.heap.push (emptyS w)).push { cls := .type "list_iterator", data := .fields #[.ref l, .int 0 0] }).get? t.heap.objs.size = some (emptyS w) := Heap.get?_push_of_some _ at_
          exact ⟨0, Nat.le_refl 0, setR_new_at g1⟩
        case hR =>
          intro t3 c3 hm hc3 hS3
          obtain ⟨h3, g3, d3, tk3, os3⟩ := t3
          have eg : g3 = t.gens := hm.gens
          have ed : d3 = t.drawn := hm.drawn
          have eo : os3 = t.os := hm.os
          subst eg; subst ed; subst eo
          show wpAny _ _ _ _ _ _
          refine wpAny_pure ?_
          show wpAny _ _ (ret Value.none) _ _ _
          rw [size_is] at hc3
          refine wpAny_pure ⟨rfl, h3, tk3, c3, rfl, hS3, hc3, fun b o e => ?_⟩
          have b0 : b < t.heap.objs.size := Heap.lt_size e
          refine hm.heap b o ?_ (Heap.get?_push_of_some _ (Heap.get?_push_of_some _ e))
          simp only [List.mem_cons, List.not_mem_nil, or_false, not_or]
          refine ⟨Nat.ne_of_lt b0, ?_⟩
          rw [Heap.size_push]
          exact Nat.ne_of_lt (Nat.lt_succ_of_lt b0)
      · cases r2 with
        | error e => exact hr2
        | ok fl2 =>
          cases fl2 with
          | ret r =>
            obtain ⟨rfl, h', tk, c', rfl, hS', hc', hk'⟩ := hr2
            repeat (any_goals (first | assumption | wp_step))
            exact h _ _ _ hS' hc' hk'
          | _ => exact hr2.elim
    | _ => exact hr.elim
theorem set_of_seq {l : Addr} {its : List Value} (ns : List Int) {Q : Value → Shared → Prop} (hh : A.handled = none) (hl : SeqOb t.heap l its) (hit : IntsAre its ns) (hb : ns.length + 1 < scanBound)
    (h : ∀ (h' : Heap) (tk c : Nat), SetR w h' t.heap.objs.size (fun j => decide (j ∈ ns)) c → c ≤ ns.length → (∀ b o, t.heap.get? b = some o → h'.get? b = some o) → Q (.ref t.heap.objs.size) { t with heap := h', toks := tk }) :
    wpAny (model P w) A (call (.type "set") [.ref l]) Q E t := by
  obtain ⟨o, m, ho, hc, hd⟩ := hl
  rcases hc with hc | hc
  · exact set_of_list ns hh ⟨o, ho, hc, m, hd⟩ (by simpa using hit) hb h
  · exact call_set_tupI ns hh ⟨o, ho, hc, m, hd⟩ (by simpa using hit) hb h
end
theorem dedup_mem {α : Type} [DecidableEq α] (x : α) : ∀ l : List α, x ∈ dedup l ↔ x ∈ l
  | [] => Iff.rfl
  | y :: l => by
    unfold dedup
    by_cases h : y ∈ l
    · rw [if_pos h, dedup_mem x l, List.mem_cons]
      exact ⟨.inr, fun q => q.elim (fun e => e ▸ h) id⟩
    · rw [if_neg h, List.mem_cons, List.mem_cons, dedup_mem x l]
theorem dedup_nodup {α : Type} [DecidableEq α] : ∀ l : List α, (dedup l).Nodup
  | [] => List.nodup_nil
  | y :: l => by
    unfold dedup
    by_cases h : y ∈ l
    · rw [if_pos h]; exact dedup_nodup l
    · rw [if_neg h]; exact List.nodup_cons.mpr ⟨fun z => h ((dedup_mem y l).mp z), dedup_nodup l⟩
theorem setR_count {w : World} {h : Heap} {a : Addr} {ns : List Int} {c : Nat} (R : SetR w h a (fun j => decide (j ∈ ns)) c) : c = (dedup ns).length := by
  obtain ⟨o, es, ep, t, ho, hex, hd, hg, nd, hm, hb, hf, hn, _⟩ := R
  have p : (es.toList.map L2.keyOf).Perm (dedup ns) := (List.perm_ext_iff_of_nodup nd (dedup_nodup ns)).mpr fun k => by
    rw [← hm k, dedup_mem, decide_eq_true_eq]
  have := p.length_eq
  rw [List.length_map, Array.length_toList, hn] at this
  exact this
theorem strict_sorted {ns ms : List Int} (h : ns.Pairwise (· < ·)) (hm : ∀ k, k ∈ ns ↔ k ∈ ms) : ns = isort leI (dedup ms) := by
  have nd : ns.Nodup := h.imp fun hlt => Int.ne_of_lt hlt
  have p : ns.Perm (isort leI (dedup ms)) := ((List.perm_ext_iff_of_nodup nd (dedup_nodup ms)).mpr fun k => by rw [hm k, dedup_mem]).trans (isort_perm leI _).symm
  exact sorted_one leI_anti p (h.imp fun hlt => by simp only [leI, decide_eq_true_eq]; exact Int.le_of_lt hlt) (isort_sorted leI_trans leI_total _)
theorem bnd64 {α : Type} [DecidableEq α] {ns : List α} : True := trivial
section
variable {g : Gw} {X : Cx} {n : Nat} {x y z : Expr} {e a b c o : E} {Zx : WX} {p p2 pos q : Pos}
theorem asIntsS_ok {W : Wd} {M : Mem} {d : D} {v : V} {ns : List Int} (h : asIntsS M d = some ns) (S : SR g X.K W M) (R : Rep X.K W d v) : ∃ a, v = .ref a ∧ (SqL X.K W.H a (ns.map V.int) ∨ SqT X.K W.H a (ns.map V.int)) := by
  unfold asIntsS at h
  cases e : asS M d with
  | none => rw [e] at h; simp at h
  | some xs =>
    rw [e] at h
    obtain ⟨a, vs, rfl, f, r⟩ := asS_ok S e R
    have := r.ints h
    subst this
    exact ⟨a, rfl, f⟩
/-- the reading of set(x): the ints of the tree -/
def kSet (g : Gw) (K : PySem.W.Frag) (ns : List Int) (v : V) (H : Hp) : Prop := ∃ a, v = .ref a ∧ (SqL K H a (ns.map V.int) ∨ SqT K H a (ns.map V.int)) ∧ ns.length ≤ 4000
theorem pe_ssetR {ta : TE} (hc : X.calm = true) (hg : Gl X "sorted") (hm : X.mg "sorted" = none) (hg2 : Gl X "set") (hm2 : X.mg "set" = none) (ha : PE X x ta)
    (na : starEach [x] X.env = (false, eval x X.env) :: starEach [] X.env := by rfl) : PE X (.Call (.Name "sorted" p) [.Call (.Name "set" p2) [x] [] q] [] pos)
      (fun σ H Q => ta σ H fun v H1 => ∃ ns, kSet g X.K ns v H1 ∧ (dedup ns).length < 64 ∧ ∀ d, H1 d = none → Q (.ref d) (upd H1 d (.lst ((isort leI (dedup ns)).map V.int)))) := by
  refine ⟨fun pins t σ H Q I h => ?_⟩
  refine Call_ (ld_blt I hg hm PyProof.Rows.boot_sorted ?_)
  refine PyProof.Rows.callWith_builtin1 (PyProof.Rows.args_cons ?_ rfl) rfl rfl
  refine Call_ (ld_blt I hg2 hm2 PyProof.Rows.boot_set ?_)
  refine PyProof.Rows.callWith_type1 (PyProof.Rows.args_cons (thn (ha.run pins t σ H _ I h) fun u t1 ⟨v, H1, I1, r1, q1⟩ => PyProof.Rows.args_nil ?_) na) na rfl
  obtain ⟨ns, ⟨a, rfl, f, hl⟩, h64, q1⟩ := q1
  obtain rfl : u = Value.ref a := r1
  obtain ⟨its, rv, so, hz⟩ := seq_ob I1 f
  refine set_of_seq ns (I1.ok.hd hc) so (ints_of_vals rv) (by unfold scanBound; omega) fun h' tk c R hcn k => ?_
  refine PyProof.Rows.args_nil ?_
  have hcc := setR_count R
  have I2 : L2.Inv X pins σ H1 { t1 with heap := h', toks := tk } := I1.kept k
  refine sorted_set (s := { t1 with heap := h', toks := tk }) R (I1.ok.hd hc) (by rw [hcc]; exact h64) fun t3 d out c3 ms k3 g3 o3 hp3 hd3 hi3 hs3 hm3 hl3 => ?_
  have ems : ms = isort leI (dedup ns) := strict_sorted hs3 fun j => by rw [hm3 j, decide_eq_true_eq]
  subst ems
  have hn : H1 d = none := I2.hok.fresh hp3
  have hlen : ((isort leI (dedup ns)).map V.int).length ≤ sizeLine := by rw [List.length_map, hl3, hcc, sizeLine_eq]; omega
  have J : L2.Inv X pins σ (upd H1 d (.lst ((isort leI (dedup ns)).map V.int))) { ({ t1 with heap := h', toks := tk } : Shared) with heap := t3.heap, gens := t3.gens, drawn := t3.drawn, toks := t3.toks } :=
    I2.call (ch := []) (Un.laid k3 hp3 hn) (I2.hok.laid k3 hp3 ⟨hlen, out.toList, c3, L2.vals_of_ints hi3, hd3⟩) (by rw [g3]; exact I2.bare) (fun _ z => nomatch z)
  have e : t3 = { t1 with heap := t3.heap, gens := t3.gens, drawn := t3.drawn, toks := t3.toks } := by
    cases t3
    cases t1
    cases o3
    rfl
  rw [e]
  exact ⟨.ref d, _, J, rfl, q1 d hn⟩
theorem pe_lsetR {ta : TE} (hc : X.calm = true) (hg : Gl X "len") (hm : X.mg "len" = none) (hg2 : Gl X "set") (hm2 : X.mg "set" = none) (ha : PE X x ta)
    (na : starEach [x] X.env = (false, eval x X.env) :: starEach [] X.env := by rfl) : PE X (.Call (.Name "len" p) [.Call (.Name "set" p2) [x] [] q] [] pos)
      (fun σ H Q => ta σ H fun v H1 => ∃ ns, kSet g X.K ns v H1 ∧ (dedup ns).length < 64 ∧ Q (.int ((dedup ns).length : Nat)) H1) := by
  refine ⟨fun pins t σ H Q I h => ?_⟩
  refine Call_ (ld_blt I hg hm PySem.boot_len ?_)
  refine PyProof.Rows.callWith_builtin1 (PyProof.Rows.args_cons ?_ rfl) rfl rfl
  refine Call_ (ld_blt I hg2 hm2 PyProof.Rows.boot_set ?_)
  refine PyProof.Rows.callWith_type1 (PyProof.Rows.args_cons (thn (ha.run pins t σ H _ I h) fun u t1 ⟨v, H1, I1, r1, q1⟩ => PyProof.Rows.args_nil ?_) na) na rfl
  obtain ⟨ns, ⟨a, rfl, f, hl⟩, h64, q1⟩ := q1
  obtain rfl : u = Value.ref a := r1
  obtain ⟨its, rv, so, hz⟩ := seq_ob I1 f
  refine set_of_seq ns (I1.ok.hd hc) so (ints_of_vals rv) (by unfold scanBound; omega) fun h' tk c R hcn k => ?_
  refine PyProof.Rows.args_nil ?_
  have hcc := setR_count R
  have I2 : L2.Inv X pins σ H1 { t1 with heap := h', toks := tk } := I1.kept k
  obtain ⟨o, es, ep, tb, ho, hex, hd, _, _, _, _, hf, hn, _⟩ := R
  exact call_len_set ho hex hd hf (by rw [hn, hcc]; omega) ⟨.int ((dedup ns).length : Nat), H1, I2.tok _, ⟨_, by rw [hn, hcc]⟩, q1⟩
theorem s_ssetF (h : PE X z (fun σ H Q => tE g X.K n a Zx σ H fun v H1 => ∃ ns, kSet g X.K ns v H1 ∧ (dedup ns).length < 64 ∧ ∀ d, H1 d = none → Q (.ref d) (upd H1 d (.lst ((isort leI (dedup ns)).map V.int))))) : PE X z (tF g X.K n (.b1 .sset a) Zx) :=
  peI h fun σ H Q ⟨W, M, env, hH, S, Er, al, rr⟩ => by
    simp only [ev] at rr
    refine ⟨W, M, env, hH, S, Er, rr.bind fun u M1 v W1 _ X1 S1 R1 q1 => ?_⟩
    obtain ⟨d, e, q2⟩ := q1.ofI
    simp only [b1] at e
    cases e1 : asIntsS M1 u with
    | none => rw [e1] at e; simp at e
    | some ns =>
      rw [e1] at e
      simp only at e
      split at e
      · rename_i hc
        cases e
        obtain ⟨p, rfl, f⟩ := asIntsS_ok e1 S1 R1
        exact ⟨ns, ⟨p, rfl, f, hc.2⟩, hc.1, fun dd hp => Run.okI q2 (W' := W1.nH dd _) (ext_new hp) (S1.new hp) (repF_new X1 S1 hp (reps_ints _))⟩
      · cases e
theorem s_lset (h : PE X z (fun σ H Q => tE g X.K n a Zx σ H fun v H1 => ∃ ns, kSet g X.K ns v H1 ∧ (dedup ns).length < 64 ∧ Q (.int ((dedup ns).length : Nat)) H1)) : PE X z (tE g X.K n (.b1 .lset a) Zx) :=
  peI h fun σ H Q ⟨W, M, env, hH, S, Er, rr⟩ => by
    simp only [ev] at rr
    refine ⟨W, M, env, hH, S, Er, rr.bind fun u M1 v W1 _ X1 S1 R1 q1 => ?_⟩
    obtain ⟨d, e, q2⟩ := q1.ofI
    simp only [b1] at e
    cases e1 : asIntsS M1 u with
    | none => rw [e1] at e; simp at e
    | some ns =>
      rw [e1] at e
      simp only at e
      split at e
      · rename_i hc
        cases e
        obtain ⟨p, rfl, f⟩ := asIntsS_ok e1 S1 R1
        exact ⟨ns, ⟨p, rfl, f, hc.2⟩, hc.1, Run.okI q2 (Ext.refl _) S1 rep_int⟩
      · cases e
end
end Z
end
section
set_option Elab.async false
set_option linter.all false
set_option maxRecDepth 100000
set_option maxHeartbeats 4000000
/-! Zy: statements. -/
namespace Z
open PySem L2

inductive FV where
  | nx (σ : St) | rt (v : V) | bk (σ : St) | ct (σ : St)
def FlR (K : PySem.W.Frag) (W : Wd) (f : Fl) (x : FV) : Prop := match f with
  | .nx env => ∃ σ, x = .nx σ ∧ ER K W σ env
  | .bk env => ∃ σ, x = .bk σ ∧ ER K W σ env
  | .ct env => ∃ σ, x = .ct σ ∧ ER K W σ env
  | .rt d => ∃ v, x = .rt v ∧ Rep K W d v
def endQ (D : Ends) : FV → Hp → Prop
  | .nx σ, H => D.nx σ H
  | .bk σ, H => D.bk σ H
  | .ct σ, H => D.ct σ H
  | .rt v, H => D.rt v H
abbrev wE (E : XK) : WX := fun c d _ H => E c d H
section
variable (g : Gw) (K : PySem.W.Frag) (n : Nat)
def tS (s : S) (E : XK) : TS := fun D σ H => ∃ W M env, W.H = H ∧ SR g K W M ∧ ER K W σ env ∧ Run g K W (FlR K) (exs g.G (clN g n) s env M) (endQ D) E
def tSs (ss : Ss) (E : XK) : TS := fun D σ H => ∃ W M env, W.H = H ∧ SR g K W M ∧ ER K W σ env ∧ Run g K W (FlR K) (exb g.G (clN g n) ss env M) (endQ D) E
end
section
variable {g : Gw} {X : Cx} {n : Nat} {x y z : Expr} {e a b c o : E} {En : XK} {pos : Pos} {st : Stmt} {sts : List Stmt} {s : S} {ss : Ss}
theorem y_nil : PSs X [] (tSs g X.K n .nil En) := pssI pss_nil fun D σ H ⟨W, M, env, hH, S, Er, r⟩ => by
  subst hH
  simp only [exb] at r
  exact Run.okI r (v := .nx σ) (Ext.refl W) S ⟨σ, rfl, Er⟩
theorem y_cons (h : PS X st (tS g X.K n s En)) (hr : PSs X sts (tSs g X.K n ss En)) : PSs X (st :: sts) (tSs g X.K n (.cons s ss) En) := pssI (pss_cons h hr) fun D σ H ⟨W, M, env, hH, S, Er, r⟩ => by
  simp only [exb] at r
  refine ⟨W, M, env, hH, S, Er, r.bind fun f M1 v W1 _ X1 S1 R1 q => ?_⟩
  cases f with
  | nx env1 =>
    obtain ⟨σ1, rfl, Er1⟩ := R1
    exact ⟨W1, M1, env1, rfl, S1, Er1, q⟩
  | bk env1 =>
    obtain ⟨σ1, rfl, Er1⟩ := R1
    exact Run.okI q (v := .bk σ1) (Ext.refl _) S1 ⟨σ1, rfl, Er1⟩
  | ct env1 =>
    obtain ⟨σ1, rfl, Er1⟩ := R1
    exact Run.okI q (v := .ct σ1) (Ext.refl _) S1 ⟨σ1, rfl, Er1⟩
  | rt d =>
    obtain ⟨v1, rfl, Er1⟩ := R1
    exact Run.okI q (v := .rt v1) (Ext.refl _) S1 ⟨v1, rfl, Er1⟩
/-- the world in which a list of the store has become a tree -/
theorem freeze_ok {K : PySem.W.Frag} {W : Wd} {M : Mem} {j : Nat} {xs : List D} {v : V} (S : SR g K W M) (r : Rep K W (.ref j) v) (q : M[j]? = some (.lst xs)) :
    ∃ W', Ext W W' ∧ W'.H = W.H ∧ SR g K W' (M.set j .dead) ∧ Rep K W' (.lst xs) v := by
  simp only [Rep] at r
  obtain ⟨p, e, rfl⟩ := r
  obtain ⟨hf, vs, h1, h2⟩ := S.obj j p _ e q
  have hpm : p ∈ W.m := List.mem_of_getElem? e
  have X1 : Ext W (W.free p vs) := by
    refine ⟨⟨[], (List.append_nil _).symm, by simp⟩, (lean_free hf).F, fun b h1 h2 h3 => ?_, fun _ _ h _ => h, fun _ h => h⟩
    show upd W.F p _ b = none
    rw [upd_ne (by rintro rfl; exact h3 hpm)]; exact h2
  refine ⟨W.free p vs, X1, rfl, ⟨fun b u hb => ?_, S.nod, by rw [List.length_set]; exact S.len, fun i b u e1 e2 => ?_⟩, .lst upd_same (h2.lean (lean_free hf))⟩
  · by_cases hbp : b = p
    · subst hbp
      have hb' : upd W.F b (.lst vs) b = some u := hb
      rw [upd_same] at hb'
      rw [← hb']; exact h1
    · exact S.sub b u ((upd_ne hbp).symm.trans hb)
  · by_cases hij : i = j
    · subst hij
      have e1' : W.m[i]? = some b := e1
      rw [e] at e1'; cases e1'
      have hl : i < M.length := by rw [← S.len]; exact (List.getElem?_eq_some_iff.mp e).1
      rw [List.getElem?_set_self hl] at e2
      cases e2
      show W.H p ≠ none
      rw [h1]; simp
    · rw [List.getElem?_set_ne (Ne.symm hij)] at e2
      have hb : b ≠ p := by
        rintro rfl
        have e1' : W.m[i]? = some b := e1
        exact hij ((List.getElem?_inj (List.getElem?_eq_some_iff.mp e1').1 S.nod).mp (e1'.trans e.symm))
      refine (S.obj i b u e1 e2).lean (lean_free hf) rfl fun z => ?_
      show upd W.F p _ b = none
      rw [upd_ne hb]; exact z
theorem y_frz {i : Nat} (hr : PSs X sts (tSs g X.K n ss En)) : PSs X sts (tSs g X.K n (.cons (.frz i) ss) En) := pssI hr fun D σ H ⟨W, M, env, hH, S, Er, r⟩ => by
  simp only [exb, exs] at r
  cases q : (env[i]?).bind id with
  | none => rw [q] at r; exact ⟨W, M, env, hH, S, Er, r⟩
  | some d =>
    rw [q] at r
    cases d with
    | ref j =>
      simp only at r
      cases q2 : M[j]? with
      | none => rw [q2] at r; exact ⟨W, M, env, hH, S, Er, r⟩
      | some ob =>
        rw [q2] at r
        cases ob with
        | lst xs =>
          simp only [R.bind_ok] at r
          have q' : env[i]? = some (some (.ref j)) := by
            cases z : env[i]? with
            | none => rw [z] at q; cases q
            | some o => rw [z] at q; simp at q; rw [q]
          obtain ⟨v, e1, e2⟩ := Er.at_ i _ q'
          obtain ⟨W', X', hH', S', R'⟩ := freeze_ok S e2 q2
          refine ⟨W', M.set j .dead, env.set i (some (.lst xs)), hH'.trans hH, S', ?_, r.mono X'⟩
          have := (Er.mono X').set (i := i) R'
          have hs : σ.set i (some v) = σ := by
            apply List.ext_getElem?
            intro k
            by_cases hk : k = i
            · subst hk
              rw [List.getElem?_set_self (List.getElem?_eq_some_iff.mp e1).1, e1]
            · rw [List.getElem?_set_ne (Ne.symm hk)]
          rw [hs] at this
          exact this
        | _ => exact ⟨W, M, env, hH, S, Er, r⟩
    | _ => exact ⟨W, M, env, hH, S, Er, r⟩
theorem y_pas : PS X (.Pass pos) (tS g X.K n .pas En) := psI ps_pass fun D σ H ⟨W, M, env, hH, S, Er, r⟩ => by
  subst hH
  simp only [exs] at r
  exact Run.okI r (v := .nx σ) (Ext.refl W) S ⟨σ, rfl, Er⟩
theorem y_brk : PS X (.Break pos) (tS g X.K n .brk En) := psI ps_break fun D σ H ⟨W, M, env, hH, S, Er, r⟩ => by
  subst hH
  simp only [exs] at r
  exact Run.okI r (v := .bk σ) (Ext.refl W) S ⟨σ, rfl, Er⟩
theorem y_cnt : PS X (.Continue pos) (tS g X.K n .cnt En) := psI ps_continue fun D σ H ⟨W, M, env, hH, S, Er, r⟩ => by
  subst hH
  simp only [exs] at r
  exact Run.okI r (v := .ct σ) (Ext.refl W) S ⟨σ, rfl, Er⟩
theorem y_stop : PS X st (tS g X.K n .stop En) := ⟨fun p s σ H D I ⟨W, M, env, hH, S, Er, r⟩ => by
  simp only [exs] at r
  exact r.elim⟩
theorem y_ex (h : PE X x (tE g X.K n e (wE En))) (hs : swapsWith x none pos.line X.env = pure false) : PS X (.Expr x pos) (tS g X.K n (.ex e) En) := psI (ps_expr h hs) fun D σ H ⟨W, M, env, hH, S, Er, r⟩ => by
  simp only [exs] at r
  exact ⟨W, M, env, hH, S, Er, r.bind fun d M1 v W1 _ X1 S1 R1 q => Run.okI q (v := .nx σ) (Ext.refl _) S1 ⟨σ, rfl, Er.mono X1⟩⟩
theorem y_ret (h : PE X x (tE g X.K n e (wE En))) : PS X (.Return (some x) pos) (tS g X.K n (.ret e) En) := psI (ps_ret h) fun D σ H ⟨W, M, env, hH, S, Er, r⟩ => by
  simp only [exs] at r
  exact ⟨W, M, env, hH, S, Er, r.bind fun d M1 v W1 _ X1 S1 R1 q => Run.okI q (v := .rt v) (Ext.refl _) S1 ⟨v, rfl, R1⟩⟩
theorem y_ret0 : PS X (.Return none pos) (tS g X.K n .ret0 En) := psI ps_retN fun D σ H ⟨W, M, env, hH, S, Er, r⟩ => by
  subst hH
  simp only [exs] at r
  exact Run.okI r (v := .rt .non) (Ext.refl W) S ⟨.non, rfl, by simp only [Rep]⟩
theorem y_if {bs cs : List Stmt} {b1 b2 : Ss} (hc : PT X x (tT g X.K n e (wE En))) (ha : PSs X bs (tSs g X.K n b1 En)) (hb : PSs X cs (tSs g X.K n b2 En)) : PS X (.If x bs cs pos) (tS g X.K n (.ifs e b1 b2) En) := psI (ps_if hc ha hb) fun D σ H ⟨W, M, env, hH, S, Er, r⟩ => by
  simp only [exs] at r
  refine ⟨W, M, env, hH, S, Er, r.bind fun k M1 v W1 _ X1 S1 R1 q => ?_⟩
  subst R1
  cases k with
  | true => exact ⟨W1, M1, env, rfl, S1, Er.mono X1, q⟩
  | false => exact ⟨W1, M1, env, rfl, S1, Er.mono X1, q⟩
/-- a plain name is set: t the rule's reading of the value (ps_set, ps_setLc) -/
theorem y_set {i : Nat} {te : TE} (h : PS X st (tAsg te (gName i))) (he : ∀ σ H Q, tE g X.K n e (wE En) σ H Q → te σ H Q) : PS X st (tS g X.K n (.asg (.nm i) e) En) := psI h fun D σ H ⟨W, M, env, hH, S, Er, r⟩ => by
  simp only [exs] at r
  refine he σ H _ ⟨W, M, env, hH, S, Er, r.bind fun d M1 v W1 _ X1 S1 R1 q => ?_⟩
  simp only [asg, R.bind_ok] at q
  exact Run.okI q (v := .nx (σ.set i (some v))) (Ext.refl _) S1 ⟨_, rfl, (Er.mono X1).set R1⟩
end
end Z
end
section
set_option Elab.async false
set_option linter.all false
set_option maxRecDepth 100000
set_option maxHeartbeats 4000000
/-! Zy2: targets, loops, stores. -/
namespace Z
open PySem L2
section
variable (g : Gw) (K : PySem.W.Frag) (n : Nat)
def tG (t : T) (E : XK) : TG := fun v σ H Q => ∃ W M env d, W.H = H ∧ SR g K W M ∧ ER K W σ env ∧ Rep K W d v ∧ Run g K W (fun W' env' σ' => ER K W' σ' env') (asg g.G (clN g n) t d env M) Q E
def tGs (ts : List T) (E : XK) : TGs := fun vs σ H Q => ∃ W M env ds, W.H = H ∧ SR g K W M ∧ ER K W σ env ∧ Reps K W ds vs ∧ Run g K W (fun W' env' σ' => ER K W' σ' env') (asgs g.G (clN g n) ts ds env M) Q E
end
section
variable {g : Gw} {X : Cx} {n : Nat} {x y z : Expr} {e a b c o i : E} {En : XK} {pos : Pos} {st : Stmt} {sts : List Stmt} {s : S} {ss : Ss} {t : T} {ts : List T}
theorem pgI {X : Cx} {e : Expr} {t t' : TG} (h : PG X e t) (i : ∀ v σ H Q, t' v σ H Q → t v σ H Q) : PG X e t' := ⟨fun p s σ H v u Q I r q => h.run p s σ H v u Q I r (i v σ H Q q)⟩
theorem pgsI {X : Cx} {e : List Expr} {t t' : TGs} (h : PGs X e t) (i : ∀ v σ H Q, t' v σ H Q → t v σ H Q) : PGs X e t' := ⟨fun p s σ H v u Q I r q => h.run p s σ H v u Q I r (i v σ H Q q)⟩
theorem g_nm {i : Nat} (h : PG X x (gName i)) : PG X x (tG g X.K n (.nm i) En) := pgI h fun v σ H Q ⟨W, M, env, d, hH, S, Er, R, r⟩ => by
  subst hH
  simp only [asg] at r
  exact Run.okI r (Ext.refl W) S (Er.set R)
theorem g_sub (h : PG X x (gSub (tE g X.K n o (wE En)) (tE g X.K n i (wE En)) rSetL)) : PG X x (tG g X.K n (.sub o i) En) := pgI h fun v σ H Q ⟨W, M, env, d, hH, S, Er, R, r⟩ => by
  simp only [asg] at r
  refine ⟨W, M, env, hH, S, Er, r.bind fun u M1 p W1 _ X1 S1 R1 q1 => ?_⟩
  refine ⟨W1, M1, env, rfl, S1, Er.mono X1, q1.bind fun k M2 q W2 _ X2 S2 R2 q2 => ?_⟩
  cases u with
  | ref j =>
    cases k with
    | int m =>
      simp only at q2
      cases h1 : M2[j]? with
      | none => rw [h1] at q2; exact q2.elim
      | some ob =>
        rw [h1] at q2
        cases ob with
        | lst xs =>
          simp only at q2
          cases h2 : ixN xs.length m with
          | none => rw [h2] at q2; exact q2.elim
          | some l =>
            rw [h2] at q2
            have R1' := R1.mono X2
            simp only [Rep] at R1' R2
            obtain ⟨pa, e1, rfl⟩ := R1'
            obtain ⟨hf, vs, h3, h4⟩ := S2.obj j pa _ e1 h1
            refine ⟨pa, vs, m, l, rfl, R2, h3, by rw [← h4.length]; exact h2, ?_⟩
            refine Run.okI q2 (W' := W2.wr pa (.lst (vs.set l v))) (ext_wr (List.mem_of_getElem? e1)) (S2.wr e1 hf ⟨hf, _, upd_same, ?_⟩) ?_
            · exact Reps.set l (h4.lean lean_wr) (((R.mono X1).mono X2).lean lean_wr)
            · exact ((Er.mono X1).mono X2).mono (ext_wr (List.mem_of_getElem? e1))
        | _ => exact q2.elim
    | _ => exact q2.elim
  | _ => exact q2.elim
theorem gs_nil : PGs X [] (tGs g X.K n [] En) := pgsI pgs_nil fun vs σ H Q ⟨W, M, env, ds, hH, S, Er, R, r⟩ => by
  subst hH
  cases ds with
  | nil =>
    simp only [asgs] at r
    exact ⟨R.inv0, Run.okI r (Ext.refl W) S Er⟩
  | cons d ds => simp only [asgs] at r; exact r.elim
theorem gs_cons {xs : List Expr} (h1 : PG X x (tG g X.K n t En)) (h2 : PGs X xs (tGs g X.K n ts En)) (hs : (assignEach (x :: xs) X.env).map (·.2) = assign x X.env :: (assignEach xs X.env).map (·.2)) : PGs X (x :: xs) (tGs g X.K n (t :: ts) En) :=
  pgsI (pgs_cons h1 h2 hs) fun vs σ H Q ⟨W, M, env, ds, hH, S, Er, R, r⟩ => by
    cases ds with
    | nil => simp only [asgs] at r; exact r.elim
    | cons d ds =>
      simp only [asgs] at r
      obtain ⟨v, vr, rfl, r1, r2⟩ := R.inv
      refine ⟨v, vr, rfl, W, M, env, d, hH, S, Er, r1, r.bind fun env1 M1 σ1 W1 _ X1 S1 R1 q1 => ?_⟩
      exact ⟨W1, M1, env1, ds, rfl, S1, R1, r2.mono X1, q1⟩
theorem asgs_len {G : Gt} {cl : Nat → List D → Mem → R D} : ∀ {ts : List T} {ds : List D} {env env' : Env} {M M' : Mem}, asgs G cl ts ds env M = .ok env' M' → ds.length = ts.length
  | [], [], _, _, _, _, _ => rfl
  | [], _ :: _, _, _, _, _, h => by simp [asgs] at h
  | _ :: _, [], _, _, _, _, h => by simp [asgs] at h
  | t :: ts, d :: ds, env, env', M, M', h => by
    simp only [asgs] at h
    cases q : asg G cl t d env M with
    | ok e1 M1 => rw [q] at h; simp only [R.bind_ok] at h; rw [List.length_cons, List.length_cons, asgs_len h]
    | ex c d M1 => rw [q] at h; simp at h
    | no => rw [q] at h; simp at h
/-- targets that may not raise on the way are counted: asgs of another length gives nothing -/
theorem g_tp {xs : List Expr} {k m : Nat} (h : PG X (.Tuple xs k pos) (gTup X.K m (tGs g X.K n ts En))) (hm : ts.length = m) (hx : ∀ ds env M c d M', asgs g.G (clN g n) ts ds env M = .ex c d M' → ds.length = ts.length) : PG X (.Tuple xs k pos) (tG g X.K n (.tp ts) En) :=
  pgI h fun v σ H Q ⟨W, M, env, d, hH, S, Er, R, r⟩ => by
    cases d with
    | tup ds =>
      simp only [asg] at r
      simp only [Rep] at R
      obtain ⟨p, vs, rfl, f, rs⟩ := R
      have hl : ds.length = ts.length := by
        cases q : asgs g.G (clN g n) ts ds env M with
        | ok e1 M1 => exact asgs_len q
        | ex c d M1 => exact hx _ _ _ _ _ _ q
        | no => rw [q] at r; exact r.elim
      refine ⟨p, vs, rfl, ?_, by rw [← rs.length, hl, hm], W, M, env, ds, hH, S, Er, rs, r⟩
      rw [← hH]
      exact sqT_mono S.sub f
    | _ => simp only [asg] at r; exact r.elim
theorem y_asg (h : PS X st (tAsg (tE g X.K n e (wE En)) (tG g X.K n t En))) : PS X st (tS g X.K n (.asg t e) En) := psI h fun D σ H ⟨W, M, env, hH, S, Er, r⟩ => by
  simp only [exs] at r
  refine ⟨W, M, env, hH, S, Er, r.bind fun d M1 v W1 _ X1 S1 R1 q => ?_⟩
  refine ⟨W1, M1, env, d, rfl, S1, Er.mono X1, R1, q.bind fun env2 M2 σ2 W2 _ X2 S2 R2 q2 => ?_⟩
  exact Run.okI q2 (v := .nx σ2) (Ext.refl _) S2 ⟨σ2, rfl, R2⟩
theorem y_par2 {i j : Nat} {es : Es} (h : PS X st (tPar i j (tA g X.K n es (wE En)))) : PS X st (tS g X.K n (.par [i, j] es) En) := psI h fun D σ H ⟨W, M, env, hH, S, Er, r⟩ => by
  simp only [exs] at r
  refine ⟨W, M, env, hH, S, Er, r.bind fun ds M1 vs W1 _ X1 S1 R1 q => ?_⟩
  match ds, R1, q with
  | [d1, d2], R1, q =>
    obtain ⟨v1, r1, rfl, h1, hr⟩ := R1.inv
    obtain ⟨v2, r2, rfl, h2, hr2⟩ := hr.inv
    rw [hr2.inv0]
    simp only [setAll, R.of_some, R.bind_ok] at q
    exact ⟨v1, v2, rfl, Run.okI q (v := .nx _) (Ext.refl _) S1 ⟨_, rfl, ((Er.mono X1).set h1).set h2⟩⟩
  | [], R1, q => exact q.elim
  | [_], R1, q => exact q.elim
  | _ :: _ :: _ :: _, R1, q => exact q.elim
theorem y_par3 {i j l : Nat} {es : Es} (h : PS X st (tPar3 i j l (tA g X.K n es (wE En)))) : PS X st (tS g X.K n (.par [i, j, l] es) En) := psI h fun D σ H ⟨W, M, env, hH, S, Er, r⟩ => by
  simp only [exs] at r
  refine ⟨W, M, env, hH, S, Er, r.bind fun ds M1 vs W1 _ X1 S1 R1 q => ?_⟩
  match ds, R1, q with
  | [d1, d2, d3], R1, q =>
    obtain ⟨v1, r1, rfl, h1, hr⟩ := R1.inv
    obtain ⟨v2, r2, rfl, h2, hr2⟩ := hr.inv
    obtain ⟨v3, r3, rfl, h3, hr3⟩ := hr2.inv
    rw [hr3.inv0]
    simp only [setAll, R.of_some, R.bind_ok] at q
    exact ⟨v1, v2, v3, rfl, Run.okI q (v := .nx _) (Ext.refl _) S1 ⟨_, rfl, (((Er.mono X1).set h1).set h2).set h3⟩⟩
  | [], R1, q => exact q.elim
  | [_], R1, q => exact q.elim
  | [_, _], R1, q => exact q.elim
  | _ :: _ :: _ :: _ :: _, R1, q => exact q.elim
theorem y_whl {bs : List Stmt} {b1 : Ss} (hp : PassesOwn (model X.prog X.w) X.A X.env X.xe) (hc : PT X x (tT g X.K n e (wE En))) (hb : PSs X bs (tSs g X.K n b1 En)) : PS X (.While x bs [] pos) (tS g X.K n (.whl e b1) En) := psI (ps_while hp hc hb) fun D σ H ⟨W, M, env, hH, S, Er, r⟩ => by
  simp only [exs] at r
  refine ⟨fun m σ H => ∃ W M env, W.H = H ∧ SR g X.K W M ∧ ER X.K W σ env ∧ Run g X.K W (FlR X.K) (loopW (fun env M => tst (ev g.G (clN g n) e env M)) (fun env M => exb g.G (clN g n) b1 env M) m env M) (endQ D) En, ⟨fuelW, W, M, env, hH, S, Er, r⟩, ?_⟩
  rintro m σ H ⟨W, M, env, hH, S, Er, r⟩
  cases m with
  | zero => exact r.elim
  | succ m =>
    unfold loopW at r
    refine ⟨W, M, env, hH, S, Er, r.bind fun k M1 v W1 _ X1 S1 R1 q => ?_⟩
    subst R1
    cases k with
    | false =>
      simp only [Bool.false_eq_true, if_false] at q ⊢
      exact Run.okI q (v := .nx σ) (Ext.refl _) S1 ⟨σ, rfl, Er.mono X1⟩
    | true =>
      simp only [if_true] at q ⊢
      refine ⟨_, fun σ' H' h => ⟨m, Nat.lt_succ_self m, h⟩, W1, M1, env, rfl, S1, Er.mono X1, q.bind fun f M2 fv W2 _ X2 S2 R2 q2 => ?_⟩
      cases f with
      | nx env2 => obtain ⟨σ2, rfl, E2⟩ := R2; exact ⟨W2, M2, env2, rfl, S2, E2, q2⟩
      | ct env2 => obtain ⟨σ2, rfl, E2⟩ := R2; exact ⟨W2, M2, env2, rfl, S2, E2, q2⟩
      | bk env2 => obtain ⟨σ2, rfl, E2⟩ := R2; exact Run.okI q2 (v := .nx σ2) (Ext.refl _) S2 ⟨σ2, rfl, E2⟩
      | rt d => obtain ⟨v2, rfl, E2⟩ := R2; exact Run.okI q2 (v := .rt v2) (Ext.refl _) S2 ⟨v2, rfl, E2⟩
theorem y_for {tg iter : Expr} {t : Tg} {it : It} {bs : List Stmt} {b1 : Ss} (hp : PassesOwn (model X.prog X.w) X.A X.env X.xe) (hc : X.calm = true) (hi : PI X tg iter (tI g X.K n it (wE En))) (hg : PG X tg (gT X.K t)) (hb : PSs X bs (tSs g X.K n b1 En))
    (hs : ∀ x, foldedSetIterable iter X.env x = pure x) : PS X (.For tg iter bs [] pos) (tS g X.K n (.fr t it b1) En) := psI (ps_for hp hc hi hg hb hs) fun D σ H ⟨W, M, env, hH, S, Er, r⟩ => by
  simp only [exs] at r
  refine ⟨W, M, env, hH, S, Er, ?_⟩
  cases q : evi g.G (clN g n) it env M with
  | no => rw [q] at r; exact r.elim
  | ex c d M' => rw [q] at r; exact r
  | ok ds M1 =>
    rw [q] at r
    simp only [R.bind_ok] at r
    intro W1 J X1 S1 gv
    refine ⟨fun i m σ H => m = ds.length - i ∧ i ≤ ds.length ∧ ∃ W' M' env', W'.H = H ∧ Ext W1 W' ∧ SR g X.K W' M' ∧ ER X.K W' σ env' ∧ Run g X.K W' (FlR X.K) (loopF t (fun env M => exb g.G (clN g n) b1 env M) (ds.drop i) env' M') (endQ D) En,
      ⟨ds.length, by simp, Nat.zero_le _, W1, M1, env, rfl, Ext.refl _, S1, Er.mono X1, r.mono X1⟩, ?_⟩
    rintro i m σ H2 ⟨rfl, hi', W2, M2, env2, rfl, X2, S2, E2, r2⟩
    by_cases hlt : i < ds.length
    · have hdi : ds[i]? = some ds[i] := List.getElem?_eq_getElem hlt
      obtain ⟨go, yl⟩ := gv.step W2 M2 i ds[i] X2 S2 hdi
      have hdrop : ds.drop i = ds[i] :: ds.drop (i + 1) := List.drop_eq_getElem_cons hlt
      rw [hdrop] at r2
      unfold loopF at r2
      refine .inr ⟨go, fun σ' H' => ∃ W' M' env', W'.H = H' ∧ Ext W1 W' ∧ SR g X.K W' M' ∧ ER X.K W' σ' env' ∧ Run g X.K W' (FlR X.K) (loopF t (fun env M => exb g.G (clN g n) b1 env M) (ds.drop (i + 1)) env' M') (endQ D) En,
        fun σ' H' h => ⟨ds.length - (i + 1), by omega, rfl, hlt, h⟩, fun x H' hy => ?_⟩
      obtain ⟨W3, X3, rfl, rx, S3⟩ := yl x H' hy
      cases hbt : bindT t ds[i] env2 with
      | none => rw [hbt] at r2; exact r2.elim
      | some env3 =>
        rw [hbt] at r2
        simp only at r2
        refine gT_ok hbt S3 rx (E2.mono X3) fun σ' er' _ => ?_
        refine ⟨W3, M2, env3, rfl, S3, er', (r2.mono X3).bind fun f M4 fv W4 _ X4 S4 R4 q4 => ?_⟩
        cases f with
        | nx env4 => obtain ⟨σ2, rfl, E4⟩ := R4; exact ⟨W4, M4, env4, rfl, (X2.trans X3).trans X4, S4, E4, q4⟩
        | ct env4 => obtain ⟨σ2, rfl, E4⟩ := R4; exact ⟨W4, M4, env4, rfl, (X2.trans X3).trans X4, S4, E4, q4⟩
        | bk env4 => obtain ⟨σ2, rfl, E4⟩ := R4; exact Run.okI q4 (v := .nx σ2) (Ext.refl _) S4 ⟨σ2, rfl, E4⟩
        | rt d => obtain ⟨v2, rfl, E4⟩ := R4; exact Run.okI q4 (v := .rt v2) (Ext.refl _) S4 ⟨v2, rfl, E4⟩
    · have hi2 : i = ds.length := by omega
      subst hi2
      rw [List.drop_length] at r2
      simp only [loopF] at r2
      exact .inl ⟨gv.stop W2 M2 X2 S2, Run.okI r2 (v := .nx σ) (Ext.refl _) S2 ⟨σ, rfl, E2⟩⟩
theorem y_fset {f : Nat} {nm : Str} {p2 : Pos} (C : CF g X.K) (hf : g.tb.fk f = true) (hn : g.tb.fld f = nm) (ho : PE X x (tE g X.K n o (wE En))) (hv : PE X y (tE g X.K n e (wE En))) (hs : swapsWith y (some (.Attribute x nm p2)) pos.line X.env = pure false) :
    PS X (.Assign [.Attribute x nm p2] y pos) (tS g X.K n (.fset o f e) En) := psI (ps_fld ho hv hs) fun D σ H ⟨W, M, env, hH, S, Er, r⟩ => by
  simp only [exs] at r
  refine ⟨W, M, env, hH, S, Er, r.bind fun d M1 v W1 _ X1 S1 R1 q1 => ?_⟩
  refine ⟨W1, M1, env, rfl, S1, Er.mono X1, q1.bind fun u M2 w W2 _ X2 S2 R2 q2 => ?_⟩
  cases u with
  | ref j =>
    simp only at q2
    cases q3 : M2[j]? with
    | none => rw [q3] at q2; exact q2.elim
    | some ob =>
      rw [q3] at q2
      cases ob with
      | ins c fs =>
        simp only at q2
        by_cases hz : fs.length < 100
        · rw [if_pos hz] at q2
          simp only [Rep] at R2
          obtain ⟨p, e2, rfl⟩ := R2
          obtain ⟨h0, dx, vs, h1, h2, h3, h4⟩ := S2.obj j p _ e2 q3
          subst hn
          obtain ⟨us, h5, h6, h7⟩ := fld_put C hf ((R1.mono X2)) h4 h2
          refine ⟨p, g.ca c, dx, _, rfl, h1, C.cl c h3, C.na c f h3 hf, ?_, ?_⟩
          · unfold fldV
            rw [List.length_zip, List.length_map]
            omega
          · rw [h5]
            refine Run.okI q2 (v := .nx σ) (W' := W2.wr p (.ins (g.ca c) dx (fldV g (putN f d fs) us))) (ext_wr (List.mem_of_getElem? e2)) (S2.wr e2 h0 ⟨h0, dx, us, upd_same, h6.lean lean_wr, h3, h7⟩) ⟨σ, rfl, ?_⟩
            exact ((Er.mono X1).mono X2).mono (ext_wr (List.mem_of_getElem? e2))
        · rw [if_neg hz] at q2; exact q2.elim
      | _ => exact q2.elim
  | _ => exact q2.elim
end
end Z
end
section
set_option Elab.async false
set_option linter.all false
set_option maxRecDepth 100000
set_option maxHeartbeats 4000000
/-! Zy3: dicts are written; a def's body gives its promise. -/
namespace Z
open PySem L2
section
variable {K : PySem.W.Frag} {W : Wd}
theorem rep_kv {k : Key} {d : D} {v : V} (rd : Rep K W d v) : ∀ {ks : List Key} {ds : List D} {vs : List V}, ks.length = vs.length → Reps K W ds vs →
    ∃ us, (ks.zip vs).map (fun kv => if kv.1 = k then (kv.1, v) else kv) = ks.zip us ∧ ks.length = us.length ∧ Reps K W (repKv k d ks ds) us
  | [], ds, vs, hl, r => by
    have : vs = [] := List.eq_nil_of_length_eq_zero (by simpa using hl.symm)
    subst this
    have hd : ds = [] := List.eq_nil_of_length_eq_zero (by rw [r.length]; rfl)
    subst hd
    exact ⟨[], rfl, rfl, Reps.nil⟩
  | z :: ks, [], vs, hl, r => by rw [r.inv0] at hl; simp at hl
  | z :: ks, d0 :: ds, vs, hl, r => by
    obtain ⟨v0, vr, rfl, r1, r2⟩ := r.inv
    obtain ⟨us, h1, h2, h3⟩ := rep_kv (k := k) rd (ks := ks) (by simpa using hl) r2
    refine ⟨(if z = k then v else v0) :: us, ?_, by simp [h2], ?_⟩
    · rw [List.zip_cons_cons, List.map_cons, List.zip_cons_cons, h1]
      by_cases hz : z = k <;> simp [hz]
    · simp only [repKv]
      refine Reps.cons ?_ h3
      by_cases hz : z = k
      · simp only [if_pos hz]; exact rd
      · simp only [if_neg hz]; exact r1
theorem zip_any (k : Key) : ∀ (ks : List Key) (vs : List V), ks.length = vs.length → ((ks.zip vs).any fun kv => decide (kv.1 = k)) = ks.any fun z => decide (z = k)
  | [], _, _ => rfl
  | z :: ks, [], h => by simp at h
  | z :: ks, v :: vs, h => by
    rw [List.zip_cons_cons, List.any_cons, List.any_cons, zip_any k ks vs (by simpa using h)]
theorem put_ok {k : Key} {d : D} {v : V} (rd : Rep K W d v) {ks : List Key} {ds : List D} {vs : List V} (hl : ks.length = vs.length) (r : Reps K W ds vs) :
    ∃ us, putK (ks.zip vs) k v = (putKv k d ks ds).1.zip us ∧ (putKv k d ks ds).1.length = us.length ∧ Reps K W (putKv k d ks ds).2 us := by
  unfold putK putKv
  rw [zip_any k ks vs hl]
  by_cases h : (ks.any fun z => decide (z = k)) = true
  · rw [if_pos h, if_pos h]
    exact rep_kv rd hl r
  · rw [if_neg h, if_neg h]
    refine ⟨vs ++ [v], ?_, by simp [hl], r.app (Reps.cons rd Reps.nil)⟩
    rw [List.zip_append hl]; rfl
end
section
variable {g : Gw} {X : Cx} {n : Nat} {x y z : Expr} {e a b c o i : E} {En : XK} {pos : Pos}
theorem y_dput {p2 : Pos} (hu : X.A.units + 1 < cLine) (ho : PE X x (tE g X.K n o (wE En))) (hi : PE X z (tE g X.K n i (wE En))) (hv : PE X y (tE g X.K n e (wE En))) (hs : swapsWith y (some (.Subscript x z p2)) pos.line X.env = pure false) :
    PS X (.Assign [.Subscript x z p2] y pos) (tS g X.K n (.dput o i e) En) := psI (ps_dput hu ho hi hv hs) fun D σ H ⟨W, M, env, hH, S, Er, r⟩ => by
  simp only [exs] at r
  refine ⟨W, M, env, hH, S, Er, r.bind fun d M1 v W1 _ X1 S1 R1 q1 => ?_⟩
  refine ⟨W1, M1, env, rfl, S1, Er.mono X1, q1.bind fun u M2 w W2 _ X2 S2 R2 q2 => ?_⟩
  refine ⟨W2, M2, env, rfl, S2, (Er.mono X1).mono X2, q2.bind fun k0 M3 kv W3 _ X3 S3 R3 q3 => ?_⟩
  cases u with
  | ref j =>
    cases hk : keyOf k0 with
    | none => rw [hk] at q3; exact q3.elim
    | some k =>
      rw [hk] at q3
      simp only at q3
      cases h1 : M3[j]? with
      | none => rw [h1] at q3; exact q3.elim
      | some ob =>
        rw [h1] at q3
        cases ob with
        | dic ks ds =>
          simp only at q3
          by_cases hz : ks.length < sizeLine
          · rw [if_pos hz] at q3
            have R2' := R2.mono X3
            simp only [Rep] at R2'
            obtain ⟨p, e2, rfl⟩ := R2'
            obtain ⟨h0, vs, h2, h3, h4⟩ := S3.obj j p _ e2 h1
            have ek := keyOf_ok hk R3
            subst ek
            obtain ⟨us, h5, h6, h7⟩ := put_ok (k := k) ((R1.mono X2).mono X3) h3 h4
            refine ⟨p, _, rfl, DPut.k h2 (by rw [List.length_zip, ← h3, Nat.min_self]; exact hz), ?_⟩
            rw [h5]
            refine Run.okI q3 (v := .nx σ) (W' := W3.wr p _) (ext_wr (List.mem_of_getElem? e2)) (S3.wr e2 h0 ⟨h0, us, upd_same, h6, h7.lean lean_wr⟩) ⟨σ, rfl, ?_⟩
            exact (((Er.mono X1).mono X2).mono X3).mono (ext_wr (List.mem_of_getElem? e2))
          · rw [if_neg hz] at q3; exact q3.elim
        | _ => exact q3.elim
  | _ => exact q3.elim
end

/-! ### a def by its body -/
theorem er_start {K : PySem.W.Frag} {W : Wd} {N : List Str} {ds : List D} {vs : List V} {sl : Nat} (r : Reps K W ds vs) (hN : N.length = sl) : ER K W (L2.start N vs) (ds.map some ++ List.replicate (sl - ds.length) none) := by
  have hl := r.length
  refine ⟨fun i d e => ?_, ?_⟩
  · have hi : i < ds.length := by
      by_cases h : i < ds.length
      · exact h
      · rw [List.getElem?_append_right (by simpa using h), List.getElem?_replicate] at e
        split at e <;> cases e
    rw [List.getElem?_append_left (by simpa using hi), List.getElem?_map] at e
    cases q : ds[i]? with
    | none => rw [q] at e; cases e
    | some d' =>
      rw [q] at e
      simp at e; subst e
      obtain ⟨v, h1, h2⟩ := r.get q
      refine ⟨v, ?_, h2⟩
      unfold L2.start
      rw [List.getElem?_append_left (by rw [List.length_map, ← hl]; exact hi), List.getElem?_map, h1]
      rfl
  · unfold L2.start
    rw [List.length_append, List.length_append, List.length_map, List.length_map, List.length_replicate, List.length_replicate, hl, hN]
section
variable {P : Program} {w : World} {K : PySem.W.Frag} {mg : Str → Option Value} {base : Heap}
/-- what a def's body may lean on in its context -/
structure Bd (P : Program) (w : World) (K : PySem.W.Frag) (mg : Str → Option Value) (base : Heap) (k : Nat) (N : List Str) (scope : Scope) (En : XK) (X : Cx) : Prop where
  pr : X.prog = P
  wo : X.w = w
  kk : X.K = K
  mgl : X.mg = mg
  bs : X.base = base
  nm : X.N = N
  sc : X.env.scope = scope
  room : Room k X.A
  gd : X.A.guards = some []
  calm : X.calm = true
  tk : Takes X (wE En)
  own : PassesOwn (model X.prog X.w) X.A X.env X.xe
end
end Z
end
section
set_option Elab.async false
set_option linter.all false
set_option maxRecDepth 100000
set_option maxHeartbeats 4000000
/-! Zz: a def's promise from its body; the law's call. -/
namespace Z
open PySem L2 PyProof.Rows
section
variable {P : Program} {w : World} {K : PySem.W.Frag} {mg : Str → Option Value} {base : Heap} {g : Gw}
/-- a def's context at its entry -/
abbrev cxD (P : Program) (w : World) (K : PySem.W.Frag) (mg : Str → Option Value) (base : Heap) (N : List Str) (qual : Str) (scope : Scope) (f : Addr) (cdv : Value) (A : Around) (outer : List PySem.Env) (t : Shared) (H : Hp) (E : XK) : Cx :=
  cxOf (L2.CX P w) P w K mg base N qual scope f cdv A outer t H E
theorem tk_D {N : List Str} {qual : Str} {scope : Scope} {f : Addr} {cdv : Value} {A : Around} {outer : List PySem.Env} {t : Shared} {H : Hp} {E : XK} : Takes (cxD P w K mg base N qual scope f cdv A outer t H E) (wE E) :=
  takes_of rfl rfl rfl rfl
theorem own_D {N : List Str} {qual : Str} {scope : Scope} {f : Addr} {cdv : Value} {A : Around} {outer : List PySem.Env} {t : Shared} {H : Hp} {E : XK} :
    PassesOwn (model P w) (cxD P w K mg base N qual scope f cdv A outer t H E).A (cxD P w K mg base N qual scope f cdv A outer t H E).env (cxD P w K mg base N qual scope f cdv A outer t H E).xe := passes_of rfl
theorem run_body {N ps : List Str} {qual : Str} {scope : Scope} {f : Addr} {cdv : Value} {A : Around} {outer : List PySem.Env} {t t1 : Shared} {H : Hp} {E : XK} {Q : VK} {W : Wd} {M : Mem} {ds : List D} {vs : List V} {body : List Stmt} {n fi : Nat} {bd : Ss}
    (hf : g.fns fi = some ⟨ps.length, N.length, bd⟩) (hH : W.H = H) (S : SR g K W M) (rs : Reps K W ds vs) (hl : ds.length = ps.length) (r : Run g K W (Rep K) (clN g (n + 1) fi ds M) Q E)
    (I : L2.Inv (cxD P w K mg base N qual scope f cdv A outer t H E) [] (start N vs) H t1)
    (hb : PSs (cxD P w K mg base N qual scope f cdv A outer t H E) body (tSs g K n bd E)) :
    wpAny (model P w) (A.deeper (envOfC qual scope t.heap.objs.size f cdv)) (execs body (envOfC qual scope t.heap.objs.size f cdv))
      (SP (cxD P w K mg base N qual scope f cdv A outer t H E) [] { nx := fun _ H' => Q .non H', rt := Q }) (cxD P w K mg base N qual scope f cdv A outer t H E).xe t1 := by
  refine hb.run [] t1 (start N vs) H _ I ?_
  simp only [clN, callI, hf] at r
  rw [if_pos hl] at r
  refine ⟨W, M, _, hH, S, er_start rs rfl, r.bind fun fl M1 v W1 _ X1 S1 R1 q => ?_⟩
  cases fl with
  | rt d => obtain ⟨v1, rfl, h⟩ := R1; exact Run.okI q (Ext.refl _) S1 h
  | nx env => obtain ⟨σ1, rfl, h⟩ := R1; exact Run.okI q (Ext.refl _) S1 (by simp only [Rep])
  | bk env => exact q.elim
  | ct env => exact q.elim
/-- THE RULE for a def -/
theorem fn_I {k n fi : Nat} {f : Addr} {name qual : Str} {params : Arguments} {body : List Stmt} {scope : Scope} {dV kV doc pm cdv ct oc : Value} {an od : Option Addr} {osl : Array (Option Value)} {N ps : List Str} {bd : Ss}
    (lk : K.lookup f = some ⟨oc, od, .func (PySem.W.fnOf name qual params body scope dV kV doc pm an cdv ct), osl⟩) (hcd : PySem.W.codeIn K cdv qual = true) (S : FnScope N ps scope) (hf : g.fns fi = some ⟨ps.length, N.length, bd⟩)
    (hb : ∀ (A : Around) (outer : List PySem.Env) (t : Shared) (H : Hp) (E : XK), Room k (A.deeper (envOfC qual scope t.heap.objs.size f cdv)) → (A.deeper (envOfC qual scope t.heap.objs.size f cdv)).guards = some [] →
      PSs (cxD P w K mg base N qual scope f cdv A outer t H E) body (tSs g K n bd E)) :
    FnG P w K mg base (k + 1) f (PySem.W.fnOf name qual params body scope dV kV doc pm an cdv ct) ps (spI g K (n + 1) fi ps.length) := by
  refine ⟨fun vs H Q E ⟨W, M, ds, _, _, r, l, _⟩ => by rw [← r.length, l], fun A outer t H args us vs Q E hr hgd e0 hbi rv hsp => ?_⟩
  obtain ⟨W, M, ds, hH, SRw, rs, hl, run⟩ := hsp
  have hl' : vs.length = ps.length := by rw [← rs.length, hl]
  have inK : K.In t.heap := e0.mod.kin.keeps fun b o e => (e0.bs b o e).1
  have noL : t.heap.NoLimit := e0.mod.nolimit.keeps fun b o e => (e0.bs b o e).1
  have kinds : ∀ y ∈ ps.zip us, scope.names.lookup y.1 = some .local ∨ (scope.names.lookup y.1 = some .cell ∧ ((cellsFrom (t.heap.objs.size + 1) scope.names []).lookup y.1).isSome = true) := by
    rintro ⟨m, v⟩ hy
    rcases S.par m (List.of_mem_zip hy).1 with q | q
    · exact .inl q
    · exact .inr ⟨q, PySem.W.cellsFrom_some _ _ _ (.inl q)⟩
  refine codeAny_call_function hr.depth (inK _ _ lk) rfl S.co S.gen rfl (PySem.W.codeRec_of inK hcd) (hbi _ _ _ _ ?_)
  refine wpAny_newFunctionEnv_cells S.kind kinds fun env he t1 x => ?_
  subst he
  have I : L2.Inv (cxD P w K mg base N qual scope f cdv A outer t H E) [] (start N vs) H t1 := inv_start S hr.hd e0 hl' rv x
  refine ⟨noL.keeps x.toInCall.keep, codeAny_func (wpAny_mono (run_body hf hH SRw rs hl run I (hb A outer t H E (hr.deeper _) hgd)) (fun fl t' hs => ?_) fun e t' hs => hs)⟩
  cases fl with
  | ret u =>
    obtain ⟨v, σ', H', J, rv', q⟩ := hs
    exact ⟨v, H', J.os, J.bare, J.base, J.hok, rv', q⟩
  | next =>
    obtain ⟨σ', H', J, q⟩ := hs
    exact ⟨.non, H', J.os, J.bare, J.base, J.hok, rfl, q⟩
  | brk => obtain ⟨_, _, _, q⟩ := hs; exact q.elim
  | cont => obtain ⟨_, _, _, q⟩ := hs; exact q.elim
theorem fn_mono {j k : Nat} {f : Addr} {fd : FuncData} {ps : List Str} {sp : Sp} (F : FnG P w K mg base j f fd ps sp) (h : j ≤ k) : FnG P w K mg base k f fd ps sp :=
  ⟨F.len, fun A outer s H args us vs Q E hr => F.go A outer s H args us vs Q E (hr.mono h)⟩
theorem fn_zero {k fi : Nat} {f : Addr} {fd : FuncData} {ps : List Str} : FnG P w K mg base k f fd ps (spI g K 0 fi ps.length) :=
  ⟨fun vs H Q E ⟨W, M, ds, _, _, _, _, r⟩ => r.elim, fun A outer s H args us vs Q E _ _ _ _ _ ⟨W, M, ds, _, _, _, _, r⟩ => r.elim⟩
end

/-! ### the law's call -/
/-- the script as a tree, and nothing else -/
def W0 (H : Hp) : Wd := ⟨[], H, H⟩
theorem sr_0 {g : Gw} {K : PySem.W.Frag} {H : Hp} : SR g K (W0 H) [] :=
  ⟨fun _ _ h => h, List.nodup_nil, rfl, fun j a o h => by simp [W0] at h⟩
theorem sp_law {g : Gw} {K : PySem.W.Frag} {n fi : Nat} {a : Addr} {ns : List Int} {H : Hp} {Mf : Mem} (h : clN g n fi [.scr ns] [] = .ok (.bl true) Mf) (hS : SqL K H a (ns.map V.int)) :
    spI g K n fi 1 [.ref a] H (fun v _ => v = .bl true) fun _ _ _ => False := by
  refine ⟨W0 H, [], [.scr ns], rfl, sr_0, Reps.cons (by simp only [Rep]; exact ⟨a, rfl, hS⟩) Reps.nil, rfl, ?_⟩
  rw [h]
  intro v W' _ _ r
  simpa only [Rep] using r
section
variable {P : Program} {w : World} {K : PySem.W.Frag} {mg mb : Str → Option Value} {k : Nat} {fa a : Addr} {fd : FuncData} {x : Str} {sp : Sp} {t : Shared} {vs : List Value} {ns : List Int}
abbrev lawEnd (t : Shared) : Result → Shared → Prop := fun r t' => r = .ok (.ret (.bool true)) ∧ OldK t.heap t'.heap ∧ t'.os = t.os ∧ AllBare t'.gens
/-- from an abstract heap in which at most the script is tracked -/
theorem law_coreS (KX : K.In t.heap) (hns : t.heap.Ns mainGlobals mg) (hb : t.heap.Ns builtinsNs mb) (hbb : ∀ x : Str, x ≠ "__name__" → mb x = bootBuiltins x) (hlim : t.heap.NoLimit) (hg : t.gens = #[])
    (ha : t.heap.get? a = some { cls := .type "list", data := .seq vs.toArray }) (hr : Room k callerA) (hmods : ∃ mm, t.heap.Ns sysModules mm)
    (F : ∀ base : Heap, K.In base → base.Ns mainGlobals mg → (∃ mm, base.Ns sysModules mm) → FnG P w K mg base k fa fd [x] sp) (hbind : ∀ (s : Shared) (u : Value), BindsTo s fd ⟨[u], []⟩ [(x, u)])
    {H : Hp} (hO : Only H) (hok : HOk P w H t.heap) (hA : ∀ b, H b ≠ none → b = a) (hK : H a ≠ none → K.lookup a = none)
    (hsp : sp [.ref a] H (fun v _ => v = .bl true) fun _ _ _ => False) : codeAny (model P w) callerA (.call (.ref fa) ⟨[.ref a], []⟩) (lawEnd t) t := by
  have away : ∀ {b : Addr} {o : Obj}, t.heap.get? b = some o → (∀ arr : Array Value, o.data ≠ .seq arr) → H b = none := by
    intro b o e hd
    cases q : H b with
    | none => rfl
    | some u =>
      obtain rfl : b = a := hA b (by rw [q]; simp)
      rw [ha] at e; cases e
      exact absurd rfl (hd _)
  have nsB : ∀ {b : Addr} {m : Str → Option Value}, t.heap.Ns b m → (hidT t.heap H).Ns b m := by
    rintro b m ⟨o, es, ep, e, d, r⟩
    exact ⟨o, es, ep, hidT_get e (away e fun arr z => by rw [d] at z; cases z), d, r⟩
  have inB : K.In (hidT t.heap H) := fun b o e => hidT_get (KX b o e) (by
    cases q : H b with
    | none => rfl
    | some u =>
      obtain rfl : b = a := hA b (by rw [q]; simp)
      rw [hK (by rw [q]; simp)] at e; cases e)
  have e0 : Env0 P w K mg (hidT t.heap H) callerA [] t H := by
    refine ⟨rfl, ⟨inB, nsB hns, ⟨mb, nsB hb, hbb⟩, ?_⟩, fun b o e => of_hidT e, Nat.le_of_eq (hidT_size _ _), trivial, fun b z => ?_, hok, .of_eq hg⟩
    · obtain ⟨mc, h1, h2⟩ := hlim
      exact ⟨mc, nsB h1, h2⟩
    · exact absurd (show b ∈ ([] : List Addr) from z) (by simp)
  refine codeAny_mono ((F _ inB (nsB hns) (hmods.imp fun _ q => nsB q)).go callerA [] t H ⟨[.ref a], []⟩ [.ref a] [.ref a] _ _ hr rfl e0 (hbind t (.ref a)) (.cons rfl .nil) hsp) fun r t' h => ?_
  cases r with
  | error e =>
    obtain ⟨_, _, _, _, _, _, _, _, _, _, _, _, z⟩ := h
    exact z.elim
  | ok fl =>
    cases fl with
    | ret u =>
      obtain ⟨v, H', os, bare, un, hok', r', q⟩ := h
      obtain rfl : v = .bl true := q
      obtain rfl : u = Value.bool true := r'
      refine ⟨rfl, OldK.of_keep fun b o e => ?_, os, bare⟩
      cases q : H b with
      | none => exact un.keep b o e q (fun z => absurd (show b ∈ ([] : List Addr) from z) (by simp)) (by simp)
      | some u =>
        rcases hO b with z | ⟨ob, xs, z⟩
        · rw [q] at z; cases z
        · obtain ⟨e1, _⟩ := hok b _ z
          obtain ⟨e2, _⟩ := hok' b _ (un.frzs b ob _ z)
          rw [e] at e1; cases e1
          exact e2
    | next => exact False.elim h
    | brk => exact False.elim h
    | cont => exact False.elim h
theorem law_callS (KX : K.In t.heap) (hns : t.heap.Ns mainGlobals mg) (hb : t.heap.Ns builtinsNs mb) (hbb : ∀ x : Str, x ≠ "__name__" → mb x = bootBuiltins x) (hlim : t.heap.NoLimit) (hg : t.gens = #[])
    (ha : t.heap.get? a = some { cls := .type "list", data := .seq vs.toArray }) (hi : IntsAre vs ns) (hl : ns.length ≤ sizeLine) (hr : Room k callerA) (hmods : ∃ mm, t.heap.Ns sysModules mm)
    (F : ∀ base : Heap, K.In base → base.Ns mainGlobals mg → (∃ mm, base.Ns sysModules mm) → FnG P w K mg base k fa fd [x] sp) (hbind : ∀ (s : Shared) (u : Value), BindsTo s fd ⟨[u], []⟩ [(x, u)])
    (hsp : ∀ H : Hp, SqL K H a (ns.map V.int) → sp [.ref a] H (fun v _ => v = .bl true) fun _ _ _ => False) : codeAny (model P w) callerA (.call (.ref fa) ⟨[.ref a], []⟩) (lawEnd t) t := by
  have rv := vals_ints hi
  have go := @law_coreS P w K mg mb k fa a fd x sp t vs KX hns hb hbb hlim hg ha hr hmods F hbind
  cases hk : K.lookup a with
  | some o =>
    have e := KX a o hk
    rw [ha] at e; cases e
    refine go (H := fun _ => none) (fun _ => .inl rfl) (fun b u z => nomatch (show (none : Option HO) = some u from z)) (fun b z => absurd rfl z) (fun z => absurd rfl z) (hsp _ (.inr ⟨_, vs.toArray, _, hk, rfl, rfl, rfl, ?_, by simpa using rv⟩))
    rw [List.size_toArray, hi.length]; exact hl
  | none =>
    let u0 : HO := .frz { cls := .type "list", data := .seq vs.toArray } (.lst (ns.map V.int))
    refine go (H := fun b => if b = a then some u0 else none) (fun b => ?_) (fun b u z => ?_) (fun b z => ?_) (fun _ => hk) (hsp _ (.inl (.inr ⟨_, if_pos rfl⟩)))
    · by_cases hb : b = a
      · exact .inr ⟨_, _, if_pos hb⟩
      · exact .inl (if_neg hb)
    · by_cases hb : b = a
      · have z' : some u0 = some u := (if_pos hb).symm.trans z
        cases z'
        subst hb
        exact ⟨ha, by rw [List.length_map]; exact hl, vs, _, rv, ha⟩
      · exact nomatch (show (none : Option HO) = some u from (if_neg hb).symm.trans z)
    · by_cases hb : b = a
      · exact hb
      · exact absurd (if_neg hb) z
end
end Z
end
section
set_option Elab.async false
set_option linter.all false
set_option maxRecDepth 100000
set_option maxHeartbeats 4000000
/-! Zq: the rules in short, with their side conditions found; defs and classes by name. -/
namespace Z
open PySem L2
def esLen : Es → Nat
  | .nil => 0
  | .cons _ es => esLen es + 1
theorem evs_len {G : Gt} {cl : Nat → List D → Mem → R D} : ∀ {es : Es} {env : Env} {M M' : Mem} {ds : List D}, evs G cl es env M = .ok ds M' → ds.length = esLen es
  | .nil, env, M, M', ds, h => by simp only [evs, R.ok.injEq] at h; rw [← h.1]; rfl
  | .cons e es, env, M, M', ds, h => by
    simp only [evs] at h
    cases q : ev G cl e env M with
    | ok d M1 =>
      rw [q] at h
      simp only [R.bind_ok] at h
      cases q2 : evs G cl es env M1 with
      | ok xs M2 =>
        rw [q2] at h
        simp only [R.bind_ok, R.ok.injEq] at h
        rw [← h.1, List.length_cons, evs_len q2]; rfl
      | ex c d2 M2 => rw [q2] at h; simp at h
      | no => rw [q2] at h; simp at h
    | ex c d2 M2 => rw [q] at h; simp at h
    | no => rw [q] at h; simp at h
theorem cr_or {X : Cx} {f : Value} {r r' : List V → Hp → VK → Prop} (h : CallR X f r) (h' : CallR X f r') : CallR X f (fun xs H Q => r xs H Q ∨ r' xs H Q) := fun pins s σ H xs us Q I rv q => q.elim (h pins s σ H xs us Q I rv) (h' pins s σ H xs us Q I rv)
section
variable {g : Gw} {X : Cx} {n : Nat} {x y z : Expr} {e a b c o : E} {Zx : WX} {pos p p2 q : Pos}
theorem x_var (i : Nat) {nm : Str} (hN : X.N[i]? = some nm := by rfl) (hv : Vis X.env.scope nm := by first | exact Or.inl rfl | exact Or.inr (Or.inl rfl) | exact Or.inr (Or.inr rfl)) (hd : (nm == ("__debug__" : Str)) = false := by decide) (hc : (nm == ("__classdict__" : Str)) = false := by decide) :
    PE X (.Name nm pos) (tE g X.K n (.var i) Zx) := s_var hN hv hd hc
theorem x_int {i : Int} {k : Nat} : PE X (.Constant (.int i) k pos) (tE g X.K n (.lit (.int i)) Zx) := s_lit pe_int fun _ => rep_int
theorem x_str {i : Str} {k : Nat} : PE X (.Constant (.str i) k pos) (tE g X.K n (.lit (.str i)) Zx) := s_lit pe_str fun _ => rep_str
theorem x_bl {i : Bool} {k : Nat} : PE X (.Constant (.bool i) k pos) (tE g X.K n (.lit (.bl i)) Zx) := s_lit pe_bl fun _ => rep_bl
theorem x_non {k : Nat} : PE X (.Constant .none k pos) (tE g X.K n (.lit .non) Zx) := s_lit pe_non fun _ => rep_non
theorem x_gint {k : Nat} {nm : Str} {i : Int} (hm : ∃ t, X.mg nm = some (.int i t)) (hk : g.G.gl k = .int i := by rfl) (hg : Gl X nm := by rfl) (hd : (nm == ("__debug__" : Str)) = false := by decide) : PE X (.Name nm pos) (tE g X.K n (.glob k) Zx) := by
  obtain ⟨t, hm⟩ := hm
  exact s_glob (pe_glob hg hm (v := .int i) ⟨t, rfl⟩ hd) fun W => by rw [hk]; exact rep_int
theorem x_gstr {k : Nat} {nm : Str} {i : Str} (hm : ∃ t, X.mg nm = some (.str i t)) (hk : g.G.gl k = .str i := by rfl) (hg : Gl X nm := by rfl) (hd : (nm == ("__debug__" : Str)) = false := by decide) : PE X (.Name nm pos) (tE g X.K n (.glob k) Zx) := by
  obtain ⟨t, hm⟩ := hm
  exact s_glob (pe_glob hg hm (v := .str i) ⟨t, rfl⟩ hd) fun W => by rw [hk]; exact rep_str
theorem a0 : PA X [] (tA g X.K n .nil Zx) := s_nil
theorem a1 {es : Es} {ys : List Expr} (h : PE X x (tE g X.K n e Zx)) (hs : PA X ys (tA g X.K n es Zx)) (hst : starEach (x :: ys) X.env = (false, eval x X.env) :: starEach ys X.env := by rfl) : PA X (x :: ys) (tA g X.K n (.cons e es) Zx) := s_cons h hs hst
theorem x_tup {es : Es} {ys : List Expr} {k : Nat} (h : PA X ys (tA g X.K n es Zx)) (hz : ys.length ≤ sizeLine := by decide) (hl : esLen es = ys.length := by rfl) : PE X (.Tuple ys k pos) (tE g X.K n (.tup es) Zx) := s_tup h hz fun _ _ _ _ q => by rw [evs_len q, hl]
theorem lst_al {es : Es} {env : Env} {M M' : Mem} {d : D} (h : ev g.G (clN g n) (.lst es) env M = .ok d M') : ∃ xs, d = .lst xs := by
  simp only [ev] at h
  cases q : evs g.G (clN g n) es env M with
  | ok xs M1 => rw [q] at h; simp only [R.bind_ok, R.ok.injEq] at h; exact ⟨xs, h.1.symm⟩
  | ex c d2 M2 => rw [q] at h; simp at h
  | no => rw [q] at h; simp at h
theorem al_of {e : E} (al : ∀ env M d M', ev g.G (clN g n) e env M = .ok d M' → ∃ xs, d = .lst xs) : ∀ env M d M', ev g.G (clN g n) (.alloc e) env M = .ok d M' → ∀ d' M'', ev g.G (clN g n) e env M = .ok d' M'' → ∃ xs, d' = .lst xs := fun env M d M' _ d' M'' h => al env M d' M'' h
theorem al_or {e : E} (nd : ∀ env M ks vs M', ev g.G (clN g n) e env M ≠ .ok (.dct ks vs) M') : ∀ env M d M', ev g.G (clN g n) (.alloc e) env M = .ok d M' → ∀ d' M'', ev g.G (clN g n) e env M = .ok d' M'' → ∃ xs, d' = .lst xs := by
  intro env M d M' h d' M'' h'
  simp only [ev, h', R.bind_ok] at h
  cases d' with
  | lst xs => exact ⟨xs, rfl⟩
  | dct ks vs => exact absurd h' (nd _ _ _ _ _)
  | _ => simp at h
theorem x_lst {es : Es} {ys : List Expr} (h : PA X ys (tA g X.K n es Zx)) (hz : ys.length ≤ sizeLine := by decide) (hl : esLen es = ys.length := by rfl) : PE X (.List ys pos) (tE g X.K n (.lst es) Zx) :=
  peTree (s_lstF h hz fun _ _ _ _ q => by rw [evs_len q, hl]) fun _ _ _ _ => lst_al
theorem x_alst {es : Es} {ys : List Expr} (h : PA X ys (tA g X.K n es Zx)) (hz : ys.length ≤ sizeLine := by decide) (hl : esLen es = ys.length := by rfl) : PE X (.List ys pos) (tE g X.K n (.alloc (.lst es)) Zx) :=
  peAlloc (s_lstF h hz fun _ _ _ _ q => by rw [evs_len q, hl]) (al_of fun _ _ _ _ => lst_al)
theorem bop_nodct {op : Bop} {M : Mem} {u v : D} {ks : List Key} {vs : List D} : bop op M u v ≠ some (.dct ks vs) := by
  intro h
  unfold bop at h
  repeat' split at h
  all_goals first
    | (cases h; done)
    | (simp at h; done)
    | (obtain ⟨_, _, h⟩ := h; cases h)
theorem bin_nd {op : Bop} {env : Env} {M M' : Mem} {ks : List Key} {vs : List D} : ev g.G (clN g n) (.bin op a b) env M ≠ .ok (.dct ks vs) M' := by
  intro h
  simp only [ev] at h
  cases q : ev g.G (clN g n) a env M with
  | ok u M1 =>
    rw [q] at h
    simp only [R.bind_ok] at h
    cases q2 : ev g.G (clN g n) b env M1 with
    | ok v M2 =>
      rw [q2] at h
      simp only [R.bind_ok] at h
      cases q3 : bop op M2 u v with
      | none => rw [q3] at h; simp at h
      | some d => rw [q3] at h; simp only [R.of_some, R.ok.injEq] at h; exact bop_nodct (q3.trans (by rw [h.1]))
    | ex c d2 M2 => rw [q2] at h; simp at h
    | no => rw [q2] at h; simp at h
  | ex c d2 M2 => rw [q] at h; simp at h
  | no => rw [q] at h; simp at h
theorem x_bin (op : Bop) (ha : PE X x (tE g X.K n a Zx)) (hb : PE X y (tE g X.K n b Zx)) : PE X (.BinOp x (bopM op) y pos) (tE g X.K n (.bin op a b) Zx) := s_bin ha hb
theorem x_abin (op : Bop) (ha : PE X x (tE g X.K n a Zx)) (hb : PE X y (tE g X.K n b Zx)) (ho : op = .add ∨ op = .mul := by first | exact Or.inl rfl | exact Or.inr rfl) : PE X (.BinOp x (bopM op) y pos) (tE g X.K n (.alloc (.bin op a b)) Zx) :=
  peAlloc (s_binF ho ha hb) (al_or fun _ _ _ _ _ => bin_nd)
theorem x_cmp {k : Nat} (op : Cop) (hr : Room k X.A) (ha : PE X x (tE g X.K n a Zx)) (hb : PE X y (tE g X.K n b Zx)) (hm : behindInMarks (copM op) y = false := by rfl) : PE X (.Compare x [copM op] [y] pos) (tE g X.K n (.cmp op a b) Zx) := (s_cmp (by have := hr.un; omega) ha hb hm).1
theorem x_chn {k : Nat} (o1 o2 : Cop) (hr : Room k X.A) (ha : PE X x (tE g X.K n a Zx)) (hb : PE X y (tE g X.K n b Zx)) (hc : PE X z (tE g X.K n c Zx)) (hm : lastMarks [copM o1, copM o2] [y, z] = false := by rfl) : PE X (.Compare x [copM o1, copM o2] [y, z] pos) (tE g X.K n (.chn o1 o2 a b c) Zx) := (s_chn (by have := hr.un; omega) ha hb hc hm).1
theorem t_cmp {k : Nat} (op : Cop) (hr : Room k X.A) (ha : PE X x (tE g X.K n a Zx)) (hb : PE X y (tE g X.K n b Zx)) (hm : behindInMarks (copM op) y = false := by rfl) : PT X (.Compare x [copM op] [y] pos) (tT g X.K n (.cmp op a b) Zx) := (s_cmp (by have := hr.un; omega) ha hb hm).2
theorem t_chn {k : Nat} (o1 o2 : Cop) (hr : Room k X.A) (ha : PE X x (tE g X.K n a Zx)) (hb : PE X y (tE g X.K n b Zx)) (hc : PE X z (tE g X.K n c Zx)) (hm : lastMarks [copM o1, copM o2] [y, z] = false := by rfl) : PT X (.Compare x [copM o1, copM o2] [y, z] pos) (tT g X.K n (.chn o1 o2 a b c) Zx) := (s_chn (by have := hr.un; omega) ha hb hc hm).2
theorem v_one {op : BoolOp} (h : PE X x (tE g X.K n e Zx)) : PE X (.BoolOp op [x] pos) (tE g X.K n e Zx) := ⟨fun pins s σ H Q I q => by
  have := h.run pins s σ H Q I q
  cases op <;> exact this⟩
theorem x_t (h : PE X x (tE g X.K n e Zx)) (he : ∀ whole, isTrue x X.env whole = (do let v ← whole; standAt x.pos; holding [v] (truthy v)) := by intro _; rfl) : PT X x (tT g X.K n e Zx) := pt_def h he
theorem hu1 {k : Nat} (hr : Room k X.A) : X.A.units + 1 < cLine := by have := hr.un; omega
theorem hu65 {k : Nat} (hr : Room k X.A) : X.A.units + 65 < cLine := by have := hr.un; omega
theorem x_idx {k : Nat} (hr : Room k X.A) (ha : PE X x (tE g X.K n a Zx)) (hb : PE X y (tE g X.K n b Zx)) (hs : PlainIx y := by first | exact fun _ _ => rfl | (intros; rfl) | trivial) : PE X (.Subscript x y pos) (tE g X.K n (.idx a b) Zx) := s_idx (hu1 hr) ha hb hs
theorem x_rev {k : Nat} {p1 p3 : Pos} (ha : PE X x (tE g X.K n a Zx)) : PE X (.Subscript x (.Slice none none (some (.UnaryOp .USub (.Constant (.int 1) k p1) p2)) p3) pos) (tE g X.K n (.rev a) Zx) := peTree (s_revF ha) fun _ _ _ _ => rev_al
theorem x_fld (f : Nat) {nm : Str} (C : CF g X.K) (ho : PE X x (tE g X.K n o Zx)) (hf : g.tb.fk f = true := by rfl) (hn : g.tb.fld f = nm := by rfl) (hb : attributeBase x nm X.env (eval x X.env) = eval x X.env := by rfl) : PE X (.Attribute x nm pos) (tE g X.K n (.fld f o) Zx) := s_fld C hf hn ho hb
/-! built-in functions -/
theorem x_len (hm : X.mg "len" = none) (ha : PE X x (tE g X.K n a Zx)) (hg : Gl X "len" := by rfl) (he : starEach (x :: []) X.env = (false, eval x X.env) :: starEach [] X.env := by rfl) : PE X (.Call (.Name "len" p) [x] [] pos) (tE g X.K n (.b1 .len a) Zx) :=
  s_b1 (pe_callB (cr_or call_len call_lenD) hg hm PySem.boot_len (pa_cons ha pa_nil he) (he := he)) fun h S R Q q => r_len h S R Q q
theorem x_all (hm : X.mg "all" = none) (ha : PE X x (tE g X.K n a Zx)) (hc : X.calm = true := by rfl) (hg : Gl X "all" := by rfl) (he : starEach (x :: []) X.env = (false, eval x X.env) :: starEach [] X.env := by rfl) (hv : bootBuiltins "all" = some (.builtin "all") := by decide +kernel) : PE X (.Call (.Name "all" p) [x] [] pos) (tE g X.K n (.b1 .all a) Zx) :=
  s_b1 (pe_callB (cr_all hc) hg hm hv (pa_cons ha pa_nil he) (he := he)) fun h S R Q q => r_all h S R Q q
theorem x_any (hm : X.mg "any" = none) (ha : PE X x (tE g X.K n a Zx)) (hc : X.calm = true := by rfl) (hg : Gl X "any" := by rfl) (he : starEach (x :: []) X.env = (false, eval x X.env) :: starEach [] X.env := by rfl) (hv : bootBuiltins "any" = some (.builtin "any") := by decide +kernel) : PE X (.Call (.Name "any" p) [x] [] pos) (tE g X.K n (.b1 .any a) Zx) :=
  s_b1 (pe_callB (cr_any hc) hg hm hv (pa_cons ha pa_nil he) (he := he)) fun h S R Q q => r_any h S R Q q
theorem x_sum (hm : X.mg "sum" = none) (ha : PE X x (tE g X.K n a Zx)) (hc : X.calm = true := by rfl) (hg : Gl X "sum" := by rfl) (he : starEach (x :: []) X.env = (false, eval x X.env) :: starEach [] X.env := by rfl) (hv : bootBuiltins "sum" = some (.builtin "sum") := by decide +kernel) : PE X (.Call (.Name "sum" p) [x] [] pos) (tE g X.K n (.b1 .sum a) Zx) :=
  s_b1 (pe_callB (cr_sum hc) hg hm hv (pa_cons ha pa_nil he) (he := he)) fun h S R Q q => r_sum h S R Q q
theorem x_max1 (hm : X.mg "max" = none) (ha : PE X x (tE g X.K n a Zx)) (hc : X.calm = true := by rfl) (hg : Gl X "max" := by rfl) (he : starEach (x :: []) X.env = (false, eval x X.env) :: starEach [] X.env := by rfl) (hv : bootBuiltins "max" = some (.builtin "max") := by decide +kernel) : PE X (.Call (.Name "max" p) [x] [] pos) (tE g X.K n (.b1 .max a) Zx) :=
  s_b1 (pe_callB (cr_max hc) hg hm hv (pa_cons ha pa_nil he) (he := he)) fun h S R Q q => r_max h S R Q q
theorem x_min1 (hm : X.mg "min" = none) (ha : PE X x (tE g X.K n a Zx)) (hc : X.calm = true := by rfl) (hg : Gl X "min" := by rfl) (he : starEach (x :: []) X.env = (false, eval x X.env) :: starEach [] X.env := by rfl) (hv : bootBuiltins "min" = some (.builtin "min") := by decide +kernel) : PE X (.Call (.Name "min" p) [x] [] pos) (tE g X.K n (.b1 .min a) Zx) :=
  s_b1 (pe_callB (cr_min hc) hg hm hv (pa_cons ha pa_nil he) (he := he)) fun h S R Q q => r_min h S R Q q
theorem x_abs (hm : X.mg "abs" = none) (ha : PE X x (tE g X.K n a Zx)) (hg : Gl X "abs" := by rfl) (he : starEach (x :: []) X.env = (false, eval x X.env) :: starEach [] X.env := by rfl) (hv : bootBuiltins "abs" = some (.builtin "abs") := by decide +kernel) : PE X (.Call (.Name "abs" p) [x] [] pos) (tE g X.K n (.b1 .abs a) Zx) :=
  s_b1 (pe_callB call_abs hg hm hv (pa_cons ha pa_nil he) (he := he)) fun h S R Q q => r_abs h S R Q q
theorem x_repr {k : Nat} (hr : Room k X.A) (hgd : X.A.guards = some []) (hb : ∃ mm, X.base.Ns sysModules mm) (hm : X.mg "repr" = none) (ha : PE X x (tE g X.K n a Zx)) (hg : Gl X "repr" := by rfl) (he : starEach (x :: []) X.env = (false, eval x X.env) :: starEach [] X.env := by rfl) (hv : bootBuiltins "repr" = some (.builtin "repr") := by decide +kernel) :
    PE X (.Call (.Name "repr" p) [x] [] pos) (tE g X.K n (.b1 .repr a) Zx) :=
  s_b1 (pe_callB (call_reprI (g := g) hgd (hu65 hr) hb) hg hm hv (pa_cons ha pa_nil he) (he := he)) fun h S R Q q => r_repr h S R Q q
theorem x_int1 (hm : X.mg "int" = none) (ha : PE X x (tE g X.K n a Zx)) (hg : Gl X "int" := by rfl) (he : starEach (x :: []) X.env = (false, eval x X.env) :: starEach [] X.env := by rfl) (hv : bootBuiltins "int" = some (.type "int") := by decide +kernel) : PE X (.Call (.Name "int" p) [x] [] pos) (tE g X.K n (.b1 .int a) Zx) :=
  s_b1 (pe_callTy call_int1 hg hm hv (pa_cons ha pa_nil he) (he := he)) fun h S R Q q => r_int h S R Q q
theorem x_str1 (hm : X.mg "str" = none) (ha : PE X x (tE g X.K n a Zx)) (hg : Gl X "str" := by rfl) (he : starEach (x :: []) X.env = (false, eval x X.env) :: starEach [] X.env := by rfl) (hv : bootBuiltins "str" = some (.type "str") := by decide +kernel) : PE X (.Call (.Name "str" p) [x] [] pos) (tE g X.K n (.b1 .str a) Zx) :=
  s_b1 (pe_callTy call_str_int hg hm hv (pa_cons ha pa_nil he) (he := he)) fun h S R Q q => r_str h S R Q q
theorem x_tuple (hm : X.mg "tuple" = none) (ha : PE X x (tE g X.K n a Zx)) (hg : Gl X "tuple" := by rfl) (he : starEach (x :: []) X.env = (false, eval x X.env) :: starEach [] X.env := by rfl) (hv : bootBuiltins "tuple" = some (.type "tuple") := by decide +kernel) : PE X (.Call (.Name "tuple" p) [x] [] pos) (tE g X.K n (.b1 .tuple a) Zx) :=
  s_b1 (pe_callTy call_tuple_of hg hm hv (pa_cons ha pa_nil he) (he := he)) fun h S R Q q => r_tuple h S R Q q
theorem f_list (hm : X.mg "list" = none) (ha : PE X x (tE g X.K n a Zx)) (hc : X.calm = true := by rfl) (hg : Gl X "list" := by rfl) (he : starEach (x :: []) X.env = (false, eval x X.env) :: starEach [] X.env := by rfl) (hv : bootBuiltins "list" = some (.type "list") := by decide +kernel) : PE X (.Call (.Name "list" p) [x] [] pos) (tF g X.K n (.b1 .list a) Zx) :=
  s_listF (pe_callTy (cr_or call_list_of (call_list_dK hc)) hg hm hv (pa_cons ha pa_nil he) (he := he))
theorem f_sorted {k : Nat} (hr : Room k X.A) (hm : X.mg "sorted" = none) (ha : PE X x (tE g X.K n a Zx)) (hg : Gl X "sorted" := by rfl) (he : starEach (x :: []) X.env = (false, eval x X.env) :: starEach [] X.env := by rfl) : PE X (.Call (.Name "sorted" p) [x] [] pos) (tF g X.K n (.b1 .sorted a) Zx) :=
  s_sortF (pe_callB (call_sortT (hu65 hr)) hg hm PyProof.Rows.boot_sorted (pa_cons ha pa_nil he) (he := he))
theorem f_sset (hm : X.mg "sorted" = none) (hm2 : X.mg "set" = none) (ha : PE X x (tE g X.K n a Zx)) (hc : X.calm = true := by rfl) (hg : Gl X "sorted" := by rfl) (hg2 : Gl X "set" := by rfl) (he : starEach [x] X.env = (false, eval x X.env) :: starEach [] X.env := by rfl) : PE X (.Call (.Name "sorted" p) [.Call (.Name "set" p2) [x] [] q] [] pos) (tF g X.K n (.b1 .sset a) Zx) :=
  s_ssetF (pe_ssetR (g := g) hc hg hm hg2 hm2 ha he)
theorem x_lset (hm : X.mg "len" = none) (hm2 : X.mg "set" = none) (ha : PE X x (tE g X.K n a Zx)) (hc : X.calm = true := by rfl) (hg : Gl X "len" := by rfl) (hg2 : Gl X "set" := by rfl) (he : starEach [x] X.env = (false, eval x X.env) :: starEach [] X.env := by rfl) : PE X (.Call (.Name "len" p) [.Call (.Name "set" p2) [x] [] q] [] pos) (tE g X.K n (.b1 .lset a) Zx) :=
  s_lset (pe_lsetR (g := g) hc hg hm hg2 hm2 ha he)
theorem x_list (h : PE X z (tF g X.K n (.b1 .list a) Zx)) : PE X z (tE g X.K n (.b1 .list a) Zx) := peTree h fun _ _ _ _ => b1_al (.inr (.inl rfl))
theorem x_sorted (h : PE X z (tF g X.K n (.b1 .sorted a) Zx)) : PE X z (tE g X.K n (.b1 .sorted a) Zx) := peTree h fun _ _ _ _ => b1_al (.inl rfl)
theorem x_sset (h : PE X z (tF g X.K n (.b1 .sset a) Zx)) : PE X z (tE g X.K n (.b1 .sset a) Zx) := peTree h fun _ _ _ _ => b1_al (.inr (.inr rfl))
theorem x_alist (h : PE X z (tF g X.K n (.b1 .list a) Zx)) : PE X z (tE g X.K n (.alloc (.b1 .list a)) Zx) := peAlloc h (al_of fun _ _ _ _ => b1_al (.inr (.inl rfl)))
theorem x_asorted (h : PE X z (tF g X.K n (.b1 .sorted a) Zx)) : PE X z (tE g X.K n (.alloc (.b1 .sorted a)) Zx) := peAlloc h (al_of fun _ _ _ _ => b1_al (.inl rfl))
theorem x_lrng (hm : X.mg "list" = none) (hm2 : X.mg "range" = none) (ha : PE X x (tE g X.K n a Zx)) (hc : X.calm = true := by rfl) (hg : Gl X "list" := by rfl) (hg2 : Gl X "range" := by rfl) (he : starEach [x] X.env = (false, eval x X.env) :: starEach [] X.env := by rfl) :
    PE X (.Call (.Name "list" p) [.Call (.Name "range" p2) [x] [] q] [] pos) (tE g X.K n (.lrng false (.rng a)) Zx) := peTree (s_lrF (pe_listRg hc hg hm (prg_1 hg2 hm2 ha he))) fun _ _ _ _ => lr_al
theorem r_mx {i j : Int} {d : D} {M : Mem} {W : Wd} (h : b2 .max (.int i) (.int j) = some d) (S : SR g X.K W M) (Q : VK) (q : ∀ v' W', Ext W W' → SR g X.K W' M → Rep X.K W' d v' → Q v' W'.H) : ∃ i' j', [V.int i, V.int j] = [.int i', .int j'] ∧ Q (.int (if j' > i' then j' else i')) W.H := by
  simp only [b2, Option.some.injEq] at h; subst h
  exact ⟨i, j, rfl, q _ W (Ext.refl W) S rep_int⟩
theorem r_mn {i j : Int} {d : D} {M : Mem} {W : Wd} (h : b2 .min (.int i) (.int j) = some d) (S : SR g X.K W M) (Q : VK) (q : ∀ v' W', Ext W W' → SR g X.K W' M → Rep X.K W' d v' → Q v' W'.H) : ∃ i' j', [V.int i, V.int j] = [.int i', .int j'] ∧ Q (.int (if j' < i' then j' else i')) W.H := by
  simp only [b2, Option.some.injEq] at h; subst h
  exact ⟨i, j, rfl, q _ W (Ext.refl W) S rep_int⟩
theorem x_max2 (hm : X.mg "max" = none) (ha : PE X x (tE g X.K n a Zx)) (hb : PE X y (tE g X.K n b Zx)) (hc : X.calm = true := by rfl) (hg : Gl X "max" := by rfl) (he : starEach [x, y] X.env = (false, eval x X.env) :: starEach [y] X.env := by rfl) (he2 : starEach [y] X.env = (false, eval y X.env) :: starEach [] X.env := by rfl)
    (hpl : (backTo pos (starEach [y] X.env)).any (·.1) = false := by rfl) (hv : bootBuiltins "max" = some (.builtin "max") := by decide +kernel) : PE X (.Call (.Name "max" p) [x, y] [] pos) (tE g X.K n (.b2 .max a b) Zx) :=
  s_b2 (pe_callB (call_max2 hc) hg hm hv (pa_cons ha (pa_cons hb pa_nil he2) he) (he := he) (hpl := hpl)) fun h S Q q => r_mx h S Q q
theorem x_min2 (hm : X.mg "min" = none) (ha : PE X x (tE g X.K n a Zx)) (hb : PE X y (tE g X.K n b Zx)) (hc : X.calm = true := by rfl) (hg : Gl X "min" := by rfl) (he : starEach [x, y] X.env = (false, eval x X.env) :: starEach [y] X.env := by rfl) (he2 : starEach [y] X.env = (false, eval y X.env) :: starEach [] X.env := by rfl)
    (hpl : (backTo pos (starEach [y] X.env)).any (·.1) = false := by rfl) (hv : bootBuiltins "min" = some (.builtin "min") := by decide +kernel) : PE X (.Call (.Name "min" p) [x, y] [] pos) (tE g X.K n (.b2 .min a b) Zx) :=
  s_b2 (pe_callB (call_min2 hc) hg hm hv (pa_cons ha (pa_cons hb pa_nil he2) he) (he := he) (hpl := hpl)) fun h S Q q => r_mn h S Q q
theorem x_divmod (hm : X.mg "divmod" = none) (ha : PE X x (tE g X.K n a Zx)) (hb : PE X y (tE g X.K n b Zx)) (hg : Gl X "divmod" := by rfl) (he : starEach [x, y] X.env = (false, eval x X.env) :: starEach [y] X.env := by rfl) (he2 : starEach [y] X.env = (false, eval y X.env) :: starEach [] X.env := by rfl)
    (hpl : (backTo pos (starEach [y] X.env)).any (·.1) = false := by rfl) (hv : bootBuiltins "divmod" = some (.builtin "divmod") := by decide +kernel) : PE X (.Call (.Name "divmod" p) [x, y] [] pos) (tE g X.K n (.b2 .divmod a b) Zx) :=
  s_b2 (pe_callB call_divmod hg hm hv (pa_cons ha (pa_cons hb pa_nil he2) he) (he := he) (hpl := hpl)) fun h S Q q => r_divmod h S Q q
theorem x_isin {T : Str} {Ts : String} (k : Kd) (F : IsF g X.K) (hm : X.mg "isinstance" = none) (hmT : X.mg T = none) (hT : bootBuiltins T = some (.type Ts)) (ha : PE X x (tE g X.K n a Zx)) (hk : kdOk g k := by trivial) (hcls : kdCls g k = [.type Ts] := by rfl) (hg : Gl X "isinstance" := by rfl) (hgT : Gl X T := by rfl)
    (hn : T ≠ "__name__" := by decide) (hd : (T == ("__debug__" : Str)) = false := by decide) (he : starEach [x, .Name T p2] X.env = (false, eval x X.env) :: starEach [.Name T p2] X.env := by rfl) (hv : bootBuiltins "isinstance" = some (.builtin "isinstance") := by decide +kernel) :
    PE X (.Call (.Name "isinstance" p) [x, .Name T p2] [] pos) (tE g X.K n (.isin k a) Zx) :=
  s_isin1 F hk (.ty Ts) hcls (pe_callB call_isi hg hm hv (pa_cons ha (pa_cons (pe_bltn hgT hmT hT rfl hn hd) pa_nil) he) (he := he))
theorem x_isinC {T : Str} (c : Nat) (F : IsF g X.K) (hm : X.mg "isinstance" = none) (hmT : X.mg T = some (.ref (g.ca c))) (ha : PE X x (tE g X.K n a Zx)) (hk : g.tb.kn c = true := by rfl) (hg : Gl X "isinstance" := by rfl) (hgT : Gl X T := by rfl)
    (hd : (T == ("__debug__" : Str)) = false := by decide) (he : starEach [x, .Name T p2] X.env = (false, eval x X.env) :: starEach [.Name T p2] X.env := by rfl) (hv : bootBuiltins "isinstance" = some (.builtin "isinstance") := by decide +kernel) :
    PE X (.Call (.Name "isinstance" p) [x, .Name T p2] [] pos) (tE g X.K n (.isin (.cls c) a) Zx) :=
  s_isin1 F hk (.own (g.ca c)) rfl (pe_callB call_isi hg hm hv (pa_cons ha (pa_cons (pe_glob hgT hmT rfl hd) pa_nil) he) (he := he))
theorem x_isin2 {k : Nat} {p3 p4 : Pos} (F : IsF g X.K) (hm : X.mg "isinstance" = none) (hm1 : X.mg "list" = none) (hm2 : X.mg "tuple" = none) (ha : PE X x (tE g X.K n a Zx)) (hg : Gl X "isinstance" := by rfl) (hg1 : Gl X "list" := by rfl) (hg2 : Gl X "tuple" := by rfl)
    (he : starEach [x, .Tuple [.Name "list" p2, .Name "tuple" p3] k p4] X.env = (false, eval x X.env) :: starEach [.Tuple [.Name "list" p2, .Name "tuple" p3] k p4] X.env := by rfl) (hv : bootBuiltins "isinstance" = some (.builtin "isinstance") := by decide +kernel) :
    PE X (.Call (.Name "isinstance" p) [x, .Tuple [.Name "list" p2, .Name "tuple" p3] k p4] [] pos) (tE g X.K n (.isin .listtuple a) Zx) :=
  s_isin2 (ta := tCons (tC (.ty "list")) (tCons (tC (.ty "tuple")) tNil)) F (fun σ H Q q => q)
    (pe_callB call_isiT hg hm hv (pa_cons ha (pa_cons (pe_tup (pa_cons (pe_bltn hg1 hm1 (by decide +kernel : bootBuiltins "list" = some (.type "list")) rfl) (pa_cons (pe_bltn hg2 hm2 (by decide +kernel : bootBuiltins "tuple" = some (.type "tuple")) rfl) pa_nil))) pa_nil) he) (he := he))
/-! methods of lists -/
theorem x_app {apos : Pos} (ho : PE X x (tE g X.K n o Zx)) (ha : PE X y (tE g X.K n e Zx)) (hbase : attributeBase x "append" X.env (eval x X.env) = eval x X.env := by rfl)
    (hfew : ((backTo pos (starEach [y] X.env)).all (fun x => !x.1) && (backToKw pos (keywordEach [] X.env)).all (fun x => x.1.isSome) && decide ([y].length + ([] : List Keyword).length + (if ([] : List Keyword).isEmpty then 0 else 1) < 30)) = true := by rfl)
    (hline : (apos.endLine == pos.line) = true := by rfl) (hs : starEach [y] X.env = (false, eval y X.env) :: starEach [] X.env := by rfl) : PE X (.Call (.Attribute x "append" apos) [y] [] pos) (tE g X.K n (.app o e) Zx) :=
  s_app (pe_bm PySem.F.plainAttrs_list PySem.F.slot_list_append PySem.F.type_list_append mt_append ho (pa_cons ha pa_nil hs) hbase hfew hline hs)
theorem x_ext {apos : Pos} (ho : PE X x (tE g X.K n o Zx)) (ha : PE X y (tE g X.K n e Zx)) (hbase : attributeBase x "extend" X.env (eval x X.env) = eval x X.env := by rfl)
    (hfew : ((backTo pos (starEach [y] X.env)).all (fun x => !x.1) && (backToKw pos (keywordEach [] X.env)).all (fun x => x.1.isSome) && decide ([y].length + ([] : List Keyword).length + (if ([] : List Keyword).isEmpty then 0 else 1) < 30)) = true := by rfl)
    (hline : (apos.endLine == pos.line) = true := by rfl) (hs : starEach [y] X.env = (false, eval y X.env) :: starEach [] X.env := by rfl) : PE X (.Call (.Attribute x "extend" apos) [y] [] pos) (tE g X.K n (.ext o e) Zx) :=
  s_ext (pe_bm PySem.F.plainAttrs_list PySem.F.slot_list_extend PySem.F.type_list_extend mt_extend ho (pa_cons ha pa_nil hs) hbase hfew hline hs)
theorem x_pop {apos : Pos} (ho : PE X x (tE g X.K n o Zx)) (hbase : attributeBase x "pop" X.env (eval x X.env) = eval x X.env := by rfl) (hline : (apos.endLine == pos.line) = true := by rfl) : PE X (.Call (.Attribute x "pop" apos) [] [] pos) (tE g X.K n (.pop o) Zx) :=
  s_pop (pe_bm0 PySem.F.plainAttrs_list PySem.F.slot_list_pop PySem.F.type_list_pop mt_pop ho hbase hline)
theorem x_popi {apos : Pos} (ho : PE X x (tE g X.K n o Zx)) (ha : PE X y (tE g X.K n e Zx)) (hbase : attributeBase x "pop" X.env (eval x X.env) = eval x X.env := by rfl)
    (hfew : ((backTo pos (starEach [y] X.env)).all (fun x => !x.1) && (backToKw pos (keywordEach [] X.env)).all (fun x => x.1.isSome) && decide ([y].length + ([] : List Keyword).length + (if ([] : List Keyword).isEmpty then 0 else 1) < 30)) = true := by rfl)
    (hline : (apos.endLine == pos.line) = true := by rfl) (hs : starEach [y] X.env = (false, eval y X.env) :: starEach [] X.env := by rfl) : PE X (.Call (.Attribute x "pop" apos) [y] [] pos) (tE g X.K n (.popi o e) Zx) :=
  s_popi (pe_bm PySem.F.plainAttrs_list PySem.F.slot_list_pop PySem.F.type_list_pop mt_popAt ho (pa_cons ha pa_nil hs) hbase hfew hline hs)
end
end Z
end
section
set_option Elab.async false
set_option linter.all false
set_option maxRecDepth 100000
set_option maxHeartbeats 4000000
/-! Zq2: calls by name, comprehensions, statements in short. -/
namespace Z
open PySem L2 PyProof.Rows
/-- a def as the written part has it, named x -/
structure DefI (K : PySem.W.Frag) (mg : Str → Option Value) (x qual : Str) (st : Stmt) (ps : List Str) : Prop where
  ex : ∃ (f : Addr) (fd : FuncData), mg x = some (.ref f) ∧ L2.Fun K x qual st f fd ∧ Binds K fd ps []
/-- a class with its __init__ -/
structure InitI (K : PySem.W.Frag) (mg : Str → Option Value) (C : Addr) (x qual : Str) (st : Stmt) (ps : List Str) : Prop where
  ex : ∃ (f : Addr) (fd : FuncData), mg x = some (.ref C) ∧ Mk K C f ∧ L2.Fun K "__init__" qual st f fd ∧ Binds K fd ps []
structure MethI (K : PySem.W.Frag) (C : Addr) (m qual : Str) (st : Stmt) (ps : List Str) : Prop where
  ex : ∃ (f : Addr) (fd : FuncData), Meth K C m f ∧ L2.Fun K m qual st f fd ∧ Binds K fd ps []
structure CalI (P : Program) (w : World) (K : PySem.W.Frag) (mg : Str → Option Value) (base : Heap) (g : Gw) (n fi : Nat) (x : Str) (ps : List Str) : Prop where
  ex : ∃ (f : Addr) (fd : FuncData), FnG P w K mg base (2 * n) f fd ps (spI g K n fi ps.length) ∧ mg x = some (.ref f) ∧ PySem.W.keepIn K (.ref f) = true ∧ Binds K fd ps [] ∧ ∃ oc od osl, K.lookup f = some ⟨oc, od, .func fd, osl⟩
structure MkI (P : Program) (w : World) (K : PySem.W.Frag) (mg : Str → Option Value) (base : Heap) (g : Gw) (n fi : Nat) (C : Addr) (x : Str) (ps : List Str) : Prop where
  ex : ∃ (f : Addr) (fd : FuncData), FnG P w K mg base (2 * n) f fd ps (spI g K n fi ps.length) ∧ mg x = some (.ref C) ∧ Mk K C f ∧ Binds K fd ps []
section
variable {P : Program} {w : World} {K : PySem.W.Frag} {mg : Str → Option Value} {base : Heap} {g : Gw} {n fi : Nat} {x qual : Str} {st : Stmt} {ps N : List Str} {C : Addr} {bd : Ss}
theorem look_of {y : Str} {f : Addr} {fd : FuncData} (F : L2.Fun K y qual st f fd) : ∃ oc od osl, K.lookup f = some ⟨oc, od, .func fd, osl⟩ := by
  obtain ⟨oc, od, kV, doc, pm, an, cdv, ct, osl, rfl, lk, hcd⟩ := F.ex
  exact ⟨oc, od, osl, lk⟩
theorem cal_0 (D : DefI K mg x qual st ps) : CalI P w K mg base g 0 fi x ps := by
  obtain ⟨f, fd, h1, h2, h3⟩ := D.ex
  exact ⟨f, fd, fn_zero, h1, h2.kp, h3, look_of h2⟩
theorem mk_0 (D : InitI K mg C x qual st ps) : MkI P w K mg base g 0 fi C x ps := by
  obtain ⟨f, fd, h1, h2, h3, h4⟩ := D.ex
  exact ⟨f, fd, fn_zero, h1, h2, h4⟩
theorem fn_of_fun {y : Str} {f : Addr} {fd : FuncData} (F : L2.Fun K y qual st f fd) (S : FnScope N ps (defScope st)) (hf : g.fns fi = some ⟨ps.length, N.length, bd⟩)
    (hb : ∀ (f : Addr) (cdv : Value) (A : Around) (outer : List PySem.Env) (t : Shared) (H : Hp) (E : XK), Room (2 * n + 1) (A.deeper (envOfC qual (defScope st) t.heap.objs.size f cdv)) → (A.deeper (envOfC qual (defScope st) t.heap.objs.size f cdv)).guards = some [] →
      PSs (cxD P w K mg base N qual (defScope st) f cdv A outer t H E) (defBody st) (tSs g K n bd E)) : FnG P w K mg base (2 * (n + 1)) f fd ps (spI g K (n + 1) fi ps.length) := by
  obtain ⟨oc, od, kV, doc, pm, an, cdv, ct, osl, rfl, lk, hcd⟩ := F.ex
  exact fn_I (k := 2 * n + 1) lk hcd S hf fun A outer t H E hr hgd => hb f cdv A outer t H E hr hgd
theorem cal_s (D : DefI K mg x qual st ps) (S : FnScope N ps (defScope st)) (hf : g.fns fi = some ⟨ps.length, N.length, bd⟩)
    (hb : ∀ (f : Addr) (cdv : Value) (A : Around) (outer : List PySem.Env) (t : Shared) (H : Hp) (E : XK), Room (2 * n + 1) (A.deeper (envOfC qual (defScope st) t.heap.objs.size f cdv)) → (A.deeper (envOfC qual (defScope st) t.heap.objs.size f cdv)).guards = some [] →
      PSs (cxD P w K mg base N qual (defScope st) f cdv A outer t H E) (defBody st) (tSs g K n bd E)) : CalI P w K mg base g (n + 1) fi x ps := by
  obtain ⟨f, fd, h1, h2, h3⟩ := D.ex
  exact ⟨f, fd, fn_of_fun h2 S hf hb, h1, h2.kp, h3, look_of h2⟩
theorem mk_s (D : InitI K mg C x qual st ps) (S : FnScope N ps (defScope st)) (hf : g.fns fi = some ⟨ps.length, N.length, bd⟩)
    (hb : ∀ (f : Addr) (cdv : Value) (A : Around) (outer : List PySem.Env) (t : Shared) (H : Hp) (E : XK), Room (2 * n + 1) (A.deeper (envOfC qual (defScope st) t.heap.objs.size f cdv)) → (A.deeper (envOfC qual (defScope st) t.heap.objs.size f cdv)).guards = some [] →
      PSs (cxD P w K mg base N qual (defScope st) f cdv A outer t H E) (defBody st) (tSs g K n bd E)) : MkI P w K mg base g (n + 1) fi C x ps := by
  obtain ⟨f, fd, h1, h2, h3, h4⟩ := D.ex
  exact ⟨f, fd, fn_of_fun h3 S hf hb, h1, h2, h4⟩
end
section
variable {g : Gw} {X : Cx} {n : Nat} {x y z : Expr} {e a b c o : E} {Zx : WX} {pos p p2 q : Pos} {es : Es} {ys : List Expr}
theorem x_call {fi : Nat} {nm : Str} {ps : List Str} (C : CalI X.prog X.w X.K X.mg X.base g n fi nm ps) (hr : Room (2 * n + 1) X.A) (hgd : X.A.guards = some []) (tk : Takes X Zx) (ha : PA X (y :: ys) (tA g X.K n es Zx)) (hl : esLen es = ps.length := by rfl) (gl : Gl X nm := by rfl)
    (hdb : (nm == ("__debug__" : Str)) = false := by decide) (he : starEach (y :: ys) X.env = (false, eval y X.env) :: starEach ys X.env := by rfl) (hpl : (backTo pos (starEach ys X.env)).any (·.1) = false := by rfl) : PE X (.Call (.Name nm p) (y :: ys) [] pos) (tE g X.K n (.call fi es) Zx) := by
  obtain ⟨f, fd, F, hm, hk, hb, _⟩ := C.ex
  exact s_call (g_call F (hr.mono (Nat.le_succ _)) hgd tk gl hm hk hb ha hdb he hpl) fun _ _ _ _ q => by rw [evs_len q, hl]
theorem x_call0 {fi : Nat} {nm : Str} (C : CalI X.prog X.w X.K X.mg X.base g n fi nm []) (hr : Room (2 * n + 1) X.A) (hgd : X.A.guards = some []) (tk : Takes X Zx) (gl : Gl X nm := by rfl) (hdb : (nm == ("__debug__" : Str)) = false := by decide) : PE X (.Call (.Name nm p) [] [] pos) (tE g X.K n (.call fi .nil) Zx) := by
  obtain ⟨f, fd, F, hm, hk, hb, _⟩ := C.ex
  exact s_call0 (g_call0 F (hr.mono (Nat.le_succ _)) hgd tk gl hm hk hb hdb)
/-- a call with keywords alone -/
structure KwI (K : PySem.W.Frag) (mg : Str → Option Value) (x : Str) (ps ks : List Str) (is : List Nat) : Prop where
  ex : ∀ (f : Addr) (fd : FuncData) (oc : Value) (od : Option Addr) (osl : Array (Option Value)), mg x = some (.ref f) → K.lookup f = some ⟨oc, od, .func fd, osl⟩ → ∃ gf gV, KBinds K fd ps ks gf gV ∧ ∀ zs, gV [] zs = pick is zs
theorem x_mk {fi c : Nat} {nm : Str} {ps : List Str} (M : MkI X.prog X.w X.K X.mg X.base g n fi (g.ca c) nm ps) (Cf : CF g X.K) (hr : Room (2 * n + 1) X.A) (hgd : X.A.guards = some []) (tk : Takes X Zx) (ha : PA X (y :: ys) (tA g X.K n es Zx)) (hk : g.tb.kn c = true := by rfl) (hf : g.G.ini c = fi := by rfl)
    (hl : esLen es + 1 = ps.length := by rfl) (gl : Gl X nm := by rfl) (hdb : (nm == ("__debug__" : Str)) = false := by decide) (he : starEach (y :: ys) X.env = (false, eval y X.env) :: starEach ys X.env := by rfl) (hpl : (backTo pos (starEach ys X.env)).any (·.1) = false := by rfl) :
    PE X (.Call (.Name nm p) (y :: ys) [] pos) (tE g X.K n (.mk c es) Zx) := by
  obtain ⟨f, fd, F, hm, Mm, hb⟩ := M.ex
  exact s_mk (ar := ps.length) Cf hk hf (g_make Mm F hr hgd tk gl hm hb ha hdb he hpl) fun _ _ _ _ q => by rw [evs_len q, hl]
/-! comprehensions -/
theorem takes0 {X : Cx} : Takes X Z0 := fun u s' ⟨a, B, sI, pins, σ, H, cls, d, e, I, nb, up, sky, na, os, ag, h⟩ => h.elim
theorem x_lc {elt tge iter : Expr} {ifs : List Expr} {scope : Scope} (own : List (Str × Nat)) {tg : Tg} {it : It} {cnd : Oe} (hN : X.N.Nodup) (hi : PI X tge iter (tI g X.K n it Zx))
    (hg : ∀ (s : Shared) (H : Hp) (C : Addr) (cl : List (Str × Addr)) (fp : List Addr), PG (X.blk s H scope (compEnvC scope cl C X.env) fp) tge (gT X.K tg))
    (ht : ∀ (s : Shared) (H : Hp) (C : Addr) (cl : List (Str × Addr)) (fp : List Addr), PTs (X.blk s H scope (compEnvC scope cl C X.env) fp) ifs (tCn g X.K n cnd Z0))
    (he : ∀ (s : Shared) (H : Hp) (C : Addr) (cl : List (Str × Addr)) (fp : List Addr), PE (X.blk s H scope (compEnvC scope cl C X.env) fp) elt (tE g X.K n e Z0))
    (ok : blkC X.N X.env.scope scope own = true := by first | rfl | with_unfolding_all rfl) (hsub : ∀ i ∈ tgIs tg, i ∈ own.map (·.2) := by decide) (hc : X.calm = true := by rfl) (hs : ∀ x, foldedSetIterable iter X.env x = pure x := by intro _; rfl) :
    PE X (.ListComp elt [⟨tge, iter, ifs, 0⟩] scope pos) (tE g X.K n (.cmpr e tg it cnd (own.map (·.2))) Zx) :=
  peTree (s_cmprF hc hN hi (blkOk_by ok) hsub hg ht he hs) fun _ _ _ _ => cmpr_al
theorem x_alc {elt tge iter : Expr} {ifs : List Expr} {scope : Scope} (own : List (Str × Nat)) {tg : Tg} {it : It} {cnd : Oe} (hN : X.N.Nodup) (hi : PI X tge iter (tI g X.K n it Zx))
    (hg : ∀ (s : Shared) (H : Hp) (C : Addr) (cl : List (Str × Addr)) (fp : List Addr), PG (X.blk s H scope (compEnvC scope cl C X.env) fp) tge (gT X.K tg))
    (ht : ∀ (s : Shared) (H : Hp) (C : Addr) (cl : List (Str × Addr)) (fp : List Addr), PTs (X.blk s H scope (compEnvC scope cl C X.env) fp) ifs (tCn g X.K n cnd Z0))
    (he : ∀ (s : Shared) (H : Hp) (C : Addr) (cl : List (Str × Addr)) (fp : List Addr), PE (X.blk s H scope (compEnvC scope cl C X.env) fp) elt (tE g X.K n e Z0))
    (ok : blkC X.N X.env.scope scope own = true := by first | rfl | with_unfolding_all rfl) (hsub : ∀ i ∈ tgIs tg, i ∈ own.map (·.2) := by decide) (hc : X.calm = true := by rfl) (hs : ∀ x, foldedSetIterable iter X.env x = pure x := by intro _; rfl) :
    PE X (.ListComp elt [⟨tge, iter, ifs, 0⟩] scope pos) (tE g X.K n (.alloc (.cmpr e tg it cnd (own.map (·.2)))) Zx) :=
  peAlloc (s_cmprF hc hN hi (blkOk_by ok) hsub hg ht he hs) (al_of fun _ _ _ _ => cmpr_al)
theorem c_no : PTs X [] (tCn g X.K n .none Z0) := pts_nil
theorem c_if (h : PT X x (tT g X.K n e Z0)) : PTs X [x] (tCn g X.K n (.some e) Z0) := pts_one h
theorem gt_1 {K : PySem.W.Frag} (i : Nat) {nm : Str} (hN : X.N.Nodup) (hi : X.N[i]? = some nm := by rfl) (hx : Loc X.env.scope nm := by first | exact Or.inl rfl | exact Or.inr rfl) (hf : X.fn nm = true ∨ X.env.scope.names.lookup nm = some .local := by first | exact .inl rfl | exact .inr rfl) : PG X (.Name nm pos) (gT K (.one i)) := pg_name hN hi hx hf
/-! statements -/
variable {En : XK} {stm : Stmt} {sts : List Stmt} {s : S} {ss : Ss}
theorem z_ex (h : PE X x (tE g X.K n e (wE En))) (hs : swapsWith x none pos.line X.env = pure false := by rfl) : PS X (.Expr x pos) (tS g X.K n (.ex e) En) := y_ex h hs
theorem z_set (i : Nat) {nm : Str} (hN : X.N.Nodup) (h : PE X x (tE g X.K n e (wE En))) (hi : X.N[i]? = some nm := by rfl) (hx : Loc X.env.scope nm := by first | exact Or.inl rfl | exact Or.inr rfl) (hs : swapsWith x (some (.Name nm p)) pos.line X.env = pure false := by rfl)
    (hf : X.fn nm = true ∨ X.env.scope.names.lookup nm = some .local := by first | exact .inl rfl | exact .inr rfl) : PS X (.Assign [.Name nm p] x pos) (tS g X.K n (.asg (.nm i) e) En) := y_set (ps_set hN hi hx h hs hf) fun _ _ _ q => q
/-- name = [..] on one line -/
theorem z_setLc {elt tge iter : Expr} {ifs : List Expr} {scope : Scope} {spos : Pos} (i : Nat) {nm : Str} (own : List (Str × Nat)) {tg : Tg} {it : It} {cnd : Oe} (hN : X.N.Nodup) (hit : PI X tge iter (tI g X.K n it (wE En)))
    (hg : ∀ (s : Shared) (H : Hp) (C : Addr) (cl : List (Str × Addr)) (fp : List Addr), PG (X.blk s H scope (compEnvC scope cl C X.env) fp) tge (gT X.K tg))
    (ht : ∀ (s : Shared) (H : Hp) (C : Addr) (cl : List (Str × Addr)) (fp : List Addr), PTs (X.blk s H scope (compEnvC scope cl C X.env) fp) ifs (tCn g X.K n cnd Z0))
    (he : ∀ (s : Shared) (H : Hp) (C : Addr) (cl : List (Str × Addr)) (fp : List Addr), PE (X.blk s H scope (compEnvC scope cl C X.env) fp) elt (tE g X.K n e Z0))
    (hi : X.N[i]? = some nm := by rfl) (hyl : X.env.scope.names.lookup nm = some .local := by rfl) (hsw : swapsWith (.ListComp elt [⟨tge, iter, ifs, 0⟩] scope pos) (some (.Name nm p)) spos.line X.env = pure true := by rfl)
    (ok : blkC X.N X.env.scope scope own = true := by first | rfl | with_unfolding_all rfl) (hsub : ∀ i ∈ tgIs tg, i ∈ own.map (·.2) := by decide) (hc : X.calm = true := by rfl) (hs : ∀ x, foldedSetIterable iter X.env x = pure x := by intro _; rfl) :
    PS X (.Assign [.Name nm p] (.ListComp elt [⟨tge, iter, ifs, 0⟩] scope pos) spos) (tS g X.K n (.asg (.nm i) (.cmpr e tg it cnd (own.map (·.2)))) En) :=
  y_set (ps_setLc hc hN hi hyl hsw hit (blkOk_by ok) hg ht he hs) fun σ H Q q => lc_imp hsub σ H Q (tree_imp (fun _ _ _ _ => cmpr_al) σ H Q q)
theorem z_asetLc {elt tge iter : Expr} {ifs : List Expr} {scope : Scope} {spos : Pos} (i : Nat) {nm : Str} (own : List (Str × Nat)) {tg : Tg} {it : It} {cnd : Oe} (hN : X.N.Nodup) (hit : PI X tge iter (tI g X.K n it (wE En)))
    (hg : ∀ (s : Shared) (H : Hp) (C : Addr) (cl : List (Str × Addr)) (fp : List Addr), PG (X.blk s H scope (compEnvC scope cl C X.env) fp) tge (gT X.K tg))
    (ht : ∀ (s : Shared) (H : Hp) (C : Addr) (cl : List (Str × Addr)) (fp : List Addr), PTs (X.blk s H scope (compEnvC scope cl C X.env) fp) ifs (tCn g X.K n cnd Z0))
    (he : ∀ (s : Shared) (H : Hp) (C : Addr) (cl : List (Str × Addr)) (fp : List Addr), PE (X.blk s H scope (compEnvC scope cl C X.env) fp) elt (tE g X.K n e Z0))
    (hi : X.N[i]? = some nm := by rfl) (hyl : X.env.scope.names.lookup nm = some .local := by rfl) (hsw : swapsWith (.ListComp elt [⟨tge, iter, ifs, 0⟩] scope pos) (some (.Name nm p)) spos.line X.env = pure true := by rfl)
    (ok : blkC X.N X.env.scope scope own = true := by first | rfl | with_unfolding_all rfl) (hsub : ∀ i ∈ tgIs tg, i ∈ own.map (·.2) := by decide) (hc : X.calm = true := by rfl) (hs : ∀ x, foldedSetIterable iter X.env x = pure x := by intro _; rfl) :
    PS X (.Assign [.Name nm p] (.ListComp elt [⟨tge, iter, ifs, 0⟩] scope pos) spos) (tS g X.K n (.asg (.nm i) (.alloc (.cmpr e tg it cnd (own.map (·.2))))) En) :=
  y_set (ps_setLc hc hN hi hyl hsw hit (blkOk_by ok) hg ht he hs) fun σ H Q q => lc_imp hsub σ H Q (alloc_imp (al_of fun _ _ _ _ => cmpr_al) σ H Q q)
theorem t_nm (i : Nat) {nm : Str} (hN : X.N.Nodup) (hi : X.N[i]? = some nm := by rfl) (hx : Loc X.env.scope nm := by first | exact Or.inl rfl | exact Or.inr rfl) (hf : X.fn nm = true ∨ X.env.scope.names.lookup nm = some .local := by first | exact .inl rfl | exact .inr rfl) : PG X (.Name nm pos) (tG g X.K n (.nm i) En) := g_nm (pg_name hN hi hx hf)
theorem t_sub {i : E} (ho : PE X x (tE g X.K n o (wE En))) (hi : PE X y (tE g X.K n i (wE En))) (ha : ∀ v, assign (.Subscript x y pos) X.env v = (do
      let ov ← holding [v] (eval x X.env)
      let iv ← holding [v, ov] (eval y X.env)
      standAt pos
      holding [v, ov, iv] (setItem ov iv v)
      release [v, ov, iv] []) := by intro _; rfl) : PG X (.Subscript x y pos) (tG g X.K n (.sub o i) En) := g_sub (pg_sub ho hi set_list ha)
variable {t : T} {ts : List T}
theorem ts_0 : PGs X [] (tGs g X.K n [] En) := gs_nil
theorem ts_1 {xs : List Expr} (h1 : PG X x (tG g X.K n t En)) (h2 : PGs X xs (tGs g X.K n ts En)) (hs : (assignEach (x :: xs) X.env).map (·.2) = assign x X.env :: (assignEach xs X.env).map (·.2) := by rfl) : PGs X (x :: xs) (tGs g X.K n (t :: ts) En) := gs_cons h1 h2 hs
theorem no_ex {G : Gt} {cl : Nat → List D → Mem → R D} : ∀ {ts : List T} {ds : List D} {env : Env} {M : Mem} {c : Nat} {d : Option D} {M' : Mem}, (∀ t ∈ ts, ∀ x env M c d M', asg G cl t x env M ≠ .ex c d M') → asgs G cl ts ds env M ≠ .ex c d M'
  | [], [], _, _, _, _, _, _, h => by simp [asgs] at h
  | [], _ :: _, _, _, _, _, _, _, h => by simp [asgs] at h
  | _ :: _, [], _, _, _, _, _, _, h => by simp [asgs] at h
  | t :: ts, x :: xs, env, M, c, d, M', k, h => by
    simp only [asgs] at h
    cases q : asg G cl t x env M with
    | ok e1 M1 => rw [q] at h; exact no_ex (fun t ht => k t (List.mem_cons_of_mem _ ht)) h
    | ex c d M1 => exact k t List.mem_cons_self _ _ _ _ _ _ q
    | no => rw [q] at h; simp at h
/-- a target whose parts are names and literals raises nothing -/
def tame : E → Bool
  | .var _ => true
  | .lit _ => true
  | _ => false
def tameT : T → Bool
  | .nm _ => true
  | .sub o i => tame o && tame i
  | .tp _ => false
theorem ev_tame {G : Gt} {cl : Nat → List D → Mem → R D} {e : E} {env : Env} {M : Mem} {c : Nat} {d : Option D} {M' : Mem} (h : tame e = true) : ev G cl e env M ≠ .ex c d M' := by
  intro q
  cases e <;> simp [tame] at h
  · simp only [ev] at q
    unfold R.of at q
    split at q <;> cases q
  · simp only [ev] at q; cases q
theorem asg_tame {G : Gt} {cl : Nat → List D → Mem → R D} {t : T} {x : D} {env : Env} {M : Mem} {c : Nat} {d : Option D} {M' : Mem} (h : tameT t = true) : asg G cl t x env M ≠ .ex c d M' := by
  intro q
  cases t with
  | nm i => simp only [asg] at q; cases q
  | sub o i =>
    simp only [tameT, Bool.and_eq_true] at h
    simp only [asg] at q
    cases q1 : ev G cl o env M with
    | ok u M1 =>
      rw [q1] at q
      simp only [R.bind_ok] at q
      cases q2 : ev G cl i env M1 with
      | ok k M2 =>
        rw [q2] at q
        simp only [R.bind_ok] at q
        repeat' split at q
        all_goals first | cases q
      | ex c d M2 => exact ev_tame h.2 q2
      | no => rw [q2] at q; simp at q
    | ex c d M2 => exact ev_tame h.1 q1
    | no => rw [q1] at q; simp at q
  | tp ts => simp [tameT] at h
theorem t_tp {xs : List Expr} {k : Nat} (h : PGs X xs (tGs g X.K n ts En)) (hl : ts.all tameT = true := by rfl) (hn : (assignEach xs X.env).length = ts.length := by rfl) (hst : (assignEach xs X.env).findIdx? (·.1) = none := by rfl) (hc : X.calm = true := by rfl) : PG X (.Tuple xs k pos) (tG g X.K n (.tp ts) En) :=
  g_tp (pg_tup hc h hn hst) rfl fun ds env M c d M' q => absurd q (no_ex fun t ht _ _ _ _ _ _ => asg_tame (List.all_eq_true.mp hl t ht))
theorem z_asg {y : Expr} (h : PE X x (tE g X.K n e (wE En))) (hg : PG X y (tG g X.K n t En)) (hs : swapsWithSole [y] x pos.line X.env = pure false := by rfl) (hw : swappedStores [y] x X.env = pure none := by rfl) (h1 : (assignEach [y] X.env).map (·.2) = [assign y X.env] := by rfl) : PS X (.Assign [y] x pos) (tS g X.K n (.asg t e) En) :=
  y_asg (ps_asg h hg hs hw h1)
theorem z_par2 (i j : Nat) {nx ny : Str} {px py pt pt2 : Pos} {kt k2 : Nat} {es : Es} (hN : X.N.Nodup) (ha : PA X [x, y] (tA g X.K n es (wE En))) (hi : X.N[i]? = some nx := by rfl) (hj : X.N[j]? = some ny := by rfl) (hij : i ≠ j := by decide) (hx : X.env.scope.names.lookup nx = some .local := by rfl) (hy : X.env.scope.names.lookup ny = some .local := by rfl)
    (hw : swappedStores [.Tuple [.Name nx px, .Name ny py] kt pt] (.Tuple [x, y] k2 pt2) X.env = pure (some [nx, ny]) := by rfl) (hs : swapsWithSole [.Tuple [.Name nx px, .Name ny py] kt pt] (.Tuple [x, y] k2 pt2) pos.line X.env = pure false := by rfl) (hc : X.calm = true := by rfl) :
    PS X (.Assign [.Tuple [.Name nx px, .Name ny py] kt pt] (.Tuple [x, y] k2 pt2) pos) (tS g X.K n (.par [i, j] es) En) := y_par2 (ps_par hc hN hi hj hij hx hy ha hw hs)
theorem z_par3 (i j l : Nat) {nx ny nz : Str} {px py pz pt pt2 : Pos} {kt k2 : Nat} {es : Es} (hN : X.N.Nodup) (ha : PA X [x, y, z] (tA g X.K n es (wE En))) (hi : X.N[i]? = some nx := by rfl) (hj : X.N[j]? = some ny := by rfl) (hl : X.N[l]? = some nz := by rfl) (hij : i ≠ j := by decide) (hil : i ≠ l := by decide) (hjl : j ≠ l := by decide)
    (hx : X.env.scope.names.lookup nx = some .local := by rfl) (hy : X.env.scope.names.lookup ny = some .local := by rfl) (hz : X.env.scope.names.lookup nz = some .local := by rfl)
    (hw : swappedStores [.Tuple [.Name nx px, .Name ny py, .Name nz pz] kt pt] (.Tuple [x, y, z] k2 pt2) X.env = pure (some [nx, ny, nz]) := by rfl) (hs : swapsWithSole [.Tuple [.Name nx px, .Name ny py, .Name nz pz] kt pt] (.Tuple [x, y, z] k2 pt2) pos.line X.env = pure false := by rfl) (hc : X.calm = true := by rfl) :
    PS X (.Assign [.Tuple [.Name nx px, .Name ny py, .Name nz pz] kt pt] (.Tuple [x, y, z] k2 pt2) pos) (tS g X.K n (.par [i, j, l] es) En) := y_par3 (ps_par3 hc hN hi hj hl hij hil hjl hx hy hz ha hw hs)
theorem z_for {tge iter : Expr} {tg : Tg} {it : It} {bs : List Stmt} {b1 : Ss} (hp : PassesOwn (model X.prog X.w) X.A X.env X.xe) (hi : PI X tge iter (tI g X.K n it (wE En))) (hg : PG X tge (gT X.K tg)) (hb : PSs X bs (tSs g X.K n b1 En)) (hc : X.calm = true := by rfl) (hs : ∀ x, foldedSetIterable iter X.env x = pure x := by intro _; rfl) :
    PS X (.For tge iter bs [] pos) (tS g X.K n (.fr tg it b1) En) := y_for hp hc hi hg hb hs
theorem z_fset (f : Nat) {nm : Str} (C : CF g X.K) (ho : PE X x (tE g X.K n o (wE En))) (hv : PE X y (tE g X.K n e (wE En))) (hf : g.tb.fk f = true := by rfl) (hn : g.tb.fld f = nm := by rfl) (hs : swapsWith y (some (.Attribute x nm p2)) pos.line X.env = pure false := by rfl) : PS X (.Assign [.Attribute x nm p2] y pos) (tS g X.K n (.fset o f e) En) := y_fset C hf hn ho hv hs
theorem i_range (hm : X.mg "range" = none) (h : PE X x (tE g X.K n a Zx)) (hg : Gl X "range" := by rfl) (he : starEach [x] X.env = [(false, eval x X.env)] := by rfl) {tg : Expr} : PI X tg (.Call (.Name "range" p) [x] [] pos) (tI g X.K n (.rng a) Zx) := i_rng hg hm (pa_cons h pa_nil he) he
theorem i_range2 (hm : X.mg "range" = none) (h : PE X x (tE g X.K n a Zx)) (h2 : PE X y (tE g X.K n b Zx)) (hg : Gl X "range" := by rfl) (he : starEach [x, y] X.env = [(false, eval x X.env), (false, eval y X.env)] := by rfl) (he2 : starEach [y] X.env = [(false, eval y X.env)] := by rfl) {tg : Expr} : PI X tg (.Call (.Name "range" p) [x, y] [] pos) (tI g X.K n (.rng2 a b) Zx) := i_rng2 hg hm (pa_cons h (pa_cons h2 pa_nil he2) (he.trans (by rw [he2]))) he he2
end
end Z
end
section
set_option Elab.async false
set_option linter.all false
set_option maxRecDepth 100000
set_option maxHeartbeats 4000000
/-! Zq3: keywords, targets of several names. -/
namespace Z
open PySem L2 PyProof.Rows
section
variable {g : Gw} {X : Cx} {n : Nat} {x y z : Expr} {e a b c o : E} {Zx : WX} {pos p p2 q : Pos} {es : Es} {ys : List Expr}
def tK (g : Gw) (K : PySem.W.Frag) (n : Nat) (es : Es) (Zx : WX) : TA := tA g K n es Zx
theorem pkI {X : Cx} {kws : List Keyword} {t t' : TA} (h : PK X kws t) (i : ∀ σ H Q, t' σ H Q → t σ H Q) : PK X kws t' := ⟨fun pos p s σ H Q I q => h.run pos p s σ H Q I (i σ H Q q)⟩
theorem k0 : PK X [] (tA g X.K n .nil Zx) := pkI pk_nil fun σ H Q ⟨W, M, env, hH, S, Er, r⟩ => by
  subst hH
  simp only [evs] at r
  exact Run.okI r (Ext.refl W) S Reps.nil
theorem k1 {nm : Str} {kp : Pos} {kws : List Keyword} (h : PE X x (tE g X.K n e Zx)) (hs : PK X kws (tA g X.K n es Zx)) : PK X (⟨some nm, x, kp⟩ :: kws) (tA g X.K n (.cons e es) Zx) :=
  pkI (pk_cons h hs) fun σ H Q ⟨W, M, env, hH, S, Er, r⟩ => by
    simp only [evs] at r
    refine ⟨W, M, env, hH, S, Er, r.bind fun d M1 v W1 _ X1 S1 R1 r1 => ?_⟩
    refine ⟨W1, M1, env, rfl, S1, Er.mono X1, r1.bind fun ds M2 vs W2 _ X2 S2 R2 r2 => ?_⟩
    exact Run.okI r2 (Ext.refl W2) S2 (Reps.cons (R1.mono X2) R2)
theorem x_callk {fi : Nat} {nm : Str} {ps ks : List Str} {is : List Nat} {kws : List Keyword} (C : CalI X.prog X.w X.K X.mg X.base g n fi nm ps) (Kw : KwI X.K X.mg nm ps ks is) (hr : Room (2 * n + 1) X.A) (hgd : X.A.guards = some []) (tk : Takes X Zx) (ha : PK X kws (tA g X.K n es Zx))
    (hl : is.length = ps.length := by rfl) (hall : (backToKw pos (keywordEach kws X.env)).all (·.1.isSome) = true := by rfl) (hks : (backToKw pos (keywordEach kws X.env)).filterMap (·.1) = ks := by rfl) (gl : Gl X nm := by rfl) (hdb : (nm == ("__debug__" : Str)) = false := by decide)
    (hpl : ((backTo pos (starEach [] X.env)).any (·.1) || (backToKw pos (keywordEach kws X.env)).any (·.1.isNone)) = false := by rfl) : PE X (.Call (.Name nm p) [] kws pos) (tE g X.K n (.callk fi es is) Zx) := by
  obtain ⟨f, fd, F, hm, hk, hb, oc, od, osl, lk⟩ := C.ex
  obtain ⟨gf, gV, hkb, hgv⟩ := Kw.ex f fd oc od osl hm lk
  have h := g_callk0 (pos := pos) (p := p) F (hr.mono (Nat.le_succ _)) hgd tk gl hm hk hkb ha hall hks hdb hpl
  simp only [hgv] at h
  exact s_callk h hl
/-- keywords alone, put in the parameters' sequence -/
theorem kw_mk {K : PySem.W.Frag} {fd : FuncData} {p0 : Str} {ps ks : List Str} {is : List Nat} (h : ∀ (s : Shared) (ws : List Value), (pick is ws).length = (p0 :: ps).length → BindsTo s fd ⟨[], ks.zip ws⟩ ((p0 :: ps).zip (pick is ws))) :
    ∃ gf gV, KBinds K fd (p0 :: ps) ks gf gV ∧ ∀ zs, gV [] zs = pick is zs := by
  refine ⟨fun us ws => if us.length = 0 then pick is ws else [], fun us ws => if us.length = 0 then pick is ws else [], ⟨fun s us ws _ hl => ?_, fun {vs us zs ws} h1 h2 => ?_⟩, fun zs => rfl⟩
  · by_cases hu : us.length = 0
    · have : us = [] := List.eq_nil_of_length_eq_zero hu
      subst this
      exact h s ws hl
    · rw [if_neg hu] at hl; cases hl
  · rw [h1.length]
    by_cases hu : us.length = 0
    · rw [if_pos hu, if_pos hu]
      unfold pick
      clear h
      induction is with
      | nil => exact .nil
      | cons i is ih =>
        rw [List.filterMap_cons, List.filterMap_cons]
        cases q : zs[i]? with
        | none =>
          have : ws[i]? = none := by
            rw [List.getElem?_eq_none_iff] at q ⊢
            rw [← h2.length]; exact q
          simp only [this]; exact ih
        | some z =>
          obtain ⟨u, e1, e2⟩ := h2.get q
          simp only [e1]; exact .cons e2 ih
    · rw [if_neg hu, if_neg hu]; exact .nil
theorem gn_0 : PGs X [] (gAll []) := pgs_nil
theorem gn_1 {xs : List Expr} {is : List Nat} (i : Nat) {nm : Str} (hN : X.N.Nodup) (h : PGs X xs (gAll is)) (hi : X.N[i]? = some nm := by rfl) (hx : Loc X.env.scope nm := by first | exact Or.inl rfl | exact Or.inr rfl) (hf : X.fn nm = true ∨ X.env.scope.names.lookup nm = some .local := by first | exact .inl rfl | exact .inr rfl)
    (hs : (assignEach (.Name nm p :: xs) X.env).map (·.2) = assign (.Name nm p) X.env :: (assignEach xs X.env).map (·.2) := by rfl) : PGs X (.Name nm p :: xs) (gAll (i :: is)) := pgs_cons (pg_name hN hi hx hf) h hs
theorem gt_m {xs : List Expr} {is : List Nat} {k : Nat} (h : PGs X xs (gAll is)) (hc : X.calm = true := by rfl) (hn : (assignEach xs X.env).length = is.length := by rfl) (hst : (assignEach xs X.env).findIdx? (·.1) = none := by rfl) : PG X (.Tuple xs k pos) (gT X.K (.many is)) := pg_tup hc h hn hst
theorem x_asset (h : PE X z (tF g X.K n (.b1 .sset a) Zx)) : PE X z (tE g X.K n (.alloc (.b1 .sset a)) Zx) := peAlloc h (al_of fun _ _ _ _ => b1_al (.inr (.inr rfl)))
theorem x_arev {k : Nat} {p1 p3 : Pos} (ha : PE X x (tE g X.K n a Zx)) : PE X (.Subscript x (.Slice none none (some (.UnaryOp .USub (.Constant (.int 1) k p1) p2)) p3) pos) (tE g X.K n (.alloc (.rev a)) Zx) := peAlloc (s_revF ha) (al_of fun _ _ _ _ => rev_al)
theorem z_dput {En : XK} {i : E} {k : Nat} (hr : Room k X.A) (ho : PE X x (tE g X.K n o (wE En))) (hi : PE X z (tE g X.K n i (wE En))) (hv : PE X y (tE g X.K n e (wE En))) (hs : swapsWith y (some (.Subscript x z p2)) pos.line X.env = pure false := by rfl) : PS X (.Assign [.Subscript x z p2] y pos) (tS g X.K n (.dput o i e) En) := y_dput (hu1 hr) ho hi hv hs
end
end Z

namespace Z
open PySem L2 PyProof.Rows
/-- the goal that the head leaves, from the interpreter's answer -/
theorem walk_Z {l : PySem.W.OpenLaw} {m k n fi : Nat} {q : Program} {loose : List Str} {XP : (Str → Option Value) → Heap → Prop} {YP : World → Heap → Prop} {d : DefRec} {K : Params → PySem.W.Frag} {x : Str} (gw : (Nat → Addr) → Gw)
    (hn : l.most = some m) (hn2 : m ≤ sizeLine) (hdf : d.params.defaults = []) (hr : Room k callerA) (hi : importsNone q = true)
    (hY : ∀ (w : World) (h : Heap), YP w h → (K w.params).In h)
    (F : ∀ (w : World) (mg : Str → Option Value) (fa : Addr) (h : Heap), (K w.params).In h → h.Ns mainGlobals mg → mg d.name = some (.ref fa) →
      ∃ (ca : Nat → Addr) (fd : FuncData), (∀ (s : Shared) (u : Value), BindsTo s fd ⟨[u], []⟩ [(x, u)]) ∧
        ∀ base : Heap, (K w.params).In base → base.Ns mainGlobals mg → (∃ mm, base.Ns sysModules mm) → FnG l.prog w (K w.params) mg base k fa fd [x] (spI (gw ca) (K w.params) n fi 1))
    (hsp : ∀ (ca : Nat → Addr) (ns : List Int), ns.length ≤ m → ∃ Mf, clN (gw ca) n fi [.scr ns] [] = .ok (.bl true) Mf) :
    PySem.W.WalkO q loose XP YP l.row.toRowW d [] (fun f vs => PySem.call f vs) := by
  refine Att.attach_call hn hdf fun w s₀ s₁ mg mb fa o pm cd doc a vs ns G Y ho hd hcd hmg hobj hints hlen hg => ?_
  have KX := hY w _ Y
  obtain ⟨ca, fd, hb, hF⟩ := F w mg fa _ KX G.T.g hmg
  obtain ⟨Mf, hc⟩ := hsp ca ns hlen
  obtain ⟨mm, hmm⟩ := (G.T.seer hi).mods
  exact law_callS KX G.T.g G.T.b G.T.builtins G.T.nolimit hg hobj hints (Nat.le_trans hlen hn2) hr ⟨mm, hmm.1⟩ hF hb fun H hS => sp_law hc hS
end Z

namespace Z
open PySem L2 PyProof.Rows
theorem kit_ct {K : PySem.W.Frag} {C : Addr} {T : String} {b : Bool} (h : PySem.W.mroIn K C (.type T) = some b) (hk : PySem.W.kitMeta T = true) : PySem.W.kitOne K (.ref C) (.type T) = some b := by
  unfold PySem.W.kitOne
  have e : (Value.ref C == Value.type T) = false := by rfl
  rw [if_neg (by rw [e]; exact Bool.false_ne_true)]
  show (if PySem.W.kitMeta T = true then PySem.W.subIn K (.ref C) (.type T) else none) = some b
  rw [if_pos hk]
  exact h
theorem kit_tc {K : PySem.W.Frag} {C : Addr} {T : String} (h1 : PySem.W.isClsIn K C = true) (h2 : PySem.W.typeIn K (.ref C) = some (.type "type")) (h3 : (fastBuiltinMro T).map (·.contains (.ref C)) = some false) : PySem.W.kitOne K (.type T) (.ref C) = some false := by
  unfold PySem.W.kitOne
  have e : (Value.type T == Value.ref C) = false := by rfl
  rw [if_neg (by rw [e]; exact Bool.false_ne_true)]
  have e2 : ((PySem.W.clsIn K C).isSome && PySem.W.typeIn K (.ref C) == some (.type "type")) = true := by
    have h1' : (PySem.W.clsIn K C).isSome = true := h1
    rw [h1', h2] <;> rfl
  show (if ((PySem.W.clsIn K C).isSome && PySem.W.typeIn K (.ref C) == some (.type "type")) = true then PySem.W.subIn K (.type T) (.ref C) else none) = some false
  rw [if_pos e2]
  exact h3
theorem kit_cc {K : PySem.W.Frag} {C : Addr} : PySem.W.kitOne K (.ref C) (.ref C) = some true := by
  unfold PySem.W.kitOne
  rw [if_pos (by simp)]
theorem kit_c2 {K : PySem.W.Frag} {C C2 : Addr} {b : Bool} (h1 : PySem.W.isClsIn K C2 = true) (h2 : PySem.W.typeIn K (.ref C2) = some (.type "type")) (h : PySem.W.mroIn K C (.ref C2) = some b) (hne : (C == C2) = false) : PySem.W.kitOne K (.ref C) (.ref C2) = some b := by
  unfold PySem.W.kitOne
  have e : ¬ (Value.ref C == Value.ref C2) = true := by
    intro z
    have : Value.ref C = Value.ref C2 := beq_iff_eq.mp z
    injection this with this
    rw [this] at hne
    simp at hne
  rw [if_neg e]
  have e2 : ((PySem.W.clsIn K C2).isSome && PySem.W.typeIn K (.ref C2) == some (.type "type")) = true := by
    have h1' : (PySem.W.clsIn K C2).isSome = true := h1
    rw [h1', h2] <;> rfl
  show (if ((PySem.W.clsIn K C2).isSome && PySem.W.typeIn K (.ref C2) == some (.type "type")) = true then PySem.W.subIn K (.ref C) (.ref C2) else none) = some b
  rw [if_pos e2]
  exact h
end Z
end
section
set_option Elab.async false
set_option linter.all false
set_option maxRecDepth 100000
set_option maxHeartbeats 2000000
/-! Zp: plain laws of the interpreter: no machine in sight. -/
namespace Z
open PySem (PyData)
section
variable {G : Gt} {cl : Nat → List D → Mem → R D}
/-! ### lists -/
theorem compL_map {f : D → Mem → R (Option D)} {h : D → D} {M : Mem} : ∀ {xs : List D}, (∀ x ∈ xs, f x M = .ok (some (h x)) M) → compL f xs M = .ok (xs.map h) M
  | [], _ => rfl
  | x :: xs, k => by
    unfold compL
    rw [k x List.mem_cons_self]
    simp only
    rw [compL_map fun y hy => k y (List.mem_cons_of_mem _ hy)]
    rfl
theorem compL_filter {f : D → Mem → R (Option D)} {p : D → Bool} {h : D → D} {M : Mem} : ∀ {xs : List D}, (∀ x ∈ xs, f x M = .ok (if p x = true then some (h x) else none) M) → compL f xs M = .ok ((xs.filter p).map h) M
  | [], _ => rfl
  | x :: xs, k => by
    have ih := compL_filter (xs := xs) fun y hy => k y (List.mem_cons_of_mem _ hy)
    unfold compL
    rw [k x List.mem_cons_self]
    by_cases hp : p x = true
    · simp only [if_pos hp]
      rw [ih, List.filter_cons, if_pos hp]; rfl
    · simp only [if_neg hp]
      rw [ih, List.filter_cons, if_neg hp]
/-- the same over data of one's own: the items are enc b -/
theorem compL_enc {α β : Type} {f : D → Mem → R (Option D)} {enc : α → D} {dec : β → D} {h : α → β} {M : Mem} {bs : List α} (k : ∀ b ∈ bs, f (enc b) M = .ok (some (dec (h b))) M) : compL f (bs.map enc) M = .ok ((bs.map h).map dec) M := by
  induction bs with
  | nil => rfl
  | cons b bs ih =>
    rw [List.map_cons]
    unfold compL
    rw [k b List.mem_cons_self]
    simp only
    rw [ih fun c hc => k c (List.mem_cons_of_mem _ hc)]
    rfl
theorem compL_encF {α β : Type} {f : D → Mem → R (Option D)} {enc : α → D} {dec : β → D} {p : α → Bool} {h : α → β} {M : Mem} {bs : List α} (k : ∀ b ∈ bs, f (enc b) M = .ok (if p b = true then some (dec (h b)) else none) M) : compL f (bs.map enc) M = .ok (((bs.filter p).map h).map dec) M := by
  induction bs with
  | nil => rfl
  | cons b bs ih =>
    rw [List.map_cons]
    unfold compL
    have ih' := ih fun c hc => k c (List.mem_cons_of_mem _ hc)
    rw [k b List.mem_cons_self]
    by_cases hp : p b = true
    · simp only [if_pos hp]
      rw [ih', List.filter_cons, if_pos hp]; rfl
    · simp only [if_neg hp]
      rw [ih', List.filter_cons, if_neg hp]
theorem mapO_enc {α β γ : Type} {f : α → Option β} {enc : γ → α} {dec : γ → β} (h : ∀ c, f (enc c) = some (dec c)) : ∀ cs : List γ, mapO f (cs.map enc) = some (cs.map dec)
  | [] => rfl
  | c :: cs => by simp only [List.map_cons, mapO, h, mapO_enc h cs]
theorem mapO_int (ns : List Int) : mapO asInt (ns.map D.int) = some ns := by
  have := mapO_enc (f := asInt) (enc := D.int) (dec := id) (fun c => rfl) ns
  rwa [List.map_id] at this
theorem mapO_blD (ns : List Bool) : mapO asBl (ns.map D.bl) = some ns := by
  have := mapO_enc (f := asBl) (enc := D.bl) (dec := id) (fun c => rfl) ns
  rwa [List.map_id] at this
def rowZ (ns : List Int) : D := .lst (ns.map .int)
theorem mapO_row (nss : List (List Int)) : mapO litInts (nss.map rowZ) = some nss := by
  have := mapO_enc (f := litInts) (enc := rowZ) (dec := id) (fun c => mapO_int c) nss
  rwa [List.map_id] at this
/-! ### plain data of rows of ints -/
def rowP (ns : List Int) : PyData := .list (ns.map .int)
theorem py_row {M : Mem} {n : Nat} (ns : List Int) : py M (n + 2) (rowZ ns) = some (rowP ns) := by
  show (mapO (py M (n + 1)) (ns.map D.int)).map PyData.list = _
  rw [mapO_enc (f := py M (n + 1)) (enc := D.int) (dec := PyData.int) (fun c => rfl) ns]
  rfl
theorem eqvAll_ints : ∀ a b : List Int, PyData.eqvAll (a.map .int) (b.map .int) = decide (a = b)
  | [], [] => by simp [PyData.eqvAll]
  | [], _ :: _ => by simp [PyData.eqvAll]
  | _ :: _, [] => by simp [PyData.eqvAll]
  | x :: a, y :: b => by
    simp only [List.map_cons, PyData.eqvAll, PyData.eqv]
    rw [eqvAll_ints a b]
    by_cases h : x = y <;> by_cases h2 : a = b <;> simp [h, h2]
theorem eqv_row (a b : List Int) : PyData.eqv (rowP a) (rowP b) = decide (a = b) := by
  simp only [rowP, PyData.eqv]
  exact eqvAll_ints a b
theorem eqvAll_rows : ∀ a b : List (List Int), PyData.eqvAll (a.map rowP) (b.map rowP) = decide (a = b)
  | [], [] => by simp [PyData.eqvAll]
  | [], _ :: _ => by simp [PyData.eqvAll]
  | _ :: _, [] => by simp [PyData.eqvAll]
  | x :: a, y :: b => by
    simp only [List.map_cons, PyData.eqvAll]
    rw [eqv_row, eqvAll_rows a b]
    by_cases h : x = y <;> by_cases h2 : a = b <;> simp [h, h2]
theorem canLay_ints : ∀ a : List Int, PyData.canLayAll0 (a.map .int) = true
  | [] => by simp [PyData.canLayAll0]
  | x :: a => by simp only [List.map_cons, PyData.canLayAll0, PyData.canLay0, canLay_ints a]; rfl
theorem canLay_row (a : List Int) : (rowP a).canLay0 = true := by simp only [rowP, PyData.canLay0]; exact canLay_ints a
theorem canLay_rows : ∀ a : List (List Int), PyData.canLayAll0 (a.map rowP) = true
  | [] => by simp [PyData.canLayAll0]
  | x :: a => by simp only [List.map_cons, PyData.canLayAll0, canLay_row, canLay_rows a]; rfl
theorem dep_ints : ∀ a : List Int, PyData.depthAll (a.map .int) = 0
  | [] => by simp [PyData.depthAll]
  | x :: a => by simp only [List.map_cons, PyData.depthAll, PyData.depth, dep_ints a]; rfl
theorem dep_row (a : List Int) : (rowP a).depth = 1 := by simp only [rowP, PyData.depth, dep_ints]
theorem dep_rows : ∀ a : List (List Int), PyData.depthAll (a.map rowP) ≤ 1
  | [] => by simp [PyData.depthAll]
  | x :: a => by simp only [List.map_cons, PyData.depthAll, dep_row]; have := dep_rows a; omega
theorem shaped_row (a : List Int) : PySem.SeqAt.shaped (rowP a) = true := by
  unfold PySem.SeqAt.shaped
  rw [canLay_row, dep_row]; rfl
theorem shaped_rows (a : List (List Int)) : PySem.SeqAt.shaped (.list (a.map rowP)) = true := by
  unfold PySem.SeqAt.shaped
  have h : PyData.canLay0 (.list (a.map rowP)) = true := by simp only [PyData.canLay0]; exact canLay_rows a
  have h2 : PyData.depth (.list (a.map rowP)) ≤ 64 := by simp only [PyData.depth]; have := dep_rows a; omega
  rw [h, decide_eq_true h2]; rfl
theorem shaped_ints (a : List Int) : PySem.SeqAt.shaped (.list (a.map .int)) = true := shaped_row a
theorem shaped_int (a : Int) : PySem.SeqAt.shaped (.int a) = true := by
  unfold PySem.SeqAt.shaped
  simp [PyData.canLay0, PyData.depth]
theorem eqD_row {M : Mem} (a b : List Int) : eqD M (rowZ a) (rowZ b) = some (decide (a = b)) := by
  show eqDeep M (rowZ a) (rowZ b) = _
  unfold eqDeep
  rw [show depthMax = 14 + 2 from rfl, py_row, py_row]
  simp only [shaped_row, and_self, if_true, eqv_row]
theorem eqD_int {M : Mem} (a b : Int) : eqD M (.int a) (.int b) = some (decide (a = b)) := by
  show (if PySem.SeqAt.shaped (.int a) = true ∧ PySem.SeqAt.shaped (.int b) = true then some (PyData.eqv (.int a) (.int b)) else none) = _
  rw [shaped_int, shaped_int]
  simp only [and_self, if_true, PyData.eqv]
  by_cases h : a = b <;> simp [h]
theorem inD_lst {M : Mem} (x : D) (ys : List D) : inD M x (.lst ys) = (match py M depthMax x, mapO (py M depthMax) ys with
    | some d, some ds => if PySem.SeqAt.shaped d = true ∧ PySem.SeqAt.shaped (.list ds) = true then some (ds.any fun z => PyData.eqv z d) else none
    | _, _ => none) := rfl
/-- row in rows -/
theorem inD_rows {M : Mem} (a : List Int) (bs : List (List Int)) : inD M (rowZ a) (.lst (bs.map rowZ)) = some (decide (a ∈ bs)) := by
  rw [inD_lst, show depthMax = 14 + 2 from rfl, py_row, mapO_enc (f := py M (14 + 2)) (enc := rowZ) (dec := rowP) (fun c => py_row c) bs]
  simp only [shaped_row, shaped_rows, and_self, if_true]
  congr 1
  induction bs with
  | nil => rfl
  | cons b bs ih =>
    rw [List.map_cons, List.any_cons, ih, eqv_row]
    by_cases h : a = b
    · subst h; simp
    · have h' : ¬ b = a := fun e => h e.symm
      by_cases h2 : a ∈ bs <;> simp [h, h', h2]
theorem inD_ints {M : Mem} (a : Int) (bs : List Int) : inD M (.int a) (.lst (bs.map .int)) = some (decide (a ∈ bs)) := by
  have e : mapO (py M depthMax) (bs.map D.int) = some (bs.map PyData.int) := mapO_enc (f := py M depthMax) (enc := D.int) (dec := PyData.int) (fun c => rfl) bs
  rw [inD_lst, e]
  show (if PySem.SeqAt.shaped (.int a) = true ∧ PySem.SeqAt.shaped (.list (bs.map .int)) = true then some ((bs.map PyData.int).any fun z => PyData.eqv z (.int a)) else none) = _
  rw [shaped_int, shaped_ints]
  simp only [and_self, if_true]
  congr 1
  induction bs with
  | nil => rfl
  | cons b bs ih =>
    rw [List.map_cons, List.any_cons, ih (mapO_enc (f := py M depthMax) (enc := D.int) (dec := PyData.int) (fun c => rfl) bs)]
    simp only [PyData.eqv]
    by_cases h : a = b
    · subst h; simp
    · have h' : ¬ b = a := fun e => h e.symm
      by_cases h2 : a ∈ bs <;> simp [h, h', h2]
theorem inD_ref {M : Mem} {j : Nat} {ys : List D} (x : D) (h : M[j]? = some (.lst ys)) : inD M x (.ref j) = inD M x (.lst ys) := by
  simp only [inD, h]
/-! ### the sorted ones -/
theorem sortD_ints {M : Mem} (ns : List Int) : sortD M (ns.map .int) = some ((isort leI ns).map .int) := by
  unfold sortD
  rw [mapO_int]
theorem sortD_rows {M : Mem} (nss : List (List Int)) : sortD M (nss.map rowZ) = some ((isort lexLe nss).map rowZ) := by
  unfold sortD
  cases nss with
  | nil => rfl
  | cons a nss =>
    have : mapO asInt ((a :: nss).map rowZ) = none := rfl
    rw [this, mapO_row]
    rfl
end
end Z
end
section
set_option Elab.async false
set_option linter.all false
set_option maxRecDepth 100000
set_option maxHeartbeats 2000000
/-! Zp1: the interpreter's equations, one by one (all but comprehensions and loops). -/
namespace Z
section
variable {G : Gt} {cl : Nat → List D → Mem → R D} {env : Env} {M M' : Mem} {a b c e o : E} {es : Es} {s : S} {ss r : Ss}
theorem q_var (i : Nat) : ev G cl (.var i) env M = R.of ((env[i]?).bind id) M := rfl
theorem q_lit (d : D) : ev G cl (.lit d) env M = .ok d M := rfl
theorem q_glob (k : Nat) : ev G cl (.glob k) env M = .ok (G.gl k) M := rfl
theorem q_tup : ev G cl (.tup es) env M = (evs G cl es env M).bind fun xs M => .ok (.tup xs) M := rfl
theorem q_lst : ev G cl (.lst es) env M = (evs G cl es env M).bind fun xs M => .ok (.lst xs) M := rfl
theorem q_d0 : ev G cl .dct0 env M = .ok (.dct [] []) M := rfl
theorem q_bin (op : Bop) : ev G cl (.bin op a b) env M = (ev G cl a env M).bind fun x M => (ev G cl b env M).bind fun y M => R.of (bop op M x y) M := rfl
theorem q_inv : ev G cl (.inv a) env M = (ev G cl a env M).bind fun x M => R.of ((asInt x).map fun i => .int (PySem.Builtin.bitNot i)) M := rfl
theorem q_neg : ev G cl (.neg a) env M = (ev G cl a env M).bind fun x M => R.of ((asInt x).map fun i => .int (-i)) M := rfl
theorem q_cmp (op : Cop) : ev G cl (.cmp op a b) env M = (ev G cl a env M).bind fun x M => (ev G cl b env M).bind fun y M => R.of ((cop op M x y).map .bl) M := rfl
theorem q_isN (ng : Bool) : ev G cl (.isN ng a) env M = (ev G cl a env M).bind fun x M => .ok (.bl (xor ng (isNon x))) M := rfl
theorem q_isB (ng k : Bool) : ev G cl (.isB ng k a) env M = (ev G cl a env M).bind fun x M => R.of ((asBl x).map fun j => .bl (xor ng (j == k))) M := rfl
theorem q_chn (o1 o2 : Cop) : ev G cl (.chn o1 o2 a b c) env M = (ev G cl a env M).bind fun x M => (ev G cl b env M).bind fun y M =>
      (R.of (cop o1 M x y) M).bind fun k M => if k = true then (ev G cl c env M).bind fun z M => R.of ((cop o2 M y z).map .bl) M else .ok (.bl false) M := rfl
theorem q_and : ev G cl (.and a b) env M = (tst (ev G cl a env M)).bind fun k M => if k = true then ev G cl b env M else .ok (.bl false) M := rfl
theorem q_or : ev G cl (.or a b) env M = (tst (ev G cl a env M)).bind fun k M => if k = true then .ok (.bl true) M else ev G cl b env M := rfl
theorem q_not : ev G cl (.not a) env M = (tst (ev G cl a env M)).bind fun k M => .ok (.bl (!k)) M := rfl
theorem q_ite : ev G cl (.ite c a b) env M = (tst (ev G cl c env M)).bind fun k M => if k = true then ev G cl a env M else ev G cl b env M := rfl
theorem q_b1 (f : B1) : ev G cl (.b1 f a) env M = (ev G cl a env M).bind fun x M => R.of (b1 f M x) M := rfl
theorem q_b2 (f : B2) : ev G cl (.b2 f a b) env M = (ev G cl a env M).bind fun x M => (ev G cl b env M).bind fun y M => R.of (b2 f x y) M := rfl
theorem q_isin (k : Kd) : ev G cl (.isin k a) env M = (ev G cl a env M).bind fun x M => R.of ((isin M k x).map .bl) M := rfl
theorem q_call (f : Nat) : ev G cl (.call f es) env M = (evs G cl es env M).bind fun xs M => cl f xs M := rfl
theorem q_callk (f : Nat) (is : List Nat) : ev G cl (.callk f es is) env M = (evs G cl es env M).bind fun xs M => (R.of (mapO (fun i => xs[i]?) is) M).bind fun ys M => cl f ys M := rfl
theorem q_mk (c : Nat) : ev G cl (.mk c es) env M = (evs G cl es env M).bind fun xs M =>
      (cl (G.ini c) (.ref M.length :: xs) (M ++ [.ins c []])).bind fun r M' => match r with | .non => .ok (.ref M.length) M' | _ => .no := rfl
theorem q_fld (f : Nat) : ev G cl (.fld f o) env M = (ev G cl o env M).bind fun x M => match x with
      | .ref j => match M[j]? with
        | some (.ins _ fs) => R.of (lookN f fs) M
        | _ => .no
      | _ => .no := rfl
theorem q_idx : ev G cl (.idx a b) env M = (ev G cl a env M).bind fun x M => (ev G cl b env M).bind fun y M => R.of (idxD M x y) M := rfl
theorem q_slc (lo hi : Oe) : ev G cl (.slc a lo hi) env M = (ev G cl a env M).bind fun x M => ((evo G cl lo env M).bind fun l M => R.of (optI l) M).bind fun l M =>
      ((evo G cl hi env M).bind fun h M => R.of (optI h) M).bind fun h M => R.of (slcD M x l h) M := rfl
theorem q_rev : ev G cl (.rev a) env M = (ev G cl a env M).bind fun x M => R.of (revD M x) M := rfl
theorem q_app : ev G cl (.app o e) env M = (ev G cl o env M).bind fun x M => match x with
      | .ref j => if isLst M j = true then (ev G cl e env M).bind fun y M => match M[j]? with
        | some (.lst xs) => if xs.length < PySem.sizeLine then .ok .non (M.set j (.lst (xs ++ [y]))) else .no
        | _ => .no
        else .no
      | _ => .no := rfl
theorem q_ext : ev G cl (.ext o e) env M = (ev G cl o env M).bind fun x M => match x with
      | .ref j => if isLst M j = true then (ev G cl e env M).bind fun y M => match M[j]?, asL M y with
        | some (.lst xs), some ys => if xs.length + ys.length ≤ PySem.sizeLine then .ok .non (M.set j (.lst (xs ++ ys))) else .no
        | _, _ => .no
        else .no
      | _ => .no := rfl
theorem q_pop : ev G cl (.pop o) env M = (ev G cl o env M).bind fun x M => match x with
      | .ref j => match M[j]? with
        | some (.lst xs) => match xs[xs.length - 1]? with
          | some y => .ok y (M.set j (.lst xs.dropLast))
          | none => .no
        | _ => .no
      | _ => .no := rfl
theorem q_alloc : ev G cl (.alloc e) env M = (ev G cl e env M).bind fun x M => match x with
      | .lst xs => .ok (.ref M.length) (M ++ [.lst xs])
      | .dct ks vs => .ok (.ref M.length) (M ++ [.dic ks vs])
      | _ => .no := rfl
theorem q_lrng (tp : Bool) (it : It) : ev G cl (.lrng tp it) env M = (evi G cl it env M).bind fun xs M => if xs.length < PySem.sizeLine then .ok (if tp = true then .tup xs else .lst xs) M else .no := rfl
theorem q_0 : evs G cl .nil env M = .ok [] M := rfl
theorem q_1 : evs G cl (.cons e es) env M = (ev G cl e env M).bind fun x M => (evs G cl es env M).bind fun xs M => .ok (x :: xs) M := rfl
theorem q_on : evo G cl .none env M = .ok none M := rfl
theorem q_os : evo G cl (.some e) env M = (ev G cl e env M).bind fun x M => .ok (some x) M := rfl
theorem q_seq : evi G cl (.seq e) env M = (ev G cl e env M).bind fun x M => R.of (seqD x) M := rfl
theorem q_rng : evi G cl (.rng a) env M = (ev G cl a env M).bind fun x M => R.of (rng1D x) M := rfl
theorem q_tstb (k : Bool) : tst (.ok (.bl k) M) = .ok k M := rfl
theorem q_nil : exb G cl .nil env M = .ok (.nx env) M := rfl
theorem q_cons : exb G cl (.cons s r) env M = (exs G cl s env M).bind fun f M => match f with
      | .nx env => exb G cl r env M
      | f => .ok f M := rfl
theorem q_ex : exs G cl (.ex e) env M = (ev G cl e env M).bind fun _ M => .ok (.nx env) M := rfl
theorem q_ret : exs G cl (.ret e) env M = (ev G cl e env M).bind fun x M => .ok (.rt x) M := rfl
theorem q_asg (t : T) : exs G cl (.asg t e) env M = (ev G cl e env M).bind fun x M => (asg G cl t x env M).bind fun env M => .ok (.nx env) M := rfl
theorem q_nm (i : Nat) (x : D) : asg G cl (.nm i) x env M = .ok (env.set i (some x)) M := rfl
theorem q_par (is : List Nat) : exs G cl (.par is es) env M = (evs G cl es env M).bind fun xs M => (R.of (setAll is xs env) M).bind fun env M => .ok (.nx env) M := rfl
theorem q_ifs (x y : Ss) : exs G cl (.ifs c x y) env M = (tst (ev G cl c env M)).bind fun k M => if k = true then exb G cl x env M else exb G cl y env M := rfl
theorem q_fr (t : Tg) (it : It) (x : Ss) : exs G cl (.fr t it x) env M = (evi G cl it env M).bind fun xs M => loopF t (fun env M => exb G cl x env M) xs env M := rfl
theorem q_whl (x : Ss) : exs G cl (.whl c x) env M = loopW (fun env M => tst (ev G cl c env M)) (fun env M => exb G cl x env M) fuelW env M := rfl
theorem q_fset (f : Nat) : exs G cl (.fset o f e) env M = (ev G cl e env M).bind fun y M => (ev G cl o env M).bind fun x M => match x with
      | .ref j => match M[j]? with
        | some (.ins c fs) => if fs.length < 100 then .ok (.nx env) (M.set j (.ins c (putN f y fs))) else .no
        | _ => .no
      | _ => .no := rfl
theorem q_frz (i : Nat) : exs G cl (.frz i) env M = (match (env[i]?).bind id with
      | some (.ref j) => match M[j]? with
        | some (.lst xs) => .ok (.nx (env.set i (some (.lst xs)))) (M.set j .dead)
        | _ => .ok (.nx env) M
      | _ => .ok (.nx env) M) := rfl
/-! comprehensions -/
theorem e_map {tg : Tg} {it : It} {own : List Nat} {xs : List D} {h : D → D} (hi : evi G cl it env M = .ok xs M) (hl : xs.length < PySem.sizeLine)
    (hb : ∀ x ∈ xs, ∃ env', bindT tg x (wipeE env own) = some env' ∧ ev G cl e env' M = .ok (h x) M) : ev G cl (.cmpr e tg it .none own) env M = .ok (.lst (xs.map h)) M := by
  simp only [ev]
  rw [hi]
  simp only [R.bind_ok]
  rw [compL_map (h := h) (M := M)]
  · simp only [R.bind_ok, if_pos hl]
  · intro x hx
    obtain ⟨env', h1, h2⟩ := hb x hx
    rw [h1]
    simp only [h2, R.bind_ok]
theorem e_filter {tg : Tg} {it : It} {own : List Nat} {xs : List D} {p : D → Bool} {h : D → D} (hi : evi G cl it env M = .ok xs M) (hl : xs.length < PySem.sizeLine)
    (hb : ∀ x ∈ xs, ∃ env', bindT tg x (wipeE env own) = some env' ∧ tst (ev G cl c env' M) = .ok (p x) M ∧ (p x = true → ev G cl e env' M = .ok (h x) M)) : ev G cl (.cmpr e tg it (.some c) own) env M = .ok (.lst ((xs.filter p).map h)) M := by
  simp only [ev]
  rw [hi]
  simp only [R.bind_ok]
  rw [compL_filter (p := p) (h := h) (M := M)]
  · simp only [R.bind_ok, if_pos hl]
  · intro x hx
    obtain ⟨env', h1, h2, h3⟩ := hb x hx
    rw [h1]
    simp only [h2, R.bind_ok]
    by_cases hp : p x = true
    · rw [if_pos hp, if_pos hp, h3 hp]; rfl
    · rw [if_neg hp, if_neg hp]
end
end Z
end
section
set_option Elab.async false
set_option linter.all false
set_option maxRecDepth 100000
set_option maxHeartbeats 2000000
/-! Zp2: the defs that all the laws share, as the interpreter runs them. -/
namespace Z
open PySem (PyData sizeLine)
def endR (r : R Fl) : R D := r.bind fun fl M => match fl with
  | .rt d => .ok d M
  | .nx _ => .ok .non M
  | _ => .no
theorem endR_rt (d : D) (M : Mem) : endR (.ok (.rt d) M) = .ok d M := rfl
theorem endR_nx (env : Env) (M : Mem) : endR (.ok (.nx env) M) = .ok .non M := rfl
section
variable {G : Gt} {fns : Nat → Option Fn} {n : Nat} {M : Mem}
theorem callI_b {f : Nat} {fn : Fn} {ds : List D} (h : fns f = some fn) (env : Env) (hl : ds.length = fn.ar := by rfl) (he : ds.map some ++ List.replicate (fn.sl - ds.length) none = env := by rfl) : callI G fns (n + 1) f ds M = endR (exb G (callI G fns n) fn.body env M) := by
  simp only [callI, h]
  rw [if_pos hl, ← he]
  rfl
theorem sz_of {α : Type} {xs : List α} (h : xs.length ≤ 4000) : xs.length < sizeLine := by rw [PySem.sizeLine_eq]; omega
/-! ### is_integer, is_count, is_list -/
def fIsInt : Fn := ⟨1, 1, (.cons (.ret (.and (.isin .int (.var 0)) (.not (.isin .bool (.var 0))))) .nil)⟩
def noRef : D → Bool
  | .ref _ => false
  | _ => true
def isIntB : D → Bool
  | .int _ => true
  | _ => false
theorem run_isInt {f : Nat} (h : fns f = some fIsInt) (d : D) (hd : noRef d = true) : callI G fns (n + 1) f [d] M = .ok (.bl (isIntB d)) M := by
  rw [callI_b h [some d]]
  cases d <;> first | rfl | (simp [noRef] at hd)
def fIsCount (i : Nat) : Fn := ⟨1, 1, (.cons (.ret (.and (.call i (.cons (.var 0) .nil)) (.cmp .ge (.var 0) (.lit (.int 0))))) .nil)⟩
def isCountB : D → Bool
  | .int i => decide (0 ≤ i)
  | _ => false
theorem run_isCount {f i : Nat} (h : fns f = some (fIsCount i)) (hi : fns i = some fIsInt) (d : D) (hd : noRef d = true) : callI G fns (n + 2) f [d] M = .ok (.bl (isCountB d)) M := by
  rw [callI_b h [some d]]
  have e := run_isInt (G := G) (n := n) (M := M) hi d hd
  cases d <;> first | (simp [noRef] at hd; done) | (simp [fIsCount, q_var, q_lit, q_glob, q_tup, q_lst, q_d0, q_bin, q_inv, q_neg, q_cmp, q_isN, q_isB, q_chn, q_and, q_or, q_not, q_ite, q_b1, q_b2, q_isin, q_call, q_callk, q_mk, q_fld, q_idx, q_slc, q_rev, q_app, q_ext, q_pop, q_alloc, q_lrng, q_0, q_1, q_on, q_os, q_seq, q_rng, q_tstb, q_nil, q_cons, q_ex, q_ret, q_asg, q_nm, q_par, q_ifs, q_fset, q_frz, R.bind_ok, R.bind_no, R.of_some, List.getElem?_cons_zero, List.getElem?_cons_succ, Option.bind_some, id_eq, Option.map_some, List.set_cons_zero, List.set_cons_succ, if_true, Bool.not_true, Bool.not_false, Bool.false_eq_true, if_false, endR_rt, endR_nx, Option.some.injEq, e, isIntB, isCountB, cop])
def fIsList : Fn := ⟨1, 1, (.cons (.ret (.isin .listtuple (.var 0))) .nil)⟩
def isListB : D → Bool
  | .lst _ | .scr _ | .tup _ => true
  | _ => false
theorem run_isList {f : Nat} (h : fns f = some fIsList) (d : D) (hd : noRef d = true) : callI G fns (n + 1) f [d] M = .ok (.bl (isListB d)) M := by
  rw [callI_b h [some d]]
  cases d <;> first | rfl | (simp [noRef] at hd)
end
end Z
end
section
set_option Elab.async false
set_option linter.all false
set_option maxRecDepth 100000
set_option maxHeartbeats 2000000
/-! Zp3: lots, bits, kinds. -/
namespace Z
open PySem (PyData sizeLine)
section
variable {G : Gt} {fns : Nat → Option Fn} {n : Nat} {M : Mem}
theorem all_bl {M : Mem} (bs : List Bool) : b1 .all M (.lst (bs.map D.bl)) = some (.bl (bs.all id)) := by
  simp only [b1, asL, mapO_blD]
  rfl
theorem any_bl {M : Mem} (bs : List Bool) : b1 .any M (.lst (bs.map D.bl)) = some (.bl (bs.any id)) := by
  simp only [b1, asL, mapO_blD]
  rfl
theorem all_map {α : Type} {M : Mem} (p : α → Bool) (xs : List α) : b1 .all M (.lst (xs.map fun x => D.bl (p x))) = some (.bl (xs.all p)) := by
  have := all_bl (M := M) (xs.map p)
  rw [List.map_map] at this
  rw [show (xs.map fun x => D.bl (p x)) = xs.map (D.bl ∘ p) from rfl, this, List.all_map]
  rfl
/-- the items of a list or a tuple -/
def seqB : D → Option (List D)
  | .lst xs | .tup xs => some xs
  | _ => none
def inR (s : Int) : D → Bool
  | .int i => decide (0 ≤ i) && decide (i < s)
  | _ => false
def fIsLot (iL iC : Nat) : Fn := ⟨2, 3, (.cons (.ifs (.or (.not (.call iL (.cons (.var 1) .nil))) (.not (.b1 .all (.cmpr (.and (.call iC (.cons (.var 2) .nil)) (.cmp .lt (.var 2) (.var 0))) (.one 2) (.seq (.var 1)) .none [2])))) (.cons (.ret (.lit (.bl false))) .nil) .nil) (.cons (.ret (.cmp .eq (.b1 .len (.b1 .sset (.var 1))) (.b1 .len (.var 1)))) .nil))⟩
def intsOf (xs : List D) : List Int := xs.filterMap asInt
def lotB (s : Int) (xs : List D) : Bool := xs.all (inR s) && decide ((intsOf xs).Nodup)
theorem ints_all {s : Int} : ∀ {xs : List D}, xs.all (inR s) = true → xs = (intsOf xs).map D.int ∧ ∀ i ∈ intsOf xs, 0 ≤ i ∧ i < s
  | [], _ => ⟨rfl, fun i hi => by simp [intsOf] at hi⟩
  | x :: xs, h => by
    rw [List.all_cons, Bool.and_eq_true] at h
    obtain ⟨h1, h2⟩ := ints_all h.2
    cases x with
    | int i =>
      have hi : 0 ≤ i ∧ i < s := by simpa [inR] using h.1
      have e : intsOf (.int i :: xs) = i :: intsOf xs := rfl
      rw [e]
      refine ⟨by rw [List.map_cons, ← h1], fun j hj => ?_⟩
      rcases List.mem_cons.mp hj with rfl | hj
      · exact hi
      · exact h2 j hj
    | _ => simp [inR] at h
theorem dedup_id {α : Type} [DecidableEq α] : ∀ {l : List α}, l.Nodup → dedup l = l
  | [], _ => rfl
  | x :: l, h => by
    obtain ⟨h1, h2⟩ := List.nodup_cons.mp h
    unfold dedup
    rw [if_neg h1, dedup_id h2]
theorem dedup_len {α : Type} [DecidableEq α] : ∀ l : List α, (dedup l).length ≤ l.length
  | [] => Nat.le_refl _
  | x :: l => by
    unfold dedup
    by_cases h : x ∈ l
    · rw [if_pos h]; exact Nat.le_succ_of_le (dedup_len l)
    · rw [if_neg h]; exact Nat.succ_le_succ (dedup_len l)
theorem dedup_nod {α : Type} [DecidableEq α] : ∀ {l : List α}, (dedup l).length = l.length → l.Nodup
  | [], _ => List.nodup_nil
  | x :: l, h => by
    unfold dedup at h
    by_cases hx : x ∈ l
    · rw [if_pos hx] at h
      have := dedup_len l
      rw [List.length_cons] at h
      omega
    · rw [if_neg hx] at h
      exact List.nodup_cons.mpr ⟨hx, dedup_nod (by simpa using h)⟩
theorem dedup_len8 {s : Int} (hs : s ≤ 8) {ns : List Int} (h : ∀ i ∈ ns, 0 ≤ i ∧ i < s) : (dedup ns).length ≤ 8 := by
  have hsub : dedup ns ⊆ [0, 1, 2, 3, 4, 5, 6, 7] := fun i hi => by
    obtain ⟨h1, h2⟩ := h i ((dedup_mem i ns).mp hi)
    have : i = 0 ∨ i = 1 ∨ i = 2 ∨ i = 3 ∨ i = 4 ∨ i = 5 ∨ i = 6 ∨ i = 7 := by omega
    simpa using this
  exact (dedup_nodup ns).length_le_of_subset hsub
theorem sset_eq {d : D} {ns : List Int} (h : asS M d = some (ns.map D.int)) (h8 : (dedup ns).length < 64) (hl : ns.length ≤ 4000) : b1 .sset M d = some (.lst ((isort leI (dedup ns)).map .int)) := by
  simp only [b1, asIntsS, h, mapO_int]
  rw [if_pos ⟨h8, hl⟩]
theorem lset_eq {d : D} {ns : List Int} (h : asS M d = some (ns.map D.int)) (h8 : (dedup ns).length < 64) (hl : ns.length ≤ 4000) : b1 .lset M d = some (.int (dedup ns).length) := by
  simp only [b1, asIntsS, h, mapO_int]
  rw [if_pos ⟨h8, hl⟩]
theorem len_lst (xs : List D) : b1 .len M (.lst xs) = some (.int xs.length) := rfl
theorem seq_seqD {d : D} {xs : List D} (h : seqB d = some xs) : seqD d = some xs := by
  cases d <;> simp [seqB] at h <;> simp [seqD, h]
theorem seq_asS {d : D} {xs : List D} (h : seqB d = some xs) : asS M d = some xs := by
  cases d <;> simp [seqB] at h <;> simp [asS, asL, h]
theorem seq_len {d : D} {xs : List D} (h : seqB d = some xs) : b1 .len M d = some (.int xs.length) := by
  cases d <;> simp [seqB] at h <;> simp [b1, lenD, h]
theorem seq_isList {d : D} {xs : List D} (h : seqB d = some xs) : isListB d = true := by
  cases d <;> simp [seqB] at h <;> rfl
theorem seq_noRef {d : D} {xs : List D} (h : seqB d = some xs) : noRef d = true := by
  cases d <;> simp [seqB] at h <;> rfl
theorem run_isLot {f iL iC iI : Nat} (h : fns f = some (fIsLot iL iC)) (hL : fns iL = some fIsList) (hC : fns iC = some (fIsCount iI)) (hI : fns iI = some fIsInt) (s : Int) (hs : s ≤ 8) {d : D} {xs : List D} (hd : seqB d = some xs) (hx : ∀ x ∈ xs, noRef x = true) (hl : xs.length ≤ 4000) :
    callI G fns (n + 3) f [.int s, d] M = .ok (.bl (lotB s xs)) M := by
  rw [callI_b h [some (.int s), some d, none]]
  have eL := run_isList (G := G) (n := n + 1) (M := M) hL d (seq_noRef hd)
  have eC : ev G (callI G fns (n + 2)) (.cmpr (.and (.call iC (.cons (.var 2) .nil)) (.cmp .lt (.var 2) (.var 0))) (.one 2) (.seq (.var 1)) .none [2]) [some (.int s), some d, none] M = .ok (.lst (xs.map fun x => .bl (inR s x))) M := by
    refine e_map ?_ (sz_of hl) fun x hxx => ⟨[some (.int s), some d, some x], rfl, ?_⟩
    · simp only [q_var, q_lit, q_glob, q_tup, q_lst, q_d0, q_bin, q_inv, q_neg, q_cmp, q_isN, q_isB, q_chn, q_and, q_or, q_not, q_ite, q_b1, q_b2, q_isin, q_call, q_callk, q_mk, q_fld, q_idx, q_slc, q_rev, q_app, q_ext, q_pop, q_alloc, q_lrng, q_0, q_1, q_on, q_os, q_seq, q_rng, q_tstb, q_nil, q_cons, q_ex, q_ret, q_asg, q_nm, q_par, q_ifs, q_fset, q_frz, R.bind_ok, R.bind_no, R.of_some, List.getElem?_cons_zero, List.getElem?_cons_succ, Option.bind_some, id_eq, Option.map_some, List.set_cons_zero, List.set_cons_succ, if_true, Bool.not_true, Bool.not_false, Bool.false_eq_true, if_false, endR_rt, endR_nx, Option.some.injEq, seq_seqD hd]
    · have e := run_isCount (G := G) (n := n) (M := M) hC hI x (hx x hxx)
      cases x with
      | int i =>
        simp only [q_var, q_lit, q_glob, q_tup, q_lst, q_d0, q_bin, q_inv, q_neg, q_cmp, q_isN, q_isB, q_chn, q_and, q_or, q_not, q_ite, q_b1, q_b2, q_isin, q_call, q_callk, q_mk, q_fld, q_idx, q_slc, q_rev, q_app, q_ext, q_pop, q_alloc, q_lrng, q_0, q_1, q_on, q_os, q_seq, q_rng, q_tstb, q_nil, q_cons, q_ex, q_ret, q_asg, q_nm, q_par, q_ifs, q_fset, q_frz, R.bind_ok, R.bind_no, R.of_some, List.getElem?_cons_zero, List.getElem?_cons_succ, Option.bind_some, id_eq, Option.map_some, List.set_cons_zero, List.set_cons_succ, if_true, Bool.not_true, Bool.not_false, Bool.false_eq_true, if_false, endR_rt, endR_nx, Option.some.injEq, e, isCountB, inR, cop]
        by_cases h0 : 0 ≤ i <;> simp [h0]
      | _ => simp [q_var, q_lit, q_glob, q_tup, q_lst, q_d0, q_bin, q_inv, q_neg, q_cmp, q_isN, q_isB, q_chn, q_and, q_or, q_not, q_ite, q_b1, q_b2, q_isin, q_call, q_callk, q_mk, q_fld, q_idx, q_slc, q_rev, q_app, q_ext, q_pop, q_alloc, q_lrng, q_0, q_1, q_on, q_os, q_seq, q_rng, q_tstb, q_nil, q_cons, q_ex, q_ret, q_asg, q_nm, q_par, q_ifs, q_fset, q_frz, R.bind_ok, R.bind_no, R.of_some, List.getElem?_cons_zero, List.getElem?_cons_succ, Option.bind_some, id_eq, Option.map_some, List.set_cons_zero, List.set_cons_succ, if_true, Bool.not_true, Bool.not_false, Bool.false_eq_true, if_false, endR_rt, endR_nx, Option.some.injEq, e, isCountB, inR]
  simp only [fIsLot, q_var, q_lit, q_glob, q_tup, q_lst, q_d0, q_bin, q_inv, q_neg, q_cmp, q_isN, q_isB, q_chn, q_and, q_or, q_not, q_ite, q_b1, q_b2, q_isin, q_call, q_callk, q_mk, q_fld, q_idx, q_slc, q_rev, q_app, q_ext, q_pop, q_alloc, q_lrng, q_0, q_1, q_on, q_os, q_seq, q_rng, q_tstb, q_nil, q_cons, q_ex, q_ret, q_asg, q_nm, q_par, q_ifs, q_fset, q_frz, R.bind_ok, R.bind_no, R.of_some, List.getElem?_cons_zero, List.getElem?_cons_succ, Option.bind_some, id_eq, Option.map_some, List.set_cons_zero, List.set_cons_succ, if_true, Bool.not_true, Bool.not_false, Bool.false_eq_true, if_false, endR_rt, endR_nx, Option.some.injEq, eL, seq_isList hd, eC, all_map]
  by_cases ha : xs.all (inR s) = true
  · obtain ⟨h1, h2⟩ := ints_all ha
    have h8 := dedup_len8 hs h2
    have hln : (intsOf xs).length = xs.length := by
      have := congrArg List.length h1
      rw [List.length_map] at this; exact this.symm
    have hS : asS M d = some ((intsOf xs).map .int) := by rw [seq_asS hd, ← h1]
    rw [ha]
    simp only [q_var, q_lit, q_glob, q_tup, q_lst, q_d0, q_bin, q_inv, q_neg, q_cmp, q_isN, q_isB, q_chn, q_and, q_or, q_not, q_ite, q_b1, q_b2, q_isin, q_call, q_callk, q_mk, q_fld, q_idx, q_slc, q_rev, q_app, q_ext, q_pop, q_alloc, q_lrng, q_0, q_1, q_on, q_os, q_seq, q_rng, q_tstb, q_nil, q_cons, q_ex, q_ret, q_asg, q_nm, q_par, q_ifs, q_fset, q_frz, R.bind_ok, R.bind_no, R.of_some, List.getElem?_cons_zero, List.getElem?_cons_succ, Option.bind_some, id_eq, Option.map_some, List.set_cons_zero, List.set_cons_succ, if_true, Bool.not_true, Bool.not_false, Bool.false_eq_true, if_false, endR_rt, endR_nx, Option.some.injEq, sset_eq hS (by omega) (by omega), len_lst, seq_len hd, cop, eqD_int, lotB, ha, Bool.true_and]
    congr 2
    have hp := (isort_perm leI (dedup (intsOf xs))).length_eq
    have e : (((isort leI (dedup (intsOf xs))).map D.int).length : Int) = ((dedup (intsOf xs)).length : Nat) := by rw [List.length_map, hp]
    rw [e]
    congr 1
    apply propext
    constructor
    · intro q
      have q' : (dedup (intsOf xs)).length = xs.length := by exact_mod_cast q
      exact dedup_nod (by rw [q', hln])
    · intro q
      rw [dedup_id q, hln]
  · have ha' : xs.all (inR s) = false := by simpa using ha
    rw [ha']
    simp only [q_var, q_lit, q_glob, q_tup, q_lst, q_d0, q_bin, q_inv, q_neg, q_cmp, q_isN, q_isB, q_chn, q_and, q_or, q_not, q_ite, q_b1, q_b2, q_isin, q_call, q_callk, q_mk, q_fld, q_idx, q_slc, q_rev, q_app, q_ext, q_pop, q_alloc, q_lrng, q_0, q_1, q_on, q_os, q_seq, q_rng, q_tstb, q_nil, q_cons, q_ex, q_ret, q_asg, q_nm, q_par, q_ifs, q_fset, q_frz, R.bind_ok, R.bind_no, R.of_some, List.getElem?_cons_zero, List.getElem?_cons_succ, Option.bind_some, id_eq, Option.map_some, List.set_cons_zero, List.set_cons_succ, if_true, Bool.not_true, Bool.not_false, Bool.false_eq_true, if_false, endR_rt, endR_nx, Option.some.injEq, lotB, ha', Bool.false_and]
theorem run_notLot {f iL iC : Nat} (h : fns f = some (fIsLot iL iC)) (hL : fns iL = some fIsList) (s : D) {d : D} (hr : noRef d = true) (hd : isListB d = false) : callI G fns (n + 2) f [s, d] M = .ok (.bl false) M := by
  rw [callI_b h [some s, some d, none]]
  have eL := run_isList (G := G) (n := n) (M := M) hL d hr
  simp only [fIsLot, q_var, q_lit, q_glob, q_tup, q_lst, q_d0, q_bin, q_inv, q_neg, q_cmp, q_isN, q_isB, q_chn, q_and, q_or, q_not, q_ite, q_b1, q_b2, q_isin, q_call, q_callk, q_mk, q_fld, q_idx, q_slc, q_rev, q_app, q_ext, q_pop, q_alloc, q_lrng, q_0, q_1, q_on, q_os, q_seq, q_rng, q_tstb, q_nil, q_cons, q_ex, q_ret, q_asg, q_nm, q_par, q_ifs, q_fset, q_frz, R.bind_ok, R.bind_no, R.of_some, List.getElem?_cons_zero, List.getElem?_cons_succ, Option.bind_some, id_eq, Option.map_some, List.set_cons_zero, List.set_cons_succ, if_true, Bool.not_true, Bool.not_false, Bool.false_eq_true, if_false, endR_rt, endR_nx, Option.some.injEq, eL, hd]
end
end Z
end
section
set_option Elab.async false
set_option linter.all false
set_option maxRecDepth 100000
set_option maxHeartbeats 2000000
/-! Zp4: bits, kinds, a store made. -/
namespace Z
open PySem (PyData sizeLine)
/-- a loop that goes on to its end -/
theorem loop_end {t : Tg} {body : Env → Mem → R Fl} (I : List D → Env → Mem → Prop) (st : ∀ x xs env M, I (x :: xs) env M → ∃ env1 env2 M2, bindT t x env = some env1 ∧ body env1 M = .ok (.nx env2) M2 ∧ I xs env2 M2) :
    ∀ (xs : List D) (env : Env) (M : Mem), I xs env M → ∃ env' M', loopF t body xs env M = .ok (.nx env') M' ∧ I [] env' M'
  | [], env, M, h => ⟨env, M, rfl, h⟩
  | x :: xs, env, M, h => by
    obtain ⟨env1, env2, M2, h1, h2, h3⟩ := st x xs env M h
    obtain ⟨env', M', h4, h5⟩ := loop_end I st xs env2 M2 h3
    refine ⟨env', M', ?_, h5⟩
    unfold loopF
    rw [h1]
    simp only [h2, R.bind_ok]
    exact h4
/-- .. or returns -/
theorem loop_ret {t : Tg} {body : Env → Mem → R Fl} (I : List D → Env → Mem → Prop) (Rt : D → Mem → Prop)
    (st : ∀ x xs env M, I (x :: xs) env M → ∃ env1, bindT t x env = some env1 ∧ ((∃ env2 M2, body env1 M = .ok (.nx env2) M2 ∧ I xs env2 M2) ∨ ∃ d M2, body env1 M = .ok (.rt d) M2 ∧ Rt d M2)) :
    ∀ (xs : List D) (env : Env) (M : Mem), I xs env M → (∃ env' M', loopF t body xs env M = .ok (.nx env') M' ∧ I [] env' M') ∨ ∃ d M', loopF t body xs env M = .ok (.rt d) M' ∧ Rt d M'
  | [], env, M, h => .inl ⟨env, M, rfl, h⟩
  | x :: xs, env, M, h => by
    obtain ⟨env1, h1, h2⟩ := st x xs env M h
    rcases h2 with ⟨env2, M2, h2, h3⟩ | ⟨d, M2, h2, h3⟩
    · rcases loop_ret I Rt st xs env2 M2 h3 with ⟨env', M', h4, h5⟩ | ⟨d, M', h4, h5⟩
      · refine .inl ⟨env', M', ?_, h5⟩
        unfold loopF
        rw [h1]
        simp only [h2, R.bind_ok]
        exact h4
      · refine .inr ⟨d, M', ?_, h5⟩
        unfold loopF
        rw [h1]
        simp only [h2, R.bind_ok]
        exact h4
    · refine .inr ⟨d, M2, ?_, h3⟩
      unfold loopF
      rw [h1]
      simp only [h2, R.bind_ok]
section
variable {G : Gt} {fns : Nat → Option Fn} {n : Nat} {M : Mem}
/-! ### bits -/
def orB (a i : Int) : Int := PySem.Builtin.bitOr a (1 * 2 ^ i.toNat)
def bitsZ (ns : List Int) : Int := ns.foldl orB 0
def fBits : Fn := ⟨1, 3, (.cons (.asg (.nm 1) (.lit (.int 0))) (.cons (.fr (.one 2) (.seq (.var 0)) (.cons (.asg (.nm 1) (.bin .bor (.var 1) (.bin .shl (.lit (.int 1)) (.var 2)))) .nil)) (.cons (.ret (.var 1)) .nil)))⟩
theorem run_bits {f : Nat} (h : fns f = some fBits) {d : D} {ns : List Int} (hd : seqB d = some (ns.map .int)) (hr : ∀ i ∈ ns, 0 ≤ i ∧ i ≤ 1000000) : callI G fns (n + 1) f [d] M = .ok (.int (bitsZ ns)) M := by
  rw [callI_b h [some d, none, none]]
  obtain ⟨env', M', h1, h2⟩ := loop_end (t := .one 2) (body := fun env M => exb G (callI G fns n) (.cons (.asg (.nm 1) (.bin .bor (.var 1) (.bin .shl (.lit (.int 1)) (.var 2)))) .nil) env M)
    (fun xs env M' => M' = M ∧ ∃ a o ms, env = [some d, some (.int a), o] ∧ xs = ms.map D.int ∧ (∀ i ∈ ms, 0 ≤ i ∧ i ≤ 1000000) ∧ ms.foldl orB a = bitsZ ns) (fun x xs env M' ⟨hM, a, o, ms, he, hx, hms, hf⟩ => by
      cases ms with
      | nil => simp at hx
      | cons m ms =>
        rw [List.map_cons, List.cons.injEq] at hx
        obtain ⟨rfl, rfl⟩ := hx
        subst he hM
        obtain ⟨m1, m2⟩ := hms m List.mem_cons_self
        refine ⟨[some d, some (.int a), some (.int m)], [some d, some (.int (orB a m)), some (.int m)], M', rfl, ?_, rfl, orB a m, some (.int m), ms, rfl, rfl, fun i hi => hms i (List.mem_cons_of_mem _ hi), hf⟩
        have e : bop .shl M' (.int 1) (.int m) = some (.int (1 * 2 ^ m.toNat)) := by
          simp only [bop]
          rw [if_pos ⟨m1, m2, by decide⟩]
        have e2 : bop .bor M' (.int a) (.int (1 * 2 ^ m.toNat)) = some (.int (orB a m)) := rfl
        simp only [q_var, q_lit, q_glob, q_tup, q_lst, q_d0, q_bin, q_inv, q_neg, q_cmp, q_isN, q_isB, q_chn, q_and, q_or, q_not, q_ite, q_b1, q_b2, q_isin, q_call, q_callk, q_mk, q_fld, q_idx, q_slc, q_rev, q_app, q_ext, q_pop, q_alloc, q_lrng, q_0, q_1, q_on, q_os, q_seq, q_rng, q_tstb, q_nil, q_cons, q_ex, q_ret, q_asg, q_nm, q_par, q_ifs, q_fset, q_frz, R.bind_ok, R.bind_no, R.of_some, List.getElem?_cons_zero, List.getElem?_cons_succ, Option.bind_some, id_eq, Option.map_some, List.set_cons_zero, List.set_cons_succ, if_true, Bool.not_true, Bool.not_false, Bool.false_eq_true, if_false, endR_rt, endR_nx, Option.some.injEq, e, e2]) (ns.map .int) [some d, some (.int 0), none] M ⟨rfl, 0, none, ns, rfl, rfl, hr, rfl⟩
  obtain ⟨hM, a, o, ms, he, hx, hms, hf⟩ := h2
  have hms0 : ms = [] := by cases ms with | nil => rfl | cons _ _ => simp at hx
  subst hms0 he hM
  have hf' : a = bitsZ ns := hf
  have hi : evi G (callI G fns n) (.seq (.var 0)) [some d, some (.int 0), none] M' = .ok (ns.map .int) M' := by simp only [q_var, q_lit, q_glob, q_tup, q_lst, q_d0, q_bin, q_inv, q_neg, q_cmp, q_isN, q_isB, q_chn, q_and, q_or, q_not, q_ite, q_b1, q_b2, q_isin, q_call, q_callk, q_mk, q_fld, q_idx, q_slc, q_rev, q_app, q_ext, q_pop, q_alloc, q_lrng, q_0, q_1, q_on, q_os, q_seq, q_rng, q_tstb, q_nil, q_cons, q_ex, q_ret, q_asg, q_nm, q_par, q_ifs, q_fset, q_frz, R.bind_ok, R.bind_no, R.of_some, List.getElem?_cons_zero, List.getElem?_cons_succ, Option.bind_some, id_eq, Option.map_some, List.set_cons_zero, List.set_cons_succ, if_true, Bool.not_true, Bool.not_false, Bool.false_eq_true, if_false, endR_rt, endR_nx, Option.some.injEq, seq_seqD hd]
  have eF : exs G (callI G fns n) (.fr (.one 2) (.seq (.var 0)) (.cons (.asg (.nm 1) (.bin .bor (.var 1) (.bin .shl (.lit (.int 1)) (.var 2)))) .nil)) [some d, some (.int 0), none] M' = .ok (.nx [some d, some (.int a), o]) M' := by
    rw [q_fr, hi]
    simp only [R.bind_ok]
    exact h1
  simp only [fBits, q_var, q_lit, q_glob, q_tup, q_lst, q_d0, q_bin, q_inv, q_neg, q_cmp, q_isN, q_isB, q_chn, q_and, q_or, q_not, q_ite, q_b1, q_b2, q_isin, q_call, q_callk, q_mk, q_fld, q_idx, q_slc, q_rev, q_app, q_ext, q_pop, q_alloc, q_lrng, q_0, q_1, q_on, q_os, q_seq, q_rng, q_tstb, q_nil, q_cons, q_ex, q_ret, q_asg, q_nm, q_par, q_ifs, q_fset, q_frz, R.bind_ok, R.bind_no, R.of_some, List.getElem?_cons_zero, List.getElem?_cons_succ, Option.bind_some, id_eq, Option.map_some, List.set_cons_zero, List.set_cons_succ, if_true, Bool.not_true, Bool.not_false, Bool.false_eq_true, if_false, endR_rt, endR_nx, Option.some.injEq, eF, hf']
def spotsZ (b : Int) : List Int := [0, 1, 2, 3, 4, 5, 6, 7].filter fun i => decide (PySem.Builtin.bitAnd (b / 2 ^ i.toNat) 1 = 1)
def fSpots (gM : Nat) : Fn := ⟨1, 2, (.cons (.ret (.b1 .tuple (.cmpr (.var 1) (.one 1) (.rng (.glob gM)) (.some (.cmp .eq (.bin .band (.bin .shr (.var 0) (.var 1)) (.lit (.int 1))) (.lit (.int 1)))) [1]))) .nil)⟩
theorem filter_ints (p : D → Bool) (q : Int → Bool) (h : ∀ i, p (.int i) = q i) (ns : List Int) : ((ns.map D.int).filter p).map id = (ns.filter q).map D.int := by
  rw [List.map_id]
  induction ns with
  | nil => rfl
  | cons i ns ih =>
    rw [List.map_cons, List.filter_cons, List.filter_cons, h]
    by_cases hq : q i = true
    · rw [if_pos hq, if_pos hq, ih]; rfl
    · rw [if_neg hq, if_neg hq, ih]
def intD : D → Int
  | .int i => i
  | _ => 0
theorem run_spots {f gM : Nat} (h : fns f = some (fSpots gM)) (hg : G.gl gM = .int 8) (b : Int) : callI G fns (n + 1) f [.int b] M = .ok (.tup ((spotsZ b).map .int)) M := by
  rw [callI_b h [some (.int b), none]]
  have eC : ev G (callI G fns n) (.cmpr (.var 1) (.one 1) (.rng (.glob gM)) (.some (.cmp .eq (.bin .band (.bin .shr (.var 0) (.var 1)) (.lit (.int 1))) (.lit (.int 1)))) [1]) [some (.int b), none] M = .ok (.lst ((spotsZ b).map .int)) M := by
    have hi : evi G (callI G fns n) (.rng (.glob gM)) [some (.int b), none] M = .ok (([0, 1, 2, 3, 4, 5, 6, 7] : List Int).map D.int) M := by
      simp only [q_var, q_lit, q_glob, q_tup, q_lst, q_d0, q_bin, q_inv, q_neg, q_cmp, q_isN, q_isB, q_chn, q_and, q_or, q_not, q_ite, q_b1, q_b2, q_isin, q_call, q_callk, q_mk, q_fld, q_idx, q_slc, q_rev, q_app, q_ext, q_pop, q_alloc, q_lrng, q_0, q_1, q_on, q_os, q_seq, q_rng, q_tstb, q_nil, q_cons, q_ex, q_ret, q_asg, q_nm, q_par, q_ifs, q_fset, q_frz, R.bind_ok, R.bind_no, R.of_some, List.getElem?_cons_zero, List.getElem?_cons_succ, Option.bind_some, id_eq, Option.map_some, List.set_cons_zero, List.set_cons_succ, if_true, Bool.not_true, Bool.not_false, Bool.false_eq_true, if_false, endR_rt, endR_nx, Option.some.injEq, hg]
      rfl
    have := e_filter (G := G) (cl := callI G fns n) (env := [some (.int b), none]) (M := M) (e := .var 1) (c := .cmp .eq (.bin .band (.bin .shr (.var 0) (.var 1)) (.lit (.int 1))) (.lit (.int 1))) (tg := .one 1) (own := [1])
      (p := fun x => decide (PySem.Builtin.bitAnd (b / 2 ^ (intD x).toNat) 1 = 1)) (h := id) hi (sz_of (by decide)) (fun x hx => by
        obtain ⟨i, hi, rfl⟩ := List.mem_map.mp hx
        have i0 : 0 ≤ i := by
          have : ∀ i ∈ ([0, 1, 2, 3, 4, 5, 6, 7] : List Int), 0 ≤ i := by decide
          exact this i hi
        refine ⟨[some (.int b), some (.int i)], rfl, ?_, fun _ => ?_⟩
        · have e : bop .shr M (.int b) (.int i) = some (.int (b / 2 ^ i.toNat)) := by
            simp only [bop]
            rw [if_pos i0]
          have e2 : bop .band M (.int (b / 2 ^ i.toNat)) (.int 1) = some (.int (PySem.Builtin.bitAnd (b / 2 ^ i.toNat) 1)) := rfl
          simp only [q_var, q_lit, q_glob, q_tup, q_lst, q_d0, q_bin, q_inv, q_neg, q_cmp, q_isN, q_isB, q_chn, q_and, q_or, q_not, q_ite, q_b1, q_b2, q_isin, q_call, q_callk, q_mk, q_fld, q_idx, q_slc, q_rev, q_app, q_ext, q_pop, q_alloc, q_lrng, q_0, q_1, q_on, q_os, q_seq, q_rng, q_tstb, q_nil, q_cons, q_ex, q_ret, q_asg, q_nm, q_par, q_ifs, q_fset, q_frz, R.bind_ok, R.bind_no, R.of_some, List.getElem?_cons_zero, List.getElem?_cons_succ, Option.bind_some, id_eq, Option.map_some, List.set_cons_zero, List.set_cons_succ, if_true, Bool.not_true, Bool.not_false, Bool.false_eq_true, if_false, endR_rt, endR_nx, Option.some.injEq, e, e2, cop, eqD_int, intD]
          exact congrArg (fun k => R.ok k M) (decide_eq_decide.mpr Iff.rfl)
        · simp only [q_var, q_lit, q_glob, q_tup, q_lst, q_d0, q_bin, q_inv, q_neg, q_cmp, q_isN, q_isB, q_chn, q_and, q_or, q_not, q_ite, q_b1, q_b2, q_isin, q_call, q_callk, q_mk, q_fld, q_idx, q_slc, q_rev, q_app, q_ext, q_pop, q_alloc, q_lrng, q_0, q_1, q_on, q_os, q_seq, q_rng, q_tstb, q_nil, q_cons, q_ex, q_ret, q_asg, q_nm, q_par, q_ifs, q_fset, q_frz, R.bind_ok, R.bind_no, R.of_some, List.getElem?_cons_zero, List.getElem?_cons_succ, Option.bind_some, id_eq, Option.map_some, List.set_cons_zero, List.set_cons_succ, if_true, Bool.not_true, Bool.not_false, Bool.false_eq_true, if_false, endR_rt, endR_nx, Option.some.injEq])
    rw [this, filter_ints _ (fun i => decide (PySem.Builtin.bitAnd (b / 2 ^ i.toNat) 1 = 1)) (fun i => rfl)]
    rfl
  simp only [fSpots, q_var, q_lit, q_glob, q_tup, q_lst, q_d0, q_bin, q_inv, q_neg, q_cmp, q_isN, q_isB, q_chn, q_and, q_or, q_not, q_ite, q_b1, q_b2, q_isin, q_call, q_callk, q_mk, q_fld, q_idx, q_slc, q_rev, q_app, q_ext, q_pop, q_alloc, q_lrng, q_0, q_1, q_on, q_os, q_seq, q_rng, q_tstb, q_nil, q_cons, q_ex, q_ret, q_asg, q_nm, q_par, q_ifs, q_fset, q_frz, R.bind_ok, R.bind_no, R.of_some, List.getElem?_cons_zero, List.getElem?_cons_succ, Option.bind_some, id_eq, Option.map_some, List.set_cons_zero, List.set_cons_succ, if_true, Bool.not_true, Bool.not_false, Bool.false_eq_true, if_false, endR_rt, endR_nx, Option.some.injEq, eC]
  rfl
def fTold (iS : Nat) : Fn := ⟨1, 1, (.cons (.ret (.b1 .list (.call iS (.cons (.var 0) .nil)))) .nil)⟩
theorem run_told {f iS gM : Nat} (h : fns f = some (fTold iS)) (hS : fns iS = some (fSpots gM)) (hg : G.gl gM = .int 8) (b : Int) : callI G fns (n + 2) f [.int b] M = .ok (rowZ (spotsZ b)) M := by
  rw [callI_b h [some (.int b)]]
  have e := run_spots (G := G) (n := n) (M := M) hS hg b
  simp only [fTold, q_var, q_lit, q_glob, q_tup, q_lst, q_d0, q_bin, q_inv, q_neg, q_cmp, q_isN, q_isB, q_chn, q_and, q_or, q_not, q_ite, q_b1, q_b2, q_isin, q_call, q_callk, q_mk, q_fld, q_idx, q_slc, q_rev, q_app, q_ext, q_pop, q_alloc, q_lrng, q_0, q_1, q_on, q_os, q_seq, q_rng, q_tstb, q_nil, q_cons, q_ex, q_ret, q_asg, q_nm, q_par, q_ifs, q_fset, q_frz, R.bind_ok, R.bind_no, R.of_some, List.getElem?_cons_zero, List.getElem?_cons_succ, Option.bind_some, id_eq, Option.map_some, List.set_cons_zero, List.set_cons_succ, if_true, Bool.not_true, Bool.not_false, Bool.false_eq_true, if_false, endR_rt, endR_nx, Option.some.injEq, e]
  rfl
/-! ### kinds -/
def fIsKind (iL : Nat) : Fn := ⟨2, 2, (.cons (.ret (.and (.call iL (.cons (.var 0) (.cons (.var 1) .nil))) (.cmp .gt (.b1 .len (.var 1)) (.lit (.int 0))))) .nil)⟩
def Kind (s : Int) (l : List Int) : Prop := l.Pairwise (· < ·) ∧ (∀ i ∈ l, 0 ≤ i ∧ i < s) ∧ l ≠ []
theorem lot_len {s : Int} (hs : s ≤ 8) {l : List Int} (h1 : l.Nodup) (h2 : ∀ i ∈ l, 0 ≤ i ∧ i < s) : l.length ≤ 8 := by
  have := dedup_len8 hs h2
  rwa [dedup_id h1] at this
theorem srt_nodup {l : List Int} (h : l.Pairwise (· < ·)) : l.Nodup := h.imp fun q => Int.ne_of_lt q
theorem intsOf_ints (l : List Int) : intsOf (l.map .int) = l := by
  induction l with
  | nil => rfl
  | cons i l ih =>
    show i :: intsOf (l.map .int) = _
    rw [ih]
theorem lotB_ok {s : Int} {l : List Int} (h1 : l.Nodup) (h2 : ∀ i ∈ l, 0 ≤ i ∧ i < s) : lotB s (l.map .int) = true := by
  unfold lotB
  rw [intsOf_ints, decide_eq_true h1, Bool.and_true, List.all_eq_true]
  intro x hx
  obtain ⟨i, hi, rfl⟩ := List.mem_map.mp hx
  obtain ⟨a, b⟩ := h2 i hi
  simp [inR, a, b]
theorem run_isKind {f iL iLi iC iI : Nat} (h : fns f = some (fIsKind iL)) (h1 : fns iL = some (fIsLot iLi iC)) (hL : fns iLi = some fIsList) (hC : fns iC = some (fIsCount iI)) (hI : fns iI = some fIsInt) {s : Int} (hs : s ≤ 8) {l : List Int} (hk : Kind s l) :
    callI G fns (n + 4) f [.int s, rowZ l] M = .ok (.bl true) M := by
  rw [callI_b h [some (.int s), some (rowZ l)]]
  have hl := lot_len hs (srt_nodup hk.1) hk.2.1
  have e := run_isLot (G := G) (n := n) (M := M) h1 hL hC hI s hs (d := rowZ l) rfl (fun x hx => by obtain ⟨i, _, rfl⟩ := List.mem_map.mp hx; rfl) (by rw [List.length_map]; omega)
  rw [lotB_ok (srt_nodup hk.1) hk.2.1] at e
  have hne : 0 < l.length := List.length_pos_iff.mpr hk.2.2
  have e2 : b1 .len M (rowZ l) = some (.int l.length) := by
    show some (D.int ((l.map D.int).length : Nat)) = _
    rw [List.length_map]
  simp only [fIsKind, q_var, q_lit, q_glob, q_tup, q_lst, q_d0, q_bin, q_inv, q_neg, q_cmp, q_isN, q_isB, q_chn, q_and, q_or, q_not, q_ite, q_b1, q_b2, q_isin, q_call, q_callk, q_mk, q_fld, q_idx, q_slc, q_rev, q_app, q_ext, q_pop, q_alloc, q_lrng, q_0, q_1, q_on, q_os, q_seq, q_rng, q_tstb, q_nil, q_cons, q_ex, q_ret, q_asg, q_nm, q_par, q_ifs, q_fset, q_frz, R.bind_ok, R.bind_no, R.of_some, List.getElem?_cons_zero, List.getElem?_cons_succ, Option.bind_some, id_eq, Option.map_some, List.set_cons_zero, List.set_cons_succ, if_true, Bool.not_true, Bool.not_false, Bool.false_eq_true, if_false, endR_rt, endR_nx, Option.some.injEq, e, e2, cop]
  have hd : decide ((0 : Int) < l.length) = true := decide_eq_true (by omega)
  rw [hd]
def fAreKinds (iLi iK gM : Nat) : Fn := ⟨2, 3, (.cons (.ret (.and (.call iLi (.cons (.var 1) .nil)) (.and (.cmp .le (.b1 .len (.var 1)) (.glob gM)) (.b1 .all (.cmpr (.call iK (.cons (.var 0) (.cons (.var 2) .nil))) (.one 2) (.seq (.var 1)) .none [2]))))) .nil)⟩
theorem run_areKinds {f iK gM iL iLi iC iI : Nat} (h : fns f = some (fAreKinds iLi iK gM)) (hK : fns iK = some (fIsKind iL)) (hg : G.gl gM = .int 8) (h1 : fns iL = some (fIsLot iLi iC)) (hL : fns iLi = some fIsList) (hC : fns iC = some (fIsCount iI)) (hI : fns iI = some fIsInt) {s : Int} (hs : s ≤ 8)
    {ks : List (List Int)} (hk : ∀ l ∈ ks, Kind s l) (hl : ks.length ≤ 8) : callI G fns (n + 5) f [.int s, .lst (ks.map rowZ)] M = .ok (.bl true) M := by
  rw [callI_b h [some (.int s), some (.lst (ks.map rowZ)), none]]
  have e1 := run_isList (G := G) (n := n + 3) (M := M) hL (.lst (ks.map rowZ)) rfl
  have eC : ev G (callI G fns (n + 4)) (.cmpr (.call iK (.cons (.var 0) (.cons (.var 2) .nil))) (.one 2) (.seq (.var 1)) .none [2]) [some (.int s), some (.lst (ks.map rowZ)), none] M = .ok (.lst ((ks.map rowZ).map fun _ => .bl true)) M := by
    refine e_map (xs := ks.map rowZ) ?_ (sz_of (by rw [List.length_map]; omega)) fun x hx => ⟨[some (.int s), some (.lst (ks.map rowZ)), some x], rfl, ?_⟩
    · simp only [q_var, q_lit, q_glob, q_tup, q_lst, q_d0, q_bin, q_inv, q_neg, q_cmp, q_isN, q_isB, q_chn, q_and, q_or, q_not, q_ite, q_b1, q_b2, q_isin, q_call, q_callk, q_mk, q_fld, q_idx, q_slc, q_rev, q_app, q_ext, q_pop, q_alloc, q_lrng, q_0, q_1, q_on, q_os, q_seq, q_rng, q_tstb, q_nil, q_cons, q_ex, q_ret, q_asg, q_nm, q_par, q_ifs, q_fset, q_frz, R.bind_ok, R.bind_no, R.of_some, List.getElem?_cons_zero, List.getElem?_cons_succ, Option.bind_some, id_eq, Option.map_some, List.set_cons_zero, List.set_cons_succ, if_true, Bool.not_true, Bool.not_false, Bool.false_eq_true, if_false, endR_rt, endR_nx, Option.some.injEq, seqD]
    · obtain ⟨l, hl, rfl⟩ := List.mem_map.mp hx
      have e := run_isKind (G := G) (n := n) (M := M) hK h1 hL hC hI hs (hk l hl)
      simp only [q_var, q_lit, q_glob, q_tup, q_lst, q_d0, q_bin, q_inv, q_neg, q_cmp, q_isN, q_isB, q_chn, q_and, q_or, q_not, q_ite, q_b1, q_b2, q_isin, q_call, q_callk, q_mk, q_fld, q_idx, q_slc, q_rev, q_app, q_ext, q_pop, q_alloc, q_lrng, q_0, q_1, q_on, q_os, q_seq, q_rng, q_tstb, q_nil, q_cons, q_ex, q_ret, q_asg, q_nm, q_par, q_ifs, q_fset, q_frz, R.bind_ok, R.bind_no, R.of_some, List.getElem?_cons_zero, List.getElem?_cons_succ, Option.bind_some, id_eq, Option.map_some, List.set_cons_zero, List.set_cons_succ, if_true, Bool.not_true, Bool.not_false, Bool.false_eq_true, if_false, endR_rt, endR_nx, Option.some.injEq, e]
  have ea : b1 .all M (.lst ((ks.map rowZ).map fun _ => .bl true)) = some (.bl true) := by
    rw [all_map (fun _ => true)]
    simp
  simp only [fAreKinds, q_var, q_lit, q_glob, q_tup, q_lst, q_d0, q_bin, q_inv, q_neg, q_cmp, q_isN, q_isB, q_chn, q_and, q_or, q_not, q_ite, q_b1, q_b2, q_isin, q_call, q_callk, q_mk, q_fld, q_idx, q_slc, q_rev, q_app, q_ext, q_pop, q_alloc, q_lrng, q_0, q_1, q_on, q_os, q_seq, q_rng, q_tstb, q_nil, q_cons, q_ex, q_ret, q_asg, q_nm, q_par, q_ifs, q_fset, q_frz, R.bind_ok, R.bind_no, R.of_some, List.getElem?_cons_zero, List.getElem?_cons_succ, Option.bind_some, id_eq, Option.map_some, List.set_cons_zero, List.set_cons_succ, if_true, Bool.not_true, Bool.not_false, Bool.false_eq_true, if_false, endR_rt, endR_nx, Option.some.injEq, e1, isListB, len_lst, cop, hg, eC, ea, List.length_map]
  have hd : decide ((ks.length : Int) ≤ 8) = true := decide_eq_true (by omega)
  rw [hd]
  rfl
def plainZ (bs : List Int) : List Int := (isort lexLe ((isort leI (dedup bs)).map spotsZ)).map bitsZ
def fPlain (iT iB : Nat) : Fn := ⟨1, 3, (.cons (.ret (.b1 .tuple (.cmpr (.call iB (.cons (.var 2) .nil)) (.one 2) (.seq (.b1 .sorted (.cmpr (.call iT (.cons (.var 1) .nil)) (.one 1) (.seq (.b1 .sset (.var 0))) .none [1]))) .none [2]))) .nil)⟩
theorem spots_rng {b i : Int} (h : i ∈ spotsZ b) : 0 ≤ i ∧ i < 8 := by
  have h' := (List.mem_filter.mp h).1
  have : ∀ i ∈ ([0, 1, 2, 3, 4, 5, 6, 7] : List Int), 0 ≤ i ∧ i < 8 := by decide
  exact this i h'
theorem run_plain {f iT iB iS gM : Nat} (h : fns f = some (fPlain iT iB)) (hT : fns iT = some (fTold iS)) (hS : fns iS = some (fSpots gM)) (hg : G.gl gM = .int 8) (hB : fns iB = some fBits) (bs : List Int) (hl : bs.length ≤ 60) :
    callI G fns (n + 3) f [.lst (bs.map .int)] M = .ok (.tup ((plainZ bs).map .int)) M := by
  rw [callI_b h [some (.lst (bs.map .int)), none, none]]
  have hd : (dedup bs).length ≤ 60 := Nat.le_trans (dedup_len bs) hl
  have hp := (isort_perm leI (dedup bs)).length_eq
  have e1 : ev G (callI G fns (n + 2)) (.cmpr (.call iT (.cons (.var 1) .nil)) (.one 1) (.seq (.b1 .sset (.var 0))) .none [1]) [some (.lst (bs.map .int)), none, none] M = .ok (.lst (((isort leI (dedup bs)).map spotsZ).map rowZ)) M := by
    have := e_map (G := G) (cl := callI G fns (n + 2)) (M := M) (env := [some (.lst (bs.map .int)), none, none]) (e := .call iT (.cons (.var 1) .nil)) (tg := .one 1) (it := .seq (.b1 .sset (.var 0))) (own := [1]) (xs := (isort leI (dedup bs)).map .int) (h := fun x => rowZ (spotsZ (intD x)))
      (by
        have e := sset_eq (M := M) (d := .lst (bs.map .int)) (ns := bs) rfl (by omega) (by omega)
        simp only [q_var, q_lit, q_glob, q_tup, q_lst, q_d0, q_bin, q_inv, q_neg, q_cmp, q_isN, q_isB, q_chn, q_and, q_or, q_not, q_ite, q_b1, q_b2, q_isin, q_call, q_callk, q_mk, q_fld, q_idx, q_slc, q_rev, q_app, q_ext, q_pop, q_alloc, q_lrng, q_0, q_1, q_on, q_os, q_seq, q_rng, q_tstb, q_nil, q_cons, q_ex, q_ret, q_asg, q_nm, q_par, q_ifs, q_fset, q_frz, R.bind_ok, R.bind_no, R.of_some, List.getElem?_cons_zero, List.getElem?_cons_succ, Option.bind_some, id_eq, Option.map_some, List.set_cons_zero, List.set_cons_succ, if_true, Bool.not_true, Bool.not_false, Bool.false_eq_true, if_false, endR_rt, endR_nx, Option.some.injEq, e, seqD]) (sz_of (by rw [List.length_map]; omega)) (fun x hx => by
        obtain ⟨i, _, rfl⟩ := List.mem_map.mp hx
        refine ⟨[some (.lst (bs.map .int)), some (.int i), none], rfl, ?_⟩
        have e := run_told (G := G) (n := n) (M := M) hT hS hg i
        simp only [q_var, q_lit, q_glob, q_tup, q_lst, q_d0, q_bin, q_inv, q_neg, q_cmp, q_isN, q_isB, q_chn, q_and, q_or, q_not, q_ite, q_b1, q_b2, q_isin, q_call, q_callk, q_mk, q_fld, q_idx, q_slc, q_rev, q_app, q_ext, q_pop, q_alloc, q_lrng, q_0, q_1, q_on, q_os, q_seq, q_rng, q_tstb, q_nil, q_cons, q_ex, q_ret, q_asg, q_nm, q_par, q_ifs, q_fset, q_frz, R.bind_ok, R.bind_no, R.of_some, List.getElem?_cons_zero, List.getElem?_cons_succ, Option.bind_some, id_eq, Option.map_some, List.set_cons_zero, List.set_cons_succ, if_true, Bool.not_true, Bool.not_false, Bool.false_eq_true, if_false, endR_rt, endR_nx, Option.some.injEq, e, intD])
    rw [this, List.map_map, List.map_map]
    rfl
  have e2 : b1 .sorted M (.lst (((isort leI (dedup bs)).map spotsZ).map rowZ)) = some (.lst ((isort lexLe ((isort leI (dedup bs)).map spotsZ)).map rowZ)) := by
    simp only [b1, asS, asL, sortD_rows]
    rfl
  have e3 : ev G (callI G fns (n + 2)) (.cmpr (.call iB (.cons (.var 2) .nil)) (.one 2) (.seq (.b1 .sorted (.cmpr (.call iT (.cons (.var 1) .nil)) (.one 1) (.seq (.b1 .sset (.var 0))) .none [1]))) .none [2]) [some (.lst (bs.map .int)), none, none] M = .ok (.lst ((plainZ bs).map .int)) M := by
    have hlen := (isort_perm lexLe ((isort leI (dedup bs)).map spotsZ)).length_eq
    have := e_map (G := G) (cl := callI G fns (n + 2)) (M := M) (env := [some (.lst (bs.map .int)), none, none]) (e := .call iB (.cons (.var 2) .nil)) (tg := .one 2) (it := .seq (.b1 .sorted (.cmpr (.call iT (.cons (.var 1) .nil)) (.one 1) (.seq (.b1 .sset (.var 0))) .none [1]))) (own := [2])
      (xs := (isort lexLe ((isort leI (dedup bs)).map spotsZ)).map rowZ) (h := fun x => match x with | .lst ds => .int (bitsZ (intsOf ds)) | _ => .non)
      (by simp only [q_var, q_lit, q_glob, q_tup, q_lst, q_d0, q_bin, q_inv, q_neg, q_cmp, q_isN, q_isB, q_chn, q_and, q_or, q_not, q_ite, q_b1, q_b2, q_isin, q_call, q_callk, q_mk, q_fld, q_idx, q_slc, q_rev, q_app, q_ext, q_pop, q_alloc, q_lrng, q_0, q_1, q_on, q_os, q_seq, q_rng, q_tstb, q_nil, q_cons, q_ex, q_ret, q_asg, q_nm, q_par, q_ifs, q_fset, q_frz, R.bind_ok, R.bind_no, R.of_some, List.getElem?_cons_zero, List.getElem?_cons_succ, Option.bind_some, id_eq, Option.map_some, List.set_cons_zero, List.set_cons_succ, if_true, Bool.not_true, Bool.not_false, Bool.false_eq_true, if_false, endR_rt, endR_nx, Option.some.injEq, e1, e2, seqD]) (sz_of (by rw [List.length_map, hlen, List.length_map]; omega)) (fun x hx => by
        obtain ⟨r, hr, rfl⟩ := List.mem_map.mp hx
        obtain ⟨b, _, rfl⟩ := List.mem_map.mp ((isort_perm lexLe _).mem_iff.mp hr)
        refine ⟨[some (.lst (bs.map .int)), none, some (rowZ (spotsZ b))], rfl, ?_⟩
        have e := run_bits (G := G) (n := n + 1) (M := M) hB (d := rowZ (spotsZ b)) (ns := spotsZ b) rfl fun i hi => by have := spots_rng hi; omega
        simp only [q_var, q_lit, q_glob, q_tup, q_lst, q_d0, q_bin, q_inv, q_neg, q_cmp, q_isN, q_isB, q_chn, q_and, q_or, q_not, q_ite, q_b1, q_b2, q_isin, q_call, q_callk, q_mk, q_fld, q_idx, q_slc, q_rev, q_app, q_ext, q_pop, q_alloc, q_lrng, q_0, q_1, q_on, q_os, q_seq, q_rng, q_tstb, q_nil, q_cons, q_ex, q_ret, q_asg, q_nm, q_par, q_ifs, q_fset, q_frz, R.bind_ok, R.bind_no, R.of_some, List.getElem?_cons_zero, List.getElem?_cons_succ, Option.bind_some, id_eq, Option.map_some, List.set_cons_zero, List.set_cons_succ, if_true, Bool.not_true, Bool.not_false, Bool.false_eq_true, if_false, endR_rt, endR_nx, Option.some.injEq, e]
        show R.ok (D.int (bitsZ (spotsZ b))) M = R.ok (D.int (bitsZ (intsOf ((spotsZ b).map .int)))) M
        rw [intsOf_ints])
    rw [this]
    congr 2
    unfold plainZ
    rw [List.map_map, List.map_map]
    apply List.map_congr_left
    intro r _
    show D.int (bitsZ (intsOf (r.map .int))) = D.int (bitsZ r)
    rw [intsOf_ints]
  simp only [fPlain, q_var, q_lit, q_glob, q_tup, q_lst, q_d0, q_bin, q_inv, q_neg, q_cmp, q_isN, q_isB, q_chn, q_and, q_or, q_not, q_ite, q_b1, q_b2, q_isin, q_call, q_callk, q_mk, q_fld, q_idx, q_slc, q_rev, q_app, q_ext, q_pop, q_alloc, q_lrng, q_0, q_1, q_on, q_os, q_seq, q_rng, q_tstb, q_nil, q_cons, q_ex, q_ret, q_asg, q_nm, q_par, q_ifs, q_fset, q_frz, R.bind_ok, R.bind_no, R.of_some, List.getElem?_cons_zero, List.getElem?_cons_succ, Option.bind_some, id_eq, Option.map_some, List.set_cons_zero, List.set_cons_succ, if_true, Bool.not_true, Bool.not_false, Bool.false_eq_true, if_false, endR_rt, endR_nx, Option.some.injEq, e3]
  rfl
end
end Z
end
section
set_option Elab.async false
set_option linter.all false
set_option maxRecDepth 100000
set_option maxHeartbeats 2000000
/-! Zp5: the store, closed families. -/
namespace Z
open PySem (PyData sizeLine)
section
variable {G : Gt} {fns : Nat → Option Fn} {n : Nat} {M : Mem}
def fAreSh (iC g0 g1 : Nat) : Fn := ⟨1, 1, (.cons (.ret (.and (.call iC (.cons (.var 0) .nil)) (.chn .le .le (.glob g0) (.var 0) (.glob g1)))) .nil)⟩
def fWantSh (iS : Nat) : Fn := ⟨1, 1, (.cons (.ifs (.not (.call iS (.cons (.var 0) .nil))) (.cons .stop .nil) .nil) .nil)⟩
theorem run_areSh {f iC iI g0 g1 : Nat} (h : fns f = some (fAreSh iC g0 g1)) (hC : fns iC = some (fIsCount iI)) (hI : fns iI = some fIsInt) (h0 : G.gl g0 = .int 2) (h1 : G.gl g1 = .int 8) {s : Int} (hs : 2 ≤ s ∧ s ≤ 8) : callI G fns (n + 3) f [.int s] M = .ok (.bl true) M := by
  rw [callI_b h [some (.int s)]]
  have e := run_isCount (G := G) (n := n) (M := M) hC hI (.int s) rfl
  have d0 : decide (0 ≤ s) = true := decide_eq_true (by omega)
  have d1 : decide ((2 : Int) ≤ s) = true := decide_eq_true hs.1
  have d2 : decide (s ≤ (8 : Int)) = true := decide_eq_true hs.2
  simp only [fAreSh, q_var, q_lit, q_glob, q_tup, q_lst, q_d0, q_bin, q_inv, q_neg, q_cmp, q_isN, q_isB, q_chn, q_and, q_or, q_not, q_ite, q_b1, q_b2, q_isin, q_call, q_callk, q_mk, q_fld, q_idx, q_slc, q_rev, q_app, q_ext, q_pop, q_alloc, q_lrng, q_0, q_1, q_on, q_os, q_seq, q_rng, q_tstb, q_nil, q_cons, q_ex, q_ret, q_asg, q_nm, q_par, q_ifs, q_fset, q_frz, R.bind_ok, R.bind_no, R.of_some, List.getElem?_cons_zero, List.getElem?_cons_succ, Option.bind_some, id_eq, Option.map_some, List.set_cons_zero, List.set_cons_succ, if_true, Bool.not_true, Bool.not_false, Bool.false_eq_true, if_false, endR_rt, endR_nx, Option.some.injEq, e, isCountB, d0, cop, h0, h1, d1, d2]
theorem run_wantSh {f iS iC iI g0 g1 : Nat} (h : fns f = some (fWantSh iS)) (hS : fns iS = some (fAreSh iC g0 g1)) (hC : fns iC = some (fIsCount iI)) (hI : fns iI = some fIsInt) (h0 : G.gl g0 = .int 2) (h1 : G.gl g1 = .int 8) {s : Int} (hs : 2 ≤ s ∧ s ≤ 8) : callI G fns (n + 4) f [.int s] M = .ok .non M := by
  rw [callI_b h [some (.int s)]]
  have e := run_areSh (G := G) (n := n) (M := M) hS hC hI h0 h1 hs
  simp only [fWantSh, q_var, q_lit, q_glob, q_tup, q_lst, q_d0, q_bin, q_inv, q_neg, q_cmp, q_isN, q_isB, q_chn, q_and, q_or, q_not, q_ite, q_b1, q_b2, q_isin, q_call, q_callk, q_mk, q_fld, q_idx, q_slc, q_rev, q_app, q_ext, q_pop, q_alloc, q_lrng, q_0, q_1, q_on, q_os, q_seq, q_rng, q_tstb, q_nil, q_cons, q_ex, q_ret, q_asg, q_nm, q_par, q_ifs, q_fset, q_frz, R.bind_ok, R.bind_no, R.of_some, List.getElem?_cons_zero, List.getElem?_cons_succ, Option.bind_some, id_eq, Option.map_some, List.set_cons_zero, List.set_cons_succ, if_true, Bool.not_true, Bool.not_false, Bool.false_eq_true, if_false, endR_rt, endR_nx, Option.some.injEq, e]
def fInit (iW iK iB iP f1 f2 f3 f4 : Nat) : Fn := ⟨4, 5, (.cons (.ex (.call iW (.cons (.var 1) .nil))) (.cons (.ifs (.not (.call iK (.cons (.var 1) (.cons (.var 2) .nil)))) (.cons .stop .nil) .nil) (.cons (.ifs (.not (.call iK (.cons (.var 1) (.cons (.var 3) .nil)))) (.cons .stop .nil) .nil)
  (.cons (.fset (.var 0) f1 (.var 1)) (.cons (.fset (.var 0) f2 (.call iP (.cons (.cmpr (.call iB (.cons (.var 4) .nil)) (.one 4) (.seq (.var 2)) .none [4]) .nil))) (.cons (.fset (.var 0) f3 (.call iP (.cons (.cmpr (.call iB (.cons (.var 4) .nil)) (.one 4) (.seq (.var 3)) .none [4]) .nil))) (.cons (.fset (.var 0) f4 (.alloc .dct0)) .nil)))))))⟩
/-- all that a store's making leans on -/
structure StoreIds (G : Gt) (fns : Nat → Option Fn) (iW iK iB iP f1 f2 f3 f4 : Nat) : Prop where
  ids : ∃ iS iC iI g0 g1 iLi iKk iL g2 iT iSp gM, fns iW = some (fWantSh iS) ∧ fns iS = some (fAreSh iC g0 g1) ∧ fns iC = some (fIsCount iI) ∧ fns iI = some fIsInt ∧ G.gl g0 = .int 2 ∧ G.gl g1 = .int 8 ∧
    fns iK = some (fAreKinds iLi iKk g2) ∧ fns iKk = some (fIsKind iL) ∧ G.gl g2 = .int 8 ∧ fns iL = some (fIsLot iLi iC) ∧ fns iLi = some fIsList ∧ fns iB = some fBits ∧ fns iP = some (fPlain iT iB) ∧ fns iT = some (fTold iSp) ∧ fns iSp = some (fSpots gM) ∧ G.gl gM = .int 8
  ne : f1 ≠ f2 ∧ f1 ≠ f3 ∧ f1 ≠ f4 ∧ f2 ≠ f3 ∧ f2 ≠ f4 ∧ f3 ≠ f4
def ownZ (ks : List (List Int)) : List Int := plainZ (ks.map bitsZ)
def storeF (f1 f2 f3 f4 : Nat) (s : Int) (ds ss : List Int) (r : Nat) : List (Nat × D) := [(f1, .int s), (f2, .tup (ds.map .int)), (f3, .tup (ss.map .int)), (f4, .ref r)]
theorem kinds_bits {iB : Nat} {m : Nat} (hB : fns iB = some fBits) {s : Int} (hs : s ≤ 8) {ks : List (List Int)} (hk : ∀ l ∈ ks, Kind s l) (hl : ks.length ≤ 8) (j i : Nat) (e0 e1 e2 e3 : D) (hv : [some e0, some e1, some e2, some e3, (none : Option D)][i]? = some (some (.lst (ks.map rowZ)))) :
    ev G (callI G fns (m + 1)) (.cmpr (.call iB (.cons (.var 4) .nil)) (.one 4) (.seq (.var i)) .none [4]) [some e0, some e1, some e2, some e3, none] M = .ok (.lst ((ks.map bitsZ).map .int)) M := by
  have := e_map (G := G) (cl := callI G fns (m + 1)) (M := M) (env := [some e0, some e1, some e2, some e3, none]) (e := .call iB (.cons (.var 4) .nil)) (tg := .one 4) (it := .seq (.var i)) (own := [4]) (xs := ks.map rowZ) (h := fun x => match x with | .lst ds => .int (bitsZ (intsOf ds)) | _ => .non)
    (by simp only [q_seq, q_var, hv, Option.bind_some, id_eq, R.of_some, R.bind_ok, seqD]) (sz_of (by rw [List.length_map]; omega)) (fun x hx => by
      obtain ⟨l, hl', rfl⟩ := List.mem_map.mp hx
      obtain ⟨k1, k2, k3⟩ := hk l hl'
      refine ⟨[some e0, some e1, some e2, some e3, some (rowZ l)], rfl, ?_⟩
      have e := run_bits (G := G) (n := m) (M := M) hB (d := rowZ l) (ns := l) rfl fun q hq => by have := k2 q hq; omega
      simp only [q_var, q_lit, q_glob, q_tup, q_lst, q_d0, q_bin, q_inv, q_neg, q_cmp, q_isN, q_isB, q_chn, q_and, q_or, q_not, q_ite, q_b1, q_b2, q_isin, q_call, q_callk, q_mk, q_fld, q_idx, q_slc, q_rev, q_app, q_ext, q_pop, q_alloc, q_lrng, q_0, q_1, q_on, q_os, q_seq, q_rng, q_tstb, q_nil, q_cons, q_ex, q_ret, q_asg, q_nm, q_par, q_ifs, q_fset, q_frz, R.bind_ok, R.bind_no, R.of_some, List.getElem?_cons_zero, List.getElem?_cons_succ, Option.bind_some, id_eq, Option.map_some, List.set_cons_zero, List.set_cons_succ, if_true, Bool.not_true, Bool.not_false, Bool.false_eq_true, if_false, endR_rt, endR_nx, Option.some.injEq, e]
      show R.ok (D.int (bitsZ l)) M = R.ok (D.int (bitsZ (intsOf (l.map .int)))) M
      rw [intsOf_ints])
  rw [this, List.map_map, List.map_map]
  congr 2
  apply List.map_congr_left
  intro r _
  show D.int (bitsZ (intsOf (r.map .int))) = D.int (bitsZ r)
  rw [intsOf_ints]
theorem run_init {f iW iK iB iP f1 f2 f3 f4 c j : Nat} (h : fns f = some (fInit iW iK iB iP f1 f2 f3 f4)) (I : StoreIds G fns iW iK iB iP f1 f2 f3 f4) (hj : M[j]? = some (.ins c [])) {s : Int} (hs : 2 ≤ s ∧ s ≤ 8) {dl sl : List (List Int)}
    (hd : ∀ l ∈ dl, Kind s l) (hdl : dl.length ≤ 8) (hsl : ∀ l ∈ sl, Kind s l) (hsl2 : sl.length ≤ 8) :
    ∃ M', callI G fns (n + 6) f [.ref j, .int s, .lst (dl.map rowZ), .lst (sl.map rowZ)] M = .ok .non M' ∧ M'.length = M.length + 1 ∧ M'[j]? = some (.ins c (storeF f1 f2 f3 f4 s (ownZ dl) (ownZ sl) M.length)) ∧ ∀ i, i ≠ j → i < M.length → M'[i]? = M[i]? := by
  obtain ⟨iS, iC, iI, g0, g1, iLi, iKk, iL, g2, iT, iSp, gM, a1, a2, a3, a4, a5, a6, a7, a8, a9, a10, a11, a12, a13, a14, a15, a16⟩ := I.ids
  obtain ⟨n12, n13, n14, n23, n24, n34⟩ := I.ne
  have hjl : j < M.length := (List.getElem?_eq_some_iff.mp hj).1
  have eW := run_wantSh (G := G) (n := n + 1) (M := M) a1 a2 a3 a4 a5 a6 hs
  have eD := run_areKinds (G := G) (n := n) (M := M) a7 a8 a9 a10 a11 a3 a4 hs.2 hd hdl
  have eS := run_areKinds (G := G) (n := n) (M := M) a7 a8 a9 a10 a11 a3 a4 hs.2 hsl hsl2
  let env : Env := [some (.ref j), some (.int s), some (.lst (dl.map rowZ)), some (.lst (sl.map rowZ)), none]
  let M1 : Mem := M.set j (.ins c [(f1, .int s)])
  let M2 : Mem := M1.set j (.ins c [(f1, .int s), (f2, .tup ((ownZ dl).map .int))])
  let M3 : Mem := M2.set j (.ins c [(f1, .int s), (f2, .tup ((ownZ dl).map .int)), (f3, .tup ((ownZ sl).map .int))])
  have b1 := kinds_bits (G := G) (M := M1) (m := n + 4) a12 hs.2 hd hdl j 2 (.ref j) (.int s) (.lst (dl.map rowZ)) (.lst (sl.map rowZ)) rfl
  have b2 := kinds_bits (G := G) (M := M2) (m := n + 4) a12 hs.2 hsl hsl2 j 3 (.ref j) (.int s) (.lst (dl.map rowZ)) (.lst (sl.map rowZ)) rfl
  have p1 := run_plain (G := G) (n := n + 2) (M := M1) a13 a14 a15 a16 a12 (dl.map bitsZ) (by rw [List.length_map]; omega)
  have p2 := run_plain (G := G) (n := n + 2) (M := M2) a13 a14 a15 a16 a12 (sl.map bitsZ) (by rw [List.length_map]; omega)
  have g1' : M1[j]? = some (.ins c [(f1, .int s)]) := List.getElem?_set_self hjl
  have hl1 : M1.length = M.length := List.length_set
  have g2' : M2[j]? = some (.ins c [(f1, .int s), (f2, .tup ((ownZ dl).map .int))]) := List.getElem?_set_self (by rw [hl1]; exact hjl)
  have hl2 : M2.length = M.length := List.length_set.trans hl1
  have g3' : M3[j]? = some (.ins c [(f1, .int s), (f2, .tup ((ownZ dl).map .int)), (f3, .tup ((ownZ sl).map .int))]) := List.getElem?_set_self (by rw [hl2]; exact hjl)
  have hl3 : M3.length = M.length := List.length_set.trans hl2
  have g4' : (M3 ++ [MO.dic [] []])[j]? = some (.ins c [(f1, .int s), (f2, .tup ((ownZ dl).map .int)), (f3, .tup ((ownZ sl).map .int))]) := by
    rw [List.getElem?_append_left (by rw [hl3]; exact hjl)]; exact g3'
  refine ⟨(M3 ++ [MO.dic [] []]).set j (.ins c (storeF f1 f2 f3 f4 s (ownZ dl) (ownZ sl) M.length)), ?_, by rw [List.length_set, List.length_append, hl3]; rfl, ?_, ?_⟩
  · rw [callI_b h env]
    have s1 : exs G (callI G fns (n + 5)) (.fset (.var 0) f1 (.var 1)) env M = .ok (.nx env) M1 := by
      simp only [env, q_var, q_lit, q_glob, q_tup, q_lst, q_d0, q_bin, q_inv, q_neg, q_cmp, q_isN, q_isB, q_chn, q_and, q_or, q_not, q_ite, q_b1, q_b2, q_isin, q_call, q_callk, q_mk, q_fld, q_idx, q_slc, q_rev, q_app, q_ext, q_pop, q_alloc, q_lrng, q_0, q_1, q_on, q_os, q_seq, q_rng, q_tstb, q_nil, q_cons, q_ex, q_ret, q_asg, q_nm, q_par, q_ifs, q_fset, q_frz, R.bind_ok, R.bind_no, R.of_some, List.getElem?_cons_zero, List.getElem?_cons_succ, Option.bind_some, id_eq, Option.map_some, List.set_cons_zero, List.set_cons_succ, if_true, Bool.not_true, Bool.not_false, Bool.false_eq_true, if_false, endR_rt, endR_nx, Option.some.injEq, hj, List.length_nil, putN]
      rfl
    have s2 : exs G (callI G fns (n + 5)) (.fset (.var 0) f2 (.call iP (.cons (.cmpr (.call iB (.cons (.var 4) .nil)) (.one 4) (.seq (.var 2)) .none [4]) .nil))) env M1 = .ok (.nx env) M2 := by
      have e : ev G (callI G fns (n + 5)) (.call iP (.cons (.cmpr (.call iB (.cons (.var 4) .nil)) (.one 4) (.seq (.var 2)) .none [4]) .nil)) env M1 = .ok (.tup ((ownZ dl).map .int)) M1 := by
        simp only [q_call, q_1, q_0, env, b1, R.bind_ok, p1]
        rfl
      simp only [q_fset, e, R.bind_ok, env, q_var, List.getElem?_cons_zero, Option.bind_some, id_eq, R.of_some, g1', putN, if_neg n12]
      rfl
    have s3 : exs G (callI G fns (n + 5)) (.fset (.var 0) f3 (.call iP (.cons (.cmpr (.call iB (.cons (.var 4) .nil)) (.one 4) (.seq (.var 3)) .none [4]) .nil))) env M2 = .ok (.nx env) M3 := by
      have e : ev G (callI G fns (n + 5)) (.call iP (.cons (.cmpr (.call iB (.cons (.var 4) .nil)) (.one 4) (.seq (.var 3)) .none [4]) .nil)) env M2 = .ok (.tup ((ownZ sl).map .int)) M2 := by
        simp only [q_call, q_1, q_0, env, b2, R.bind_ok, p2]
        rfl
      simp only [q_fset, e, R.bind_ok, env, q_var, List.getElem?_cons_zero, Option.bind_some, id_eq, R.of_some, g2', putN, if_neg n13, if_neg n23]
      rfl
    have s4 : exs G (callI G fns (n + 5)) (.fset (.var 0) f4 (.alloc .dct0)) env M3 = .ok (.nx env) ((M3 ++ [MO.dic [] []]).set j (.ins c (storeF f1 f2 f3 f4 s (ownZ dl) (ownZ sl) M.length))) := by
      simp only [q_fset, q_alloc, q_d0, R.bind_ok, env, q_var, List.getElem?_cons_zero, Option.bind_some, id_eq, R.of_some, g4', putN, if_neg n14, if_neg n24, if_neg n34, hl3]
      rfl
    simp only [fInit, q_cons, q_ex, q_ifs, q_not, q_call, q_1, q_0, q_var, env, List.getElem?_cons_zero, List.getElem?_cons_succ, Option.bind_some, id_eq, R.of_some, R.bind_ok, eW, eD, eS, q_tstb, Bool.not_true, Bool.false_eq_true, if_false, q_nil] at s1 s2 s3 s4 ⊢
    simp only [s1, s2, s3, s4, R.bind_ok, endR_nx]
  · exact List.getElem?_set_self (by rw [List.length_append, hl3]; omega)
  · intro i hi hil
    rw [List.getElem?_set_ne (Ne.symm hi), List.getElem?_append_left (by rw [hl3]; exact hil), List.getElem?_set_ne (Ne.symm hi), List.getElem?_set_ne (Ne.symm hi), List.getElem?_set_ne (Ne.symm hi)]
end
end Z
end
section
set_option Elab.async false
set_option linter.all false
set_option maxRecDepth 100000
set_option maxHeartbeats 2000000
/-! Zp6: closed families, as the program tells them. -/
namespace Z
open PySem (PyData sizeLine)
section
variable {G : Gt} {fns : Nat → Option Fn} {n : Nat} {M : Mem}
/-- a store stands at j -/
def StoreAt (M : Mem) (j c f1 f2 f3 f4 : Nat) (s : Int) (ds ss : List Int) : Prop := ∃ r, M[j]? = some (.ins c (storeF f1 f2 f3 f4 s ds ss r))
theorem look1 {f1 f2 f3 f4 : Nat} {s : Int} {ds ss : List Int} {r : Nat} : lookN f1 (storeF f1 f2 f3 f4 s ds ss r) = some (.int s) := by
  simp [storeF, lookN]
theorem look2 {f1 f2 f3 f4 : Nat} (h12 : f1 ≠ f2) {s : Int} {ds ss : List Int} {r : Nat} : lookN f2 (storeF f1 f2 f3 f4 s ds ss r) = some (.tup (ds.map .int)) := by
  simp [storeF, lookN, h12]
theorem look3 {f1 f2 f3 f4 : Nat} (h13 : f1 ≠ f3) (h23 : f2 ≠ f3) {s : Int} {ds ss : List Int} {r : Nat} : lookN f3 (storeF f1 f2 f3 f4 s ds ss r) = some (.tup (ss.map .int)) := by
  simp [storeF, lookN, h13, h23]
def ledZ (ds ss : List Int) (b : Int) : List Int := ds.map (fun k => PySem.Builtin.bitOr b k) ++ ss.map (fun k => PySem.Builtin.bitAnd b (PySem.Builtin.bitNot k))
def fLed (f2 f3 : Nat) : Fn := ⟨2, 3, (.cons (.ret (.bin .add (.cmpr (.bin .bor (.var 1) (.var 2)) (.one 2) (.seq (.fld f2 (.var 0))) .none [2]) (.cmpr (.bin .band (.var 1) (.inv (.var 2))) (.one 2) (.seq (.fld f3 (.var 0))) .none [2]))) .nil)⟩
theorem map_int_enc (f : Int → Int) (g : D → D) (h : ∀ i, g (.int i) = .int (f i)) (ns : List Int) : (ns.map D.int).map g = (ns.map f).map D.int := by
  rw [List.map_map, List.map_map]
  apply List.map_congr_left
  intro i _
  exact h i
theorem run_led {f c f1 f2 f3 f4 j : Nat} (h : fns f = some (fLed f2 f3)) (h12 : f1 ≠ f2) (h13 : f1 ≠ f3) (h23 : f2 ≠ f3) {s : Int} {ds ss : List Int} (hS : StoreAt M j c f1 f2 f3 f4 s ds ss) (hl : ds.length ≤ 60) (hl2 : ss.length ≤ 60) (b : Int) :
    callI G fns (n + 1) f [.ref j, .int b] M = .ok (.lst ((ledZ ds ss b).map .int)) M := by
  obtain ⟨r, hr⟩ := hS
  rw [callI_b h [some (.ref j), some (.int b), none]]
  have e1 : ev G (callI G fns n) (.cmpr (.bin .bor (.var 1) (.var 2)) (.one 2) (.seq (.fld f2 (.var 0))) .none [2]) [some (.ref j), some (.int b), none] M = .ok (.lst ((ds.map fun k => PySem.Builtin.bitOr b k).map .int)) M := by
    have := e_map (G := G) (cl := callI G fns n) (M := M) (env := [some (.ref j), some (.int b), none]) (e := .bin .bor (.var 1) (.var 2)) (tg := .one 2) (it := .seq (.fld f2 (.var 0))) (own := [2]) (xs := ds.map .int) (h := fun x => .int (PySem.Builtin.bitOr b (intD x)))
      (by simp only [q_var, q_lit, q_glob, q_tup, q_lst, q_d0, q_bin, q_inv, q_neg, q_cmp, q_isN, q_isB, q_chn, q_and, q_or, q_not, q_ite, q_b1, q_b2, q_isin, q_call, q_callk, q_mk, q_fld, q_idx, q_slc, q_rev, q_app, q_ext, q_pop, q_alloc, q_lrng, q_0, q_1, q_on, q_os, q_seq, q_rng, q_tstb, q_nil, q_cons, q_ex, q_ret, q_asg, q_nm, q_par, q_ifs, q_fset, q_frz, R.bind_ok, R.bind_no, R.of_some, List.getElem?_cons_zero, List.getElem?_cons_succ, Option.bind_some, id_eq, Option.map_some, List.set_cons_zero, List.set_cons_succ, if_true, Bool.not_true, Bool.not_false, Bool.false_eq_true, if_false, endR_rt, endR_nx, Option.some.injEq, hr, look2 h12, seqD]) (sz_of (by rw [List.length_map]; omega)) (fun x hx => by
        obtain ⟨i, _, rfl⟩ := List.mem_map.mp hx
        refine ⟨[some (.ref j), some (.int b), some (.int i)], rfl, ?_⟩
        have e : bop .bor M (.int b) (.int i) = some (.int (PySem.Builtin.bitOr b i)) := rfl
        simp only [q_var, q_lit, q_glob, q_tup, q_lst, q_d0, q_bin, q_inv, q_neg, q_cmp, q_isN, q_isB, q_chn, q_and, q_or, q_not, q_ite, q_b1, q_b2, q_isin, q_call, q_callk, q_mk, q_fld, q_idx, q_slc, q_rev, q_app, q_ext, q_pop, q_alloc, q_lrng, q_0, q_1, q_on, q_os, q_seq, q_rng, q_tstb, q_nil, q_cons, q_ex, q_ret, q_asg, q_nm, q_par, q_ifs, q_fset, q_frz, R.bind_ok, R.bind_no, R.of_some, List.getElem?_cons_zero, List.getElem?_cons_succ, Option.bind_some, id_eq, Option.map_some, List.set_cons_zero, List.set_cons_succ, if_true, Bool.not_true, Bool.not_false, Bool.false_eq_true, if_false, endR_rt, endR_nx, Option.some.injEq, e, intD])
    rw [this, map_int_enc (fun k => PySem.Builtin.bitOr b k) _ (fun i => rfl)]
  have e2 : ev G (callI G fns n) (.cmpr (.bin .band (.var 1) (.inv (.var 2))) (.one 2) (.seq (.fld f3 (.var 0))) .none [2]) [some (.ref j), some (.int b), none] M = .ok (.lst ((ss.map fun k => PySem.Builtin.bitAnd b (PySem.Builtin.bitNot k)).map .int)) M := by
    have := e_map (G := G) (cl := callI G fns n) (M := M) (env := [some (.ref j), some (.int b), none]) (e := .bin .band (.var 1) (.inv (.var 2))) (tg := .one 2) (it := .seq (.fld f3 (.var 0))) (own := [2]) (xs := ss.map .int) (h := fun x => .int (PySem.Builtin.bitAnd b (PySem.Builtin.bitNot (intD x))))
      (by simp only [q_var, q_lit, q_glob, q_tup, q_lst, q_d0, q_bin, q_inv, q_neg, q_cmp, q_isN, q_isB, q_chn, q_and, q_or, q_not, q_ite, q_b1, q_b2, q_isin, q_call, q_callk, q_mk, q_fld, q_idx, q_slc, q_rev, q_app, q_ext, q_pop, q_alloc, q_lrng, q_0, q_1, q_on, q_os, q_seq, q_rng, q_tstb, q_nil, q_cons, q_ex, q_ret, q_asg, q_nm, q_par, q_ifs, q_fset, q_frz, R.bind_ok, R.bind_no, R.of_some, List.getElem?_cons_zero, List.getElem?_cons_succ, Option.bind_some, id_eq, Option.map_some, List.set_cons_zero, List.set_cons_succ, if_true, Bool.not_true, Bool.not_false, Bool.false_eq_true, if_false, endR_rt, endR_nx, Option.some.injEq, hr, look3 h13 h23, seqD]) (sz_of (by rw [List.length_map]; omega)) (fun x hx => by
        obtain ⟨i, _, rfl⟩ := List.mem_map.mp hx
        refine ⟨[some (.ref j), some (.int b), some (.int i)], rfl, ?_⟩
        have e : bop .band M (.int b) (.int (PySem.Builtin.bitNot i)) = some (.int (PySem.Builtin.bitAnd b (PySem.Builtin.bitNot i))) := rfl
        simp only [q_var, q_lit, q_glob, q_tup, q_lst, q_d0, q_bin, q_inv, q_neg, q_cmp, q_isN, q_isB, q_chn, q_and, q_or, q_not, q_ite, q_b1, q_b2, q_isin, q_call, q_callk, q_mk, q_fld, q_idx, q_slc, q_rev, q_app, q_ext, q_pop, q_alloc, q_lrng, q_0, q_1, q_on, q_os, q_seq, q_rng, q_tstb, q_nil, q_cons, q_ex, q_ret, q_asg, q_nm, q_par, q_ifs, q_fset, q_frz, R.bind_ok, R.bind_no, R.of_some, List.getElem?_cons_zero, List.getElem?_cons_succ, Option.bind_some, id_eq, Option.map_some, List.set_cons_zero, List.set_cons_succ, if_true, Bool.not_true, Bool.not_false, Bool.false_eq_true, if_false, endR_rt, endR_nx, Option.some.injEq, asInt, e, intD])
    rw [this, map_int_enc (fun k => PySem.Builtin.bitAnd b (PySem.Builtin.bitNot k)) _ (fun i => rfl)]
  have e3 : bop .add M (.lst ((ds.map fun k => PySem.Builtin.bitOr b k).map .int)) (.lst ((ss.map fun k => PySem.Builtin.bitAnd b (PySem.Builtin.bitNot k)).map .int)) = some (.lst ((ledZ ds ss b).map .int)) := by
    simp only [bop, asL]
    rw [if_pos (by rw [List.length_map, List.length_map, List.length_map, List.length_map, PySem.sizeLine_eq]; omega), ← List.map_append]
    rfl
  simp only [fLed, q_var, q_lit, q_glob, q_tup, q_lst, q_d0, q_bin, q_inv, q_neg, q_cmp, q_isN, q_isB, q_chn, q_and, q_or, q_not, q_ite, q_b1, q_b2, q_isin, q_call, q_callk, q_mk, q_fld, q_idx, q_slc, q_rev, q_app, q_ext, q_pop, q_alloc, q_lrng, q_0, q_1, q_on, q_os, q_seq, q_rng, q_tstb, q_nil, q_cons, q_ex, q_ret, q_asg, q_nm, q_par, q_ifs, q_fset, q_frz, R.bind_ok, R.bind_no, R.of_some, List.getElem?_cons_zero, List.getElem?_cons_succ, Option.bind_some, id_eq, Option.map_some, List.set_cons_zero, List.set_cons_succ, if_true, Bool.not_true, Bool.not_false, Bool.false_eq_true, if_false, endR_rt, endR_nx, Option.some.injEq, e1, e2, e3]
def notScr : D → Bool
  | .scr _ => false
  | _ => true
/-- a value that the looks can go through: no store within, no list too long -/
def itemOk (d : D) : Prop := noRef d = true ∧ notScr d = true ∧ ∀ xs, seqB d = some xs → xs.length ≤ 4000 ∧ ∀ x ∈ xs, noRef x = true
def valOk (d : D) : Prop := noRef d = true ∧ notScr d = true ∧ ∀ xs, seqB d = some xs → xs.length ≤ 4000 ∧ ∀ x ∈ xs, itemOk x
theorem notL {d : D} (h : noRef d = true) (h2 : notScr d = true) (h3 : seqB d = none) : isListB d = false := by
  cases d <;> first | rfl | (simp [seqB, noRef, notScr] at *)
def lotD (s : Int) (d : D) : Bool := match seqB d with
  | some xs => lotB s xs
  | none => false
def lotsB (s : Int) (d : D) : Bool := match seqB d with
  | some xs => xs.all (lotD s)
  | none => false
structure LotIds (fns : Nat → Option Fn) (iLi iL : Nat) : Prop where
  ids : ∃ iC iI, fns iL = some (fIsLot iLi iC) ∧ fns iLi = some fIsList ∧ fns iC = some (fIsCount iI) ∧ fns iI = some fIsInt
theorem run_lotD {iLi iL : Nat} (I : LotIds fns iLi iL) {s : Int} (hs : s ≤ 8) {d : D} (hd : itemOk d) : callI G fns (n + 3) iL [.int s, d] M = .ok (.bl (lotD s d)) M := by
  obtain ⟨iC, iI, a1, a2, a3, a4⟩ := I.ids
  obtain ⟨h1, h2, h3⟩ := hd
  unfold lotD
  cases q : seqB d with
  | some xs => exact run_isLot a1 a2 a3 a4 s hs q (h3 xs q).2 (h3 xs q).1
  | none => exact run_notLot (n := n + 1) a1 a2 (.int s) h1 (notL h1 h2 q)
def fAreLots (iLi iL f1 : Nat) : Fn := ⟨2, 3, (.cons (.ret (.and (.call iLi (.cons (.var 1) .nil)) (.b1 .all (.cmpr (.call iL (.cons (.fld f1 (.var 0)) (.cons (.var 2) .nil))) (.one 2) (.seq (.var 1)) .none [2])))) .nil)⟩
theorem run_areLots {f c f1 f2 f3 f4 j iLi iL : Nat} (h : fns f = some (fAreLots iLi iL f1)) (I : LotIds fns iLi iL) {s : Int} (hs : s ≤ 8) {ds ss : List Int} (hS : StoreAt M j c f1 f2 f3 f4 s ds ss) {d : D} (hd : valOk d) :
    callI G fns (n + 4) f [.ref j, d] M = .ok (.bl (lotsB s d)) M := by
  obtain ⟨r, hr⟩ := hS
  obtain ⟨iC, iI, a1, a2, a3, a4⟩ := I.ids
  obtain ⟨h1, h2, h3⟩ := hd
  rw [callI_b h [some (.ref j), some d, none]]
  have eL := run_isList (G := G) (n := n + 2) (M := M) a2 d h1
  unfold lotsB
  cases q : seqB d with
  | none => simp only [fAreLots, q_var, q_lit, q_glob, q_tup, q_lst, q_d0, q_bin, q_inv, q_neg, q_cmp, q_isN, q_isB, q_chn, q_and, q_or, q_not, q_ite, q_b1, q_b2, q_isin, q_call, q_callk, q_mk, q_fld, q_idx, q_slc, q_rev, q_app, q_ext, q_pop, q_alloc, q_lrng, q_0, q_1, q_on, q_os, q_seq, q_rng, q_tstb, q_nil, q_cons, q_ex, q_ret, q_asg, q_nm, q_par, q_ifs, q_fset, q_frz, R.bind_ok, R.bind_no, R.of_some, List.getElem?_cons_zero, List.getElem?_cons_succ, Option.bind_some, id_eq, Option.map_some, List.set_cons_zero, List.set_cons_succ, if_true, Bool.not_true, Bool.not_false, Bool.false_eq_true, if_false, endR_rt, endR_nx, Option.some.injEq, eL, notL h1 h2 q]
  | some xs =>
    obtain ⟨l1, l2⟩ := h3 xs q
    have eC : ev G (callI G fns (n + 3)) (.cmpr (.call iL (.cons (.fld f1 (.var 0)) (.cons (.var 2) .nil))) (.one 2) (.seq (.var 1)) .none [2]) [some (.ref j), some d, none] M = .ok (.lst (xs.map fun x => .bl (lotD s x))) M := by
      refine e_map (by simp only [q_var, q_lit, q_glob, q_tup, q_lst, q_d0, q_bin, q_inv, q_neg, q_cmp, q_isN, q_isB, q_chn, q_and, q_or, q_not, q_ite, q_b1, q_b2, q_isin, q_call, q_callk, q_mk, q_fld, q_idx, q_slc, q_rev, q_app, q_ext, q_pop, q_alloc, q_lrng, q_0, q_1, q_on, q_os, q_seq, q_rng, q_tstb, q_nil, q_cons, q_ex, q_ret, q_asg, q_nm, q_par, q_ifs, q_fset, q_frz, R.bind_ok, R.bind_no, R.of_some, List.getElem?_cons_zero, List.getElem?_cons_succ, Option.bind_some, id_eq, Option.map_some, List.set_cons_zero, List.set_cons_succ, if_true, Bool.not_true, Bool.not_false, Bool.false_eq_true, if_false, endR_rt, endR_nx, Option.some.injEq, seq_seqD q]) (sz_of l1) fun x hx => ⟨[some (.ref j), some d, some x], rfl, ?_⟩
      have e := run_lotD (G := G) (n := n) (M := M) I hs (l2 x hx)
      simp only [q_var, q_lit, q_glob, q_tup, q_lst, q_d0, q_bin, q_inv, q_neg, q_cmp, q_isN, q_isB, q_chn, q_and, q_or, q_not, q_ite, q_b1, q_b2, q_isin, q_call, q_callk, q_mk, q_fld, q_idx, q_slc, q_rev, q_app, q_ext, q_pop, q_alloc, q_lrng, q_0, q_1, q_on, q_os, q_seq, q_rng, q_tstb, q_nil, q_cons, q_ex, q_ret, q_asg, q_nm, q_par, q_ifs, q_fset, q_frz, R.bind_ok, R.bind_no, R.of_some, List.getElem?_cons_zero, List.getElem?_cons_succ, Option.bind_some, id_eq, Option.map_some, List.set_cons_zero, List.set_cons_succ, if_true, Bool.not_true, Bool.not_false, Bool.false_eq_true, if_false, endR_rt, endR_nx, Option.some.injEq, hr, look1, e]
    simp only [fAreLots, q_var, q_lit, q_glob, q_tup, q_lst, q_d0, q_bin, q_inv, q_neg, q_cmp, q_isN, q_isB, q_chn, q_and, q_or, q_not, q_ite, q_b1, q_b2, q_isin, q_call, q_callk, q_mk, q_fld, q_idx, q_slc, q_rev, q_app, q_ext, q_pop, q_alloc, q_lrng, q_0, q_1, q_on, q_os, q_seq, q_rng, q_tstb, q_nil, q_cons, q_ex, q_ret, q_asg, q_nm, q_par, q_ifs, q_fset, q_frz, R.bind_ok, R.bind_no, R.of_some, List.getElem?_cons_zero, List.getElem?_cons_succ, Option.bind_some, id_eq, Option.map_some, List.set_cons_zero, List.set_cons_succ, if_true, Bool.not_true, Bool.not_false, Bool.false_eq_true, if_false, endR_rt, endR_nx, Option.some.injEq, eL, seq_isList q, eC, all_map]
/-- the bits of an item that is a lot -/
def bitsD (d : D) : Int := match seqB d with
  | some xs => bitsZ (intsOf xs)
  | none => 0
def closedB (s : Int) (ds ss : List Int) (d : D) : Bool := lotsB s d && (match seqB d with
  | some xs => decide (0 ∈ xs.map bitsD) && (xs.map bitsD).all fun b => (ledZ ds ss b).all fun o => decide (o ∈ xs.map bitsD)
  | none => false)
def fClosedOf (iAl iB iLed : Nat) : Fn := ⟨2, 6, (.cons (.ifs (.not (.call iAl (.cons (.var 0) (.cons (.var 1) .nil)))) (.cons (.ret (.lit (.bl false))) .nil) .nil) (.cons (.asg (.nm 2) (.cmpr (.call iB (.cons (.var 3) .nil)) (.one 3) (.seq (.var 1)) .none [3])) (.cons (.ret (.and (.cmp .inn (.lit (.int 0)) (.var 2)) (.b1 .all (.cmpr (.b1 .all (.cmpr (.cmp .inn (.var 5) (.var 2)) (.one 5) (.seq (.call iLed (.cons (.var 0) (.cons (.var 4) .nil)))) .none [5])) (.one 4) (.seq (.var 2)) .none [4])))) .nil)))⟩
theorem lotD_bits {s : Int} {d : D} (h : lotD s d = true) : ∃ ns, seqB d = some (ns.map .int) ∧ (∀ i ∈ ns, 0 ≤ i ∧ i < s) ∧ ns.Nodup ∧ bitsD d = bitsZ ns := by
  unfold lotD at h
  unfold bitsD
  cases q : seqB d with
  | none => rw [q] at h; simp at h
  | some xs =>
    rw [q] at h
    simp only [lotB, Bool.and_eq_true, decide_eq_true_eq] at h
    obtain ⟨h1, h2⟩ := ints_all h.1
    exact ⟨intsOf xs, by rw [← h1], h2, h.2, rfl⟩
theorem run_closedOf {f c f1 f2 f3 f4 j iLi iL iAl iB iLed : Nat} (h : fns f = some (fClosedOf iAl iB iLed)) (hAl : fns iAl = some (fAreLots iLi iL f1)) (hB : fns iB = some fBits) (hLed : fns iLed = some (fLed f2 f3)) (h12 : f1 ≠ f2) (h13 : f1 ≠ f3) (h23 : f2 ≠ f3) (I : LotIds fns iLi iL) {s : Int} (hs : s ≤ 8)
    {ds ss : List Int} (hS : StoreAt M j c f1 f2 f3 f4 s ds ss) (hl : ds.length ≤ 60) (hl2 : ss.length ≤ 60) {d : D} (hd : valOk d) : callI G fns (n + 5) f [.ref j, d] M = .ok (.bl (closedB s ds ss d)) M := by
  rw [callI_b h [some (.ref j), some d, none, none, none, none]]
  have eA := run_areLots (G := G) (n := n) (M := M) hAl I hs hS hd
  unfold closedB
  cases hA : lotsB s d with
  | false =>
    rw [hA] at eA
    simp only [fClosedOf, q_var, q_lit, q_glob, q_tup, q_lst, q_d0, q_bin, q_inv, q_neg, q_cmp, q_isN, q_isB, q_chn, q_and, q_or, q_not, q_ite, q_b1, q_b2, q_isin, q_call, q_callk, q_mk, q_fld, q_idx, q_slc, q_rev, q_app, q_ext, q_pop, q_alloc, q_lrng, q_0, q_1, q_on, q_os, q_seq, q_rng, q_tstb, q_nil, q_cons, q_ex, q_ret, q_asg, q_nm, q_par, q_ifs, q_fset, q_frz, R.bind_ok, R.bind_no, R.of_some, List.getElem?_cons_zero, List.getElem?_cons_succ, Option.bind_some, id_eq, Option.map_some, List.set_cons_zero, List.set_cons_succ, if_true, Bool.not_true, Bool.not_false, Bool.false_eq_true, if_false, endR_rt, endR_nx, Option.some.injEq, eA, Bool.false_and]
  | true =>
    rw [hA] at eA
    unfold lotsB at hA
    cases q : seqB d with
    | none => rw [q] at hA; simp at hA
    | some xs =>
      rw [q] at hA
      simp only [List.all_eq_true] at hA
      obtain ⟨l1, l2⟩ := hd.2.2 xs q
      have e1 : ev G (callI G fns (n + 4)) (.cmpr (.call iB (.cons (.var 3) .nil)) (.one 3) (.seq (.var 1)) .none [3]) [some (.ref j), some d, none, none, none, none] M = .ok (.lst ((xs.map bitsD).map .int)) M := by
        have := e_map (G := G) (cl := callI G fns (n + 4)) (M := M) (env := [some (.ref j), some d, none, none, none, none]) (e := .call iB (.cons (.var 3) .nil)) (tg := .one 3) (it := .seq (.var 1)) (own := [3]) (xs := xs) (h := fun x => .int (bitsD x))
          (by simp only [q_var, q_lit, q_glob, q_tup, q_lst, q_d0, q_bin, q_inv, q_neg, q_cmp, q_isN, q_isB, q_chn, q_and, q_or, q_not, q_ite, q_b1, q_b2, q_isin, q_call, q_callk, q_mk, q_fld, q_idx, q_slc, q_rev, q_app, q_ext, q_pop, q_alloc, q_lrng, q_0, q_1, q_on, q_os, q_seq, q_rng, q_tstb, q_nil, q_cons, q_ex, q_ret, q_asg, q_nm, q_par, q_ifs, q_fset, q_frz, R.bind_ok, R.bind_no, R.of_some, List.getElem?_cons_zero, List.getElem?_cons_succ, Option.bind_some, id_eq, Option.map_some, List.set_cons_zero, List.set_cons_succ, if_true, Bool.not_true, Bool.not_false, Bool.false_eq_true, if_false, endR_rt, endR_nx, Option.some.injEq, seq_seqD q]) (sz_of l1) (fun x hx => by
            obtain ⟨ns, k1, k2, k3, k4⟩ := lotD_bits (hA x hx)
            refine ⟨[some (.ref j), some d, none, some x, none, none], rfl, ?_⟩
            have e := run_bits (G := G) (n := n + 3) (M := M) hB k1 fun i hi => by have := k2 i hi; omega
            simp only [q_var, q_lit, q_glob, q_tup, q_lst, q_d0, q_bin, q_inv, q_neg, q_cmp, q_isN, q_isB, q_chn, q_and, q_or, q_not, q_ite, q_b1, q_b2, q_isin, q_call, q_callk, q_mk, q_fld, q_idx, q_slc, q_rev, q_app, q_ext, q_pop, q_alloc, q_lrng, q_0, q_1, q_on, q_os, q_seq, q_rng, q_tstb, q_nil, q_cons, q_ex, q_ret, q_asg, q_nm, q_par, q_ifs, q_fset, q_frz, R.bind_ok, R.bind_no, R.of_some, List.getElem?_cons_zero, List.getElem?_cons_succ, Option.bind_some, id_eq, Option.map_some, List.set_cons_zero, List.set_cons_succ, if_true, Bool.not_true, Bool.not_false, Bool.false_eq_true, if_false, endR_rt, endR_nx, Option.some.injEq, e, k4])
        rw [this, List.map_map]; rfl
      have e2 : ev G (callI G fns (n + 4)) (.cmpr (.b1 .all (.cmpr (.cmp .inn (.var 5) (.var 2)) (.one 5) (.seq (.call iLed (.cons (.var 0) (.cons (.var 4) .nil)))) .none [5])) (.one 4) (.seq (.var 2)) .none [4]) [some (.ref j), some d, some (.lst ((xs.map bitsD).map .int)), none, none, none] M =
          .ok (.lst (((xs.map bitsD).map .int).map fun b => .bl ((ledZ ds ss (intD b)).all fun o => decide (o ∈ xs.map bitsD)))) M := by
        refine e_map (by simp only [q_var, q_lit, q_glob, q_tup, q_lst, q_d0, q_bin, q_inv, q_neg, q_cmp, q_isN, q_isB, q_chn, q_and, q_or, q_not, q_ite, q_b1, q_b2, q_isin, q_call, q_callk, q_mk, q_fld, q_idx, q_slc, q_rev, q_app, q_ext, q_pop, q_alloc, q_lrng, q_0, q_1, q_on, q_os, q_seq, q_rng, q_tstb, q_nil, q_cons, q_ex, q_ret, q_asg, q_nm, q_par, q_ifs, q_fset, q_frz, R.bind_ok, R.bind_no, R.of_some, List.getElem?_cons_zero, List.getElem?_cons_succ, Option.bind_some, id_eq, Option.map_some, List.set_cons_zero, List.set_cons_succ, if_true, Bool.not_true, Bool.not_false, Bool.false_eq_true, if_false, endR_rt, endR_nx, Option.some.injEq, seqD]) (sz_of (by rw [List.length_map, List.length_map]; exact l1)) fun b hb => ?_
        obtain ⟨i, _, rfl⟩ := List.mem_map.mp hb
        refine ⟨[some (.ref j), some d, some (.lst ((xs.map bitsD).map .int)), none, some (.int i), none], rfl, ?_⟩
        have e3 := run_led (G := G) (n := n + 3) (M := M) hLed h12 h13 h23 hS hl hl2 i
        have hll : (ledZ ds ss i).length ≤ 120 := by unfold ledZ; rw [List.length_append, List.length_map, List.length_map]; omega
        have e4 : ev G (callI G fns (n + 4)) (.cmpr (.cmp .inn (.var 5) (.var 2)) (.one 5) (.seq (.call iLed (.cons (.var 0) (.cons (.var 4) .nil)))) .none [5]) [some (.ref j), some d, some (.lst ((xs.map bitsD).map .int)), none, some (.int i), none] M =
            .ok (.lst (((ledZ ds ss i).map .int).map fun o => .bl (decide (intD o ∈ xs.map bitsD)))) M := by
          refine e_map (by simp only [q_var, q_lit, q_glob, q_tup, q_lst, q_d0, q_bin, q_inv, q_neg, q_cmp, q_isN, q_isB, q_chn, q_and, q_or, q_not, q_ite, q_b1, q_b2, q_isin, q_call, q_callk, q_mk, q_fld, q_idx, q_slc, q_rev, q_app, q_ext, q_pop, q_alloc, q_lrng, q_0, q_1, q_on, q_os, q_seq, q_rng, q_tstb, q_nil, q_cons, q_ex, q_ret, q_asg, q_nm, q_par, q_ifs, q_fset, q_frz, R.bind_ok, R.bind_no, R.of_some, List.getElem?_cons_zero, List.getElem?_cons_succ, Option.bind_some, id_eq, Option.map_some, List.set_cons_zero, List.set_cons_succ, if_true, Bool.not_true, Bool.not_false, Bool.false_eq_true, if_false, endR_rt, endR_nx, Option.some.injEq, e3, seqD]) (sz_of (by rw [List.length_map]; omega)) fun o ho => ?_
          obtain ⟨k, _, rfl⟩ := List.mem_map.mp ho
          refine ⟨[some (.ref j), some d, some (.lst ((xs.map bitsD).map .int)), none, some (.int i), some (.int k)], rfl, ?_⟩
          simp only [q_var, q_lit, q_glob, q_tup, q_lst, q_d0, q_bin, q_inv, q_neg, q_cmp, q_isN, q_isB, q_chn, q_and, q_or, q_not, q_ite, q_b1, q_b2, q_isin, q_call, q_callk, q_mk, q_fld, q_idx, q_slc, q_rev, q_app, q_ext, q_pop, q_alloc, q_lrng, q_0, q_1, q_on, q_os, q_seq, q_rng, q_tstb, q_nil, q_cons, q_ex, q_ret, q_asg, q_nm, q_par, q_ifs, q_fset, q_frz, R.bind_ok, R.bind_no, R.of_some, List.getElem?_cons_zero, List.getElem?_cons_succ, Option.bind_some, id_eq, Option.map_some, List.set_cons_zero, List.set_cons_succ, if_true, Bool.not_true, Bool.not_false, Bool.false_eq_true, if_false, endR_rt, endR_nx, Option.some.injEq, cop, inD_ints, intD]
          try exact congrArg (fun k => R.ok (D.bl k) M) (decide_eq_decide.mpr Iff.rfl)
        simp only [q_var, q_lit, q_glob, q_tup, q_lst, q_d0, q_bin, q_inv, q_neg, q_cmp, q_isN, q_isB, q_chn, q_and, q_or, q_not, q_ite, q_b1, q_b2, q_isin, q_call, q_callk, q_mk, q_fld, q_idx, q_slc, q_rev, q_app, q_ext, q_pop, q_alloc, q_lrng, q_0, q_1, q_on, q_os, q_seq, q_rng, q_tstb, q_nil, q_cons, q_ex, q_ret, q_asg, q_nm, q_par, q_ifs, q_fset, q_frz, R.bind_ok, R.bind_no, R.of_some, List.getElem?_cons_zero, List.getElem?_cons_succ, Option.bind_some, id_eq, Option.map_some, List.set_cons_zero, List.set_cons_succ, if_true, Bool.not_true, Bool.not_false, Bool.false_eq_true, if_false, endR_rt, endR_nx, Option.some.injEq, e4, all_map, List.all_map]
        rfl
      simp only [fClosedOf, q_var, q_lit, q_glob, q_tup, q_lst, q_d0, q_bin, q_inv, q_neg, q_cmp, q_isN, q_isB, q_chn, q_and, q_or, q_not, q_ite, q_b1, q_b2, q_isin, q_call, q_callk, q_mk, q_fld, q_idx, q_slc, q_rev, q_app, q_ext, q_pop, q_alloc, q_lrng, q_0, q_1, q_on, q_os, q_seq, q_rng, q_tstb, q_nil, q_cons, q_ex, q_ret, q_asg, q_nm, q_par, q_ifs, q_fset, q_frz, R.bind_ok, R.bind_no, R.of_some, List.getElem?_cons_zero, List.getElem?_cons_succ, Option.bind_some, id_eq, Option.map_some, List.set_cons_zero, List.set_cons_succ, if_true, Bool.not_true, Bool.not_false, Bool.false_eq_true, if_false, endR_rt, endR_nx, Option.some.injEq, eA, e1, cop, inD_ints, e2, all_map, List.all_map, Bool.true_and]
      by_cases h0 : 0 ∈ xs.map bitsD
      · have d0 : decide (0 ∈ xs.map bitsD) = true := decide_eq_true h0
        rw [d0]
        rfl
      · have d0 : decide (0 ∈ xs.map bitsD) = false := decide_eq_false h0
        rw [d0]
        rfl
end
end Z
end
section
set_option Elab.async false
set_option linter.all false
set_option maxRecDepth 100000
set_option maxHeartbeats 2000000
/-! Zp7: the laws' own draws. -/
namespace Z
open PySem (PyData sizeLine)
def PotAt (M : Mem) (j : Nat) : Prop := ∃ a b : Int, M[j]? = some (.lst [.int a, .int b])
/-- all but the pot stands as it was; things may have come behind -/
structure Step (j : Nat) (M M' : Mem) : Prop where
  pot : PotAt M' j
  len : M.length ≤ M'.length
  old : ∀ i, i ≠ j → i < M.length → M'[i]? = M[i]?
theorem Step.refl {j : Nat} {M : Mem} (h : PotAt M j) : Step j M M := ⟨h, Nat.le_refl _, fun _ _ _ => rfl⟩
theorem Step.trans {j : Nat} {M M1 M2 : Mem} (a : Step j M M1) (b : Step j M1 M2) : Step j M M2 :=
  ⟨b.pot, Nat.le_trans a.len b.len, fun i h1 h2 => (b.old i h1 (Nat.lt_of_lt_of_le h2 a.len)).trans (a.old i h1 h2)⟩
theorem Step.get {j i : Nat} {M M' : Mem} {o : MO} (a : Step j M M') (h : i ≠ j) (e : M[i]? = some o) : M'[i]? = some o := (a.old i h (List.getElem?_eq_some_iff.mp e).1).trans e
theorem pot_lt {M : Mem} {j : Nat} (h : PotAt M j) : j < M.length := by
  obtain ⟨a, b, e⟩ := h
  exact (List.getElem?_eq_some_iff.mp e).1
theorem step_set {M : Mem} {j : Nat} (h : j < M.length) (a b : Int) : Step j M (M.set j (.lst [.int a, .int b])) :=
  ⟨⟨a, b, List.getElem?_set_self h⟩, Nat.le_of_eq List.length_set.symm, fun i h1 _ => List.getElem?_set_ne (Ne.symm h1)⟩
theorem step_app {M : Mem} {j : Nat} (h : PotAt M j) (o : MO) : Step j M (M ++ [o]) := by
  refine ⟨?_, by rw [List.length_append]; exact Nat.le_add_right _ _, fun i _ h2 => List.getElem?_append_left h2⟩
  obtain ⟨a, b, e⟩ := h
  exact ⟨a, b, by rw [List.getElem?_append_left (List.getElem?_eq_some_iff.mp e).1]; exact e⟩
section
variable {G : Gt} {fns : Nat → Option Fn} {n : Nat} {M : Mem}
def fDraw (c1 : Int) : Fn := ⟨2, 3, (.cons (.ifs (.cmp .gt (.idx (.var 0) (.lit (.int 0))) (.lit (.int 0))) (.cons (.asg (.tp [(.sub (.var 0) (.lit (.int 0))), (.nm 2)]) (.b2 .divmod (.idx (.var 0) (.lit (.int 0))) (.var 1))) (.cons (.ret (.var 2)) .nil)) .nil) (.cons (.asg (.sub (.var 0) (.lit (.int 1))) (.bin .mod (.b1 .int (.bin .add (.bin .mul (.idx (.var 0) (.lit (.int 1))) (.lit (.int 48271))) (.lit (.int c1)))) (.lit (.int 2147483587)))) (.cons (.ret (.bin .mod (.b1 .int (.bin .div (.bin .mod (.b1 .int (.bin .mul (.idx (.var 0) (.lit (.int 1))) (.idx (.var 0) (.lit (.int 1))))) (.lit (.int 2147483549))) (.lit (.int 13)))) (.var 1))) .nil)))⟩
theorem idx0 {M : Mem} {j : Nat} {a b : D} (h : M[j]? = some (.lst [a, b])) : idxD M (.ref j) (.int 0) = some a := by
  simp only [idxD, h]; rfl
theorem idx1 {M : Mem} {j : Nat} {a b : D} (h : M[j]? = some (.lst [a, b])) : idxD M (.ref j) (.int 1) = some b := by
  simp only [idxD, h]; rfl
theorem run_draw {f : Nat} {c1 : Int} (h : fns f = some (fDraw c1)) {j : Nat} (hp : PotAt M j) {m : Int} (hm : 0 < m) (hm2 : m < 1073741824) : ∃ r M', callI G fns (n + 1) f [.ref j, .int m] M = .ok (.int r) M' ∧ Step j M M' ∧ 0 ≤ r ∧ r < m := by
  obtain ⟨a, b, e⟩ := hp
  have hj : j < M.length := (List.getElem?_eq_some_iff.mp e).1
  by_cases ha : 0 < a
  · refine ⟨a % m, M.set j (.lst [.int (a / m), .int b]), ?_, step_set hj _ _, Int.emod_nonneg _ (by omega), Int.emod_lt_of_pos _ hm⟩
    rw [callI_b h [some (.ref j), some (.int m), none]]
    have d1 : decide ((0 : Int) < a) = true := decide_eq_true ha
    have e2 : b2 .divmod (.int a) (.int m) = some (.tup [.int (a / m), .int (a % m)]) := by
      simp only [b2]
      rw [if_pos ⟨hm, hm2⟩]
    have e3 : asg G (callI G fns n) (.tp [(.sub (.var 0) (.lit (.int 0))), (.nm 2)]) (.tup [.int (a / m), .int (a % m)]) [some (.ref j), some (.int m), none] M = .ok [some (.ref j), some (.int m), some (.int (a % m))] (M.set j (.lst [.int (a / m), .int b])) := by
      simp only [asg, asgs, q_var, q_lit, List.getElem?_cons_zero, Option.bind_some, id_eq, R.of_some, R.bind_ok, e]
      rfl
    simp only [fDraw, q_var, q_lit, q_glob, q_tup, q_lst, q_d0, q_bin, q_inv, q_neg, q_cmp, q_isN, q_isB, q_chn, q_and, q_or, q_not, q_ite, q_b1, q_b2, q_isin, q_call, q_callk, q_mk, q_fld, q_idx, q_slc, q_rev, q_app, q_ext, q_pop, q_alloc, q_lrng, q_0, q_1, q_on, q_os, q_seq, q_rng, q_tstb, q_nil, q_cons, q_ex, q_ret, q_asg, q_nm, q_par, q_ifs, q_fset, q_frz, R.bind_ok, R.bind_no, R.of_some, List.getElem?_cons_zero, List.getElem?_cons_succ, Option.bind_some, id_eq, Option.map_some, List.set_cons_zero, List.set_cons_succ, if_true, Bool.not_true, Bool.not_false, Bool.false_eq_true, if_false, endR_rt, endR_nx, Option.some.injEq, idx0 e, cop, d1, e2, e3]
  · have d1 : decide ((0 : Int) < a) = false := decide_eq_false ha
    let b' := (b * 48271 + c1) % 2147483587
    have hb0 : 0 ≤ b' := Int.emod_nonneg _ (by decide)
    have hb1 : b' < 2147483587 := Int.emod_lt_of_pos _ (by decide)
    refine ⟨b' * b' % 2147483549 / 13 % m, M.set j (.lst [.int a, .int b']), ?_, step_set hj _ _, Int.emod_nonneg _ (by omega), Int.emod_lt_of_pos _ hm⟩
    rw [callI_b h [some (.ref j), some (.int m), none]]
    have m1 : bop .mul M (.int b) (.int 48271) = some (.int (b * 48271)) := by
      simp only [bop]
      rw [if_pos (.inr ⟨by decide, by decide⟩)]
    have m2 : bop .add M (.int (b * 48271)) (.int c1) = some (.int (b * 48271 + c1)) := rfl
    have m3 : bop .mod M (.int (b * 48271 + c1)) (.int 2147483587) = some (.int b') := by
      simp only [bop]
      rw [if_pos (by decide)]
    have e3 : asg G (callI G fns n) (.sub (.var 0) (.lit (.int 1))) (.int b') [some (.ref j), some (.int m), none] M = .ok [some (.ref j), some (.int m), none] (M.set j (.lst [.int a, .int b'])) := by
      simp only [asg, q_var, q_lit, List.getElem?_cons_zero, Option.bind_some, id_eq, R.of_some, R.bind_ok, e]
      rfl
    have e' : (M.set j (.lst [.int a, .int b']))[j]? = some (.lst [.int a, .int b']) := List.getElem?_set_self hj
    have i1 : ∀ (M : Mem) (i : Int), b1 .int M (.int i) = some (.int i) := fun _ _ => rfl
    have m4 : ∀ M : Mem, bop .mul M (.int b') (.int b') = some (.int (b' * b')) := fun M => by
      simp only [bop]
      rw [if_pos (.inr ⟨by omega, by omega⟩)]
    have m5 : ∀ (M : Mem) (x : Int), bop .mod M (.int x) (.int 2147483549) = some (.int (x % 2147483549)) := fun M x => by
      simp only [bop]
      rw [if_pos (by decide)]
    have m6 : ∀ (M : Mem) (x : Int), bop .div M (.int x) (.int 13) = some (.int (x / 13)) := fun M x => by
      simp only [bop]
      rw [if_pos (by decide)]
    have m7 : ∀ (M : Mem) (x : Int), bop .mod M (.int x) (.int m) = some (.int (x % m)) := fun M x => by
      simp only [bop]
      rw [if_pos hm]
    simp only [fDraw, q_var, q_lit, q_glob, q_tup, q_lst, q_d0, q_bin, q_inv, q_neg, q_cmp, q_isN, q_isB, q_chn, q_and, q_or, q_not, q_ite, q_b1, q_b2, q_isin, q_call, q_callk, q_mk, q_fld, q_idx, q_slc, q_rev, q_app, q_ext, q_pop, q_alloc, q_lrng, q_0, q_1, q_on, q_os, q_seq, q_rng, q_tstb, q_nil, q_cons, q_ex, q_ret, q_asg, q_nm, q_par, q_ifs, q_fset, q_frz, R.bind_ok, R.bind_no, R.of_some, List.getElem?_cons_zero, List.getElem?_cons_succ, Option.bind_some, id_eq, Option.map_some, List.set_cons_zero, List.set_cons_succ, if_true, Bool.not_true, Bool.not_false, Bool.false_eq_true, if_false, endR_rt, endR_nx, Option.some.injEq, idx0 e, idx1 e, idx1 e', cop, d1, m1, m2, m3, e3, i1, m4, m5, m6, m7]
/-- a comprehension whose items change the pot: what it keeps is a part of what it walks -/
theorem comp_eff {f : D → Mem → R (Option D)} {j : Nat} : ∀ {xs : List D} {M : Mem}, PotAt M j → (∀ x ∈ xs, ∀ M, PotAt M j → ∃ o M', f x M = .ok o M' ∧ Step j M M' ∧ (o = none ∨ o = some x)) → ∃ ys M', compL f xs M = .ok ys M' ∧ Step j M M' ∧ ys.Sublist xs
  | [], M, hp, _ => ⟨[], M, rfl, .refl hp, List.Sublist.refl _⟩
  | x :: xs, M, hp, k => by
    obtain ⟨o, M1, h1, h2, h3⟩ := k x List.mem_cons_self M hp
    obtain ⟨ys, M2, h4, h5, h6⟩ := comp_eff (xs := xs) h2.pot fun y hy => k y (List.mem_cons_of_mem _ hy)
    rcases h3 with rfl | rfl
    · refine ⟨ys, M2, ?_, h2.trans h5, h6.cons x⟩
      unfold compL
      rw [h1]
      exact h4
    · refine ⟨x :: ys, M2, ?_, h2.trans h5, h6.cons₂ x⟩
      unfold compL
      rw [h1]
      simp only [h4]
theorem e_eff {cl : Nat → List D → Mem → R D} {env : Env} {e c : E} {tg : Tg} {it : It} {own : List Nat} {xs : List D} {j : Nat} (hi : evi G cl it env M = .ok xs M) (hl : xs.length < sizeLine) (hp : PotAt M j)
    (hb : ∀ x ∈ xs, ∃ env', bindT tg x (wipeE env own) = some env' ∧ ∀ M, PotAt M j → ∃ k M', tst (ev G cl c env' M) = .ok k M' ∧ Step j M M' ∧ (k = true → ev G cl e env' M' = .ok x M')) :
    ∃ ys M', ev G cl (.cmpr e tg it (.some c) own) env M = .ok (.lst ys) M' ∧ Step j M M' ∧ ys.Sublist xs := by
  have key : ∀ F : D → Mem → R (Option D), (∀ x ∈ xs, ∀ M, PotAt M j → ∃ o M', F x M = .ok o M' ∧ Step j M M' ∧ (o = none ∨ o = some x)) →
      ∃ ys M', ((compL F xs M).bind fun ys M => if xs.length < sizeLine then R.ok (D.lst ys) M else .no) = .ok (.lst ys) M' ∧ Step j M M' ∧ ys.Sublist xs := by
    intro F hF
    obtain ⟨ys, M', h1, h2, h3⟩ := comp_eff hp hF
    refine ⟨ys, M', ?_, h2, h3⟩
    rw [h1]
    simp only [R.bind_ok, if_pos hl]
  simp only [ev]
  rw [hi]
  simp only [R.bind_ok]
  refine key _ fun x hx M hp => ?_
  obtain ⟨env', h1, h2⟩ := hb x hx
  obtain ⟨k, M', h3, h4, h5⟩ := h2 M hp
  refine ⟨if k = true then some x else none, M', ?_, h4, ?_⟩
  · rw [h1]
    simp only [h3, R.bind_ok]
    cases k with
    | true => simp only [if_true, h5 rfl, R.bind_ok]
    | false => rfl
  · cases k
    · exact .inl rfl
    · exact .inr rfl
def fKind (iD : Nat) : Fn := ⟨2, 4, (.cons (.asg (.nm 2) (.cmpr (.var 3) (.one 3) (.rng (.var 1)) (.some (.cmp .eq (.call iD (.cons (.var 0) (.cons (.lit (.int 2)) .nil))) (.lit (.int 0)))) [3])) (.cons (.ret (.ite (.cmp .ne (.var 2) (.lst .nil)) (.var 2) (.lst (.cons (.call iD (.cons (.var 0) (.cons (.var 1) .nil))) .nil)))) .nil))⟩
def rngZ (s : Int) : List Int := (List.range s.toNat).map fun (i : Nat) => ((i : Nat) : Int)
theorem rngZ_D (s : Int) : rangeD 0 s.toNat = (rngZ s).map D.int := by
  unfold rangeD rngZ
  rw [List.map_map]
  apply List.map_congr_left
  intro i _
  show D.int (0 + (i : Int)) = D.int i
  rw [Int.zero_add]
theorem rngZ_mem {s i : Int} : i ∈ rngZ s ↔ 0 ≤ i ∧ i < s := by
  unfold rngZ
  rw [List.mem_map]
  constructor
  · rintro ⟨k, hk, rfl⟩
    rw [List.mem_range] at hk
    omega
  · rintro ⟨h1, h2⟩
    exact ⟨i.toNat, List.mem_range.mpr (by omega), by omega⟩
theorem rngZ_srt (s : Int) : (rngZ s).Pairwise (· < ·) := by
  unfold rngZ
  rw [List.pairwise_map]
  exact List.pairwise_lt_range.imp fun h => by omega
theorem sub_ints {ys : List D} {ns : List Int} (h : ys.Sublist (ns.map D.int)) : ∃ ms : List Int, ys = ms.map D.int ∧ ms.Sublist ns := by
  obtain ⟨ms, h1, h2⟩ := List.sublist_map_iff.mp h
  exact ⟨ms, h2, h1⟩
theorem run_kind {f iD : Nat} {c1 : Int} (h : fns f = some (fKind iD)) (hD : fns iD = some (fDraw c1)) {j : Nat} (hp : PotAt M j) {s : Int} (hs : 0 < s) (hs2 : s ≤ 60) : ∃ l M', callI G fns (n + 2) f [.ref j, .int s] M = .ok (rowZ l) M' ∧ Step j M M' ∧ Kind s l := by
  have hr : evi G (callI G fns (n + 1)) (.rng (.var 1)) [some (.ref j), some (.int s), none, none] M = .ok ((rngZ s).map D.int) M := by
    have e : rng1D (.int s) = some ((rngZ s).map D.int) := by
      simp only [rng1D]
      rw [if_pos ⟨by omega, by omega⟩, rngZ_D]
    simp only [q_var, q_lit, q_glob, q_tup, q_lst, q_d0, q_bin, q_inv, q_neg, q_cmp, q_isN, q_isB, q_chn, q_and, q_or, q_not, q_ite, q_b1, q_b2, q_isin, q_call, q_callk, q_mk, q_fld, q_idx, q_slc, q_rev, q_app, q_ext, q_pop, q_alloc, q_lrng, q_0, q_1, q_on, q_os, q_seq, q_rng, q_tstb, q_nil, q_cons, q_ex, q_ret, q_asg, q_nm, q_par, q_ifs, q_fset, q_frz, R.bind_ok, R.bind_no, R.of_some, List.getElem?_cons_zero, List.getElem?_cons_succ, Option.bind_some, id_eq, Option.map_some, List.set_cons_zero, List.set_cons_succ, if_true, Bool.not_true, Bool.not_false, Bool.false_eq_true, if_false, endR_rt, endR_nx, Option.some.injEq, e]
  have hlen : ((rngZ s).map D.int).length < sizeLine := sz_of (by rw [List.length_map]; unfold rngZ; rw [List.length_map, List.length_range]; omega)
  have ef : ∃ ms M1, ev G (callI G fns (n + 1)) (.cmpr (.var 3) (.one 3) (.rng (.var 1)) (.some (.cmp .eq (.call iD (.cons (.var 0) (.cons (.lit (.int 2)) .nil))) (.lit (.int 0)))) [3]) [some (.ref j), some (.int s), none, none] M = .ok (rowZ ms) M1 ∧ Step j M M1 ∧ ms.Sublist (rngZ s) := by
    obtain ⟨ys, M1, h1, h2, h3⟩ := e_eff (j := j) (e := .var 3) (tg := .one 3) (own := [3]) (c := .cmp .eq (.call iD (.cons (.var 0) (.cons (.lit (.int 2)) .nil))) (.lit (.int 0))) hr hlen hp (fun x hx => by
      refine ⟨[some (.ref j), some (.int s), none, some x], rfl, fun M hp => ?_⟩
      obtain ⟨r, M1, e1, e2, e3, e4⟩ := run_draw (G := G) (n := n) (M := M) hD hp (m := 2) (by decide) (by decide)
      have et : ev G (callI G fns (n + 1)) (.cmp .eq (.call iD (.cons (.var 0) (.cons (.lit (.int 2)) .nil))) (.lit (.int 0))) [some (.ref j), some (.int s), none, some x] M = .ok (.bl (decide (r = 0))) M1 := by
        simp only [q_var, q_lit, q_glob, q_tup, q_lst, q_d0, q_bin, q_inv, q_neg, q_cmp, q_isN, q_isB, q_chn, q_and, q_or, q_not, q_ite, q_b1, q_b2, q_isin, q_call, q_callk, q_mk, q_fld, q_idx, q_slc, q_rev, q_app, q_ext, q_pop, q_alloc, q_lrng, q_0, q_1, q_on, q_os, q_seq, q_rng, q_tstb, q_nil, q_cons, q_ex, q_ret, q_asg, q_nm, q_par, q_ifs, q_fset, q_frz, R.bind_ok, R.bind_no, R.of_some, List.getElem?_cons_zero, List.getElem?_cons_succ, Option.bind_some, id_eq, Option.map_some, List.set_cons_zero, List.set_cons_succ, if_true, Bool.not_true, Bool.not_false, Bool.false_eq_true, if_false, endR_rt, endR_nx, Option.some.injEq, e1, cop, eqD_int]
      exact ⟨_, M1, by rw [et, q_tstb], e2, fun _ => rfl⟩)
    obtain ⟨ms, rfl, h4⟩ := sub_ints h3
    exact ⟨ms, M1, h1, h2, h4⟩
  obtain ⟨ms, M1, e1, e2, e3⟩ := ef
  by_cases hne : ms = []
  · obtain ⟨r, M2, d1, d2, d3, d4⟩ := run_draw (G := G) (n := n) (M := M1) hD e2.pot (m := s) hs (by omega)
    refine ⟨[r], M2, ?_, e2.trans d2, List.pairwise_singleton _ _, fun i hi => by rw [List.mem_singleton] at hi; subst hi; exact ⟨d3, d4⟩, by simp⟩
    rw [callI_b h [some (.ref j), some (.int s), none, none]]
    subst hne
    have en : eqD M1 (rowZ []) (.lst []) = some true := eqD_row [] []
    simp only [fKind, q_var, q_lit, q_glob, q_tup, q_lst, q_d0, q_bin, q_inv, q_neg, q_cmp, q_isN, q_isB, q_chn, q_and, q_or, q_not, q_ite, q_b1, q_b2, q_isin, q_call, q_callk, q_mk, q_fld, q_idx, q_slc, q_rev, q_app, q_ext, q_pop, q_alloc, q_lrng, q_0, q_1, q_on, q_os, q_seq, q_rng, q_tstb, q_nil, q_cons, q_ex, q_ret, q_asg, q_nm, q_par, q_ifs, q_fset, q_frz, R.bind_ok, R.bind_no, R.of_some, List.getElem?_cons_zero, List.getElem?_cons_succ, Option.bind_some, id_eq, Option.map_some, List.set_cons_zero, List.set_cons_succ, if_true, Bool.not_true, Bool.not_false, Bool.false_eq_true, if_false, endR_rt, endR_nx, Option.some.injEq, e1, cop, en, d1]
    rfl
  · refine ⟨ms, M1, ?_, e2, (rngZ_srt s).sublist e3, fun i hi => rngZ_mem.mp (e3.subset hi), hne⟩
    rw [callI_b h [some (.ref j), some (.int s), none, none]]
    have en : eqD M1 (rowZ ms) (.lst []) = some false := by
      have := eqD_row (M := M1) ms []
      rw [decide_eq_false hne] at this
      exact this
    simp only [fKind, q_var, q_lit, q_glob, q_tup, q_lst, q_d0, q_bin, q_inv, q_neg, q_cmp, q_isN, q_isB, q_chn, q_and, q_or, q_not, q_ite, q_b1, q_b2, q_isin, q_call, q_callk, q_mk, q_fld, q_idx, q_slc, q_rev, q_app, q_ext, q_pop, q_alloc, q_lrng, q_0, q_1, q_on, q_os, q_seq, q_rng, q_tstb, q_nil, q_cons, q_ex, q_ret, q_asg, q_nm, q_par, q_ifs, q_fset, q_frz, R.bind_ok, R.bind_no, R.of_some, List.getElem?_cons_zero, List.getElem?_cons_succ, Option.bind_some, id_eq, Option.map_some, List.set_cons_zero, List.set_cons_succ, if_true, Bool.not_true, Bool.not_false, Bool.false_eq_true, if_false, endR_rt, endR_nx, Option.some.injEq, e1, cop, en]
end
end Z
end
section
set_option Elab.async false
set_option linter.all false
set_option maxRecDepth 100000
set_option maxHeartbeats 2000000
/-! Zp8: drawn kinds, lots laid and taken off. -/
namespace Z
open PySem (PyData sizeLine)
theorem step_setL {j L : Nat} {M M' : Mem} (h : Step j M M') (hL : M.length ≤ L) (hj : j < M.length) (o : MO) : Step j M (M'.set L o) := by
  refine ⟨?_, by rw [List.length_set]; exact h.len, fun i h1 h2 => ?_⟩
  · obtain ⟨a, b, e⟩ := h.pot
    exact ⟨a, b, by rw [List.getElem?_set_ne (by omega)]; exact e⟩
  · rw [List.getElem?_set_ne (by omega)]
    exact h.old i h1 h2
section
variable {G : Gt} {fns : Nat → Option Fn} {n : Nat} {M : Mem}
theorem asS_ref {L : Nat} {xs : List D} (h : M[L]? = some (.lst xs)) : asS M (.ref L) = some xs := by simp only [asS, asL, h]
theorem sorted_ref {L : Nat} {ks : List (List Int)} (h : M[L]? = some (.lst (ks.map rowZ))) : b1 .sorted M (.ref L) = some (.lst ((isort lexLe ks).map rowZ)) := by
  simp only [b1, asS_ref h, sortD_rows]
  rfl
def fKinds (iD iK : Nat) : Fn := ⟨3, 6, (.cons (.asg (.nm 3) (.alloc (.lst .nil))) (.cons (.fr (.one 4) (.rng (.call iD (.cons (.var 0) (.cons (.bin .add (.var 2) (.lit (.int 1))) .nil)))) (.cons (.asg (.nm 5) (.call iK (.cons (.var 0) (.cons (.var 1) .nil)))) (.cons (.ifs (.cmp .nin (.var 5) (.var 3)) (.cons (.ex (.app (.var 3) (.var 5))) .nil) .nil) .nil))) (.cons (.ret (.b1 .sorted (.var 3))) .nil)))⟩
/-- kinds, each once, in their sequence -/
structure Kinds (s : Int) (m : Nat) (ks : List (List Int)) : Prop where
  all : ∀ l ∈ ks, Kind s l
  nod : ks.Nodup
  len : ks.length ≤ m
  srt : ks.Pairwise fun a b => lexLe a b = true
theorem run_kinds {f iD iK : Nat} {c1 : Int} (h : fns f = some (fKinds iD iK)) (hK : fns iK = some (fKind iD)) (hD : fns iD = some (fDraw c1)) {j : Nat} (hp : PotAt M j) {s : Int} (hs : 0 < s) (hs2 : s ≤ 60) {m : Nat} (hm : m ≤ 60) :
    ∃ ks M', callI G fns (n + 3) f [.ref j, .int s, .int m] M = .ok (.lst (ks.map rowZ)) M' ∧ Step j M M' ∧ Kinds s m ks := by
  have hj := pot_lt hp
  let M1 : Mem := M ++ [.lst []]
  have s1 : Step j M M1 := step_app hp _
  have g1 : M1[M.length]? = some (.lst (([] : List (List Int)).map rowZ)) := by
    show (M ++ [MO.lst []])[M.length]? = _
    simp
  obtain ⟨r, M2, d1, d2, d3, d4⟩ := run_draw (G := G) (n := n + 1) (M := M1) hD s1.pot (m := (m : Int) + 1) (by omega) (by omega)
  have g2 := d2.get (by omega : M.length ≠ j) g1
  have hi : evi G (callI G fns (n + 2)) (.rng (.call iD (.cons (.var 0) (.cons (.bin .add (.var 2) (.lit (.int 1))) .nil)))) [some (.ref j), some (.int s), some (.int m), some (.ref M.length), none, none] M1 = .ok ((rngZ r).map D.int) M2 := by
    have e : rng1D (.int r) = some ((rngZ r).map D.int) := by
      simp only [rng1D]
      rw [if_pos ⟨by omega, by omega⟩, rngZ_D]
    have e2 : bop .add M1 (.int m) (.int 1) = some (.int ((m : Int) + 1)) := rfl
    simp only [q_var, q_lit, q_glob, q_tup, q_lst, q_d0, q_bin, q_inv, q_neg, q_cmp, q_isN, q_isB, q_chn, q_and, q_or, q_not, q_ite, q_b1, q_b2, q_isin, q_call, q_callk, q_mk, q_fld, q_idx, q_slc, q_rev, q_app, q_ext, q_pop, q_alloc, q_lrng, q_0, q_1, q_on, q_os, q_seq, q_rng, q_tstb, q_nil, q_cons, q_ex, q_ret, q_asg, q_nm, q_par, q_ifs, q_fset, q_frz, R.bind_ok, R.bind_no, R.of_some, List.getElem?_cons_zero, List.getElem?_cons_succ, Option.bind_some, id_eq, Option.map_some, List.set_cons_zero, List.set_cons_succ, if_true, Bool.not_true, Bool.not_false, Bool.false_eq_true, if_false, endR_rt, endR_nx, Option.some.injEq, e2, d1, e]
  have hrl : ((rngZ r).map D.int).length ≤ m := by
    rw [List.length_map]; unfold rngZ; rw [List.length_map, List.length_range]; omega
  obtain ⟨env', M3, l1, hst, ks, o4, o5, he, hg, ka, kn, kl⟩ := loop_end (t := .one 4) (body := fun env M => exb G (callI G fns (n + 2)) (.cons (.asg (.nm 5) (.call iK (.cons (.var 0) (.cons (.var 1) .nil)))) (.cons (.ifs (.cmp .nin (.var 5) (.var 3)) (.cons (.ex (.app (.var 3) (.var 5))) .nil) .nil) .nil)) env M)
    (fun xs env M' => Step j M M' ∧ ∃ ks o4 o5, env = [some (.ref j), some (.int s), some (.int m), some (.ref M.length), o4, o5] ∧ M'[M.length]? = some (.lst (ks.map rowZ)) ∧ (∀ l ∈ ks, Kind s l) ∧ ks.Nodup ∧ ks.length + xs.length ≤ m)
    (fun x xs env M' ⟨hst, ks, o4, o5, he, hg, ka, kn, kl⟩ => by
      subst he
      obtain ⟨l, M4, e1, e2, e3⟩ := run_kind (G := G) (n := n) (M := M') hK hD hst.pot hs hs2
      have g4 := e2.get (by omega : M.length ≠ j) hg
      have hst4 := hst.trans e2
      have ein : inD M4 (rowZ l) (.ref M.length) = some (decide (l ∈ ks)) := by rw [inD_ref _ g4, inD_rows]
      refine ⟨[some (.ref j), some (.int s), some (.int m), some (.ref M.length), some x, o5], [some (.ref j), some (.int s), some (.int m), some (.ref M.length), some x, some (rowZ l)], ?_⟩
      by_cases hl : l ∈ ks
      · refine ⟨M4, rfl, ?_, hst4, ks, some x, some (rowZ l), rfl, g4, ka, kn, by rw [List.length_cons] at kl; omega⟩
        have dl : decide (l ∈ ks) = true := decide_eq_true hl
        simp only [q_var, q_lit, q_glob, q_tup, q_lst, q_d0, q_bin, q_inv, q_neg, q_cmp, q_isN, q_isB, q_chn, q_and, q_or, q_not, q_ite, q_b1, q_b2, q_isin, q_call, q_callk, q_mk, q_fld, q_idx, q_slc, q_rev, q_app, q_ext, q_pop, q_alloc, q_lrng, q_0, q_1, q_on, q_os, q_seq, q_rng, q_tstb, q_nil, q_cons, q_ex, q_ret, q_asg, q_nm, q_par, q_ifs, q_fset, q_frz, R.bind_ok, R.bind_no, R.of_some, List.getElem?_cons_zero, List.getElem?_cons_succ, Option.bind_some, id_eq, Option.map_some, List.set_cons_zero, List.set_cons_succ, if_true, Bool.not_true, Bool.not_false, Bool.false_eq_true, if_false, endR_rt, endR_nx, Option.some.injEq, e1, cop, ein, dl]
      · have dl : decide (l ∈ ks) = false := decide_eq_false hl
        have hlen : (ks.map rowZ).length < sizeLine := sz_of (by rw [List.length_map]; omega)
        refine ⟨M4.set M.length (.lst (ks.map rowZ ++ [rowZ l])), rfl, ?_, step_setL hst4 (Nat.le_refl _) hj _, ks ++ [l], some x, some (rowZ l), rfl, ?_, fun q hq => ?_, ?_, ?_⟩
        · have isl : isLst M4 M.length = true := by unfold isLst; rw [g4]
          simp only [q_var, q_lit, q_glob, q_tup, q_lst, q_d0, q_bin, q_inv, q_neg, q_cmp, q_isN, q_isB, q_chn, q_and, q_or, q_not, q_ite, q_b1, q_b2, q_isin, q_call, q_callk, q_mk, q_fld, q_idx, q_slc, q_rev, q_app, q_ext, q_pop, q_alloc, q_lrng, q_0, q_1, q_on, q_os, q_seq, q_rng, q_tstb, q_nil, q_cons, q_ex, q_ret, q_asg, q_nm, q_par, q_ifs, q_fset, q_frz, R.bind_ok, R.bind_no, R.of_some, List.getElem?_cons_zero, List.getElem?_cons_succ, Option.bind_some, id_eq, Option.map_some, List.set_cons_zero, List.set_cons_succ, if_true, Bool.not_true, Bool.not_false, Bool.false_eq_true, if_false, endR_rt, endR_nx, Option.some.injEq, e1, cop, ein, dl, isl, g4, hlen]
        · rw [List.getElem?_set_self (List.getElem?_eq_some_iff.mp g4).1, List.map_append]; rfl
        · rcases List.mem_append.mp hq with hq | hq
          · exact ka q hq
          · rw [List.mem_singleton.mp hq]; exact e3
        · exact List.nodup_append.mpr ⟨kn, List.nodup_cons.mpr ⟨by simp, List.nodup_nil⟩, fun a ha b hb => by rw [List.mem_singleton.mp hb]; rintro rfl; exact hl ha⟩
        · rw [List.length_append]; rw [List.length_cons] at kl; simp; omega)
    ((rngZ r).map D.int) [some (.ref j), some (.int s), some (.int m), some (.ref M.length), none, none] M2 ⟨s1.trans d2, [], none, none, rfl, g2, fun l hl => absurd hl (by simp), List.nodup_nil, by simpa using hrl⟩
  subst he
  refine ⟨isort lexLe ks, M3, ?_, hst, ⟨fun l hl => ka l ((isort_perm lexLe ks).mem_iff.mp hl), (isort_perm lexLe ks).nodup_iff.mpr kn, by rw [(isort_perm lexLe ks).length_eq]; simpa using kl, isort_sorted lexLe_trans lexLe_total ks⟩⟩
  rw [callI_b h [some (.ref j), some (.int s), some (.int m), none, none, none]]
  have eF : exs G (callI G fns (n + 2)) (.fr (.one 4) (.rng (.call iD (.cons (.var 0) (.cons (.bin .add (.var 2) (.lit (.int 1))) .nil)))) (.cons (.asg (.nm 5) (.call iK (.cons (.var 0) (.cons (.var 1) .nil)))) (.cons (.ifs (.cmp .nin (.var 5) (.var 3)) (.cons (.ex (.app (.var 3) (.var 5))) .nil) .nil) .nil)))
      [some (.ref j), some (.int s), some (.int m), some (.ref M.length), none, none] M1 = .ok (.nx [some (.ref j), some (.int s), some (.int m), some (.ref M.length), o4, o5]) M3 := by
    rw [q_fr, hi]
    simp only [R.bind_ok]
    exact l1
  have eA : exs G (callI G fns (n + 2)) (.asg (.nm 3) (.alloc (.lst .nil))) [some (.ref j), some (.int s), some (.int m), none, none, none] M = .ok (.nx [some (.ref j), some (.int s), some (.int m), some (.ref M.length), none, none]) M1 := rfl
  simp only [fKinds, q_cons, eA, R.bind_ok, eF, q_ret, q_b1, q_var, List.getElem?_cons_zero, List.getElem?_cons_succ, Option.bind_some, id_eq, R.of_some, sorted_ref hg, endR_rt]
def fParts (iD iKs : Nat) (a b : Int) : Fn := ⟨2, 3, (.cons (.asg (.nm 2) (.bin .add (.lit (.int 2)) (.call iD (.cons (.var 0) (.cons (.bin .sub (.var 1) (.lit (.int 1))) .nil))))) (.cons (.ret (.tup (.cons (.var 2) (.cons (.call iKs (.cons (.var 0) (.cons (.var 2) (.cons (.lit (.int a)) .nil)))) (.cons (.call iKs (.cons (.var 0) (.cons (.var 2) (.cons (.lit (.int b)) .nil)))) .nil))))) .nil))⟩
theorem run_parts {f iD iKs iK : Nat} {c1 : Int} {ka kb : Nat} (h : fns f = some (fParts iD iKs ka kb)) (hKs : fns iKs = some (fKinds iD iK)) (hK : fns iK = some (fKind iD)) (hD : fns iD = some (fDraw c1)) {j : Nat} (hp : PotAt M j) {m : Int} (hm : 2 ≤ m) (hm2 : m ≤ 8) (ha : ka ≤ 60) (hb : kb ≤ 60) :
    ∃ s dl sl M', callI G fns (n + 4) f [.ref j, .int m] M = .ok (.tup [.int s, .lst (dl.map rowZ), .lst (sl.map rowZ)]) M' ∧ Step j M M' ∧ 2 ≤ s ∧ s ≤ m ∧ Kinds s ka dl ∧ Kinds s kb sl := by
  obtain ⟨r, M1, d1, d2, d3, d4⟩ := run_draw (G := G) (n := n + 2) (M := M) hD hp (m := m - 1) (by omega) (by omega)
  obtain ⟨dl, M2, e1, e2, e3⟩ := run_kinds (G := G) (n := n) (M := M1) hKs hK hD d2.pot (s := 2 + r) (by omega) (by omega) ha
  obtain ⟨sl, M3, f1, f2, f3⟩ := run_kinds (G := G) (n := n) (M := M2) hKs hK hD e2.pot (s := 2 + r) (by omega) (by omega) hb
  refine ⟨2 + r, dl, sl, M3, ?_, (d2.trans e2).trans f2, by omega, by omega, e3, f3⟩
  rw [callI_b h [some (.ref j), some (.int m), none]]
  have b1 : bop .sub M (.int m) (.int 1) = some (.int (m - 1)) := rfl
  have b2 : bop .add M1 (.int 2) (.int r) = some (.int (2 + r)) := rfl
  simp only [fParts, q_var, q_lit, q_glob, q_tup, q_lst, q_d0, q_bin, q_inv, q_neg, q_cmp, q_isN, q_isB, q_chn, q_and, q_or, q_not, q_ite, q_b1, q_b2, q_isin, q_call, q_callk, q_mk, q_fld, q_idx, q_slc, q_rev, q_app, q_ext, q_pop, q_alloc, q_lrng, q_0, q_1, q_on, q_os, q_seq, q_rng, q_tstb, q_nil, q_cons, q_ex, q_ret, q_asg, q_nm, q_par, q_ifs, q_fset, q_frz, R.bind_ok, R.bind_no, R.of_some, List.getElem?_cons_zero, List.getElem?_cons_succ, Option.bind_some, id_eq, Option.map_some, List.set_cons_zero, List.set_cons_succ, if_true, Bool.not_true, Bool.not_false, Bool.false_eq_true, if_false, endR_rt, endR_nx, Option.some.injEq, b1, d1, b2, e1, f1]
/-! ### laid, off -/
def Lot (s : Int) (l : List Int) : Prop := l.Pairwise (· < ·) ∧ ∀ i ∈ l, 0 ≤ i ∧ i < s
def laidZ (l k : List Int) : List Int := isort leI (l ++ k.filter fun i => decide (i ∉ l))
def offZ (l k : List Int) : List Int := l.filter fun i => decide (i ∉ k)
theorem laid_mem {l k : List Int} {i : Int} : i ∈ laidZ l k ↔ i ∈ l ∨ i ∈ k := by
  unfold laidZ
  rw [(isort_perm leI _).mem_iff, List.mem_append, List.mem_filter]
  by_cases h : i ∈ l <;> simp [h]
theorem off_mem {l k : List Int} {i : Int} : i ∈ offZ l k ↔ i ∈ l ∧ i ∉ k := by
  unfold offZ
  rw [List.mem_filter]; simp
theorem strict_of {l : List Int} (h : l.Pairwise (fun a b => leI a b = true)) (d : l.Nodup) : l.Pairwise (· < ·) := by
  induction l with
  | nil => exact List.Pairwise.nil
  | cons x l ih =>
    obtain ⟨h1, h2⟩ := List.pairwise_cons.mp h
    obtain ⟨d1, d2⟩ := List.nodup_cons.mp d
    refine List.pairwise_cons.mpr ⟨fun y hy => ?_, ih h2 d2⟩
    have := h1 y hy
    simp only [leI, decide_eq_true_eq] at this
    have hne : x ≠ y := fun e => d1 (e ▸ hy)
    omega
theorem laid_lot {s : Int} {l k : List Int} (hl : Lot s l) (hk : Lot s k) : Lot s (laidZ l k) := by
  have nd : (l ++ k.filter fun i => decide (i ∉ l)).Nodup := List.nodup_append.mpr ⟨srt_nodup hl.1, (srt_nodup hk.1).filter _, fun a ha b hb => by
    rintro rfl
    have := (List.mem_filter.mp hb).2
    simp at this; exact this ha⟩
  refine ⟨strict_of (isort_sorted leI_trans leI_total _) ((isort_perm leI _).nodup_iff.mpr nd), fun i hi => ?_⟩
  rcases laid_mem.mp hi with h | h
  · exact hl.2 i h
  · exact hk.2 i h
theorem off_lot {s : Int} {l : List Int} (k : List Int) (hl : Lot s l) : Lot s (offZ l k) := ⟨hl.1.filter _, fun i hi => hl.2 i (off_mem.mp hi).1⟩
theorem lot_ext {s : Int} {l k : List Int} (hl : Lot s l) (hk : Lot s k) (h : ∀ i, i ∈ l ↔ i ∈ k) : l = k := by
  have := strict_sorted hl.1 h
  have h2 := strict_sorted hk.1 (fun i => Iff.refl (i ∈ k))
  rw [this]; exact h2.symm
theorem lot_len8 {s : Int} (hs : s ≤ 8) {l : List Int} (h : Lot s l) : l.length ≤ 8 := lot_len hs (srt_nodup h.1) h.2
def fLaid : Fn := ⟨2, 3, (.cons (.ret (.b1 .sorted (.bin .add (.var 0) (.cmpr (.var 2) (.one 2) (.seq (.var 1)) (.some (.cmp .nin (.var 2) (.var 0))) [2])))) .nil)⟩
def fOff : Fn := ⟨2, 3, (.cons (.ret (.cmpr (.var 2) (.one 2) (.seq (.var 0)) (.some (.cmp .nin (.var 2) (.var 1))) [2])) .nil)⟩
theorem inD_row {M : Mem} (a : Int) (bs : List Int) : inD M (.int a) (rowZ bs) = some (decide (a ∈ bs)) := inD_ints a bs
theorem run_laid {f : Nat} (h : fns f = some fLaid) {l k : List Int} (hl : l.length ≤ 100) (hk : k.length ≤ 100) : callI G fns (n + 1) f [rowZ l, rowZ k] M = .ok (rowZ (laidZ l k)) M := by
  rw [callI_b h [some (rowZ l), some (rowZ k), none]]
  have e1 : ev G (callI G fns n) (.cmpr (.var 2) (.one 2) (.seq (.var 1)) (.some (.cmp .nin (.var 2) (.var 0))) [2]) [some (rowZ l), some (rowZ k), none] M = .ok (rowZ (k.filter fun i => decide (i ∉ l))) M := by
    have := e_filter (G := G) (cl := callI G fns n) (M := M) (env := [some (rowZ l), some (rowZ k), none]) (e := .var 2) (c := .cmp .nin (.var 2) (.var 0)) (tg := .one 2) (it := .seq (.var 1)) (own := [2]) (xs := k.map .int) (p := fun x => !decide (intD x ∈ l)) (h := id)
      (by simp only [q_var, q_lit, q_glob, q_tup, q_lst, q_d0, q_bin, q_inv, q_neg, q_cmp, q_isN, q_isB, q_chn, q_and, q_or, q_not, q_ite, q_b1, q_b2, q_isin, q_call, q_callk, q_mk, q_fld, q_idx, q_slc, q_rev, q_app, q_ext, q_pop, q_alloc, q_lrng, q_0, q_1, q_on, q_os, q_seq, q_rng, q_tstb, q_nil, q_cons, q_ex, q_ret, q_asg, q_nm, q_par, q_ifs, q_fset, q_frz, R.bind_ok, R.bind_no, R.of_some, List.getElem?_cons_zero, List.getElem?_cons_succ, Option.bind_some, id_eq, Option.map_some, List.set_cons_zero, List.set_cons_succ, if_true, Bool.not_true, Bool.not_false, Bool.false_eq_true, if_false, endR_rt, endR_nx, Option.some.injEq]; rfl) (sz_of (by rw [List.length_map]; omega)) (fun x hx => by
        obtain ⟨i, _, rfl⟩ := List.mem_map.mp hx
        refine ⟨[some (rowZ l), some (rowZ k), some (.int i)], rfl, ?_, fun _ => by simp only [q_var, q_lit, q_glob, q_tup, q_lst, q_d0, q_bin, q_inv, q_neg, q_cmp, q_isN, q_isB, q_chn, q_and, q_or, q_not, q_ite, q_b1, q_b2, q_isin, q_call, q_callk, q_mk, q_fld, q_idx, q_slc, q_rev, q_app, q_ext, q_pop, q_alloc, q_lrng, q_0, q_1, q_on, q_os, q_seq, q_rng, q_tstb, q_nil, q_cons, q_ex, q_ret, q_asg, q_nm, q_par, q_ifs, q_fset, q_frz, R.bind_ok, R.bind_no, R.of_some, List.getElem?_cons_zero, List.getElem?_cons_succ, Option.bind_some, id_eq, Option.map_some, List.set_cons_zero, List.set_cons_succ, if_true, Bool.not_true, Bool.not_false, Bool.false_eq_true, if_false, endR_rt, endR_nx, Option.some.injEq]⟩
        simp only [q_var, q_lit, q_glob, q_tup, q_lst, q_d0, q_bin, q_inv, q_neg, q_cmp, q_isN, q_isB, q_chn, q_and, q_or, q_not, q_ite, q_b1, q_b2, q_isin, q_call, q_callk, q_mk, q_fld, q_idx, q_slc, q_rev, q_app, q_ext, q_pop, q_alloc, q_lrng, q_0, q_1, q_on, q_os, q_seq, q_rng, q_tstb, q_nil, q_cons, q_ex, q_ret, q_asg, q_nm, q_par, q_ifs, q_fset, q_frz, R.bind_ok, R.bind_no, R.of_some, List.getElem?_cons_zero, List.getElem?_cons_succ, Option.bind_some, id_eq, Option.map_some, List.set_cons_zero, List.set_cons_succ, if_true, Bool.not_true, Bool.not_false, Bool.false_eq_true, if_false, endR_rt, endR_nx, Option.some.injEq, cop, inD_row, intD]
        exact congrArg (fun b => R.ok (!b) M) (decide_eq_decide.mpr Iff.rfl))
    rw [this, filter_ints _ (fun i => decide (i ∉ l)) (fun i => by simp [intD]; try exact decide_eq_decide.mpr Iff.rfl)]
    rfl
  have e2 : bop .add M (rowZ l) (rowZ (k.filter fun i => decide (i ∉ l))) = some (rowZ (l ++ k.filter fun i => decide (i ∉ l))) := by
    have hf := List.length_filter_le (fun i => decide (i ∉ l)) k
    simp only [bop, rowZ, asL]
    rw [if_pos (by rw [List.length_map, List.length_map, PySem.sizeLine_eq]; omega), ← List.map_append]
  have e3 : b1 .sorted M (rowZ (l ++ k.filter fun i => decide (i ∉ l))) = some (rowZ (laidZ l k)) := by
    simp only [b1, rowZ, asS, asL, sortD_ints]
    rfl
  simp only [fLaid, q_var, q_lit, q_glob, q_tup, q_lst, q_d0, q_bin, q_inv, q_neg, q_cmp, q_isN, q_isB, q_chn, q_and, q_or, q_not, q_ite, q_b1, q_b2, q_isin, q_call, q_callk, q_mk, q_fld, q_idx, q_slc, q_rev, q_app, q_ext, q_pop, q_alloc, q_lrng, q_0, q_1, q_on, q_os, q_seq, q_rng, q_tstb, q_nil, q_cons, q_ex, q_ret, q_asg, q_nm, q_par, q_ifs, q_fset, q_frz, R.bind_ok, R.bind_no, R.of_some, List.getElem?_cons_zero, List.getElem?_cons_succ, Option.bind_some, id_eq, Option.map_some, List.set_cons_zero, List.set_cons_succ, if_true, Bool.not_true, Bool.not_false, Bool.false_eq_true, if_false, endR_rt, endR_nx, Option.some.injEq, e1, e2, e3]
theorem run_off {f : Nat} (h : fns f = some fOff) {l k : List Int} (hl : l.length ≤ 100) : callI G fns (n + 1) f [rowZ l, rowZ k] M = .ok (rowZ (offZ l k)) M := by
  rw [callI_b h [some (rowZ l), some (rowZ k), none]]
  have e1 : ev G (callI G fns n) (.cmpr (.var 2) (.one 2) (.seq (.var 0)) (.some (.cmp .nin (.var 2) (.var 1))) [2]) [some (rowZ l), some (rowZ k), none] M = .ok (rowZ (offZ l k)) M := by
    have := e_filter (G := G) (cl := callI G fns n) (M := M) (env := [some (rowZ l), some (rowZ k), none]) (e := .var 2) (c := .cmp .nin (.var 2) (.var 1)) (tg := .one 2) (it := .seq (.var 0)) (own := [2]) (xs := l.map .int) (p := fun x => !decide (intD x ∈ k)) (h := id)
      (by simp only [q_var, q_lit, q_glob, q_tup, q_lst, q_d0, q_bin, q_inv, q_neg, q_cmp, q_isN, q_isB, q_chn, q_and, q_or, q_not, q_ite, q_b1, q_b2, q_isin, q_call, q_callk, q_mk, q_fld, q_idx, q_slc, q_rev, q_app, q_ext, q_pop, q_alloc, q_lrng, q_0, q_1, q_on, q_os, q_seq, q_rng, q_tstb, q_nil, q_cons, q_ex, q_ret, q_asg, q_nm, q_par, q_ifs, q_fset, q_frz, R.bind_ok, R.bind_no, R.of_some, List.getElem?_cons_zero, List.getElem?_cons_succ, Option.bind_some, id_eq, Option.map_some, List.set_cons_zero, List.set_cons_succ, if_true, Bool.not_true, Bool.not_false, Bool.false_eq_true, if_false, endR_rt, endR_nx, Option.some.injEq]; rfl) (sz_of (by rw [List.length_map]; omega)) (fun x hx => by
        obtain ⟨i, _, rfl⟩ := List.mem_map.mp hx
        refine ⟨[some (rowZ l), some (rowZ k), some (.int i)], rfl, ?_, fun _ => by simp only [q_var, q_lit, q_glob, q_tup, q_lst, q_d0, q_bin, q_inv, q_neg, q_cmp, q_isN, q_isB, q_chn, q_and, q_or, q_not, q_ite, q_b1, q_b2, q_isin, q_call, q_callk, q_mk, q_fld, q_idx, q_slc, q_rev, q_app, q_ext, q_pop, q_alloc, q_lrng, q_0, q_1, q_on, q_os, q_seq, q_rng, q_tstb, q_nil, q_cons, q_ex, q_ret, q_asg, q_nm, q_par, q_ifs, q_fset, q_frz, R.bind_ok, R.bind_no, R.of_some, List.getElem?_cons_zero, List.getElem?_cons_succ, Option.bind_some, id_eq, Option.map_some, List.set_cons_zero, List.set_cons_succ, if_true, Bool.not_true, Bool.not_false, Bool.false_eq_true, if_false, endR_rt, endR_nx, Option.some.injEq]⟩
        simp only [q_var, q_lit, q_glob, q_tup, q_lst, q_d0, q_bin, q_inv, q_neg, q_cmp, q_isN, q_isB, q_chn, q_and, q_or, q_not, q_ite, q_b1, q_b2, q_isin, q_call, q_callk, q_mk, q_fld, q_idx, q_slc, q_rev, q_app, q_ext, q_pop, q_alloc, q_lrng, q_0, q_1, q_on, q_os, q_seq, q_rng, q_tstb, q_nil, q_cons, q_ex, q_ret, q_asg, q_nm, q_par, q_ifs, q_fset, q_frz, R.bind_ok, R.bind_no, R.of_some, List.getElem?_cons_zero, List.getElem?_cons_succ, Option.bind_some, id_eq, Option.map_some, List.set_cons_zero, List.set_cons_succ, if_true, Bool.not_true, Bool.not_false, Bool.false_eq_true, if_false, endR_rt, endR_nx, Option.some.injEq, cop, inD_row, intD]
        exact congrArg (fun b => R.ok (!b) M) (decide_eq_decide.mpr Iff.rfl))
    rw [this, filter_ints _ (fun i => decide (i ∉ k)) (fun i => by simp [intD]; try exact decide_eq_decide.mpr Iff.rfl)]
    rfl
  simp only [fOff, q_var, q_lit, q_glob, q_tup, q_lst, q_d0, q_bin, q_inv, q_neg, q_cmp, q_isN, q_isB, q_chn, q_and, q_or, q_not, q_ite, q_b1, q_b2, q_isin, q_call, q_callk, q_mk, q_fld, q_idx, q_slc, q_rev, q_app, q_ext, q_pop, q_alloc, q_lrng, q_0, q_1, q_on, q_os, q_seq, q_rng, q_tstb, q_nil, q_cons, q_ex, q_ret, q_asg, q_nm, q_par, q_ifs, q_fset, q_frz, R.bind_ok, R.bind_no, R.of_some, List.getElem?_cons_zero, List.getElem?_cons_succ, Option.bind_some, id_eq, Option.map_some, List.set_cons_zero, List.set_cons_succ, if_true, Bool.not_true, Bool.not_false, Bool.false_eq_true, if_false, endR_rt, endR_nx, Option.some.injEq, e1]
end
end Z
end
section
set_option Elab.async false
set_option linter.all false
set_option maxRecDepth 100000
set_option maxHeartbeats 2000000
/-! Zp9: the law's own closed families; the pot. -/
namespace Z
open PySem (PyData sizeLine)
/-! ### there are few lots -/
def powL : List Int → List (List Int)
  | [] => [[]]
  | x :: xs => powL xs ++ (powL xs).map (x :: ·)
theorem powL_len : ∀ xs : List Int, (powL xs).length = 2 ^ xs.length
  | [] => rfl
  | x :: xs => by
    unfold powL
    rw [List.length_append, List.length_map, powL_len xs, List.length_cons, Nat.pow_succ]; omega
theorem filter_powL (p : Int → Bool) : ∀ xs : List Int, xs.filter p ∈ powL xs
  | [] => by simp [powL]
  | x :: xs => by
    unfold powL
    rw [List.filter_cons, List.mem_append, List.mem_map]
    by_cases h : p x = true
    · rw [if_pos h]; exact .inr ⟨_, filter_powL p xs, rfl⟩
    · rw [if_neg h]; exact .inl (filter_powL p xs)
theorem lot_pow {s : Int} {l : List Int} (h : Lot s l) : l ∈ powL (rngZ s) := by
  have e : l = (rngZ s).filter fun i => decide (i ∈ l) := by
    refine lot_ext h ⟨(rngZ_srt s).filter _, fun i hi => rngZ_mem.mp (List.mem_filter.mp hi).1⟩ fun i => ?_
    rw [List.mem_filter, rngZ_mem]
    constructor
    · exact fun q => ⟨h.2 i q, by simpa using q⟩
    · exact fun q => by simpa using q.2
  rw [e]
  exact filter_powL _ _
theorem lots_few {s : Int} (hs : s ≤ 8) {F : List (List Int)} (h : ∀ l ∈ F, Lot s l) (d : F.Nodup) : F.length ≤ 256 := by
  have h1 := d.length_le_of_subset (fun l hl => lot_pow (h l hl) : F ⊆ powL (rngZ s))
  rw [powL_len] at h1
  have h2 : (rngZ s).length ≤ 8 := by unfold rngZ; rw [List.length_map, List.length_range]; omega
  have h3 : 2 ^ (rngZ s).length ≤ 2 ^ 8 := Nat.pow_le_pow_right (by decide) h2
  omega
/-- a family closed under the kinds -/
structure Fam (s : Int) (dl sl : List (List Int)) (F : List (List Int)) : Prop where
  lot : ∀ l ∈ F, Lot s l
  nil : [] ∈ F
  laid : ∀ l ∈ F, ∀ k ∈ dl, laidZ l k ∈ F
  off : ∀ l ∈ F, ∀ k ∈ sl, offZ l k ∈ F
  nod : F.Nodup
section
variable {G : Gt} {fns : Nat → Option Fn} {n : Nat} {M : Mem}
theorem py_rows {M : Mem} {n : Nat} {j : Nat} {rows : List (List Int)} (h : M[j]? = some (.lst (rows.map rowZ))) : py M (n + 3) (.ref j) = some (.list (rows.map rowP)) := by
  simp only [py, h]
  rw [mapO_enc (f := py M (n + 2)) (enc := rowZ) (dec := rowP) (fun c => py_row c) rows]
  rfl
theorem eqD_nil {M : Mem} {j : Nat} {rows : List (List Int)} (h : M[j]? = some (.lst (rows.map rowZ))) : eqD M (.ref j) (.lst []) = some (decide (rows = [])) := by
  show eqDeep M (.ref j) (.lst []) = _
  unfold eqDeep
  rw [show depthMax = 13 + 3 from rfl, py_rows h]
  have e : py M (13 + 3) (.lst []) = some (.list (([] : List (List Int)).map rowP)) := rfl
  rw [e]
  simp only [shaped_rows, and_self, if_true, PyData.eqv, eqvAll_rows]
theorem isort_id {l : List Int} (h : l.Pairwise (· < ·)) : isort leI l = l := by
  have := strict_sorted h (fun i => Iff.refl (i ∈ l))
  rw [dedup_id (srt_nodup h)] at this
  exact this.symm
def cTest : E := .cmp .ne (.var 4) (.lst .nil)
def cNew (iLa iOf : Nat) : E := .bin .add (.cmpr (.call iLa (.cons (.var 5) (.cons (.var 6) .nil))) (.one 6) (.seq (.var 0)) .none [6]) (.cmpr (.call iOf (.cons (.var 5) (.cons (.var 6) .nil))) (.one 6) (.seq (.var 1)) .none [6])
def cBody (iLa iOf : Nat) : Ss := .cons (.asg (.nm 5) (.pop (.var 4))) (.cons (.ifs (.cmp .nin (.var 5) (.var 3)) (.cons (.ex (.app (.var 3) (.var 5))) (.cons (.ex (.ext (.var 4) (cNew iLa iOf))) .nil)) .nil) .nil)
def fClosed (iLa iOf : Nat) : Fn := ⟨3, 7, (.cons (.par [3, 4] (.cons (.alloc (.lst .nil)) (.cons (.alloc (.bin .add (.lst (.cons (.lst .nil) .nil)) (.cmpr (.b1 .sorted (.var 5)) (.one 5) (.seq (.var 2)) .none [5]))) .nil))) (.cons (.whl cTest (cBody iLa iOf)) (.cons (.ret (.b1 .sorted (.var 3))) .nil)))⟩
/-- what stands between two turns -/
structure CInv (s : Int) (dl sl lots : List (List Int)) (M0 M : Mem) (F L : List (List Int)) : Prop where
  f : M[M0.length]? = some (.lst (F.map rowZ))
  l : M[M0.length + 1]? = some (.lst (L.map rowZ))
  old : ∀ i, i < M0.length → M[i]? = M0[i]?
  fl : ∀ x ∈ F, Lot s x
  ll : ∀ x ∈ L, Lot s x
  nod : F.Nodup
  nil : [] ∈ F ∨ [] ∈ L
  ini : ∀ x ∈ lots, x ∈ F ∨ x ∈ L
  la : ∀ x ∈ F, ∀ k ∈ dl, laidZ x k ∈ F ∨ laidZ x k ∈ L
  of : ∀ x ∈ F, ∀ k ∈ sl, offZ x k ∈ F ∨ offZ x k ∈ L
  sz : L.length ≤ 300 + F.length * 200
theorem new_ok {iLa iOf : Nat} (hLa : fns iLa = some fLaid) (hOf : fns iOf = some fOff) {s : Int} (hs : s ≤ 8) {dl sl : List (List Int)} (hd : ∀ k ∈ dl, Lot s k) (hdl : dl.length ≤ 60) (hsl : ∀ k ∈ sl, Lot s k) (hsl2 : sl.length ≤ 60) {x : List Int} (hx : Lot s x) (d2 d3 d4 : D) (o6 : Option D) :
    ev G (callI G fns (n + 1)) (cNew iLa iOf) [some (.lst (dl.map rowZ)), some (.lst (sl.map rowZ)), some d2, some d3, some d4, some (rowZ x), o6] M = .ok (.lst ((dl.map (laidZ x) ++ sl.map (offZ x)).map rowZ)) M := by
  have hxl := lot_len8 hs hx
  have e1 : ev G (callI G fns (n + 1)) (.cmpr (.call iLa (.cons (.var 5) (.cons (.var 6) .nil))) (.one 6) (.seq (.var 0)) .none [6]) [some (.lst (dl.map rowZ)), some (.lst (sl.map rowZ)), some d2, some d3, some d4, some (rowZ x), o6] M = .ok (.lst ((dl.map (laidZ x)).map rowZ)) M := by
    have := e_map (G := G) (cl := callI G fns (n + 1)) (M := M) (env := [some (.lst (dl.map rowZ)), some (.lst (sl.map rowZ)), some d2, some d3, some d4, some (rowZ x), o6]) (e := .call iLa (.cons (.var 5) (.cons (.var 6) .nil))) (tg := .one 6) (it := .seq (.var 0)) (own := [6]) (xs := dl.map rowZ) (h := fun y => match y with | .lst ds => rowZ (laidZ x (intsOf ds)) | _ => .non)
      (by simp only [q_var, q_lit, q_glob, q_tup, q_lst, q_d0, q_bin, q_inv, q_neg, q_cmp, q_isN, q_isB, q_chn, q_and, q_or, q_not, q_ite, q_b1, q_b2, q_isin, q_call, q_callk, q_mk, q_fld, q_idx, q_slc, q_rev, q_app, q_ext, q_pop, q_alloc, q_lrng, q_0, q_1, q_on, q_os, q_seq, q_rng, q_tstb, q_nil, q_cons, q_ex, q_ret, q_asg, q_nm, q_par, q_ifs, q_fset, q_frz, R.bind_ok, R.bind_no, R.of_some, List.getElem?_cons_zero, List.getElem?_cons_succ, Option.bind_some, id_eq, Option.map_some, List.set_cons_zero, List.set_cons_succ, if_true, Bool.not_true, Bool.not_false, Bool.false_eq_true, if_false, endR_rt, endR_nx, Option.some.injEq, seqD]) (sz_of (by rw [List.length_map]; omega)) (fun y hy => by
        obtain ⟨k, hk, rfl⟩ := List.mem_map.mp hy
        refine ⟨[some (.lst (dl.map rowZ)), some (.lst (sl.map rowZ)), some d2, some d3, some d4, some (rowZ x), some (rowZ k)], rfl, ?_⟩
        have e := run_laid (G := G) (n := n) (M := M) hLa (l := x) (k := k) (by omega) (by have := lot_len8 hs (hd k hk); omega)
        simp only [q_var, q_lit, q_glob, q_tup, q_lst, q_d0, q_bin, q_inv, q_neg, q_cmp, q_isN, q_isB, q_chn, q_and, q_or, q_not, q_ite, q_b1, q_b2, q_isin, q_call, q_callk, q_mk, q_fld, q_idx, q_slc, q_rev, q_app, q_ext, q_pop, q_alloc, q_lrng, q_0, q_1, q_on, q_os, q_seq, q_rng, q_tstb, q_nil, q_cons, q_ex, q_ret, q_asg, q_nm, q_par, q_ifs, q_fset, q_frz, R.bind_ok, R.bind_no, R.of_some, List.getElem?_cons_zero, List.getElem?_cons_succ, Option.bind_some, id_eq, Option.map_some, List.set_cons_zero, List.set_cons_succ, if_true, Bool.not_true, Bool.not_false, Bool.false_eq_true, if_false, endR_rt, endR_nx, Option.some.injEq, e]
        show R.ok (rowZ (laidZ x k)) M = R.ok (rowZ (laidZ x (intsOf (k.map .int)))) M
        rw [intsOf_ints])
    rw [this, List.map_map, List.map_map]
    congr 2
    apply List.map_congr_left
    intro k _
    show rowZ (laidZ x (intsOf (k.map .int))) = rowZ (laidZ x k)
    rw [intsOf_ints]
  have e2 : ev G (callI G fns (n + 1)) (.cmpr (.call iOf (.cons (.var 5) (.cons (.var 6) .nil))) (.one 6) (.seq (.var 1)) .none [6]) [some (.lst (dl.map rowZ)), some (.lst (sl.map rowZ)), some d2, some d3, some d4, some (rowZ x), o6] M = .ok (.lst ((sl.map (offZ x)).map rowZ)) M := by
    have := e_map (G := G) (cl := callI G fns (n + 1)) (M := M) (env := [some (.lst (dl.map rowZ)), some (.lst (sl.map rowZ)), some d2, some d3, some d4, some (rowZ x), o6]) (e := .call iOf (.cons (.var 5) (.cons (.var 6) .nil))) (tg := .one 6) (it := .seq (.var 1)) (own := [6]) (xs := sl.map rowZ) (h := fun y => match y with | .lst ds => rowZ (offZ x (intsOf ds)) | _ => .non)
      (by simp only [q_var, q_lit, q_glob, q_tup, q_lst, q_d0, q_bin, q_inv, q_neg, q_cmp, q_isN, q_isB, q_chn, q_and, q_or, q_not, q_ite, q_b1, q_b2, q_isin, q_call, q_callk, q_mk, q_fld, q_idx, q_slc, q_rev, q_app, q_ext, q_pop, q_alloc, q_lrng, q_0, q_1, q_on, q_os, q_seq, q_rng, q_tstb, q_nil, q_cons, q_ex, q_ret, q_asg, q_nm, q_par, q_ifs, q_fset, q_frz, R.bind_ok, R.bind_no, R.of_some, List.getElem?_cons_zero, List.getElem?_cons_succ, Option.bind_some, id_eq, Option.map_some, List.set_cons_zero, List.set_cons_succ, if_true, Bool.not_true, Bool.not_false, Bool.false_eq_true, if_false, endR_rt, endR_nx, Option.some.injEq, seqD]) (sz_of (by rw [List.length_map]; omega)) (fun y hy => by
        obtain ⟨k, hk, rfl⟩ := List.mem_map.mp hy
        refine ⟨[some (.lst (dl.map rowZ)), some (.lst (sl.map rowZ)), some d2, some d3, some d4, some (rowZ x), some (rowZ k)], rfl, ?_⟩
        have e := run_off (G := G) (n := n) (M := M) hOf (l := x) (k := k) (by omega)
        simp only [q_var, q_lit, q_glob, q_tup, q_lst, q_d0, q_bin, q_inv, q_neg, q_cmp, q_isN, q_isB, q_chn, q_and, q_or, q_not, q_ite, q_b1, q_b2, q_isin, q_call, q_callk, q_mk, q_fld, q_idx, q_slc, q_rev, q_app, q_ext, q_pop, q_alloc, q_lrng, q_0, q_1, q_on, q_os, q_seq, q_rng, q_tstb, q_nil, q_cons, q_ex, q_ret, q_asg, q_nm, q_par, q_ifs, q_fset, q_frz, R.bind_ok, R.bind_no, R.of_some, List.getElem?_cons_zero, List.getElem?_cons_succ, Option.bind_some, id_eq, Option.map_some, List.set_cons_zero, List.set_cons_succ, if_true, Bool.not_true, Bool.not_false, Bool.false_eq_true, if_false, endR_rt, endR_nx, Option.some.injEq, e]
        show R.ok (rowZ (offZ x k)) M = R.ok (rowZ (offZ x (intsOf (k.map .int)))) M
        rw [intsOf_ints])
    rw [this, List.map_map, List.map_map]
    congr 2
    apply List.map_congr_left
    intro k _
    show rowZ (offZ x (intsOf (k.map .int))) = rowZ (offZ x k)
    rw [intsOf_ints]
  have e3 : bop .add M (.lst ((dl.map (laidZ x)).map rowZ)) (.lst ((sl.map (offZ x)).map rowZ)) = some (.lst ((dl.map (laidZ x) ++ sl.map (offZ x)).map rowZ)) := by
    simp only [bop, asL]
    rw [if_pos (by simp only [List.length_map]; rw [PySem.sizeLine_eq]; omega), ← List.map_append]
  simp only [cNew, q_bin, e1, e2, e3, R.bind_ok, R.of_some]
/-- one turn -/
theorem turn_ok {iLa iOf : Nat} (hLa : fns iLa = some fLaid) (hOf : fns iOf = some fOff) {s : Int} (hs : s ≤ 8) {dl sl lots : List (List Int)} (hd : ∀ k ∈ dl, Lot s k) (hdl : dl.length ≤ 60) (hsl : ∀ k ∈ sl, Lot s k) (hsl2 : sl.length ≤ 60) {M0 : Mem} {F L : List (List Int)} {x : List Int}
    (I : CInv s dl sl lots M0 M F (L ++ [x])) (d2 : D) (o5 o6 : Option D) :
    ∃ M' F' L', exb G (callI G fns (n + 1)) (cBody iLa iOf) [some (.lst (dl.map rowZ)), some (.lst (sl.map rowZ)), some d2, some (.ref M0.length), some (.ref (M0.length + 1)), o5, o6] M =
        .ok (.nx [some (.lst (dl.map rowZ)), some (.lst (sl.map rowZ)), some d2, some (.ref M0.length), some (.ref (M0.length + 1)), some (rowZ x), o6]) M' ∧ CInv s dl sl lots M0 M' F' L' ∧
      ((F' = F ∧ L' = L) ∨ (F'.length = F.length + 1 ∧ L'.length ≤ L.length + 120)) := by
  have hxl : Lot s x := I.ll x (List.mem_append_right _ (List.mem_singleton_self x))
  let M1 : Mem := M.set (M0.length + 1) (.lst (L.map rowZ))
  have hl1 : M0.length + 1 < M.length := (List.getElem?_eq_some_iff.mp I.l).1
  have g1 : M1[M0.length + 1]? = some (.lst (L.map rowZ)) := List.getElem?_set_self hl1
  have g0 : M1[M0.length]? = some (.lst (F.map rowZ)) := (List.getElem?_set_ne (by omega)).trans I.f
  have ePop : ev G (callI G fns (n + 1)) (.pop (.var 4)) [some (.lst (dl.map rowZ)), some (.lst (sl.map rowZ)), some d2, some (.ref M0.length), some (.ref (M0.length + 1)), o5, o6] M = .ok (rowZ x) M1 := by
    have e : ((L ++ [x]).map rowZ)[((L ++ [x]).map rowZ).length - 1]? = some (rowZ x) := by
      rw [List.map_append, List.length_append]
      simp
    have e2 : ((L ++ [x]).map rowZ).dropLast = L.map rowZ := by
      rw [List.map_append]; simp
    simp only [q_pop, q_var, List.getElem?_cons_zero, List.getElem?_cons_succ, Option.bind_some, id_eq, R.of_some, R.bind_ok, I.l, e, e2]
    rfl
  have ein : inD M1 (rowZ x) (.ref M0.length) = some (decide (x ∈ F)) := by rw [inD_ref _ g0, inD_rows]
  have old1 : ∀ i, i < M0.length → M1[i]? = M0[i]? := fun i hi => (List.getElem?_set_ne (by omega)).trans (I.old i hi)
  by_cases hx : x ∈ F
  · have dx : decide (x ∈ F) = true := decide_eq_true hx
    have mv : ∀ {y : List Int}, y ∈ F ∨ y ∈ L ++ [x] → y ∈ F ∨ y ∈ L := fun {y} q => by
      rcases q with q | q
      · exact .inl q
      · rcases List.mem_append.mp q with q | q
        · exact .inr q
        · rw [List.mem_singleton.mp q]; exact .inl hx
    refine ⟨M1, F, L, ?_, ⟨g0, g1, old1, I.fl, fun y hy => I.ll y (List.mem_append_left _ hy), I.nod, mv I.nil, fun y hy => mv (I.ini y hy), fun y hy k hk => mv (I.la y hy k hk), fun y hy k hk => mv (I.of y hy k hk), by have := I.sz; rw [List.length_append] at this; omega⟩, .inl ⟨rfl, rfl⟩⟩
    simp only [cBody, q_cons, q_asg, ePop, R.bind_ok, q_nm, List.set_cons_zero, List.set_cons_succ, q_ifs, q_cmp, q_var, List.getElem?_cons_zero, List.getElem?_cons_succ, Option.bind_some, id_eq, R.of_some, cop, ein, Option.map_some, dx, Bool.not_true, q_tstb, Bool.false_eq_true, if_false, q_nil]
  · have dx : decide (x ∈ F) = false := decide_eq_false hx
    let M2 : Mem := M1.set M0.length (.lst ((F ++ [x]).map rowZ))
    have hl2 : M0.length < M1.length := (List.getElem?_eq_some_iff.mp g0).1
    have g20 : M2[M0.length]? = some (.lst ((F ++ [x]).map rowZ)) := List.getElem?_set_self hl2
    have g21 : M2[M0.length + 1]? = some (.lst (L.map rowZ)) := (List.getElem?_set_ne (by omega)).trans g1
    let N : List (List Int) := dl.map (laidZ x) ++ sl.map (offZ x)
    have hNl : N.length ≤ 120 := by
      show (dl.map (laidZ x) ++ sl.map (offZ x)).length ≤ 120
      rw [List.length_append, List.length_map, List.length_map]; omega
    let M3 : Mem := M2.set (M0.length + 1) (.lst ((L ++ N).map rowZ))
    have hl3 : M0.length + 1 < M2.length := (List.getElem?_eq_some_iff.mp g21).1
    have g31 : M3[M0.length + 1]? = some (.lst ((L ++ N).map rowZ)) := List.getElem?_set_self hl3
    have g30 : M3[M0.length]? = some (.lst ((F ++ [x]).map rowZ)) := (List.getElem?_set_ne (by omega)).trans g20
    have hFl : F.length ≤ 256 := lots_few hs I.fl I.nod
    have hLl : L.length ≤ 60000 := by have := I.sz; rw [List.length_append] at this; omega
    have eApp : ∀ o6, ev G (callI G fns (n + 1)) (.app (.var 3) (.var 5)) [some (.lst (dl.map rowZ)), some (.lst (sl.map rowZ)), some d2, some (.ref M0.length), some (.ref (M0.length + 1)), some (rowZ x), o6] M1 = .ok .non M2 := fun o6 => by
      have isl : isLst M1 M0.length = true := by unfold isLst; rw [g0]
      have hz : (F.map rowZ).length < sizeLine := sz_of (by rw [List.length_map]; omega)
      have e : F.map rowZ ++ [rowZ x] = (F ++ [x]).map rowZ := by rw [List.map_append]; rfl
      simp only [q_app, q_var, List.getElem?_cons_zero, List.getElem?_cons_succ, Option.bind_some, id_eq, R.of_some, R.bind_ok, isl, if_true, g0, hz, e]
      rfl
    have eNew := new_ok (G := G) (fns := fns) (n := n) (M := M2) hLa hOf hs hd hdl hsl hsl2 hxl d2 (.ref M0.length) (.ref (M0.length + 1)) o6
    have eExt : ev G (callI G fns (n + 1)) (.ext (.var 4) (cNew iLa iOf)) [some (.lst (dl.map rowZ)), some (.lst (sl.map rowZ)), some d2, some (.ref M0.length), some (.ref (M0.length + 1)), some (rowZ x), o6] M2 = .ok .non M3 := by
      have isl : isLst M2 (M0.length + 1) = true := by unfold isLst; rw [g21]
      have hz : (L.map rowZ).length + (N.map rowZ).length ≤ sizeLine := by rw [List.length_map, List.length_map, PySem.sizeLine_eq]; omega
      have e : L.map rowZ ++ N.map rowZ = (L ++ N).map rowZ := List.map_append.symm
      have eL : asL M2 (.lst (N.map rowZ)) = some (N.map rowZ) := rfl
      simp only [q_ext, q_var, List.getElem?_cons_zero, List.getElem?_cons_succ, Option.bind_some, id_eq, R.of_some, R.bind_ok, isl, if_true]
      rw [eNew]
      simp only [R.bind_ok, g21]
      show (match (some (MO.lst (L.map rowZ)) : Option MO), asL M2 (.lst (N.map rowZ)) with
        | some (.lst xs), some ys => if xs.length + ys.length ≤ sizeLine then R.ok D.non (M2.set (M0.length + 1) (.lst (xs ++ ys))) else .no
        | _, _ => .no) = _
      rw [eL]
      simp only [if_pos hz, e]
      rfl
    have mv : ∀ {y : List Int}, y ∈ F ∨ y ∈ L ++ [x] → y ∈ F ++ [x] ∨ y ∈ L ++ N := fun {y} q => by
      rcases q with q | q
      · exact .inl (List.mem_append_left _ q)
      · rcases List.mem_append.mp q with q | q
        · exact .inr (List.mem_append_left _ q)
        · exact .inl (List.mem_append_right _ q)
    refine ⟨M3, F ++ [x], L ++ N, ?_, ⟨g30, g31, fun i hi => (List.getElem?_set_ne (by omega)).trans ((List.getElem?_set_ne (by omega)).trans (old1 i hi)), fun y hy => ?_, fun y hy => ?_, ?_, mv I.nil, fun y hy => mv (I.ini y hy), fun y hy k hk => ?_, fun y hy k hk => ?_, ?_⟩, .inr ⟨by rw [List.length_append]; rfl, by rw [List.length_append]; omega⟩⟩
    · simp only [cBody, q_cons, q_asg, ePop, R.bind_ok, q_nm, List.set_cons_zero, List.set_cons_succ, q_ifs, q_cmp, q_var, List.getElem?_cons_zero, List.getElem?_cons_succ, Option.bind_some, id_eq, R.of_some, cop, ein, Option.map_some, dx, Bool.not_false, q_tstb, if_true, q_nil, q_ex, eApp, eExt]
    · rcases List.mem_append.mp hy with hy | hy
      · exact I.fl y hy
      · rw [List.mem_singleton.mp hy]; exact hxl
    · rcases List.mem_append.mp hy with hy | hy
      · exact I.ll y (List.mem_append_left _ hy)
      · rcases List.mem_append.mp hy with hy | hy
        · obtain ⟨k, hk, rfl⟩ := List.mem_map.mp hy; exact laid_lot hxl (hd k hk)
        · obtain ⟨k, hk, rfl⟩ := List.mem_map.mp hy; exact off_lot k hxl
    · exact List.nodup_append.mpr ⟨I.nod, List.nodup_cons.mpr ⟨by simp, List.nodup_nil⟩, fun a ha b hb => by rw [List.mem_singleton.mp hb]; rintro rfl; exact hx ha⟩
    · rcases List.mem_append.mp hy with hy | hy
      · exact mv (I.la y hy k hk)
      · rw [List.mem_singleton.mp hy]; exact .inr (List.mem_append_right _ (List.mem_append_left _ (List.mem_map_of_mem hk)))
    · rcases List.mem_append.mp hy with hy | hy
      · exact mv (I.of y hy k hk)
      · rw [List.mem_singleton.mp hy]; exact .inr (List.mem_append_right _ (List.mem_append_right _ (List.mem_map_of_mem hk)))
    · have := I.sz
      have h1 : (L ++ [x]).length = L.length + 1 := by rw [List.length_append]; rfl
      have h2 : (L ++ N).length = L.length + N.length := List.length_append
      have h3 : (F ++ [x]).length = F.length + 1 := by rw [List.length_append]; rfl
      rw [h1] at this
      rw [h2, h3]
      omega
end
end Z
end
section
set_option Elab.async false
set_option linter.all false
set_option maxRecDepth 100000
set_option maxHeartbeats 2000000
/-! Zp10: the closed family is told; the pot. -/
namespace Z
open PySem (PyData sizeLine)
section
variable {G : Gt} {fns : Nat → Option Fn} {n : Nat} {M : Mem}
theorem loop_closed {iLa iOf : Nat} (hLa : fns iLa = some fLaid) (hOf : fns iOf = some fOff) {s : Int} (hs : s ≤ 8) {dl sl lots : List (List Int)} (hd : ∀ k ∈ dl, Lot s k) (hdl : dl.length ≤ 60) (hsl : ∀ k ∈ sl, Lot s k) (hsl2 : sl.length ≤ 60) {M0 : Mem} (d2 : D) (o6 : Option D) :
    ∀ (fuel : Nat) (M : Mem) (F L : List (List Int)) (o5 : Option D), CInv s dl sl lots M0 M F L → (256 - F.length) * 122 + L.length < fuel →
    ∃ M' F' o5', loopW (fun env M => tst (ev G (callI G fns (n + 1)) cTest env M)) (fun env M => exb G (callI G fns (n + 1)) (cBody iLa iOf) env M) fuel
        [some (.lst (dl.map rowZ)), some (.lst (sl.map rowZ)), some d2, some (.ref M0.length), some (.ref (M0.length + 1)), o5, o6] M =
        .ok (.nx [some (.lst (dl.map rowZ)), some (.lst (sl.map rowZ)), some d2, some (.ref M0.length), some (.ref (M0.length + 1)), o5', o6]) M' ∧ CInv s dl sl lots M0 M' F' []
  | 0, M, F, L, o5, I, hm => absurd hm (Nat.not_lt_zero _)
  | fuel + 1, M, F, L, o5, I, hm => by
    have eT : ev G (callI G fns (n + 1)) cTest [some (.lst (dl.map rowZ)), some (.lst (sl.map rowZ)), some d2, some (.ref M0.length), some (.ref (M0.length + 1)), o5, o6] M = .ok (.bl (!decide (L = []))) M := by
      have e : evs G (callI G fns (n + 1)) .nil [some (.lst (dl.map rowZ)), some (.lst (sl.map rowZ)), some d2, some (.ref M0.length), some (.ref (M0.length + 1)), o5, o6] M = .ok [] M := rfl
      simp only [cTest, q_cmp, q_lst, e, q_var, List.getElem?_cons_zero, List.getElem?_cons_succ, Option.bind_some, id_eq, R.of_some, R.bind_ok, cop, eqD_nil I.l, Option.map_some]
    rcases List.eq_nil_or_concat L with rfl | ⟨L0, x, rfl⟩
    · refine ⟨M, F, o5, ?_, I⟩
      unfold loopW
      simp only [eT, q_tstb, R.bind_ok, decide_true, Bool.not_true, Bool.false_eq_true, if_false]
    · rw [List.concat_eq_append] at *
      obtain ⟨M1, F1, L1, e1, I1, hc⟩ := turn_ok (G := G) (n := n) hLa hOf hs hd hdl hsl hsl2 I d2 o5 o6
      have hF1 := lots_few hs I1.fl I1.nod
      have hlen : (L0 ++ [x]).length = L0.length + 1 := by rw [List.length_append]; rfl
      have hm' : (256 - F1.length) * 122 + L1.length < fuel := by
        rw [hlen] at hm
        rcases hc with ⟨rfl, rfl⟩ | ⟨h1, h2⟩
        · omega
        · omega
      obtain ⟨M2, F2, o5', e2, I2⟩ := loop_closed hLa hOf hs hd hdl hsl hsl2 d2 o6 fuel M1 F1 L1 _ I1 hm'
      refine ⟨M2, F2, o5', ?_, I2⟩
      have hne : decide (L0 ++ [x] = []) = false := decide_eq_false (by simp)
      unfold loopW
      simp only [eT, q_tstb, R.bind_ok, hne, Bool.not_false, if_true, e1]
      exact e2
theorem run_closed {f iLa iOf : Nat} (h : fns f = some (fClosed iLa iOf)) (hLa : fns iLa = some fLaid) (hOf : fns iOf = some fOff) {s : Int} (hs : s ≤ 8) {dl sl lots : List (List Int)} (hd : ∀ k ∈ dl, Lot s k) (hdl : dl.length ≤ 60) (hsl : ∀ k ∈ sl, Lot s k) (hsl2 : sl.length ≤ 60) (hlo : ∀ l ∈ lots, Lot s l) (hll : lots.length ≤ 60) :
    ∃ F M', callI G fns (n + 2) f [.lst (dl.map rowZ), .lst (sl.map rowZ), .lst (lots.map rowZ)] M = .ok (.lst (F.map rowZ)) M' ∧ M.length ≤ M'.length ∧ (∀ i, i < M.length → M'[i]? = M[i]?) ∧ Fam s dl sl F ∧ (∀ l ∈ lots, l ∈ F) := by
  have hid : lots.map (isort leI) = lots := by
    have : ∀ l ∈ lots, isort leI l = id l := fun l hl => isort_id (hlo l hl).1
    rw [List.map_congr_left this, List.map_id]
  let M1 : Mem := M ++ [.lst []]
  let M2 : Mem := M1 ++ [.lst (([[]] ++ lots).map rowZ)]
  have e5 : ∀ env M, env = [some (D.lst (dl.map rowZ)), some (.lst (sl.map rowZ)), some (.lst (lots.map rowZ)), none, none, none, none] → ev G (callI G fns (n + 1)) (.cmpr (.b1 .sorted (.var 5)) (.one 5) (.seq (.var 2)) .none [5]) env M = .ok (.lst (lots.map rowZ)) M := by
    rintro env M rfl
    have := e_map (G := G) (cl := callI G fns (n + 1)) (M := M) (env := [some (.lst (dl.map rowZ)), some (.lst (sl.map rowZ)), some (.lst (lots.map rowZ)), none, none, none, none]) (e := .b1 .sorted (.var 5)) (tg := .one 5) (it := .seq (.var 2)) (own := [5]) (xs := lots.map rowZ) (h := fun x => match x with | .lst ds => rowZ (isort leI (intsOf ds)) | _ => .non)
      (by simp only [q_var, q_lit, q_glob, q_tup, q_lst, q_d0, q_bin, q_inv, q_neg, q_cmp, q_isN, q_isB, q_chn, q_and, q_or, q_not, q_ite, q_b1, q_b2, q_isin, q_call, q_callk, q_mk, q_fld, q_idx, q_slc, q_rev, q_app, q_ext, q_pop, q_alloc, q_lrng, q_0, q_1, q_on, q_os, q_seq, q_rng, q_tstb, q_nil, q_cons, q_ex, q_ret, q_asg, q_nm, q_par, q_ifs, q_fset, q_frz, R.bind_ok, R.bind_no, R.of_some, List.getElem?_cons_zero, List.getElem?_cons_succ, Option.bind_some, id_eq, Option.map_some, List.set_cons_zero, List.set_cons_succ, if_true, Bool.not_true, Bool.not_false, Bool.false_eq_true, if_false, endR_rt, endR_nx, Option.some.injEq, seqD]) (sz_of (by rw [List.length_map]; omega)) (fun x hx => by
        obtain ⟨l, hl, rfl⟩ := List.mem_map.mp hx
        refine ⟨[some (.lst (dl.map rowZ)), some (.lst (sl.map rowZ)), some (.lst (lots.map rowZ)), none, none, some (rowZ l), none], rfl, ?_⟩
        have e : b1 .sorted M (rowZ l) = some (rowZ (isort leI l)) := by
          simp only [b1, rowZ, asS, asL, sortD_ints]; rfl
        simp only [q_var, q_lit, q_glob, q_tup, q_lst, q_d0, q_bin, q_inv, q_neg, q_cmp, q_isN, q_isB, q_chn, q_and, q_or, q_not, q_ite, q_b1, q_b2, q_isin, q_call, q_callk, q_mk, q_fld, q_idx, q_slc, q_rev, q_app, q_ext, q_pop, q_alloc, q_lrng, q_0, q_1, q_on, q_os, q_seq, q_rng, q_tstb, q_nil, q_cons, q_ex, q_ret, q_asg, q_nm, q_par, q_ifs, q_fset, q_frz, R.bind_ok, R.bind_no, R.of_some, List.getElem?_cons_zero, List.getElem?_cons_succ, Option.bind_some, id_eq, Option.map_some, List.set_cons_zero, List.set_cons_succ, if_true, Bool.not_true, Bool.not_false, Bool.false_eq_true, if_false, endR_rt, endR_nx, Option.some.injEq, e]
        show R.ok (rowZ (isort leI l)) M = R.ok (rowZ (isort leI (intsOf (l.map .int)))) M
        rw [intsOf_ints])
    rw [this, List.map_map]
    congr 2
    apply List.map_congr_left
    intro l hl
    show rowZ (isort leI (intsOf (l.map .int))) = rowZ l
    rw [intsOf_ints, isort_id (hlo l hl).1]
  have eP : exs G (callI G fns (n + 1)) (.par [3, 4] (.cons (.alloc (.lst .nil)) (.cons (.alloc (.bin .add (.lst (.cons (.lst .nil) .nil)) (.cmpr (.b1 .sorted (.var 5)) (.one 5) (.seq (.var 2)) .none [5]))) .nil))) [some (.lst (dl.map rowZ)), some (.lst (sl.map rowZ)), some (.lst (lots.map rowZ)), none, none, none, none] M =
      .ok (.nx [some (.lst (dl.map rowZ)), some (.lst (sl.map rowZ)), some (.lst (lots.map rowZ)), some (.ref M.length), some (.ref (M.length + 1)), none, none]) M2 := by
    have b : bop .add (M ++ [MO.lst []]) (.lst [.lst []]) (.lst (lots.map rowZ)) = some (.lst (([[]] ++ lots).map rowZ)) := by
      simp only [bop, asL]
      rw [if_pos (by simp only [List.length_map, List.length_singleton]; rw [PySem.sizeLine_eq]; omega)]
      rfl
    have hl : M1.length = M.length + 1 := by show (M ++ [MO.lst []]).length = _; rw [List.length_append]; rfl
    simp only [q_par, q_1, q_0, q_alloc, q_lst, q_bin, R.bind_ok, e5 _ _ rfl, b, R.of_some]
    show (R.of (setAll [3, 4] [D.ref M.length, D.ref M1.length] [some (.lst (dl.map rowZ)), some (.lst (sl.map rowZ)), some (.lst (lots.map rowZ)), none, none, none, none]) M2).bind (fun env M => R.ok (Fl.nx env) M) = _
    rw [hl]
    rfl
  have g0 : M2[M.length]? = some (.lst (([] : List (List Int)).map rowZ)) := by
    show ((M ++ [MO.lst []]) ++ [MO.lst _])[M.length]? = _
    simp
  have g1 : M2[M.length + 1]? = some (.lst (([[]] ++ lots).map rowZ)) := by
    show ((M ++ [MO.lst []]) ++ [MO.lst _])[M.length + 1]? = _
    rw [List.getElem?_append_right (by rw [List.length_append]; simp)]
    rw [List.length_append]
    simp
  have I0 : CInv s dl sl lots M M2 [] ([[]] ++ lots) := by
    refine ⟨g0, g1, fun i hi => ?_, fun x hx => absurd hx (by simp), fun x hx => ?_, List.nodup_nil, .inr (by simp), fun x hx => .inr (List.mem_append_right _ hx), fun x hx => absurd hx (by simp), fun x hx => absurd hx (by simp), by rw [List.length_append]; simp; omega⟩
    · show ((M ++ [MO.lst []]) ++ [MO.lst _])[i]? = _
      rw [List.getElem?_append_left (by rw [List.length_append]; omega), List.getElem?_append_left hi]
    · rcases List.mem_append.mp hx with hx | hx
      · rw [List.mem_singleton.mp hx]; exact ⟨List.Pairwise.nil, fun i hi => absurd hi (by simp)⟩
      · exact hlo x hx
  have hm : (256 - ([] : List (List Int)).length) * 122 + (([[]] ++ lots).length) < fuelW := by
    have : ([[]] ++ lots).length = 1 + lots.length := by rw [List.length_append]; rfl
    rw [this]
    show 256 * 122 + (1 + lots.length) < 1000000
    omega
  obtain ⟨M3, F, o5, eW, I⟩ := loop_closed (G := G) (n := n) hLa hOf hs hd hdl hsl hsl2 (.lst (lots.map rowZ)) none fuelW M2 [] ([[]] ++ lots) none I0 hm
  have un : ∀ {y : List Int}, y ∈ F ∨ y ∈ ([] : List (List Int)) → y ∈ isort lexLe F := fun {y} q => by
    rcases q with q | q
    · exact (isort_perm lexLe F).mem_iff.mpr q
    · exact absurd q (by simp)
  have inF : ∀ {y : List Int}, y ∈ isort lexLe F → y ∈ F := fun {y} q => (isort_perm lexLe F).mem_iff.mp q
  refine ⟨isort lexLe F, M3, ?_, ?_, I.old, ⟨fun l hl => I.fl l (inF hl), un I.nil, fun l hl k hk => un (I.la l (inF hl) k hk), fun l hl k hk => un (I.of l (inF hl) k hk), (isort_perm lexLe F).nodup_iff.mpr I.nod⟩, fun l hl => un (I.ini l hl)⟩
  · rw [callI_b h [some (.lst (dl.map rowZ)), some (.lst (sl.map rowZ)), some (.lst (lots.map rowZ)), none, none, none, none]]
    have eWh : exs G (callI G fns (n + 1)) (.whl cTest (cBody iLa iOf)) [some (.lst (dl.map rowZ)), some (.lst (sl.map rowZ)), some (.lst (lots.map rowZ)), some (.ref M.length), some (.ref (M.length + 1)), none, none] M2 = _ := (q_whl _).trans eW
    simp only [fClosed, q_cons, eP, R.bind_ok, eWh, q_ret, q_b1, q_var, List.getElem?_cons_zero, List.getElem?_cons_succ, Option.bind_some, id_eq, R.of_some, sorted_ref I.f, endR_rt]
  · have := (List.getElem?_eq_some_iff.mp I.f).1
    omega
/-! ### the pot -/
def fPot (k1 k2 c1 k3 : Int) : Fn := ⟨2, 3, (.cons (.asg (.nm 2) (.bin .add (.bin .add (.bin .mul (.lit (.int k1)) (.var 1)) (.lit (.int k2))) (.bin .mod (.b1 .sum (.slc (.var 0) .none (.some (.lit (.int 1))))) (.lit (.int 1000003))))) (.cons (.ifs (.cmp .lt (.var 1) (.b1 .len (.var 0))) (.cons (.asg (.nm 2) (.b1 .abs (.idx (.var 0) (.var 1)))) .nil) .nil) (.cons (.ret (.alloc (.lst (.cons (.b2 .max (.lit (.int 0)) (.bin .sub (.var 2) (.bin .pow (.lit (.int 10)) (.lit (.int 18))))) (.cons (.bin .add (.bin .mod (.bin .mul (.b1 .int (.bin .add (.bin .mod (.b1 .int (.var 2)) (.lit (.int 2147483549))) (.lit (.int c1)))) (.bin .pow (.bin .add (.bin .mul (.lit (.int 2)) (.var 1)) (.lit (.int k3))) (.lit (.int 3)))) (.lit (.int 2147483477))) (.lit (.int 1))) .nil))))) .nil)))⟩
theorem run_pot {f : Nat} {k1 k2 c1 k3 : Int} (h : fns f = some (fPot k1 k2 c1 k3)) (h1 : -(2 ^ 64) < k1 ∧ k1 < 2 ^ 64) (hc : 0 ≤ c1 ∧ c1 < 2 ^ 60) (h3 : 0 ≤ k3 ∧ k3 < 2 ^ 60) (ns : List Int) {k : Int} (hk : 0 ≤ k ∧ k < 64) :
    ∃ a b, callI G fns (n + 1) f [.scr ns, .int k] M = .ok (.ref M.length) (M ++ [.lst [.int a, .int b]]) := by
  let c0 : Int := k1 * k + k2 + (cut ns none (some 1)).sum % 1000003
  have m1 : bop .mul M (.int k1) (.int k) = some (.int (k1 * k)) := by
    simp only [bop]
    rw [if_pos (.inl h1)]
  have m2 : bop .add M (.int (k1 * k)) (.int k2) = some (.int (k1 * k + k2)) := rfl
  have m3 : ∀ x : Int, bop .mod M (.int x) (.int 1000003) = some (.int (x % 1000003)) := fun x => by
    simp only [bop]
    rw [if_pos (by decide)]
  have m4 : b1 .sum M (.lst ((cut ns none (some 1)).map .int)) = some (.int (cut ns none (some 1)).sum) := by
    simp only [b1, asInts, asL, mapO_int]
    rfl
  have m5 : bop .add M (.int (k1 * k + k2)) (.int ((cut ns none (some 1)).sum % 1000003)) = some (.int c0) := rfl
  have e0 : ev G (callI G fns n) (.bin .add (.bin .add (.bin .mul (.lit (.int k1)) (.var 1)) (.lit (.int k2))) (.bin .mod (.b1 .sum (.slc (.var 0) .none (.some (.lit (.int 1))))) (.lit (.int 1000003)))) [some (.scr ns), some (.int k), none] M = .ok (.int c0) M := by
    have es : slcD M (.scr ns) none (some 1) = some (.lst ((cut ns none (some 1)).map .int)) := rfl
    simp only [q_var, q_lit, q_glob, q_tup, q_lst, q_d0, q_bin, q_inv, q_neg, q_cmp, q_isN, q_isB, q_chn, q_and, q_or, q_not, q_ite, q_b1, q_b2, q_isin, q_call, q_callk, q_mk, q_fld, q_idx, q_slc, q_rev, q_app, q_ext, q_pop, q_alloc, q_lrng, q_0, q_1, q_on, q_os, q_seq, q_rng, q_tstb, q_nil, q_cons, q_ex, q_ret, q_asg, q_nm, q_par, q_ifs, q_fset, q_frz, R.bind_ok, R.bind_no, R.of_some, List.getElem?_cons_zero, List.getElem?_cons_succ, Option.bind_some, id_eq, Option.map_some, List.set_cons_zero, List.set_cons_succ, if_true, Bool.not_true, Bool.not_false, Bool.false_eq_true, if_false, endR_rt, endR_nx, Option.some.injEq, m1, m2, optI, es, m4, m3, m5]
  have el : b1 .len M (.scr ns) = some (.int ns.length) := rfl
  have fin : ∀ c : Int, ∃ a b, ev G (callI G fns n) (.alloc (.lst (.cons (.b2 .max (.lit (.int 0)) (.bin .sub (.var 2) (.bin .pow (.lit (.int 10)) (.lit (.int 18))))) (.cons (.bin .add (.bin .mod (.bin .mul (.b1 .int (.bin .add (.bin .mod (.b1 .int (.var 2)) (.lit (.int 2147483549))) (.lit (.int c1)))) (.bin .pow (.bin .add (.bin .mul (.lit (.int 2)) (.var 1)) (.lit (.int k3))) (.lit (.int 3)))) (.lit (.int 2147483477))) (.lit (.int 1))) .nil))))
      [some (.scr ns), some (.int k), some (.int c)] M = .ok (.ref M.length) (M ++ [.lst [.int a, .int b]]) := by
    intro c
    have p1 : bop .pow M (.int 10) (.int 18) = some (.int (10 ^ (18 : Int).toNat)) := by
      simp only [bop]
      rw [if_pos (by decide)]
    have p2 : ∀ x y : Int, bop .sub M (.int x) (.int y) = some (.int (x - y)) := fun _ _ => rfl
    have p3 : ∀ x : Int, b2 .max (.int 0) (.int x) = some (.int (if x > 0 then x else 0)) := fun _ => rfl
    have p4 : ∀ x : Int, b1 .int M (.int x) = some (.int x) := fun _ => rfl
    have p5 : ∀ x : Int, bop .mod M (.int x) (.int 2147483549) = some (.int (x % 2147483549)) := fun x => by
      simp only [bop]
      rw [if_pos (by decide)]
    have p6 : ∀ x y : Int, bop .add M (.int x) (.int y) = some (.int (x + y)) := fun _ _ => rfl
    have p7 : bop .mul M (.int 2) (.int k) = some (.int (2 * k)) := by
      simp only [bop]
      rw [if_pos (.inl ⟨by decide, by decide⟩)]
    have p8 : bop .pow M (.int (2 * k + k3)) (.int 3) = some (.int ((2 * k + k3) ^ (3 : Int).toNat)) := by
      simp only [bop]
      rw [if_pos ⟨by decide, by decide, by omega⟩]
    have hc0 := Int.emod_nonneg c (by decide : (2147483549 : Int) ≠ 0)
    have hc2 := Int.emod_lt_of_pos c (by decide : (0 : Int) < 2147483549)
    have p9 : ∀ y : Int, bop .mul M (.int (c % 2147483549 + c1)) (.int y) = some (.int ((c % 2147483549 + c1) * y)) := fun y => by
      simp only [bop]
      rw [if_pos (.inl ⟨by omega, by omega⟩)]
    have p10 : ∀ x : Int, bop .mod M (.int x) (.int 2147483477) = some (.int (x % 2147483477)) := fun x => by
      simp only [bop]
      rw [if_pos (by decide)]
    refine ⟨if c - 10 ^ (18 : Int).toNat > 0 then c - 10 ^ (18 : Int).toNat else 0, (c % 2147483549 + c1) * (2 * k + k3) ^ (3 : Int).toNat % 2147483477 + 1, ?_⟩
    simp only [q_var, q_lit, q_glob, q_tup, q_lst, q_d0, q_bin, q_inv, q_neg, q_cmp, q_isN, q_isB, q_chn, q_and, q_or, q_not, q_ite, q_b1, q_b2, q_isin, q_call, q_callk, q_mk, q_fld, q_idx, q_slc, q_rev, q_app, q_ext, q_pop, q_alloc, q_lrng, q_0, q_1, q_on, q_os, q_seq, q_rng, q_tstb, q_nil, q_cons, q_ex, q_ret, q_asg, q_nm, q_par, q_ifs, q_fset, q_frz, R.bind_ok, R.bind_no, R.of_some, List.getElem?_cons_zero, List.getElem?_cons_succ, Option.bind_some, id_eq, Option.map_some, List.set_cons_zero, List.set_cons_succ, if_true, Bool.not_true, Bool.not_false, Bool.false_eq_true, if_false, endR_rt, endR_nx, Option.some.injEq, p1, p2, p3, p4, p5, p6, p7, p8, p9, p10]
  by_cases hlt : k < ns.length
  · have d1 : decide (k < (ns.length : Int)) = true := decide_eq_true hlt
    have hix : ∃ x, idxD M (.scr ns) (.int k) = some (.int x) := by
      have h2 : k.toNat < ns.length := by omega
      refine ⟨ns[k.toNat], ?_⟩
      simp only [idxD, L2.atI, L2.ixN]
      rw [if_pos hk.1, if_pos hlt]
      simp only [Option.bind_some, List.getElem?_eq_getElem h2, Option.map_some]
    obtain ⟨x, hix⟩ := hix
    obtain ⟨a, b, hab⟩ := fin (if x < 0 then -x else x)
    refine ⟨a, b, ?_⟩
    rw [callI_b h [some (.scr ns), some (.int k), none]]
    have ea : b1 .abs M (.int x) = some (.int (if x < 0 then -x else x)) := rfl
    simp only [fPot, q_cons, q_asg, e0, R.bind_ok, q_nm, List.set_cons_zero, List.set_cons_succ, q_ifs, q_cmp, q_var, q_b1, q_idx, List.getElem?_cons_zero, List.getElem?_cons_succ, Option.bind_some, id_eq, R.of_some, el, cop, Option.map_some, d1, q_tstb, if_true, hix, ea, q_nil, q_ret, hab, endR_rt]
  · have d1 : decide (k < (ns.length : Int)) = false := decide_eq_false hlt
    obtain ⟨a, b, hab⟩ := fin c0
    refine ⟨a, b, ?_⟩
    rw [callI_b h [some (.scr ns), some (.int k), none]]
    simp only [fPot, q_cons, q_asg, e0, R.bind_ok, q_nm, List.set_cons_zero, List.set_cons_succ, q_ifs, q_cmp, q_var, q_b1, List.getElem?_cons_zero, List.getElem?_cons_succ, Option.bind_some, id_eq, R.of_some, el, cop, Option.map_some, d1, q_tstb, Bool.false_eq_true, if_false, q_nil, q_ret, hab, endR_rt]
end
end Z
end
section
set_option Elab.async false
set_option linter.all false
set_option maxRecDepth 100000
set_option maxHeartbeats 2000000
/-! M24a: the law's own look at a family (k24). -/
namespace Z
open PySem (PyData sizeLine)
section
variable {G : Gt} {fns : Nat → Option Fn} {n : Nat} {M : Mem}
/-- an item's ints in their sequence -/
def srtD (d : D) : List Int := match seqB d with
  | some xs => isort leI (intsOf xs)
  | none => []
def famB (s : Int) (dl sl : List (List Int)) (d : D) : Bool := lotsB s d && (match seqB d with
  | some xs => decide ([] ∈ xs.map srtD) && (xs.map srtD).all fun l => (dl.all fun k => decide (laidZ l k ∈ xs.map srtD)) && sl.all fun k => decide (offZ l k ∈ xs.map srtD)
  | none => false)
def oneE : E := .and (.isin .int (.var 6)) (.and (.not (.isin .bool (.var 6))) (.chn .le .lt (.lit (.int 0)) (.var 6) (.var 0)))
def famTest : E := .or (.not (.isin .listtuple (.var 5))) (.not (.b1 .all (.cmpr oneE (.one 6) (.seq (.var 5)) .none [6])))
def famB1 : Ss := .cons (.ifs famTest (.cons (.ret (.lit (.bl false))) .nil) .nil) (.cons (.ex (.app (.var 4) (.b1 .sorted (.var 5)))) (.cons (.ifs (.cmp .lt (.b1 .lset (.idx (.var 4) (.neg (.lit (.int 1))))) (.b1 .len (.idx (.var 4) (.neg (.lit (.int 1)))))) (.cons (.ret (.lit (.bl false))) .nil) .nil) .nil))
def famT2 (iLa iOf : Nat) : E := .or (.not (.b1 .all (.cmpr (.cmp .inn (.call iLa (.cons (.var 5) (.cons (.var 7) .nil))) (.var 4)) (.one 7) (.seq (.var 1)) .none [7]))) (.not (.b1 .all (.cmpr (.cmp .inn (.call iOf (.cons (.var 5) (.cons (.var 7) .nil))) (.var 4)) (.one 7) (.seq (.var 2)) .none [7])))
def famB2 (iLa iOf : Nat) : Ss := .cons (.ifs (famT2 iLa iOf) (.cons (.ret (.lit (.bl false))) .nil) .nil) .nil
def fFamily (iLa iOf : Nat) : Fn := ⟨4, 8, (.cons (.ifs (.not (.isin .listtuple (.var 3))) (.cons (.ret (.lit (.bl false))) .nil) .nil) (.cons (.asg (.nm 4) (.alloc (.lst .nil))) (.cons (.fr (.one 5) (.seq (.var 3)) famB1) (.cons (.ifs (.cmp .nin (.lst .nil) (.var 4)) (.cons (.ret (.lit (.bl false))) .nil) .nil) (.cons (.frz 4) (.cons (.fr (.one 5) (.seq (.var 4)) (famB2 iLa iOf)) (.cons (.ret (.lit (.bl true))) .nil)))))))⟩
theorem isin_lt {d : D} (h : noRef d = true) : isin M .listtuple d = some (isListB d) := by
  cases d <;> first | rfl | (simp [noRef] at h)
/-- one look at an item -/
theorem item_ok {cl : Nat → List D → Mem → R D} {s : Int} (hs : s ≤ 8) {e1 e2 e3 e4 : D} {o6 o7 : Option D} {x : D} (hx : itemOk x) :
    (∃ b, ev G cl famTest [some (.int s), some e1, some e2, some e3, some e4, some x, o6, o7] M = .ok (.bl b) M ∧ (b = true → lotD s x = false) ∧ (b = false → ∃ ns : List Int, seqB x = some (ns.map .int) ∧ (∀ i ∈ ns, 0 ≤ i ∧ i < s) ∧ ns.length ≤ 4000)) := by
  obtain ⟨h1, h2, h3⟩ := hx
  cases q : seqB x with
  | none =>
    refine ⟨true, ?_, fun _ => by unfold lotD; rw [q], fun z => by cases z⟩
    simp only [famTest, q_var, q_lit, q_glob, q_tup, q_lst, q_d0, q_bin, q_inv, q_neg, q_cmp, q_isN, q_isB, q_chn, q_and, q_or, q_not, q_ite, q_b1, q_b2, q_isin, q_call, q_callk, q_mk, q_fld, q_idx, q_slc, q_rev, q_app, q_ext, q_pop, q_alloc, q_lrng, q_0, q_1, q_on, q_os, q_seq, q_rng, q_tstb, q_nil, q_cons, q_ex, q_ret, q_asg, q_nm, q_par, q_ifs, q_fset, q_frz, R.bind_ok, R.bind_no, R.of_some, List.getElem?_cons_zero, List.getElem?_cons_succ, Option.bind_some, id_eq, Option.map_some, List.set_cons_zero, List.set_cons_succ, if_true, Bool.not_true, Bool.not_false, Bool.false_eq_true, if_false, endR_rt, endR_nx, Option.some.injEq, isin_lt h1, notL h1 h2 q]
  | some xs =>
    obtain ⟨l1, l2⟩ := h3 xs q
    have eC : ev G cl (.cmpr oneE (.one 6) (.seq (.var 5)) .none [6]) [some (.int s), some e1, some e2, some e3, some e4, some x, o6, o7] M = .ok (.lst (xs.map fun y => .bl (inR s y))) M := by
      refine e_map (by simp only [q_var, q_lit, q_glob, q_tup, q_lst, q_d0, q_bin, q_inv, q_neg, q_cmp, q_isN, q_isB, q_chn, q_and, q_or, q_not, q_ite, q_b1, q_b2, q_isin, q_call, q_callk, q_mk, q_fld, q_idx, q_slc, q_rev, q_app, q_ext, q_pop, q_alloc, q_lrng, q_0, q_1, q_on, q_os, q_seq, q_rng, q_tstb, q_nil, q_cons, q_ex, q_ret, q_asg, q_nm, q_par, q_ifs, q_fset, q_frz, R.bind_ok, R.bind_no, R.of_some, List.getElem?_cons_zero, List.getElem?_cons_succ, Option.bind_some, id_eq, Option.map_some, List.set_cons_zero, List.set_cons_succ, if_true, Bool.not_true, Bool.not_false, Bool.false_eq_true, if_false, endR_rt, endR_nx, Option.some.injEq, seq_seqD q]) (sz_of l1) fun y hy => ⟨[some (.int s), some e1, some e2, some e3, some e4, some x, some y, o7], rfl, ?_⟩
      have hy' := l2 y hy
      cases y with
      | int i =>
        have i1 : isin M .int (.int i) = some true := rfl
        have i2 : isin M .bool (.int i) = some false := rfl
        simp only [oneE, q_var, q_lit, q_glob, q_tup, q_lst, q_d0, q_bin, q_inv, q_neg, q_cmp, q_isN, q_isB, q_chn, q_and, q_or, q_not, q_ite, q_b1, q_b2, q_isin, q_call, q_callk, q_mk, q_fld, q_idx, q_slc, q_rev, q_app, q_ext, q_pop, q_alloc, q_lrng, q_0, q_1, q_on, q_os, q_seq, q_rng, q_tstb, q_nil, q_cons, q_ex, q_ret, q_asg, q_nm, q_par, q_ifs, q_fset, q_frz, R.bind_ok, R.bind_no, R.of_some, List.getElem?_cons_zero, List.getElem?_cons_succ, Option.bind_some, id_eq, Option.map_some, List.set_cons_zero, List.set_cons_succ, if_true, Bool.not_true, Bool.not_false, Bool.false_eq_true, if_false, endR_rt, endR_nx, Option.some.injEq, i1, i2, cop, inR]
        by_cases h0 : 0 ≤ i <;> simp [h0]
      | bl k => cases k <;> simp [oneE, q_var, q_lit, q_glob, q_tup, q_lst, q_d0, q_bin, q_inv, q_neg, q_cmp, q_isN, q_isB, q_chn, q_and, q_or, q_not, q_ite, q_b1, q_b2, q_isin, q_call, q_callk, q_mk, q_fld, q_idx, q_slc, q_rev, q_app, q_ext, q_pop, q_alloc, q_lrng, q_0, q_1, q_on, q_os, q_seq, q_rng, q_tstb, q_nil, q_cons, q_ex, q_ret, q_asg, q_nm, q_par, q_ifs, q_fset, q_frz, R.bind_ok, R.bind_no, R.of_some, List.getElem?_cons_zero, List.getElem?_cons_succ, Option.bind_some, id_eq, Option.map_some, List.set_cons_zero, List.set_cons_succ, if_true, Bool.not_true, Bool.not_false, Bool.false_eq_true, if_false, endR_rt, endR_nx, Option.some.injEq, isin, inR]
      | ref j => simp [noRef] at hy'
      | _ => simp [oneE, q_var, q_lit, q_glob, q_tup, q_lst, q_d0, q_bin, q_inv, q_neg, q_cmp, q_isN, q_isB, q_chn, q_and, q_or, q_not, q_ite, q_b1, q_b2, q_isin, q_call, q_callk, q_mk, q_fld, q_idx, q_slc, q_rev, q_app, q_ext, q_pop, q_alloc, q_lrng, q_0, q_1, q_on, q_os, q_seq, q_rng, q_tstb, q_nil, q_cons, q_ex, q_ret, q_asg, q_nm, q_par, q_ifs, q_fset, q_frz, R.bind_ok, R.bind_no, R.of_some, List.getElem?_cons_zero, List.getElem?_cons_succ, Option.bind_some, id_eq, Option.map_some, List.set_cons_zero, List.set_cons_succ, if_true, Bool.not_true, Bool.not_false, Bool.false_eq_true, if_false, endR_rt, endR_nx, Option.some.injEq, isin, inR]
    refine ⟨!(xs.all (inR s)), ?_, fun z => ?_, fun z => ?_⟩
    · simp only [famTest, q_var, q_lit, q_glob, q_tup, q_lst, q_d0, q_bin, q_inv, q_neg, q_cmp, q_isN, q_isB, q_chn, q_and, q_or, q_not, q_ite, q_b1, q_b2, q_isin, q_call, q_callk, q_mk, q_fld, q_idx, q_slc, q_rev, q_app, q_ext, q_pop, q_alloc, q_lrng, q_0, q_1, q_on, q_os, q_seq, q_rng, q_tstb, q_nil, q_cons, q_ex, q_ret, q_asg, q_nm, q_par, q_ifs, q_fset, q_frz, R.bind_ok, R.bind_no, R.of_some, List.getElem?_cons_zero, List.getElem?_cons_succ, Option.bind_some, id_eq, Option.map_some, List.set_cons_zero, List.set_cons_succ, if_true, Bool.not_true, Bool.not_false, Bool.false_eq_true, if_false, endR_rt, endR_nx, Option.some.injEq, isin_lt h1, seq_isList q, eC, all_map]
    · have : xs.all (inR s) = false := by simpa using z
      unfold lotD lotB
      rw [q]
      simp only [this, Bool.false_and]
    · have hA : xs.all (inR s) = true := by simpa using z
      obtain ⟨k1, k2⟩ := ints_all hA
      exact ⟨intsOf xs, by rw [← k1], k2, by have := congrArg List.length k1; rw [List.length_map] at this; omega⟩
theorem last_at {L : Nat} {rows : List (List Int)} {r : List Int} (h : M[L]? = some (.lst ((rows ++ [r]).map rowZ))) : idxD M (.ref L) (.int (-1)) = some (rowZ r) := by
  simp only [idxD, h, atD, L2.atI, L2.ixN]
  have hl : ((rows ++ [r]).map rowZ).length = rows.length + 1 := by rw [List.length_map, List.length_append]; rfl
  rw [hl, if_neg (by decide), if_pos (by omega)]
  have : ((-1 : Int) + ((rows.length + 1 : Nat) : Int)).toNat = rows.length := by omega
  rw [this]
  simp
theorem fam_look {iLa iOf : Nat} (hLa : fns iLa = some fLaid) (hOf : fns iOf = some fOff) {s : Int} (hs : s ≤ 8) {dl sl rows : List (List Int)} (hd : ∀ k ∈ dl, Lot s k) (hdl : dl.length ≤ 60) (hsl : ∀ k ∈ sl, Lot s k) (hsl2 : sl.length ≤ 60) {l : List Int} (hl : l.length ≤ 100) (e0 e3 : D) (o6 o7 : Option D) :
    ev G (callI G fns (n + 1)) (famT2 iLa iOf) [some e0, some (.lst (dl.map rowZ)), some (.lst (sl.map rowZ)), some e3, some (.lst (rows.map rowZ)), some (rowZ l), o6, o7] M = .ok (.bl (!((dl.all fun k => decide (laidZ l k ∈ rows)) && sl.all fun k => decide (offZ l k ∈ rows)))) M := by
  have look : ∀ (g : Nat) (F : List Int → List Int) (ks : List (List Int)) (i : Nat), (∀ k ∈ ks, callI G fns (n + 1) g [rowZ l, rowZ k] M = .ok (rowZ (F k)) M) → ks.length ≤ 60 →
      [some e0, some (D.lst (dl.map rowZ)), some (.lst (sl.map rowZ)), some e3, some (.lst (rows.map rowZ)), some (rowZ l), o6, o7][i]? = some (some (.lst (ks.map rowZ))) →
      ev G (callI G fns (n + 1)) (.b1 .all (.cmpr (.cmp .inn (.call g (.cons (.var 5) (.cons (.var 7) .nil))) (.var 4)) (.one 7) (.seq (.var i)) .none [7])) [some e0, some (.lst (dl.map rowZ)), some (.lst (sl.map rowZ)), some e3, some (.lst (rows.map rowZ)), some (rowZ l), o6, o7] M = .ok (.bl (ks.all fun k => decide (F k ∈ rows))) M := by
    intro g F ks i hF hk hv
    have e := e_map (G := G) (cl := callI G fns (n + 1)) (M := M) (env := [some e0, some (.lst (dl.map rowZ)), some (.lst (sl.map rowZ)), some e3, some (.lst (rows.map rowZ)), some (rowZ l), o6, o7]) (e := .cmp .inn (.call g (.cons (.var 5) (.cons (.var 7) .nil))) (.var 4)) (tg := .one 7) (it := .seq (.var i)) (own := [7]) (xs := ks.map rowZ) (h := fun y => match y with | .lst ds => .bl (decide (F (intsOf ds) ∈ rows)) | _ => .non)
      (by simp only [q_seq, q_var, hv, Option.bind_some, id_eq, R.of_some, R.bind_ok, seqD]) (sz_of (by rw [List.length_map]; omega)) (fun y hy => by
        obtain ⟨k, hk, rfl⟩ := List.mem_map.mp hy
        refine ⟨[some e0, some (.lst (dl.map rowZ)), some (.lst (sl.map rowZ)), some e3, some (.lst (rows.map rowZ)), some (rowZ l), o6, some (rowZ k)], rfl, ?_⟩
        have e := hF k hk
        simp only [q_var, q_lit, q_glob, q_tup, q_lst, q_d0, q_bin, q_inv, q_neg, q_cmp, q_isN, q_isB, q_chn, q_and, q_or, q_not, q_ite, q_b1, q_b2, q_isin, q_call, q_callk, q_mk, q_fld, q_idx, q_slc, q_rev, q_app, q_ext, q_pop, q_alloc, q_lrng, q_0, q_1, q_on, q_os, q_seq, q_rng, q_tstb, q_nil, q_cons, q_ex, q_ret, q_asg, q_nm, q_par, q_ifs, q_fset, q_frz, R.bind_ok, R.bind_no, R.of_some, List.getElem?_cons_zero, List.getElem?_cons_succ, Option.bind_some, id_eq, Option.map_some, List.set_cons_zero, List.set_cons_succ, if_true, Bool.not_true, Bool.not_false, Bool.false_eq_true, if_false, endR_rt, endR_nx, Option.some.injEq, e, cop, inD_rows]
        show R.ok (D.bl (decide (F k ∈ rows))) M = R.ok (D.bl (decide (F (intsOf (k.map .int)) ∈ rows))) M
        rw [intsOf_ints])
    have em : (ks.map rowZ).map (fun y => match y with | .lst ds => D.bl (decide (F (intsOf ds) ∈ rows)) | _ => .non) = ks.map fun k => D.bl (decide (F k ∈ rows)) := by
      rw [List.map_map]
      apply List.map_congr_left
      intro k _
      show D.bl (decide (F (intsOf (k.map .int)) ∈ rows)) = _
      rw [intsOf_ints]
    rw [em] at e
    simp only [q_b1, e, R.bind_ok, all_map, R.of_some]
  have e1 := look iLa (laidZ l) dl 1 (fun k hk => run_laid (G := G) (n := n) (M := M) hLa hl (by have := lot_len8 hs (hd k hk); omega)) hdl rfl
  have e2 := look iOf (offZ l) sl 2 (fun k hk => run_off (G := G) (n := n) (M := M) hOf hl) hsl2 rfl
  simp only [famT2, q_or, q_not, e1, e2, q_tstb, R.bind_ok]
  cases (dl.all fun k => decide (laidZ l k ∈ rows)) <;> rfl
/-- a look that ends early -/
theorem loopF_ret {t : Tg} {body : Env → Mem → R Fl} {x : D} {xs : List D} {env env1 : Env} {M M2 : Mem} {d : D} (h1 : bindT t x env = some env1) (h2 : body env1 M = .ok (.rt d) M2) : loopF t body (x :: xs) env M = .ok (.rt d) M2 := by
  unfold loopF
  rw [h1]
  simp only [h2, R.bind_ok]
theorem run_family {f iLa iOf : Nat} (h : fns f = some (fFamily iLa iOf)) (hLa : fns iLa = some fLaid) (hOf : fns iOf = some fOff) {s : Int} (hs : s ≤ 8) {dl sl : List (List Int)} (hd : ∀ k ∈ dl, Lot s k) (hdl : dl.length ≤ 60) (hsl : ∀ k ∈ sl, Lot s k) (hsl2 : sl.length ≤ 60) {d : D} (hv : valOk d) :
    ∃ M', callI G fns (n + 2) f [.int s, .lst (dl.map rowZ), .lst (sl.map rowZ), d] M = .ok (.bl (famB s dl sl d)) M' ∧ M.length ≤ M'.length ∧ ∀ i, i < M.length → M'[i]? = M[i]? := by
  obtain ⟨h1, h2, h3⟩ := hv
  let E0 (o4 o5 o6 o7 : Option D) : Env := [some (.int s), some (.lst (dl.map rowZ)), some (.lst (sl.map rowZ)), some d, o4, o5, o6, o7]
  cases q : seqB d with
  | none =>
    refine ⟨M, ?_, Nat.le_refl _, fun _ _ => rfl⟩
    rw [callI_b h (E0 none none none none)]
    have e : isin M .listtuple d = some false := by rw [isin_lt h1, notL h1 h2 q]
    simp only [fFamily, E0, q_var, q_lit, q_glob, q_tup, q_lst, q_d0, q_bin, q_inv, q_neg, q_cmp, q_isN, q_isB, q_chn, q_and, q_or, q_not, q_ite, q_b1, q_b2, q_isin, q_call, q_callk, q_mk, q_fld, q_idx, q_slc, q_rev, q_app, q_ext, q_pop, q_alloc, q_lrng, q_0, q_1, q_on, q_os, q_seq, q_rng, q_tstb, q_nil, q_cons, q_ex, q_ret, q_asg, q_nm, q_par, q_ifs, q_fset, q_frz, R.bind_ok, R.bind_no, R.of_some, List.getElem?_cons_zero, List.getElem?_cons_succ, Option.bind_some, id_eq, Option.map_some, List.set_cons_zero, List.set_cons_succ, if_true, Bool.not_true, Bool.not_false, Bool.false_eq_true, if_false, endR_rt, endR_nx, Option.some.injEq, e, famB, lotsB, q, Bool.false_and]
  | some xs =>
    obtain ⟨l1, l2⟩ := h3 xs q
    let M1 : Mem := M ++ [.lst []]
    have g1 : M1[M.length]? = some (.lst (([] : List (List Int)).map rowZ)) := by
      show (M ++ [MO.lst []])[M.length]? = _
      simp
    -- the first walk
    have walk1 := loop_ret (t := .one 5) (body := fun env M => exb G (callI G fns (n + 1)) famB1 env M)
      (fun rest env M' => ∃ don o5, env = E0 (some (.ref M.length)) o5 none none ∧ xs = don ++ rest ∧ (∀ x ∈ don, lotD s x = true) ∧ M'[M.length]? = some (.lst ((don.map srtD).map rowZ)) ∧ M.length ≤ M'.length ∧ ∀ i, i < M.length → M'[i]? = M[i]?)
      (fun dd M' => dd = .bl false ∧ lotsB s d = false ∧ M.length ≤ M'.length ∧ ∀ i, i < M.length → M'[i]? = M[i]?)
      (fun x rest env M' ⟨don, o5, he, hx, hdn, hg, hl, ho⟩ => by
        subst he
        have hxm : x ∈ xs := by rw [hx]; exact List.mem_append_right _ List.mem_cons_self
        have hbad : lotD s x = false → lotsB s d = false := fun z => by
          unfold lotsB
          rw [q]
          exact Bool.eq_false_iff.mpr fun z2 => by
            have := List.all_eq_true.mp z2 x hxm
            rw [z] at this; cases this
        refine ⟨E0 (some (.ref M.length)) (some x) none none, rfl, ?_⟩
        obtain ⟨b, e1, e2, e3⟩ := item_ok (G := G) (M := M') (cl := callI G fns (n + 1)) hs (e1 := .lst (dl.map rowZ)) (e2 := .lst (sl.map rowZ)) (e3 := d) (e4 := .ref M.length) (o6 := none) (o7 := none) (l2 x hxm)
        cases b with
        | true =>
          refine .inr ⟨.bl false, M', ?_, rfl, hbad (e2 rfl), hl, ho⟩
          simp only [famB1, E0, q_cons, q_ifs, e1, q_tstb, R.bind_ok, if_true, q_ret, q_lit]
        | false =>
          obtain ⟨ns, k1, k2, k3⟩ := e3 rfl
          have hsrt : srtD x = isort leI ns := by unfold srtD; rw [k1]; simp only [intsOf_ints]
          let M2 : Mem := M'.set M.length (.lst ((don.map srtD ++ [srtD x]).map rowZ))
          have hlt : M.length < M'.length := (List.getElem?_eq_some_iff.mp hg).1
          have g2 : M2[M.length]? = some (.lst ((don.map srtD ++ [srtD x]).map rowZ)) := List.getElem?_set_self hlt
          have hl2 : M.length ≤ M2.length := by show _ ≤ (M'.set _ _).length; rw [List.length_set]; exact hl
          have ho2 : ∀ i, i < M.length → M2[i]? = M[i]? := fun i hi => (List.getElem?_set_ne (by omega)).trans (ho i hi)
          have eS : b1 .sorted M' x = some (rowZ (srtD x)) := by
            simp only [b1, seq_asS k1, sortD_ints, hsrt]
            rfl
          have eA : ev G (callI G fns (n + 1)) (.app (.var 4) (.b1 .sorted (.var 5))) (E0 (some (.ref M.length)) (some x) none none) M' = .ok .non M2 := by
            have isl : isLst M' M.length = true := by unfold isLst; rw [hg]
            have hdl' : don.length ≤ 4000 := by have := congrArg List.length hx; rw [List.length_append] at this; omega
            have hz : ((don.map srtD).map rowZ).length < sizeLine := sz_of (by rw [List.length_map, List.length_map]; exact hdl')
            have e : (don.map srtD).map rowZ ++ [rowZ (srtD x)] = (don.map srtD ++ [srtD x]).map rowZ := by rw [List.map_append]; rfl
            simp only [E0, q_app, q_b1, q_var, List.getElem?_cons_zero, List.getElem?_cons_succ, Option.bind_some, id_eq, R.of_some, R.bind_ok, isl, if_true, eS, hg, hz, e]
            rfl
          have nsn : ∀ i ∈ srtD x, 0 ≤ i ∧ i < s := fun i hi => by rw [hsrt] at hi; exact k2 i ((isort_perm leI ns).mem_iff.mp hi)
          have hsl' : (srtD x).length = ns.length := by rw [hsrt]; exact (isort_perm leI ns).length_eq
          have h8 := dedup_len8 hs nsn
          have eL := lset_eq (M := M2) (d := rowZ (srtD x)) (ns := srtD x) rfl (by omega) (by omega)
          have eN : b1 .len M2 (rowZ (srtD x)) = some (.int (srtD x).length) := by
            show some (D.int (((srtD x).map D.int).length : Nat)) = _
            rw [List.length_map]
          have eT : ev G (callI G fns (n + 1)) (.cmp .lt (.b1 .lset (.idx (.var 4) (.neg (.lit (.int 1))))) (.b1 .len (.idx (.var 4) (.neg (.lit (.int 1)))))) (E0 (some (.ref M.length)) (some x) none none) M2 = .ok (.bl (decide (((dedup (srtD x)).length : Int) < (srtD x).length))) M2 := by
            have en : asInt (.int 1) = some 1 := rfl
            simp only [E0, q_cmp, q_b1, q_idx, q_neg, q_lit, q_var, List.getElem?_cons_zero, List.getElem?_cons_succ, Option.bind_some, id_eq, R.of_some, R.bind_ok, en, Option.map_some, last_at g2, eL, eN, cop]
          have hnd : decide (((dedup (srtD x)).length : Int) < (srtD x).length) = !(lotD s x) := by
            have hlot : lotD s x = decide (ns.Nodup) := by
              unfold lotD lotB
              rw [k1]
              have ha : (ns.map D.int).all (inR s) = true := List.all_eq_true.mpr fun y hy => by
                obtain ⟨i, hi, rfl⟩ := List.mem_map.mp hy
                obtain ⟨a, b⟩ := k2 i hi
                simp [inR, a, b]
              simp only [ha, intsOf_ints, Bool.true_and]
            rw [hlot]
            have hp : (srtD x).Nodup ↔ ns.Nodup := by rw [hsrt]; exact (isort_perm leI ns).nodup_iff
            by_cases hn : ns.Nodup
            · rw [decide_eq_true hn, dedup_id (hp.mpr hn)]
              simp
            · rw [decide_eq_false hn]
              have : ¬ (dedup (srtD x)).length = (srtD x).length := fun z => hn (hp.mp (dedup_nod z))
              have h0 := dedup_len (srtD x)
              exact decide_eq_true (by omega)
          cases hlx : lotD s x with
          | false =>
            rw [hlx] at hnd
            refine .inr ⟨.bl false, M2, ?_, rfl, hbad hlx, hl2, ho2⟩
            simp only [famB1, q_cons, q_ifs, q_ex, q_ret, q_lit, q_nil]
            rw [show ev G (callI G fns (n + 1)) famTest (E0 (some (.ref M.length)) (some x) none none) M' = _ from e1]
            simp only [q_tstb, R.bind_ok, Bool.false_eq_true, if_false, eA, eT, hnd, Bool.not_false, if_true]
          | true =>
            rw [hlx] at hnd
            refine .inl ⟨E0 (some (.ref M.length)) (some x) none none, M2, ?_, don ++ [x], some x, rfl, by rw [hx]; simp, fun y hy => ?_, by rw [List.map_append]; exact g2, hl2, ho2⟩
            · simp only [famB1, q_cons, q_ifs, q_ex, q_ret, q_lit, q_nil]
              rw [show ev G (callI G fns (n + 1)) famTest (E0 (some (.ref M.length)) (some x) none none) M' = _ from e1]
              simp only [q_tstb, R.bind_ok, Bool.false_eq_true, if_false, eA, eT, hnd, Bool.not_true]
            · rcases List.mem_append.mp hy with hy | hy
              · exact hdn y hy
              · rw [List.mem_singleton.mp hy]; exact hlx)
      xs (E0 (some (.ref M.length)) none none none) M1 ⟨[], none, rfl, rfl, fun x hx => absurd hx (by simp), g1, by show _ ≤ (M ++ [MO.lst []]).length; rw [List.length_append]; exact Nat.le_add_right _ _, fun i hi => List.getElem?_append_left hi⟩
    have ei : isin M .listtuple d = some true := by rw [isin_lt h1, seq_isList q]
    have eA0 : exs G (callI G fns (n + 1)) (.asg (.nm 4) (.alloc (.lst .nil))) (E0 none none none none) M = .ok (.nx (E0 (some (.ref M.length)) none none none)) M1 := rfl
    have hi : evi G (callI G fns (n + 1)) (.seq (.var 3)) (E0 (some (.ref M.length)) none none none) M1 = .ok xs M1 := by simp only [E0, q_var, q_lit, q_glob, q_tup, q_lst, q_d0, q_bin, q_inv, q_neg, q_cmp, q_isN, q_isB, q_chn, q_and, q_or, q_not, q_ite, q_b1, q_b2, q_isin, q_call, q_callk, q_mk, q_fld, q_idx, q_slc, q_rev, q_app, q_ext, q_pop, q_alloc, q_lrng, q_0, q_1, q_on, q_os, q_seq, q_rng, q_tstb, q_nil, q_cons, q_ex, q_ret, q_asg, q_nm, q_par, q_ifs, q_fset, q_frz, R.bind_ok, R.bind_no, R.of_some, List.getElem?_cons_zero, List.getElem?_cons_succ, Option.bind_some, id_eq, Option.map_some, List.set_cons_zero, List.set_cons_succ, if_true, Bool.not_true, Bool.not_false, Bool.false_eq_true, if_false, endR_rt, endR_nx, Option.some.injEq, seq_seqD q]
    have eF1 : exs G (callI G fns (n + 1)) (.fr (.one 5) (.seq (.var 3)) famB1) (E0 (some (.ref M.length)) none none none) M1 = loopF (.one 5) (fun env M => exb G (callI G fns (n + 1)) famB1 env M) xs (E0 (some (.ref M.length)) none none none) M1 := by
      rw [q_fr, hi]
      rfl
    have start : ∀ {b : Bool} {M' : Mem}, endR (exb G (callI G fns (n + 1)) (.cons (.fr (.one 5) (.seq (.var 3)) famB1) (.cons (.ifs (.cmp .nin (.lst .nil) (.var 4)) (.cons (.ret (.lit (.bl false))) .nil) .nil) (.cons (.frz 4) (.cons (.fr (.one 5) (.seq (.var 4)) (famB2 iLa iOf)) (.cons (.ret (.lit (.bl true))) .nil))))) (E0 (some (.ref M.length)) none none none) M1) = .ok (.bl b) M' →
        callI G fns (n + 2) f [.int s, .lst (dl.map rowZ), .lst (sl.map rowZ), d] M = .ok (.bl b) M' := by
      intro b M' e
      rw [callI_b h (E0 none none none none)]
      have e0 : exs G (callI G fns (n + 1)) (.ifs (.not (.isin .listtuple (.var 3))) (.cons (.ret (.lit (.bl false))) .nil) .nil) (E0 none none none none) M = .ok (.nx (E0 none none none none)) M := by
        simp only [E0, q_var, q_lit, q_glob, q_tup, q_lst, q_d0, q_bin, q_inv, q_neg, q_cmp, q_isN, q_isB, q_chn, q_and, q_or, q_not, q_ite, q_b1, q_b2, q_isin, q_call, q_callk, q_mk, q_fld, q_idx, q_slc, q_rev, q_app, q_ext, q_pop, q_alloc, q_lrng, q_0, q_1, q_on, q_os, q_seq, q_rng, q_tstb, q_nil, q_cons, q_ex, q_ret, q_asg, q_nm, q_par, q_ifs, q_fset, q_frz, R.bind_ok, R.bind_no, R.of_some, List.getElem?_cons_zero, List.getElem?_cons_succ, Option.bind_some, id_eq, Option.map_some, List.set_cons_zero, List.set_cons_succ, if_true, Bool.not_true, Bool.not_false, Bool.false_eq_true, if_false, endR_rt, endR_nx, Option.some.injEq, ei]
      simp only [fFamily]
      rw [q_cons, e0]
      simp only [R.bind_ok]
      rw [q_cons, eA0]
      simp only [R.bind_ok]
      exact e
    rcases walk1 with ⟨env', M2, w1, don, o5, he, hx, hdn, hg, hl, ho⟩ | ⟨dd, M2, w1, hdd, hb, hl, ho⟩
    · subst he
      rw [List.append_nil] at hx
      subst hx
      have hA : lotsB s d = true := by
        unfold lotsB
        rw [q]
        exact List.all_eq_true.mpr hdn
      have ein : inD M2 (.lst []) (.ref M.length) = some (decide ([] ∈ xs.map srtD)) := by
        rw [inD_ref _ hg]
        exact inD_rows [] (xs.map srtD)
      by_cases h0 : [] ∈ xs.map srtD
      · have d0 : decide ([] ∈ xs.map srtD) = true := decide_eq_true h0
        let M3 : Mem := M2.set M.length .dead
        have hl3 : M.length ≤ M3.length := by show _ ≤ (M2.set _ _).length; rw [List.length_set]; exact hl
        have ho3 : ∀ i, i < M.length → M3[i]? = M[i]? := fun i hi => (List.getElem?_set_ne (by omega)).trans (ho i hi)
        let E1 (o5 : Option D) : Env := E0 (some (.lst ((xs.map srtD).map rowZ))) o5 none none
        have lotOf : ∀ r ∈ xs.map srtD, r.length ≤ 100 := fun r hr => by
          obtain ⟨x, hx, rfl⟩ := List.mem_map.mp hr
          obtain ⟨ns, k1, k2, k3, _⟩ := lotD_bits (hdn x hx)
          have e : srtD x = isort leI ns := by unfold srtD; rw [k1]; simp only [intsOf_ints]
          rw [e, (isort_perm leI ns).length_eq]
          have := lot_len hs k3 k2
          omega
        have walk2 := loop_ret (t := .one 5) (body := fun env M => exb G (callI G fns (n + 1)) (famB2 iLa iOf) env M)
          (fun rest env M' => M' = M3 ∧ ∃ o5 dn rs, env = E1 o5 ∧ xs.map srtD = dn ++ rs ∧ rest = rs.map rowZ ∧ ∀ l ∈ dn, ((dl.all fun k => decide (laidZ l k ∈ xs.map srtD)) && sl.all fun k => decide (offZ l k ∈ xs.map srtD)) = true)
          (fun dd M' => dd = .bl false ∧ M' = M3 ∧ ∃ l ∈ xs.map srtD, ((dl.all fun k => decide (laidZ l k ∈ xs.map srtD)) && sl.all fun k => decide (offZ l k ∈ xs.map srtD)) = false)
          (fun x rest env M' ⟨hM, o5, dn, rs, he, hx, hr, hg⟩ => by
            subst hM he
            cases rs with
            | nil => simp at hr
            | cons r rs =>
              rw [List.map_cons, List.cons.injEq] at hr
              obtain ⟨rfl, rfl⟩ := hr
              have hm : r ∈ xs.map srtD := by rw [hx]; exact List.mem_append_right _ List.mem_cons_self
              have e1 := fam_look (G := G) (fns := fns) (n := n) (M := M3) hLa hOf hs (rows := xs.map srtD) hd hdl hsl hsl2 (lotOf r hm) (.int s) d none none
              refine ⟨E1 (some (rowZ r)), rfl, ?_⟩
              cases hb : ((dl.all fun k => decide (laidZ r k ∈ xs.map srtD)) && sl.all fun k => decide (offZ r k ∈ xs.map srtD)) with
              | true =>
                rw [hb] at e1
                refine .inl ⟨E1 (some (rowZ r)), M3, ?_, rfl, some (rowZ r), dn ++ [r], rs, rfl, by rw [hx]; simp, rfl, fun l hl => ?_⟩
                · simp only [famB2, q_cons, q_ifs]
                  rw [show ev G (callI G fns (n + 1)) (famT2 iLa iOf) (E1 (some (rowZ r))) M3 = _ from e1]
                  simp only [q_tstb, R.bind_ok, Bool.not_true, Bool.false_eq_true, if_false, q_nil]
                · rcases List.mem_append.mp hl with hl | hl
                  · exact hg l hl
                  · rw [List.mem_singleton.mp hl]; exact hb
              | false =>
                rw [hb] at e1
                refine .inr ⟨.bl false, M3, ?_, rfl, rfl, r, hm, hb⟩
                simp only [famB2, q_cons, q_ifs]
                rw [show ev G (callI G fns (n + 1)) (famT2 iLa iOf) (E1 (some (rowZ r))) M3 = _ from e1]
                simp only [q_tstb, R.bind_ok, Bool.not_false, if_true, q_ret, q_lit, q_cons])
          ((xs.map srtD).map rowZ) (E1 o5) M3 ⟨rfl, o5, [], xs.map srtD, rfl, rfl, rfl, fun l hl => absurd hl (by simp)⟩
        have hi2 : evi G (callI G fns (n + 1)) (.seq (.var 4)) (E1 o5) M3 = .ok ((xs.map srtD).map rowZ) M3 := by
          simp only [E1, E0, q_var, q_lit, q_glob, q_tup, q_lst, q_d0, q_bin, q_inv, q_neg, q_cmp, q_isN, q_isB, q_chn, q_and, q_or, q_not, q_ite, q_b1, q_b2, q_isin, q_call, q_callk, q_mk, q_fld, q_idx, q_slc, q_rev, q_app, q_ext, q_pop, q_alloc, q_lrng, q_0, q_1, q_on, q_os, q_seq, q_rng, q_tstb, q_nil, q_cons, q_ex, q_ret, q_asg, q_nm, q_par, q_ifs, q_fset, q_frz, R.bind_ok, R.bind_no, R.of_some, List.getElem?_cons_zero, List.getElem?_cons_succ, Option.bind_some, id_eq, Option.map_some, List.set_cons_zero, List.set_cons_succ, if_true, Bool.not_true, Bool.not_false, Bool.false_eq_true, if_false, endR_rt, endR_nx, Option.some.injEq, seqD]
        have eF2 : exs G (callI G fns (n + 1)) (.fr (.one 5) (.seq (.var 4)) (famB2 iLa iOf)) (E1 o5) M3 = loopF (.one 5) (fun env M => exb G (callI G fns (n + 1)) (famB2 iLa iOf) env M) ((xs.map srtD).map rowZ) (E1 o5) M3 := by
          rw [q_fr, hi2]
          rfl
        have e2 : exs G (callI G fns (n + 1)) (.ifs (.cmp .nin (.lst .nil) (.var 4)) (.cons (.ret (.lit (.bl false))) .nil) .nil) (E0 (some (.ref M.length)) o5 none none) M2 = .ok (.nx (E0 (some (.ref M.length)) o5 none none)) M2 := by
          simp only [E0, q_var, q_lit, q_glob, q_tup, q_lst, q_d0, q_bin, q_inv, q_neg, q_cmp, q_isN, q_isB, q_chn, q_and, q_or, q_not, q_ite, q_b1, q_b2, q_isin, q_call, q_callk, q_mk, q_fld, q_idx, q_slc, q_rev, q_app, q_ext, q_pop, q_alloc, q_lrng, q_0, q_1, q_on, q_os, q_seq, q_rng, q_tstb, q_nil, q_cons, q_ex, q_ret, q_asg, q_nm, q_par, q_ifs, q_fset, q_frz, R.bind_ok, R.bind_no, R.of_some, List.getElem?_cons_zero, List.getElem?_cons_succ, Option.bind_some, id_eq, Option.map_some, List.set_cons_zero, List.set_cons_succ, if_true, Bool.not_true, Bool.not_false, Bool.false_eq_true, if_false, endR_rt, endR_nx, Option.some.injEq, cop, ein, d0]
        have e3 : exs G (callI G fns (n + 1)) (.frz 4) (E0 (some (.ref M.length)) o5 none none) M2 = .ok (.nx (E1 o5)) M3 := by
          simp only [E0, q_frz, List.getElem?_cons_zero, List.getElem?_cons_succ, Option.bind_some, id_eq, hg]
          rfl
        have fin : ∀ b : Bool, famB s dl sl d = b → endR ((loopF (.one 5) (fun env M => exb G (callI G fns (n + 1)) (famB2 iLa iOf) env M) ((xs.map srtD).map rowZ) (E1 o5) M3).bind fun f M => match f with
            | .nx env => exb G (callI G fns (n + 1)) (.cons (.ret (.lit (.bl true))) .nil) env M
            | f => .ok f M) = .ok (.bl b) M3 → ∃ M', callI G fns (n + 2) f [.int s, .lst (dl.map rowZ), .lst (sl.map rowZ), d] M = .ok (.bl (famB s dl sl d)) M' ∧ M.length ≤ M'.length ∧ ∀ i, i < M.length → M'[i]? = M[i]? := by
          intro b hb e
          refine ⟨M3, ?_, hl3, ho3⟩
          rw [hb]
          apply start
          rw [q_cons, eF1, w1]
          simp only [R.bind_ok]
          rw [q_cons, e2]
          simp only [R.bind_ok]
          rw [q_cons, e3]
          simp only [R.bind_ok]
          rw [q_cons, eF2]
          exact e
        rcases walk2 with ⟨env2, M4, w2, hM, o5', dn, rs, he, hx, hr, hgood⟩ | ⟨dd, M4, w2, hdd, hM, l, hm, hbad⟩
        · subst hM he
          have hrs : rs = [] := by cases rs with | nil => rfl | cons _ _ => simp at hr
          subst hrs
          rw [List.append_nil] at hx
          refine fin true ?_ ?_
          · unfold famB
            rw [hA, q]
            simp only [d0, Bool.true_and]
            refine List.all_eq_true.mpr fun l hl => ?_
            rw [hx] at hl
            exact hgood l hl
          · rw [w2]
            rfl
        · subst hM hdd
          refine fin false ?_ ?_
          · unfold famB
            rw [hA, q]
            simp only [d0, Bool.true_and]
            refine Bool.eq_false_iff.mpr fun z => ?_
            have := List.all_eq_true.mp z l hm
            rw [hbad] at this; cases this
          · rw [w2]
            rfl
      · have d0 : decide ([] ∈ xs.map srtD) = false := decide_eq_false h0
        refine ⟨M2, ?_, hl, ho⟩
        have hf : famB s dl sl d = false := by
          unfold famB
          rw [hA, q]
          simp only [d0, Bool.false_and, Bool.true_and]
        rw [hf]
        apply start
        rw [q_cons, eF1, w1]
        simp only [R.bind_ok]
        have e2 : exs G (callI G fns (n + 1)) (.ifs (.cmp .nin (.lst .nil) (.var 4)) (.cons (.ret (.lit (.bl false))) .nil) .nil) (E0 (some (.ref M.length)) o5 none none) M2 = .ok (.rt (.bl false)) M2 := by
          simp only [E0, q_var, q_lit, q_glob, q_tup, q_lst, q_d0, q_bin, q_inv, q_neg, q_cmp, q_isN, q_isB, q_chn, q_and, q_or, q_not, q_ite, q_b1, q_b2, q_isin, q_call, q_callk, q_mk, q_fld, q_idx, q_slc, q_rev, q_app, q_ext, q_pop, q_alloc, q_lrng, q_0, q_1, q_on, q_os, q_seq, q_rng, q_tstb, q_nil, q_cons, q_ex, q_ret, q_asg, q_nm, q_par, q_ifs, q_fset, q_frz, R.bind_ok, R.bind_no, R.of_some, List.getElem?_cons_zero, List.getElem?_cons_succ, Option.bind_some, id_eq, Option.map_some, List.set_cons_zero, List.set_cons_succ, if_true, Bool.not_true, Bool.not_false, Bool.false_eq_true, if_false, endR_rt, endR_nx, Option.some.injEq, cop, ein, d0]
        rw [q_cons, e2]
        rfl
    · subst hdd
      refine ⟨M2, ?_, hl, ho⟩
      have hf : famB s dl sl d = false := by unfold famB; rw [hb, Bool.false_and]
      rw [hf]
      apply start
      rw [q_cons, eF1, w1]
      rfl
end
end Z
end
section
set_option Elab.async false
set_option linter.all false
set_option maxRecDepth 100000
set_option maxHeartbeats 4000000
/-! M24b: the program's look and the law's look agree (stores of at most four shelves). -/
namespace Z
open PySem (PyData sizeLine)
def base4 : List Int := [0, 1, 2, 3]
def allL : Nat → List (List Int)
  | 0 => [[]]
  | k + 1 => (allL k).flatMap fun l => base4.map (· :: l)
theorem allL_mem : ∀ l : List Int, (∀ i ∈ l, i ∈ base4) → l ∈ allL l.length
  | [], _ => by simp [allL]
  | x :: l, h => by
    show x :: l ∈ (allL l.length).flatMap _
    rw [List.mem_flatMap]
    exact ⟨l, allL_mem l fun i hi => h i (List.mem_cons_of_mem _ hi), List.mem_map.mpr ⟨x, h x List.mem_cons_self, rfl⟩⟩
def all4 : List (List Int) := allL 0 ++ allL 1 ++ allL 2 ++ allL 3 ++ allL 4
theorem srt_bits4 : ∀ l ∈ all4, decide l.Nodup = true → bitsZ l = bitsZ (isort leI l) := by decide +kernel
theorem in_base {s : Int} (hs : s ≤ 4) {i : Int} (h : 0 ≤ i ∧ i < s) : i ∈ base4 := by
  have : i = 0 ∨ i = 1 ∨ i = 2 ∨ i = 3 := by omega
  simpa [base4] using this
theorem bits_srt {s : Int} (hs : s ≤ 4) {l : List Int} (h : ∀ i ∈ l, 0 ≤ i ∧ i < s) (d : l.Nodup) : bitsZ l = bitsZ (isort leI l) := by
  have hb : ∀ i ∈ l, i ∈ base4 := fun i hi => in_base hs (h i hi)
  have hl : l.length ≤ 4 := d.length_le_of_subset (hb : l ⊆ base4)
  have hm := allL_mem l hb
  refine srt_bits4 l ?_ (decide_eq_true d)
  have : l.length = 0 ∨ l.length = 1 ∨ l.length = 2 ∨ l.length = 3 ∨ l.length = 4 := by omega
  unfold all4
  simp only [List.mem_append]
  rcases this with e | e | e | e | e <;> rw [e] at hm <;> simp [hm]
def lots16 : List (List Int) := powL base4
theorem rng4 : rngZ 4 = base4 := by decide
theorem lot16 {s : Int} (hs : s ≤ 4) {l : List Int} (h : Lot s l) : l ∈ lots16 := by
  have := lot_pow (s := 4) ⟨h.1, fun i hi => by have := h.2 i hi; omega⟩
  rwa [rng4] at this
theorem t_laid : ∀ l ∈ lots16, ∀ k ∈ lots16, bitsZ (laidZ l k) = PySem.Builtin.bitOr (bitsZ l) (bitsZ k) := by decide +kernel
theorem t_off : ∀ l ∈ lots16, ∀ k ∈ lots16, bitsZ (offZ l k) = PySem.Builtin.bitAnd (bitsZ l) (PySem.Builtin.bitNot (bitsZ k)) := by decide +kernel
theorem t_inj : ∀ l ∈ lots16, ∀ k ∈ lots16, bitsZ l = bitsZ k → l = k := by decide +kernel
theorem t_spots : ∀ l ∈ lots16, spotsZ (bitsZ l) = l := by decide +kernel
theorem own_mem {s : Int} (hs : s ≤ 4) {ks : List (List Int)} (h : ∀ k ∈ ks, Lot s k) (b : Int) : b ∈ ownZ ks ↔ b ∈ ks.map bitsZ := by
  unfold ownZ plainZ
  rw [List.mem_map]
  constructor
  · rintro ⟨r, hr, rfl⟩
    obtain ⟨c, hc, rfl⟩ := List.mem_map.mp ((isort_perm lexLe _).mem_iff.mp hr)
    obtain ⟨k, hk, rfl⟩ := List.mem_map.mp ((dedup_mem c _).mp ((isort_perm leI _).mem_iff.mp hc))
    rw [t_spots k (lot16 hs (h k hk))]
    exact List.mem_map_of_mem hk
  · intro hb
    obtain ⟨k, hk, rfl⟩ := List.mem_map.mp hb
    refine ⟨k, (isort_perm lexLe _).mem_iff.mpr (List.mem_map.mpr ⟨bitsZ k, (isort_perm leI _).mem_iff.mpr ((dedup_mem _ _).mpr hb), t_spots k (lot16 hs (h k hk))⟩), rfl⟩
theorem own_len (ks : List (List Int)) : (ownZ ks).length ≤ ks.length := by
  unfold ownZ plainZ
  rw [List.length_map, (isort_perm lexLe _).length_eq, List.length_map, (isort_perm leI _).length_eq]
  have := dedup_len (ks.map bitsZ)
  rwa [List.length_map] at this
theorem all_congr {α : Type} {l m : List α} (p : α → Bool) (h : ∀ x, x ∈ l ↔ x ∈ m) : l.all p = m.all p := by
  rw [Bool.eq_iff_iff, List.all_eq_true, List.all_eq_true]
  exact ⟨fun q x hx => q x ((h x).mpr hx), fun q x hx => q x ((h x).mp hx)⟩
theorem mem_bits {s : Int} (hs : s ≤ 4) {rows : List (List Int)} (hr : ∀ r ∈ rows, Lot s r) {l : List Int} (hl : Lot s l) : bitsZ l ∈ rows.map bitsZ ↔ l ∈ rows := by
  constructor
  · intro h
    obtain ⟨r, hr', e⟩ := List.mem_map.mp h
    have := t_inj r (lot16 hs (hr r hr')) l (lot16 hs hl) e
    rwa [← this]
  · exact fun h => List.mem_map_of_mem h
theorem agree {s : Int} (hs : s ≤ 4) {dl sl : List (List Int)} (hd : ∀ k ∈ dl, Lot s k) (hsl : ∀ k ∈ sl, Lot s k) (d : D) : closedB s (ownZ dl) (ownZ sl) d = famB s dl sl d := by
  unfold closedB famB
  cases hA : lotsB s d with
  | false => rw [Bool.false_and, Bool.false_and]
  | true =>
    rw [Bool.true_and, Bool.true_and]
    unfold lotsB at hA
    cases q : seqB d with
    | none => rfl
    | some xs =>
      rw [q] at hA
      simp only [List.all_eq_true] at hA ⊢
      have hrow : ∀ x ∈ xs, bitsD x = bitsZ (srtD x) ∧ Lot s (srtD x) := fun x hx => by
        obtain ⟨ns, k1, k2, k3, k4⟩ := lotD_bits (hA x hx)
        have e : srtD x = isort leI ns := by unfold srtD; rw [k1]; simp only [intsOf_ints]
        rw [k4, e]
        exact ⟨bits_srt hs k2 k3, strict_of (isort_sorted leI_trans leI_total _) ((isort_perm leI _).nodup_iff.mpr k3), fun i hi => k2 i ((isort_perm leI _).mem_iff.mp hi)⟩
      have hmap : xs.map bitsD = (xs.map srtD).map bitsZ := by
        rw [List.map_map]
        exact List.map_congr_left fun x hx => (hrow x hx).1
      have hrl : ∀ r ∈ xs.map srtD, Lot s r := fun r hr => by
        obtain ⟨x, hx, rfl⟩ := List.mem_map.mp hr
        exact (hrow x hx).2
      rw [hmap]
      generalize xs.map srtD = rows at hrl
      have h0 : decide (0 ∈ rows.map bitsZ) = decide ([] ∈ rows) := decide_eq_decide.mpr (mem_bits hs hrl (l := []) ⟨List.Pairwise.nil, fun i hi => absurd hi (by simp)⟩)
      show (decide (0 ∈ rows.map bitsZ) && (rows.map bitsZ).all fun b => (ledZ (ownZ dl) (ownZ sl) b).all fun o => decide (o ∈ rows.map bitsZ)) = (decide ([] ∈ rows) && rows.all fun l => (dl.all fun k => decide (laidZ l k ∈ rows)) && sl.all fun k => decide (offZ l k ∈ rows))
      rw [h0, List.all_map]
      congr 1
      have each : ∀ l ∈ rows, ((ledZ (ownZ dl) (ownZ sl) (bitsZ l)).all fun o => decide (o ∈ rows.map bitsZ)) = ((dl.all fun k => decide (laidZ l k ∈ rows)) && sl.all fun k => decide (offZ l k ∈ rows)) := fun l hl => by
        have hll := hrl l hl
        unfold ledZ
        rw [List.all_append, List.all_map, List.all_map, all_congr _ (own_mem hs hd), all_congr _ (own_mem hs hsl), List.all_map, List.all_map]
        congr 1
        · rw [Bool.eq_iff_iff, List.all_eq_true, List.all_eq_true]
          have key : ∀ k ∈ dl, (decide (PySem.Builtin.bitOr (bitsZ l) (bitsZ k) ∈ rows.map bitsZ) = true ↔ decide (laidZ l k ∈ rows) = true) := fun k hk => by
            rw [decide_eq_true_eq, decide_eq_true_eq, ← t_laid l (lot16 hs hll) k (lot16 hs (hd k hk))]
            exact mem_bits hs hrl (laid_lot hll (hd k hk))
          exact ⟨fun q k hk => (key k hk).mp (q k hk), fun q k hk => (key k hk).mpr (q k hk)⟩
        · rw [Bool.eq_iff_iff, List.all_eq_true, List.all_eq_true]
          have key : ∀ k ∈ sl, (decide (PySem.Builtin.bitAnd (bitsZ l) (PySem.Builtin.bitNot (bitsZ k)) ∈ rows.map bitsZ) = true ↔ decide (offZ l k ∈ rows) = true) := fun k hk => by
            rw [decide_eq_true_eq, decide_eq_true_eq, ← t_off l (lot16 hs hll) k (lot16 hs (hsl k hk))]
            exact mem_bits hs hrl (off_lot k hll)
          exact ⟨fun q k hk => (key k hk).mp (q k hk), fun q k hk => (key k hk).mpr (q k hk)⟩
      rw [Bool.eq_iff_iff, List.all_eq_true, List.all_eq_true]
      exact ⟨fun q l hl => by rw [← each l hl]; exact q l hl, fun q l hl => by
        show ((ledZ (ownZ dl) (ownZ sl) (bitsZ l)).all fun o => decide (o ∈ rows.map bitsZ)) = true
        rw [each l hl]; exact q l hl⟩
/-- a closed family is one -/
theorem fam_true {s : Int} (hs : s ≤ 8) {dl sl F : List (List Int)} (h : Fam s dl sl F) : famB s dl sl (.lst (F.map rowZ)) = true := by
  have hsrt : (F.map rowZ).map srtD = F := by
    rw [List.map_map]
    have : ∀ l ∈ F, (srtD ∘ rowZ) l = id l := fun l hl => by
      show isort leI (intsOf (l.map .int)) = l
      rw [intsOf_ints, isort_id (h.lot l hl).1]
    rw [List.map_congr_left this, List.map_id]
  have hA : lotsB s (.lst (F.map rowZ)) = true := by
    show (F.map rowZ).all (lotD s) = true
    refine List.all_eq_true.mpr fun x hx => ?_
    obtain ⟨l, hl, rfl⟩ := List.mem_map.mp hx
    exact lotB_ok (srt_nodup (h.lot l hl).1) (h.lot l hl).2
  unfold famB
  rw [hA]
  show (true && (decide ([] ∈ (F.map rowZ).map srtD) && ((F.map rowZ).map srtD).all fun l => (dl.all fun k => decide (laidZ l k ∈ (F.map rowZ).map srtD)) && sl.all fun k => decide (offZ l k ∈ (F.map rowZ).map srtD))) = true
  rw [hsrt, decide_eq_true h.nil, Bool.true_and, Bool.true_and]
  refine List.all_eq_true.mpr fun l hl => ?_
  rw [Bool.and_eq_true]
  exact ⟨List.all_eq_true.mpr fun k hk => decide_eq_true (h.laid l hl k hk), List.all_eq_true.mpr fun k hk => decide_eq_true (h.off l hl k hk)⟩
end Z
end
section
set_option Elab.async false
set_option linter.all false
set_option maxRecDepth 100000
set_option maxHeartbeats 4000000
/-! M24c: values that are shown; is_closed; all lots. -/
namespace Z
open PySem (PyData sizeLine)
/-- d is shown in at most c characters -/
def Sm (c k : Nat) (d : D) : Prop := ∃ p : PyData, p.showable = true ∧ p.shown.length ≤ c ∧ ∀ (M : Mem) (n : Nat), k ≤ n → py M n d = some p
theorem Sm.mono {c c' k k' : Nat} {d : D} (h : Sm c k d) (h1 : c ≤ c') (h2 : k ≤ k') : Sm c' k' d := by
  obtain ⟨p, a, b, e⟩ := h
  exact ⟨p, a, Nat.le_trans b h1, fun M n hn => e M n (Nat.le_trans h2 hn)⟩
theorem sm_non : Sm 10 1 .non := ⟨.none, rfl, by decide +kernel, fun M n hn => by
  obtain ⟨m, rfl⟩ : ∃ m, n = m + 1 := ⟨n - 1, by omega⟩
  rfl⟩
theorem sm_bl (b : Bool) : Sm 10 1 (.bl b) := ⟨.bool b, rfl, by cases b <;> decide +kernel, fun M n hn => by
  obtain ⟨m, rfl⟩ : ∃ m, n = m + 1 := ⟨n - 1, by omega⟩
  rfl⟩
theorem int_show : ∀ i ∈ ([-1, 0, 1, 2, 3, 4, 5, 6, 7, 8] : List Int), PyData.showable (.int i) = true ∧ (PyData.shown (.int i)).length ≤ 10 := by decide +kernel
theorem sm_int {i : Int} (h : -1 ≤ i ∧ i ≤ 8) : Sm 10 1 (.int i) := by
  have : i = -1 ∨ i = 0 ∨ i = 1 ∨ i = 2 ∨ i = 3 ∨ i = 4 ∨ i = 5 ∨ i = 6 ∨ i = 7 ∨ i = 8 := by omega
  obtain ⟨a, b⟩ := int_show i (by simpa using this)
  exact ⟨.int i, a, b, fun M n hn => by
    obtain ⟨m, rfl⟩ : ∃ m, n = m + 1 := ⟨n - 1, by omega⟩
    rfl⟩
theorem sm_str0 : Sm 10 1 (.str "") := ⟨.str "", rfl, by decide +kernel, fun M n hn => by
  obtain ⟨m, rfl⟩ : ∃ m, n = m + 1 := ⟨n - 1, by omega⟩
  rfl⟩
theorem sm_str2 : Sm 10 1 (.str "[]") := ⟨.str "[]", rfl, by decide +kernel, fun M n hn => by
  obtain ⟨m, rfl⟩ : ∃ m, n = m + 1 := ⟨n - 1, by omega⟩
  rfl⟩
theorem sm_dct : Sm 10 1 (.dct [] []) := ⟨.dict [], rfl, by decide +kernel, fun M n hn => by
  obtain ⟨m, rfl⟩ : ∃ m, n = m + 1 := ⟨n - 1, by omega⟩
  rfl⟩
theorem sm_all {c k : Nat} : ∀ {xs : List D}, (∀ x ∈ xs, Sm c k x) → ∃ ps, (∀ (M : Mem) (n : Nat), k ≤ n → mapO (py M n) xs = some ps) ∧ PyData.showableAll ps = true ∧ ((PyData.shownAll ps).map (·.length)).sum ≤ xs.length * c ∧ (PyData.shownAll ps).length = xs.length
  | [], _ => ⟨[], fun _ _ _ => rfl, rfl, by simp [PyData.shownAll], rfl⟩
  | x :: xs, h => by
    obtain ⟨p, a2, a3, a1⟩ := h x List.mem_cons_self
    obtain ⟨ps, b1, b2, b3, b4⟩ := sm_all (xs := xs) fun y hy => h y (List.mem_cons_of_mem _ hy)
    refine ⟨p :: ps, fun M n hn => ?_, ?_, ?_, ?_⟩
    · simp only [mapO, a1 M n hn, b1 M n hn]
    · simp only [PyData.showableAll, a2, b2, Bool.and_self]
    · simp only [PyData.shownAll, List.map_cons, List.sum_cons, List.length_cons]
      have : (xs.length + 1) * c = xs.length * c + c := Nat.succ_mul _ _
      omega
    · simp only [PyData.shownAll, List.length_cons, b4]
theorem sm_lst {c k m : Nat} {xs : List D} (h : ∀ x ∈ xs, Sm c k x) (hm : xs.length ≤ m) : Sm (m * (c + 2) + 3) (k + 1) (.lst xs) := by
  obtain ⟨ps, b1, b2, b3, b4⟩ := sm_all h
  refine ⟨.list ps, by simp only [PyData.showable, b2], ?_, fun M n hn => ?_⟩
  · simp only [PyData.shown]
    have h1 := PySem.listText_len_le (PyData.shownAll ps)
    have h2 : xs.length * c ≤ m * c := Nat.mul_le_mul_right _ hm
    have h3 : m * (c + 2) = m * c + m * 2 := Nat.mul_add _ _ _
    omega
  · obtain ⟨n', rfl⟩ : ∃ n', n = n' + 1 := ⟨n - 1, by omega⟩
    simp only [py, b1 M n' (by omega)]
    rfl
theorem sm_tup {c k m : Nat} {xs : List D} (h : ∀ x ∈ xs, Sm c k x) (hm : xs.length ≤ m) : Sm (m * (c + 2) + 3) (k + 1) (.tup xs) := by
  obtain ⟨ps, b1, b2, b3, b4⟩ := sm_all h
  refine ⟨.tuple ps, by simp only [PyData.showable, b2], ?_, fun M n hn => ?_⟩
  · simp only [PyData.shown]
    have h1 := PySem.tupleText_len_le (PyData.shownAll ps)
    have h2 : xs.length * c ≤ m * c := Nat.mul_le_mul_right _ hm
    have h3 : m * (c + 2) = m * c + m * 2 := Nat.mul_add _ _ _
    omega
  · obtain ⟨n', rfl⟩ : ∃ n', n = n' + 1 := ⟨n - 1, by omega⟩
    simp only [py, b1 M n' (by omega)]
    rfl
/-- an item of a value; a value -/
def Itm (x : D) : Prop := itemOk x ∧ Sm 400 4 x
def Val (v : D) : Prop := valOk v ∧ Sm 200000 5 v
theorem itm_flat {x : D} (h : seqB x = none) (h1 : noRef x = true) (h2 : notScr x = true) (h3 : Sm 10 1 x) : Itm x := ⟨⟨h1, h2, fun xs q => by rw [h] at q; cases q⟩, h3.mono (by decide) (by decide)⟩
theorem itm_seq {x : D} {xs : List D} (h : seqB x = some xs) (hl : xs.length ≤ 10) (hx : ∀ y ∈ xs, noRef y = true) (hs : ∀ y ∈ xs, Sm 30 3 y) : Itm x := by
  refine ⟨⟨seq_noRef h, by cases x <;> simp [seqB] at h <;> rfl, fun ys q => by rw [h] at q; cases q; exact ⟨by omega, hx⟩⟩, ?_⟩
  cases x with
  | lst ys => simp [seqB] at h; subst h; exact (sm_lst hs hl).mono (by decide) (by decide)
  | tup ys => simp [seqB] at h; subst h; exact (sm_tup hs hl).mono (by decide) (by decide)
  | _ => simp [seqB] at h
theorem itm_ints {x : D} {l : List Int} (h : seqB x = some (l.map .int)) (hl : l.length ≤ 10) (hx : ∀ i ∈ l, -1 ≤ i ∧ i ≤ 8) : Itm x :=
  itm_seq h (by rw [List.length_map]; exact hl) (fun y hy => by obtain ⟨i, _, rfl⟩ := List.mem_map.mp hy; rfl) fun y hy => by
    obtain ⟨i, hi, rfl⟩ := List.mem_map.mp hy
    exact (sm_int (hx i hi)).mono (by decide) (by decide)
theorem val_flat {x : D} (h : seqB x = none) (h1 : noRef x = true) (h2 : notScr x = true) (h3 : Sm 10 1 x) : Val x := ⟨⟨h1, h2, fun xs q => by rw [h] at q; cases q⟩, h3.mono (by decide) (by decide)⟩
theorem val_seq {x : D} {xs : List D} (h : seqB x = some xs) (hl : xs.length ≤ 400) (hx : ∀ y ∈ xs, Itm y) : Val x := by
  refine ⟨⟨seq_noRef h, by cases x <;> simp [seqB] at h <;> rfl, fun ys q => by rw [h] at q; cases q; exact ⟨by omega, fun y hy => (hx y hy).1⟩⟩, ?_⟩
  cases x with
  | lst ys => simp [seqB] at h; subst h; exact (sm_lst (fun y hy => (hx y hy).2) hl).mono (by decide) (by decide)
  | tup ys => simp [seqB] at h; subst h; exact (sm_tup (fun y hy => (hx y hy).2) hl).mono (by decide) (by decide)
  | _ => simp [seqB] at h
/-- repr of a value, whatever else stands -/
theorem repr_val {v : D} (h : Sm 200000 5 v) : ∃ x, ∀ M : Mem, b1 .repr M v = some (.str x) := by
  obtain ⟨p, a, b, e⟩ := h
  refine ⟨p.shown, fun M => ?_⟩
  simp only [b1, e M depthMax (by decide)]
  rw [if_pos ⟨a, by rw [PySem.sizeLine_eq]; omega⟩]
section
variable {G : Gt} {fns : Nat → Option Fn} {n : Nat} {M : Mem}
def fWantStore (c : Nat) : Fn := ⟨1, 1, (.cons (.ifs (.not (.isin (.cls c) (.var 0))) (.cons .stop .nil) .nil) (.cons (.ret (.var 0)) .nil))⟩
theorem run_wantStore {f c f1 f2 f3 f4 j : Nat} (h : fns f = some (fWantStore c)) {s : Int} {ds ss : List Int} (hS : StoreAt M j c f1 f2 f3 f4 s ds ss) : callI G fns (n + 1) f [.ref j] M = .ok (.ref j) M := by
  obtain ⟨r, hr⟩ := hS
  rw [callI_b h [some (.ref j)]]
  have e : isin M (.cls c) (.ref j) = some true := by simp [isin, hr]
  simp only [fWantStore, q_var, q_lit, q_glob, q_tup, q_lst, q_d0, q_bin, q_inv, q_neg, q_cmp, q_isN, q_isB, q_chn, q_and, q_or, q_not, q_ite, q_b1, q_b2, q_isin, q_call, q_callk, q_mk, q_fld, q_idx, q_slc, q_rev, q_app, q_ext, q_pop, q_alloc, q_lrng, q_0, q_1, q_on, q_os, q_seq, q_rng, q_tstb, q_nil, q_cons, q_ex, q_ret, q_asg, q_nm, q_par, q_ifs, q_fset, q_frz, R.bind_ok, R.bind_no, R.of_some, List.getElem?_cons_zero, List.getElem?_cons_succ, Option.bind_some, id_eq, Option.map_some, List.set_cons_zero, List.set_cons_succ, if_true, Bool.not_true, Bool.not_false, Bool.false_eq_true, if_false, endR_rt, endR_nx, Option.some.injEq, e]
def fIsClosed (iW iC : Nat) : Fn := ⟨2, 2, (.cons (.ex (.call iW (.cons (.var 0) .nil))) (.cons (.ret (.call iC (.cons (.var 0) (.cons (.var 1) .nil)))) .nil))⟩
theorem run_isClosed {f c f1 f2 f3 f4 j iLi iL iAl iB iLed iW iC : Nat} (h0 : fns f = some (fIsClosed iW iC)) (hW : fns iW = some (fWantStore c)) (h : fns iC = some (fClosedOf iAl iB iLed)) (hAl : fns iAl = some (fAreLots iLi iL f1)) (hB : fns iB = some fBits) (hLed : fns iLed = some (fLed f2 f3)) (h12 : f1 ≠ f2) (h13 : f1 ≠ f3) (h23 : f2 ≠ f3) (I : LotIds fns iLi iL) {s : Int} (hs : s ≤ 8)
    {ds ss : List Int} (hS : StoreAt M j c f1 f2 f3 f4 s ds ss) (hl : ds.length ≤ 60) (hl2 : ss.length ≤ 60) {d : D} (hd : valOk d) : callI G fns (n + 6) f [.ref j, d] M = .ok (.bl (closedB s ds ss d)) M := by
  rw [callI_b h0 [some (.ref j), some d]]
  have e1 := run_wantStore (G := G) (n := n + 4) (M := M) hW hS
  have e2 := run_closedOf (G := G) (n := n) (M := M) h hAl hB hLed h12 h13 h23 I hs hS hl hl2 hd
  simp only [fIsClosed, q_var, q_lit, q_glob, q_tup, q_lst, q_d0, q_bin, q_inv, q_neg, q_cmp, q_isN, q_isB, q_chn, q_and, q_or, q_not, q_ite, q_b1, q_b2, q_isin, q_call, q_callk, q_mk, q_fld, q_idx, q_slc, q_rev, q_app, q_ext, q_pop, q_alloc, q_lrng, q_0, q_1, q_on, q_os, q_seq, q_rng, q_tstb, q_nil, q_cons, q_ex, q_ret, q_asg, q_nm, q_par, q_ifs, q_fset, q_frz, R.bind_ok, R.bind_no, R.of_some, List.getElem?_cons_zero, List.getElem?_cons_succ, Option.bind_some, id_eq, Option.map_some, List.set_cons_zero, List.set_cons_succ, if_true, Bool.not_true, Bool.not_false, Bool.false_eq_true, if_false, endR_rt, endR_nx, Option.some.injEq, e1, e2]
def fAllLots : Fn := ⟨1, 4, (.cons (.asg (.nm 1) (.lst (.cons (.lst .nil) .nil))) (.cons (.fr (.one 2) (.rng (.var 0)) (.cons (.asg (.nm 1) (.bin .add (.var 1) (.cmpr (.bin .add (.var 3) (.lst (.cons (.var 2) .nil))) (.one 3) (.seq (.var 1)) .none [3]))) .nil)) (.cons (.ret (.var 1)) .nil)))⟩
end
end Z
end
section
set_option Elab.async false
set_option linter.all false
set_option maxRecDepth 100000
set_option maxHeartbeats 4000000
/-! M24d: the values are laid (k24). -/
namespace Z
open PySem (PyData sizeLine)
section
variable {G : Gt} {fns : Nat → Option Fn} {n : Nat} {M : Mem}
theorem run_allLots {f : Nat} (h : fns f = some fAllLots) {s : Int} (hs : 2 ≤ s ∧ s ≤ 4) : ∃ v, callI G fns (n + 1) f [.int s] M = .ok v M ∧ Val v := by
  have go : ∀ rows : List (List Int), rows.all (fun l => l.all (fun i => decide (-1 ≤ i ∧ i ≤ 8)) && decide (l.length ≤ 10)) = true → rows.length ≤ 400 → Val (.lst (rows.map rowZ)) := by
    intro rows hr hl
    refine val_seq rfl (by rw [List.length_map]; exact hl) fun y hy => ?_
    obtain ⟨l, hl, rfl⟩ := List.mem_map.mp hy
    have := List.all_eq_true.mp hr l hl
    rw [Bool.and_eq_true, decide_eq_true_eq, List.all_eq_true] at this
    exact itm_ints (l := l) rfl this.2 fun i hi => by simpa using this.1 i hi
  rw [callI_b h [some (.int s), none, none, none]]
  have : s = 2 ∨ s = 3 ∨ s = 4 := by omega
  rcases this with rfl | rfl | rfl
  · exact ⟨.lst (([[], [0], [1], [0, 1]] : List (List Int)).map rowZ), rfl, go _ (by decide) (by decide)⟩
  · exact ⟨.lst (([[], [0], [1], [0, 1], [2], [0, 2], [1, 2], [0, 1, 2]] : List (List Int)).map rowZ), rfl, go _ (by decide) (by decide)⟩
  · exact ⟨.lst (([[], [0], [1], [0, 1], [2], [0, 2], [1, 2], [0, 1, 2], [3], [0, 3], [1, 3], [0, 1, 3], [2, 3], [0, 2, 3], [1, 2, 3], [0, 1, 2, 3]] : List (List Int)).map rowZ), rfl, go _ (by decide) (by decide)⟩
/-- what stands while values are laid -/
structure Lay (j J L c f1 f2 f3 f4 : Nat) (s : Int) (ds ss : List Int) (M : Mem) (vals : List D) : Prop where
  pot : PotAt M j
  sto : StoreAt M J c f1 f2 f3 f4 s ds ss
  lst : M[L]? = some (.lst vals)
  jJ : j ≠ J
  jL : j ≠ L
  JL : J ≠ L
  val : ∀ v ∈ vals, Val v
variable {j J L c f1 f2 f3 f4 : Nat} {s : Int} {ds ss : List Int} {vals : List D}
theorem Lay.step {M' : Mem} (h : Lay j J L c f1 f2 f3 f4 s ds ss M vals) (st : Step j M M') : Lay j J L c f1 f2 f3 f4 s ds ss M' vals := by
  obtain ⟨r, hr⟩ := h.sto
  exact ⟨st.pot, ⟨r, st.get (Ne.symm h.jJ) hr⟩, st.get (Ne.symm h.jL) h.lst, h.jJ, h.jL, h.JL, h.val⟩
theorem Lay.old {M' : Mem} (h : Lay j J L c f1 f2 f3 f4 s ds ss M vals) (ho : ∀ i, i < M.length → M'[i]? = M[i]?) : Lay j J L c f1 f2 f3 f4 s ds ss M' vals := by
  obtain ⟨r, hr⟩ := h.sto
  obtain ⟨a, b, hp⟩ := h.pot
  have get : ∀ {i : Nat} {o : MO}, M[i]? = some o → M'[i]? = some o := fun {i o} e => (ho i (List.getElem?_eq_some_iff.mp e).1).trans e
  exact ⟨⟨a, b, get hp⟩, ⟨r, get hr⟩, get h.lst, h.jJ, h.jL, h.JL, h.val⟩
theorem Lay.more (h : Lay j J L c f1 f2 f3 f4 s ds ss M vals) {ws : List D} (hw : ∀ v ∈ ws, Val v) : Lay j J L c f1 f2 f3 f4 s ds ss (M.set L (.lst (vals ++ ws))) (vals ++ ws) := by
  obtain ⟨r, hr⟩ := h.sto
  obtain ⟨a, b, hp⟩ := h.pot
  refine ⟨⟨a, b, (List.getElem?_set_ne (Ne.symm h.jL)).trans hp⟩, ⟨r, (List.getElem?_set_ne (Ne.symm h.JL)).trans hr⟩, List.getElem?_set_self (List.getElem?_eq_some_iff.mp h.lst).1, h.jJ, h.jL, h.JL, fun v hv => ?_⟩
  rcases List.mem_append.mp hv with hv | hv
  · exact h.val v hv
  · exact hw v hv
theorem itm_lot (hs : s ≤ 8) {l : List Int} (h : Lot s l) : Itm (rowZ l) := itm_ints (l := l) rfl (by have := lot_len8 hs h; omega) fun i hi => by have := h.2 i hi; omega
theorem itm_lotT (hs : s ≤ 8) {l : List Int} (h : Lot s l) : Itm (.tup ((l.map D.int).reverse)) := by
  rw [← List.map_reverse]
  exact itm_ints (l := l.reverse) rfl (by rw [List.length_reverse]; have := lot_len8 hs h; omega) fun i hi => by have := h.2 i (List.mem_reverse.mp hi); omega
theorem bop_addL {M : Mem} {xs ys : List D} (h : xs.length + ys.length ≤ 100000) : bop .add M (.lst xs) (.lst ys) = some (.lst (xs ++ ys)) := by
  simp only [bop, asL]
  rw [if_pos (by rw [PySem.sizeLine_eq]; omega)]
theorem slc_lst {M : Mem} {xs : List D} {lo hi : Option Int} : slcD M (.lst xs) lo hi = some (.lst (cut xs lo hi)) := rfl
theorem cut_sub {α : Type} (xs : List α) (lo hi : Option Int) : ∀ x ∈ cut xs lo hi, x ∈ xs := fun x hx => by
  unfold cut at hx
  exact List.mem_of_mem_drop (List.mem_of_mem_take hx)
theorem cut_len {α : Type} (xs : List α) (lo hi : Option Int) : (cut xs lo hi).length ≤ xs.length := by
  unfold cut
  rw [List.length_take, List.length_drop]
  omega
def oddsE : Es := .cons (.lit .non) (.cons (.lit (.int 0)) (.cons (.lit (.str "")) (.cons (.lst (.cons (.lit (.bl true)) .nil)) (.cons (.lst (.cons (.var 1) .nil)) (.cons (.bin .add (.var 8) (.slc (.var 8) .none (.some (.lit (.int 1))))) (.cons (.lst (.cons (.neg (.lit (.int 1))) .nil)) (.cons (.lst (.cons (.lit .non) .nil)) (.cons (.lst (.cons (.lst (.cons (.lit (.int 0)) .nil)) .nil)) (.cons .dct0 .nil)))))))))
theorem odds_ok {cl : Nat → List D → Mem → R D} (hs : 2 ≤ s ∧ s ≤ 4) {l : List Int} (hl : Lot s l) {env : Env} (h1 : env[1]? = some (some (.int s))) (h8 : env[8]? = some (some (rowZ l))) : ∃ os, evs G cl oddsE env M = .ok os M ∧ os.length = 10 ∧ ∀ x ∈ os, Itm x := by
  have hll := lot_len8 (by omega : s ≤ 8) hl
  have e1 : slcD M (rowZ l) none (some 1) = some (.lst (cut (l.map .int) none (some 1))) := rfl
  have e2 : bop .add M (rowZ l) (.lst (cut (l.map .int) none (some 1))) = some (.lst (l.map .int ++ cut (l.map .int) none (some 1))) := by
    have := cut_len (l.map D.int) none (some 1)
    rw [List.length_map] at this
    exact bop_addL (by rw [List.length_map]; omega)
  refine ⟨[.non, .int 0, .str "", .lst [.bl true], .lst [.int s], .lst (l.map .int ++ cut (l.map .int) none (some 1)), .lst [.int (-1)], .lst [.non], .lst [.lst [.int 0]], .dct [] []], ?_, rfl, ?_⟩
  · have en : asInt (.int 1) = some 1 := rfl
    simp only [oddsE, q_1, q_0, q_lit, q_lst, q_var, h1, h8, q_bin, q_slc, q_on, q_os, q_neg, q_d0, Option.bind_some, id_eq, R.of_some, R.bind_ok, optI, e1, e2, en, Option.map_some]
  · intro x hx
    simp only [List.mem_cons, List.not_mem_nil, or_false] at hx
    rcases hx with rfl | rfl | rfl | rfl | rfl | rfl | rfl | rfl | rfl | rfl
    · exact itm_flat rfl rfl rfl sm_non
    · exact itm_flat rfl rfl rfl (sm_int (by decide))
    · exact itm_flat rfl rfl rfl sm_str0
    · exact itm_seq (xs := [.bl true]) rfl (by decide) (by simp [noRef]) (by intro y hy; rw [List.mem_singleton.mp hy]; exact (sm_bl true).mono (by decide) (by decide))
    · exact itm_ints (l := [s]) rfl (by simp) (by intro i hi; rw [List.mem_singleton.mp hi]; omega)
    · have hm : ∀ y ∈ l.map D.int ++ cut (l.map D.int) none (some 1), ∃ i ∈ l, y = .int i := fun y hy => by
        have : y ∈ l.map D.int := by
          rcases List.mem_append.mp hy with hy | hy
          · exact hy
          · exact cut_sub _ _ _ y hy
        obtain ⟨i, hi, rfl⟩ := List.mem_map.mp this
        exact ⟨i, hi, rfl⟩
      have h4 : l.length ≤ 4 := by
        have := (srt_nodup hl.1).length_le_of_subset (fun i hi => in_base (s := s) hs.2 (hl.2 i hi) : l ⊆ base4)
        exact this
      have hc := cut_len (l.map D.int) none (some 1)
      rw [List.length_map] at hc
      refine itm_seq rfl (by rw [List.length_append, List.length_map]; omega) (fun y hy => ?_) (fun y hy => ?_)
      · obtain ⟨i, _, rfl⟩ := hm y hy; rfl
      · obtain ⟨i, hi, rfl⟩ := hm y hy
        exact (sm_int (by have := hl.2 i hi; omega)).mono (by decide) (by decide)
    · exact itm_ints (l := [-1]) rfl (by decide) (by decide)
    · exact itm_seq (xs := [.non]) rfl (by decide) (by simp [noRef]) (by intro y hy; rw [List.mem_singleton.mp hy]; exact sm_non.mono (by decide) (by decide))
    · refine itm_seq (xs := [.lst [.int 0]]) rfl (by decide) (by simp [noRef]) (fun y hy => ?_)
      rw [List.mem_singleton.mp hy]
      exact (sm_lst (c := 10) (k := 1) (m := 1) (fun z hz => by rw [List.mem_singleton.mp hz]; exact sm_int (by decide)) (by decide)).mono (by decide) (by decide)
    · exact itm_flat rfl rfl rfl sm_dct
def putE : E := .bin .add (.bin .add (.slc (.var 6) .none (.some (.var 7))) (.lst (.cons (.var 9) .nil))) (.slc (.var 6) (.some (.bin .add (.var 7) (.lit (.int 1)))) .none)
def sevenE : Es := .cons (.var 6) (.cons (.b1 .tuple (.var 6)) (.cons (.rev (.var 6)) (.cons (.bin .add (.var 6) (.slc (.var 6) .none (.some (.lit (.int 1))))) (.cons (.bin .add (.slc (.var 6) .none (.some (.var 7))) (.slc (.var 6) (.some (.bin .add (.var 7) (.lit (.int 1)))) .none)) (.cons (.bin .add (.var 6) (.lst (.cons (.var 8) .nil))) (.cons (.cmpr (.b1 .tuple (.rev (.var 13))) (.one 13) (.seq (.var 6)) .none [13]) .nil))))))
def layB (iD iK : Nat) : Ss := .cons (.par [7, 8] (.cons (.call iD (.cons (.var 0) (.cons (.b1 .len (.var 6)) .nil))) (.cons (.call iK (.cons (.var 0) (.cons (.var 1) .nil))) .nil)))
  (.cons (.ex (.ext (.var 5) (.lst sevenE))) (.cons (.fr (.one 9) (.seq (.lst oddsE)) (.cons (.ex (.app (.var 5) putE)) .nil)) .nil))
abbrev E14 (a0 a1 a2 a3 a4 a5 : D) (a6 a7 a8 a9 a10 a11 a12 : Option D) : Env := [some a0, some a1, some a2, some a3, some a4, some a5, a6, a7, a8, a9, a10, a11, a12, none]
theorem seven_ok {cl : Nat → List D → Mem → R D} (hs : s ≤ 8) {F : List (List Int)} (hF : ∀ l ∈ F, Lot s l) (hFl : F.length ≤ 16) {l : List Int} (hl : Lot s l) {r : Int} (a0 a1 a2 a3 a4 a5 : D) (o9 o10 o11 o12 : Option D) :
    ∃ ws, evs G cl sevenE (E14 a0 a1 a2 a3 a4 a5 (some (.lst (F.map rowZ))) (some (.int r)) (some (rowZ l)) o9 o10 o11 o12) M = .ok (.lst (F.map rowZ) :: ws) M ∧ ws.length = 6 ∧ (Val (.lst (F.map rowZ)) ∧ ∀ v ∈ ws, Val v) := by
  have hI : ∀ x ∈ F.map rowZ, Itm x := fun x hx => by
    obtain ⟨q, hq, rfl⟩ := List.mem_map.mp hx
    exact itm_lot hs (hF q hq)
  have hlen : (F.map rowZ).length ≤ 16 := by rw [List.length_map]; exact hFl
  have c1 := cut_len (F.map rowZ) none (some 1)
  have c2 := cut_len (F.map rowZ) none (some r)
  have c3 := cut_len (F.map rowZ) (some (r + 1)) none
  have b1' : bop .add M (.lst (F.map rowZ)) (.lst (cut (F.map rowZ) none (some 1))) = _ := bop_addL (by omega)
  have b2' : bop .add M (.lst (cut (F.map rowZ) none (some r))) (.lst (cut (F.map rowZ) (some (r + 1)) none)) = _ := bop_addL (by omega)
  have b3' : bop .add M (.lst (F.map rowZ)) (.lst [rowZ l]) = _ := bop_addL (by simp only [List.length_singleton]; omega)
  have b4' : bop .add M (.int r) (.int 1) = some (.int (r + 1)) := rfl
  have t1 : b1 .tuple M (.lst (F.map rowZ)) = some (.tup (F.map rowZ)) := rfl
  have t2 : revD M (.lst (F.map rowZ)) = some (.lst (F.map rowZ).reverse) := rfl
  have eC : ev G cl (.cmpr (.b1 .tuple (.rev (.var 13))) (.one 13) (.seq (.var 6)) .none [13]) (E14 a0 a1 a2 a3 a4 a5 (some (.lst (F.map rowZ))) (some (.int r)) (some (rowZ l)) o9 o10 o11 o12) M = .ok (.lst ((F.map rowZ).map fun x => match x with | .lst ds => .tup ds.reverse | _ => .non)) M := by
    refine e_map (by simp only [q_var, q_lit, q_glob, q_tup, q_lst, q_d0, q_bin, q_inv, q_neg, q_cmp, q_isN, q_isB, q_chn, q_and, q_or, q_not, q_ite, q_b1, q_b2, q_isin, q_call, q_callk, q_mk, q_fld, q_idx, q_slc, q_rev, q_app, q_ext, q_pop, q_alloc, q_lrng, q_0, q_1, q_on, q_os, q_seq, q_rng, q_tstb, q_nil, q_cons, q_ex, q_ret, q_asg, q_nm, q_par, q_ifs, q_fset, q_frz, R.bind_ok, R.bind_no, R.of_some, List.getElem?_cons_zero, List.getElem?_cons_succ, Option.bind_some, id_eq, Option.map_some, List.set_cons_zero, List.set_cons_succ, if_true, Bool.not_true, Bool.not_false, Bool.false_eq_true, if_false, endR_rt, endR_nx, Option.some.injEq, seqD]) (sz_of (by omega)) fun x hx => ?_
    obtain ⟨q, hq, rfl⟩ := List.mem_map.mp hx
    refine ⟨[some a0, some a1, some a2, some a3, some a4, some a5, some (.lst (F.map rowZ)), some (.int r), some (rowZ l), o9, o10, o11, o12, some (rowZ q)], rfl, ?_⟩
    have e1 : revD M (rowZ q) = some (.lst (q.map .int).reverse) := rfl
    have e2 : b1 .tuple M (.lst (q.map .int).reverse) = some (.tup (q.map .int).reverse) := rfl
    simp only [q_var, q_lit, q_glob, q_tup, q_lst, q_d0, q_bin, q_inv, q_neg, q_cmp, q_isN, q_isB, q_chn, q_and, q_or, q_not, q_ite, q_b1, q_b2, q_isin, q_call, q_callk, q_mk, q_fld, q_idx, q_slc, q_rev, q_app, q_ext, q_pop, q_alloc, q_lrng, q_0, q_1, q_on, q_os, q_seq, q_rng, q_tstb, q_nil, q_cons, q_ex, q_ret, q_asg, q_nm, q_par, q_ifs, q_fset, q_frz, R.bind_ok, R.bind_no, R.of_some, List.getElem?_cons_zero, List.getElem?_cons_succ, Option.bind_some, id_eq, Option.map_some, List.set_cons_zero, List.set_cons_succ, if_true, Bool.not_true, Bool.not_false, Bool.false_eq_true, if_false, endR_rt, endR_nx, Option.some.injEq, e1, e2]
    rfl
  have all : ∀ (xs : List D), (∀ x ∈ xs, x ∈ F.map rowZ ∨ x = rowZ l) → ∀ x ∈ xs, Itm x := fun xs h x hx => by
    rcases h x hx with q | q
    · exact hI x q
    · rw [q]; exact itm_lot hs hl
  refine ⟨[.tup (F.map rowZ), .lst (F.map rowZ).reverse, .lst (F.map rowZ ++ cut (F.map rowZ) none (some 1)), .lst (cut (F.map rowZ) none (some r) ++ cut (F.map rowZ) (some (r + 1)) none), .lst (F.map rowZ ++ [rowZ l]), .lst ((F.map rowZ).map fun x => match x with | .lst ds => .tup ds.reverse | _ => .non)], ?_, rfl, val_seq rfl (by omega) hI, ?_⟩
  · simp only [sevenE, q_var, q_lit, q_glob, q_tup, q_lst, q_d0, q_bin, q_inv, q_neg, q_cmp, q_isN, q_isB, q_chn, q_and, q_or, q_not, q_ite, q_b1, q_b2, q_isin, q_call, q_callk, q_mk, q_fld, q_idx, q_slc, q_rev, q_app, q_ext, q_pop, q_alloc, q_lrng, q_0, q_1, q_on, q_os, q_seq, q_rng, q_tstb, q_nil, q_cons, q_ex, q_ret, q_asg, q_nm, q_par, q_ifs, q_fset, q_frz, R.bind_ok, R.bind_no, R.of_some, List.getElem?_cons_zero, List.getElem?_cons_succ, Option.bind_some, id_eq, Option.map_some, List.set_cons_zero, List.set_cons_succ, if_true, Bool.not_true, Bool.not_false, Bool.false_eq_true, if_false, endR_rt, endR_nx, Option.some.injEq, t1, t2, slc_lst, optI, b1', b2', b3', b4', eC]
  · intro v hv
    simp only [List.mem_cons, List.not_mem_nil, or_false] at hv
    rcases hv with rfl | rfl | rfl | rfl | rfl | rfl
    · exact val_seq rfl (by omega) hI
    · exact val_seq rfl (by rw [List.length_reverse]; omega) fun x hx => hI x (List.mem_reverse.mp hx)
    · refine val_seq rfl (by rw [List.length_append]; omega) (all _ fun x hx => .inl ?_)
      rcases List.mem_append.mp hx with hx | hx
      · exact hx
      · exact cut_sub _ _ _ x hx
    · refine val_seq rfl (by rw [List.length_append]; omega) (all _ fun x hx => .inl ?_)
      rcases List.mem_append.mp hx with hx | hx
      · exact cut_sub _ _ _ x hx
      · exact cut_sub _ _ _ x hx
    · refine val_seq rfl (by rw [List.length_append, List.length_singleton]; omega) (all _ fun x hx => ?_)
      rcases List.mem_append.mp hx with hx | hx
      · exact .inl hx
      · exact .inr (List.mem_singleton.mp hx)
    · refine val_seq rfl (by rw [List.length_map]; omega) fun x hx => ?_
      obtain ⟨y, hy, rfl⟩ := List.mem_map.mp hx
      obtain ⟨q, hq, rfl⟩ := List.mem_map.mp hy
      exact itm_lotT hs (hF q hq)
end
end Z
end
section
set_option Elab.async false
set_option linter.all false
set_option maxRecDepth 100000
set_option maxHeartbeats 4000000
/-! M24e: a turn of laying (k24). -/
namespace Z
open PySem (PyData sizeLine)
section
variable {G : Gt} {fns : Nat → Option Fn} {n : Nat} {M : Mem} {j J L c f1 f2 f3 f4 : Nat} {s : Int} {ds ss : List Int} {vals : List D}
theorem lay_ok {iD iK : Nat} {c1 : Int} (hD : fns iD = some (fDraw c1)) (hK : fns iK = some (fKind iD)) (hs : 2 ≤ s ∧ s ≤ 4) {F : List (List Int)} (hF : ∀ l ∈ F, Lot s l) (hF0 : 0 < F.length) (hFl : F.length ≤ 16) (h : Lay j J L c f1 f2 f3 f4 s ds ss M vals) (hv : vals.length ≤ 1000) (d2 d3 : D) (o7 o8 o9 : Option D) :
    ∃ o7' o8' o9' M' ws, exb G (callI G fns (n + 2)) (layB iD iK) (E14 (.ref j) (.int s) d2 d3 (.ref J) (.ref L) (some (.lst (F.map rowZ))) o7 o8 o9 none none none) M =
        .ok (.nx (E14 (.ref j) (.int s) d2 d3 (.ref J) (.ref L) (some (.lst (F.map rowZ))) o7' o8' o9' none none none)) M' ∧ Lay j J L c f1 f2 f3 f4 s ds ss M' (vals ++ .lst (F.map rowZ) :: ws) ∧ ws.length ≤ 20 := by
  have hlenF : (F.map rowZ).length = F.length := List.length_map _
  obtain ⟨r, M1, d1, dst, dr0, dr1⟩ := run_draw (G := G) (n := n + 1) (M := M) hD h.pot (m := (F.length : Int)) (by omega) (by omega)
  obtain ⟨l, M2, k1, kst, kk⟩ := run_kind (G := G) (n := n) (M := M1) hK hD dst.pot (s := s) (by omega) (by omega)
  have hl : Lot s l := ⟨kk.1, kk.2.1⟩
  have h2 := (h.step dst).step kst
  have eN : b1 .len M (.lst (F.map rowZ)) = some (.int (F.length : Nat)) := by rw [len_lst, hlenF]
  have eP : exs G (callI G fns (n + 2)) (.par [7, 8] (.cons (.call iD (.cons (.var 0) (.cons (.b1 .len (.var 6)) .nil))) (.cons (.call iK (.cons (.var 0) (.cons (.var 1) .nil))) .nil))) (E14 (.ref j) (.int s) d2 d3 (.ref J) (.ref L) (some (.lst (F.map rowZ))) o7 o8 o9 none none none) M =
      .ok (.nx (E14 (.ref j) (.int s) d2 d3 (.ref J) (.ref L) (some (.lst (F.map rowZ))) (some (.int r)) (some (rowZ l)) o9 none none none)) M2 := by
    simp only [E14, q_par, q_1, q_0, q_call, q_var, q_b1, List.getElem?_cons_zero, List.getElem?_cons_succ, Option.bind_some, id_eq, R.of_some, R.bind_ok, eN, d1, k1]
    rfl
  obtain ⟨ws, e7, w6, wF, wv⟩ := seven_ok (G := G) (M := M2) (cl := callI G fns (n + 2)) (by omega : s ≤ 8) hF hFl hl (r := r) (.ref j) (.int s) d2 d3 (.ref J) (.ref L) o9 none none none
  have h3 := h2.more (ws := .lst (F.map rowZ) :: ws) (fun v hv => by
    rcases List.mem_cons.mp hv with rfl | hv
    · exact wF
    · exact wv v hv)
  let M3 : Mem := M2.set L (.lst (vals ++ .lst (F.map rowZ) :: ws))
  have eX : ev G (callI G fns (n + 2)) (.ext (.var 5) (.lst sevenE)) (E14 (.ref j) (.int s) d2 d3 (.ref J) (.ref L) (some (.lst (F.map rowZ))) (some (.int r)) (some (rowZ l)) o9 none none none) M2 = .ok .non M3 := by
    have isl : isLst M2 L = true := by unfold isLst; rw [h2.lst]
    have hz : vals.length + (D.lst (F.map rowZ) :: ws).length ≤ sizeLine := by rw [List.length_cons, PySem.sizeLine_eq]; omega
    have eL : asL M2 (.lst (.lst (F.map rowZ) :: ws)) = some (.lst (F.map rowZ) :: ws) := rfl
    rw [q_ext]
    have e5 : ev G (callI G fns (n + 2)) (.var 5) (E14 (.ref j) (.int s) d2 d3 (.ref J) (.ref L) (some (.lst (F.map rowZ))) (some (.int r)) (some (rowZ l)) o9 none none none) M2 = .ok (.ref L) M2 := rfl
    have e6 : ev G (callI G fns (n + 2)) (.lst sevenE) (E14 (.ref j) (.int s) d2 d3 (.ref J) (.ref L) (some (.lst (F.map rowZ))) (some (.int r)) (some (rowZ l)) o9 none none none) M2 = .ok (.lst (.lst (F.map rowZ) :: ws)) M2 := by
      rw [q_lst, e7]; rfl
    simp only [e5, R.bind_ok, isl, if_true, e6, h2.lst]
    rw [eL]
    simp only [if_pos hz]
    rfl
  obtain ⟨os, o1, o2, o3⟩ := odds_ok (G := G) (M := M3) (cl := callI G fns (n + 2)) hs hl (env := E14 (.ref j) (.int s) d2 d3 (.ref J) (.ref L) (some (.lst (F.map rowZ))) (some (.int r)) (some (rowZ l)) o9 none none none) rfl rfl
  have hI : ∀ x ∈ F.map rowZ, Itm x := fun x hx => by
    obtain ⟨q, hq, rfl⟩ := List.mem_map.mp hx
    exact itm_lot (by omega) (hF q hq)
  obtain ⟨env', M4, w1, hw⟩ := loop_end (t := .one 9) (body := fun env M => exb G (callI G fns (n + 2)) (.cons (.ex (.app (.var 5) putE)) .nil) env M)
    (fun rest env M' => (∀ x ∈ rest, Itm x) ∧ ∃ o9 us, env = E14 (.ref j) (.int s) d2 d3 (.ref J) (.ref L) (some (.lst (F.map rowZ))) (some (.int r)) (some (rowZ l)) o9 none none none ∧ Lay j J L c f1 f2 f3 f4 s ds ss M' (vals ++ .lst (F.map rowZ) :: (ws ++ us)) ∧ us.length + rest.length ≤ 10)
    (fun x rest env M' ⟨hx, o9, us, he, hl4, hus⟩ => by
      subst he
      have c2 := cut_len (F.map rowZ) none (some r)
      have c3 := cut_len (F.map rowZ) (some (r + 1)) none
      have b1' : bop .add M' (.lst (cut (F.map rowZ) none (some r))) (.lst [x]) = _ := bop_addL (by simp only [List.length_singleton]; omega)
      have b2' : bop .add M' (.lst (cut (F.map rowZ) none (some r) ++ [x])) (.lst (cut (F.map rowZ) (some (r + 1)) none)) = _ := bop_addL (by rw [List.length_append]; simp only [List.length_singleton]; omega)
      have b4' : bop .add M' (.int r) (.int 1) = some (.int (r + 1)) := rfl
      let nv : D := .lst (cut (F.map rowZ) none (some r) ++ [x] ++ cut (F.map rowZ) (some (r + 1)) none)
      have ePut : ev G (callI G fns (n + 2)) putE (E14 (.ref j) (.int s) d2 d3 (.ref J) (.ref L) (some (.lst (F.map rowZ))) (some (.int r)) (some (rowZ l)) (some x) none none none) M' = .ok nv M' := by
        simp only [putE, q_var, q_lit, q_glob, q_tup, q_lst, q_d0, q_bin, q_inv, q_neg, q_cmp, q_isN, q_isB, q_chn, q_and, q_or, q_not, q_ite, q_b1, q_b2, q_isin, q_call, q_callk, q_mk, q_fld, q_idx, q_slc, q_rev, q_app, q_ext, q_pop, q_alloc, q_lrng, q_0, q_1, q_on, q_os, q_seq, q_rng, q_tstb, q_nil, q_cons, q_ex, q_ret, q_asg, q_nm, q_par, q_ifs, q_fset, q_frz, R.bind_ok, R.bind_no, R.of_some, List.getElem?_cons_zero, List.getElem?_cons_succ, Option.bind_some, id_eq, Option.map_some, List.set_cons_zero, List.set_cons_succ, if_true, Bool.not_true, Bool.not_false, Bool.false_eq_true, if_false, endR_rt, endR_nx, Option.some.injEq, slc_lst, optI, b1', b2', b4']
        rfl
      have hnv : Val nv := by
        refine val_seq rfl (by rw [List.length_append, List.length_append]; simp only [List.length_singleton]; omega) fun y hy => ?_
        rcases List.mem_append.mp hy with hy | hy
        · rcases List.mem_append.mp hy with hy | hy
          · exact hI y (cut_sub _ _ _ y hy)
          · rw [List.mem_singleton.mp hy]; exact hx x List.mem_cons_self
        · exact hI y (cut_sub _ _ _ y hy)
      have hm := hl4.more (ws := [nv]) (fun v hv => by rw [List.mem_singleton.mp hv]; exact hnv)
      refine ⟨E14 (.ref j) (.int s) d2 d3 (.ref J) (.ref L) (some (.lst (F.map rowZ))) (some (.int r)) (some (rowZ l)) (some x) none none none, E14 (.ref j) (.int s) d2 d3 (.ref J) (.ref L) (some (.lst (F.map rowZ))) (some (.int r)) (some (rowZ l)) (some x) none none none,
        M'.set L (.lst ((vals ++ .lst (F.map rowZ) :: (ws ++ us)) ++ [nv])), rfl, ?_, fun y hy => hx y (List.mem_cons_of_mem _ hy), some x, us ++ [nv], rfl, ?_, by rw [List.length_append]; rw [List.length_cons] at hus; simp only [List.length_singleton]; omega⟩
      · have isl : isLst M' L = true := by unfold isLst; rw [hl4.lst]
        have hz : (vals ++ .lst (F.map rowZ) :: (ws ++ us)).length < sizeLine := by
          rw [List.length_append, List.length_cons, List.length_append, PySem.sizeLine_eq]
          rw [List.length_cons] at hus
          omega
        have e5 : ev G (callI G fns (n + 2)) (.var 5) (E14 (.ref j) (.int s) d2 d3 (.ref J) (.ref L) (some (.lst (F.map rowZ))) (some (.int r)) (some (rowZ l)) (some x) none none none) M' = .ok (.ref L) M' := rfl
        simp only [q_cons, q_ex, q_app, e5, R.bind_ok, isl, if_true, ePut, hl4.lst, if_pos hz, q_nil]
      · have e : vals ++ D.lst (F.map rowZ) :: (ws ++ (us ++ [nv])) = (vals ++ .lst (F.map rowZ) :: (ws ++ us)) ++ [nv] := by simp
        rw [e]
        exact hm)
    os (E14 (.ref j) (.int s) d2 d3 (.ref J) (.ref L) (some (.lst (F.map rowZ))) (some (.int r)) (some (rowZ l)) o9 none none none) M3 ⟨o3, o9, [], rfl, by rw [List.append_nil]; exact h3, by rw [o2]; decide⟩
  obtain ⟨_, o9', us, he, hl4, hus⟩ := hw
  subst he
  refine ⟨some (.int r), some (rowZ l), o9', M4, ws ++ us, ?_, hl4, by rw [List.length_append]; simp only [List.length_nil] at hus; omega⟩
  have eF : exs G (callI G fns (n + 2)) (.fr (.one 9) (.seq (.lst oddsE)) (.cons (.ex (.app (.var 5) putE)) .nil)) (E14 (.ref j) (.int s) d2 d3 (.ref J) (.ref L) (some (.lst (F.map rowZ))) (some (.int r)) (some (rowZ l)) o9 none none none) M3 = .ok (.nx (E14 (.ref j) (.int s) d2 d3 (.ref J) (.ref L) (some (.lst (F.map rowZ))) (some (.int r)) (some (rowZ l)) o9' none none none)) M4 := by
    have hi : evi G (callI G fns (n + 2)) (.seq (.lst oddsE)) (E14 (.ref j) (.int s) d2 d3 (.ref J) (.ref L) (some (.lst (F.map rowZ))) (some (.int r)) (some (rowZ l)) o9 none none none) M3 = .ok os M3 := by
      rw [q_seq, q_lst, o1]; rfl
    rw [q_fr, hi]
    exact w1
  simp only [layB]
  rw [q_cons, eP]
  simp only [R.bind_ok]
  rw [q_cons, q_ex, eX]
  simp only [R.bind_ok]
  rw [q_cons, eF]
  simp only [R.bind_ok, q_nil]
end
end Z
end
section
set_option Elab.async false
set_option linter.all false
set_option maxRecDepth 100000
set_option maxHeartbeats 4000000
/-! M24f: each value is looked at (k24). -/
namespace Z
open PySem (PyData sizeLine)
theorem eqD_str {M : Mem} (x : PySem.Str) : eqD M (.str x) (.str x) = some true := by
  show some (decide (x = x)) = _
  simp
section
variable {G : Gt} {fns : Nat → Option Fn} {n : Nat} {M : Mem} {J c f1 f2 f3 f4 : Nat} {s : Int}
def chkB (iF iC : Nat) : Ss := .cons (.par [11, 12] (.cons (.call iF (.cons (.var 1) (.cons (.var 2) (.cons (.var 3) (.cons (.var 10) .nil))))) (.cons (.b1 .repr (.var 10)) .nil))) (.cons (.ifs (.or (.cmp .ne (.b1 .repr (.call iC (.cons (.var 4) (.cons (.var 10) .nil)))) (.b1 .repr (.var 11))) (.cmp .ne (.b1 .repr (.var 10)) (.var 12))) (.cons (.ret (.lit (.bl false))) .nil) .nil) .nil)
/-- the defs that the looks lean on -/
structure LookIds (fns : Nat → Option Fn) (iF iC c f1 f2 f3 : Nat) : Prop where
  ids : ∃ iLa iOf iW iCo iLi iL iAl iB iLed, fns iF = some (fFamily iLa iOf) ∧ fns iLa = some fLaid ∧ fns iOf = some fOff ∧ fns iC = some (fIsClosed iW iCo) ∧ fns iW = some (fWantStore c) ∧ fns iCo = some (fClosedOf iAl iB iLed) ∧ fns iAl = some (fAreLots iLi iL f1) ∧ fns iB = some fBits ∧ fns iLed = some (fLed f2 f3) ∧ LotIds fns iLi iL
  ne : f1 ≠ f2 ∧ f1 ≠ f3 ∧ f2 ≠ f3
theorem chk_ok {iF iC : Nat} (I : LookIds fns iF iC c f1 f2 f3) (hs : 2 ≤ s ∧ s ≤ 4) {dl sl : List (List Int)} (hd : ∀ k ∈ dl, Lot s k) (hdl : dl.length ≤ 60) (hsl : ∀ k ∈ sl, Lot s k) (hsl2 : sl.length ≤ 60) (hS : StoreAt M J c f1 f2 f3 f4 s (ownZ dl) (ownZ sl)) {v : D} (hv : Val v) (a0 a5 : D) (o6 o7 o8 o9 o11 o12 : Option D) :
    ∃ p11 p12 M', exb G (callI G fns (n + 6)) (chkB iF iC) (E14 a0 (.int s) (.lst (dl.map rowZ)) (.lst (sl.map rowZ)) (.ref J) a5 o6 o7 o8 o9 (some v) o11 o12) M =
      .ok (.nx (E14 a0 (.int s) (.lst (dl.map rowZ)) (.lst (sl.map rowZ)) (.ref J) a5 o6 o7 o8 o9 (some v) p11 p12)) M' ∧ StoreAt M' J c f1 f2 f3 f4 s (ownZ dl) (ownZ sl) := by
  obtain ⟨iLa, iOf, iW, iCo, iLi, iL, iAl, iB, iLed, b1', b2', b3', b4', b5', b6', b7', b8', b9', b10'⟩ := I.ids
  obtain ⟨n12, n13, n23⟩ := I.ne
  obtain ⟨x, hx⟩ := repr_val hv.2
  obtain ⟨M1, e1, e2, e3⟩ := run_family (G := G) (n := n + 4) (M := M) b1' b2' b3' (by omega : s ≤ 8) hd hdl hsl hsl2 hv.1
  have hS1 : StoreAt M1 J c f1 f2 f3 f4 s (ownZ dl) (ownZ sl) := by
    obtain ⟨r, hr⟩ := hS
    exact ⟨r, (e3 J (List.getElem?_eq_some_iff.mp hr).1).trans hr⟩
  have hl1 := own_len dl
  have hl2 := own_len sl
  have e4 := run_isClosed (G := G) (n := n) (M := M1) b4' b5' b6' b7' b8' b9' n12 n13 n23 b10' (by omega : s ≤ 8) hS1 (by omega) (by omega) hv.1
  rw [agree hs.2 hd hsl] at e4
  obtain ⟨y, hy⟩ := repr_val ((sm_bl (famB s dl sl v)).mono (by decide : 10 ≤ 200000) (by decide : 1 ≤ 5))
  refine ⟨some (.bl (famB s dl sl v)), some (.str x), M1, ?_, hS1⟩
  have eP : exs G (callI G fns (n + 6)) (.par [11, 12] (.cons (.call iF (.cons (.var 1) (.cons (.var 2) (.cons (.var 3) (.cons (.var 10) .nil))))) (.cons (.b1 .repr (.var 10)) .nil))) (E14 a0 (.int s) (.lst (dl.map rowZ)) (.lst (sl.map rowZ)) (.ref J) a5 o6 o7 o8 o9 (some v) o11 o12) M =
      .ok (.nx (E14 a0 (.int s) (.lst (dl.map rowZ)) (.lst (sl.map rowZ)) (.ref J) a5 o6 o7 o8 o9 (some v) (some (.bl (famB s dl sl v))) (some (.str x)))) M1 := by
    simp only [E14, q_par, q_1, q_0, q_call, q_var, q_b1, List.getElem?_cons_zero, List.getElem?_cons_succ, Option.bind_some, id_eq, R.of_some, R.bind_ok, e1, hx]
    rfl
  simp only [chkB]
  rw [q_cons, eP]
  simp only [R.bind_ok, E14, q_cons, q_ifs, q_or, q_cmp, q_b1, q_call, q_1, q_0, q_var, List.getElem?_cons_zero, List.getElem?_cons_succ, Option.bind_some, id_eq, R.of_some, e4, hx, hy, cop, eqD_str, Option.map_some, Bool.not_true, q_tstb, Bool.false_eq_true, if_false, q_nil]
/-- all the looks -/
theorem chks_ok {iF iC : Nat} (I : LookIds fns iF iC c f1 f2 f3) (hs : 2 ≤ s ∧ s ≤ 4) {dl sl : List (List Int)} (hd : ∀ k ∈ dl, Lot s k) (hdl : dl.length ≤ 60) (hsl : ∀ k ∈ sl, Lot s k) (hsl2 : sl.length ≤ 60) (hS : StoreAt M J c f1 f2 f3 f4 s (ownZ dl) (ownZ sl)) {vals : List D} (hv : ∀ v ∈ vals, Val v) (a0 a5 : D) (o6 o7 o8 o9 : Option D) :
    ∃ p10 p11 p12 M', loopF (.one 10) (fun env M => exb G (callI G fns (n + 6)) (chkB iF iC) env M) vals (E14 a0 (.int s) (.lst (dl.map rowZ)) (.lst (sl.map rowZ)) (.ref J) a5 o6 o7 o8 o9 none none none) M =
      .ok (.nx (E14 a0 (.int s) (.lst (dl.map rowZ)) (.lst (sl.map rowZ)) (.ref J) a5 o6 o7 o8 o9 p10 p11 p12)) M' ∧ StoreAt M' J c f1 f2 f3 f4 s (ownZ dl) (ownZ sl) := by
  obtain ⟨env', M', w1, hw⟩ := loop_end (t := .one 10) (body := fun env M => exb G (callI G fns (n + 6)) (chkB iF iC) env M)
    (fun rest env M' => (∀ v ∈ rest, Val v) ∧ StoreAt M' J c f1 f2 f3 f4 s (ownZ dl) (ownZ sl) ∧ ∃ p10 p11 p12, env = E14 a0 (.int s) (.lst (dl.map rowZ)) (.lst (sl.map rowZ)) (.ref J) a5 o6 o7 o8 o9 p10 p11 p12)
    (fun x rest env M' ⟨hr, hS', p10, p11, p12, he⟩ => by
      subst he
      obtain ⟨q11, q12, M2, e1, e2⟩ := chk_ok (G := G) (fns := fns) (n := n) I hs hd hdl hsl hsl2 hS' (hr x List.mem_cons_self) a0 a5 o6 o7 o8 o9 p11 p12
      exact ⟨_, _, M2, rfl, e1, fun v hv => hr v (List.mem_cons_of_mem _ hv), e2, some x, q11, q12, rfl⟩)
    vals _ M ⟨hv, hS, none, none, none, rfl⟩
  obtain ⟨_, hS', p10, p11, p12, he⟩ := hw
  subst he
  exact ⟨p10, p11, p12, M', w1, hS'⟩
end
end Z
end
section
set_option Elab.async false
set_option linter.all false
set_option maxRecDepth 100000
set_option maxHeartbeats 4000000
/-! M24g: the values that come last, and the text of the law (k24). -/
namespace Z
open PySem (PyData sizeLine)
def extraE (iA : Nat) : Es := (.cons (.call iA (.cons (.var 1) .nil)) (.cons (.lst (.cons (.lst .nil) .nil)) (.cons (.lst .nil) (.cons (.lit .non) (.cons (.lit (.bl true)) (.cons (.lit (.int 5)) (.cons (.lit (.str "[]")) (.cons .dct0 (.cons (.lst (.cons (.lst .nil) (.cons (.lst .nil) .nil))) (.cons (.tup (.cons (.lst .nil) .nil)) (.cons (.lst (.cons (.lst (.cons (.lit (.int 0)) .nil)) .nil)) (.cons (.lst (.cons (.lst .nil) (.cons (.lrng false (.rng (.var 1))) .nil))) .nil))))))))))))
def twoE (iCl iK : Nat) : Es := (.cons (.call iCl (.cons (.var 2) (.cons (.var 3) (.cons (.lst .nil) .nil)))) (.cons (.call iCl (.cons (.var 2) (.cons (.var 3) (.cons (.lst (.cons (.call iK (.cons (.var 0) (.cons (.var 1) .nil))) .nil)) .nil)))) .nil))
def fRight (iP c iCl iK iD iA iF iIs : Nat) : Fn := ⟨1, 14, (.cons (.asg (.tp [(.nm 1), (.nm 2), (.nm 3)]) (.call iP (.cons (.var 0) (.cons (.lit (.int 4)) .nil)))) (.cons (.par [4, 5] (.cons (.mk c (.cons (.var 1) (.cons (.var 2) (.cons (.var 3) .nil)))) (.cons (.alloc (.lst .nil)) .nil))) (.cons (.fr (.one 6) (.seq (.lst (twoE iCl iK))) (layB iD iK)) (.cons (.asg (.nm 5) (.alloc (.bin .add (.var 5) (.lst (extraE iA))))) (.cons (.frz 5) (.cons (.fr (.one 10) (.seq (.var 5)) (chkB iF iIs)) (.cons (.ret (.isB false true (.callk iIs (.cons (.idx (.var 5) (.lit (.int 0))) (.cons (.var 4) .nil)) [1, 0]))) .nil)))))))⟩
section
variable {G : Gt} {fns : Nat → Option Fn} {n : Nat} {M : Mem} {s : Int}
theorem itm_nil : Itm (.lst []) := itm_ints (l := []) rfl (by decide) (by simp)
theorem val_ints {l : List Int} (hl : l.length ≤ 10) (hx : ∀ i ∈ l, -1 ≤ i ∧ i ≤ 8) : Itm (.lst (l.map .int)) := itm_ints (l := l) rfl hl hx
theorem val_nils {d : D} {k : Nat} (h : seqB d = some (List.replicate k (.lst []))) (hk : k ≤ 10) : Val d :=
  val_seq h (by rw [List.length_replicate]; omega) fun y hy => by rw [(List.mem_replicate.mp hy).2]; exact itm_nil
theorem extras_ok {iA : Nat} (hA : fns iA = some fAllLots) (hs : 2 ≤ s ∧ s ≤ 4) {env : Env} (h1 : (env[1]?).bind id = some (.int s)) :
    ∃ xs, evs G (callI G fns (n + 1)) (extraE iA) env M = .ok xs M ∧ xs.length = 12 ∧ ∀ v ∈ xs, Val v := by
  obtain ⟨v, e1, hv⟩ := run_allLots (G := G) (n := n) (M := M) hA hs
  refine ⟨[v, .lst [.lst []], .lst [], .non, .bl true, .int 5, .str "[]", .dct [] [], .lst [.lst [], .lst []], .tup [.lst []], .lst [.lst [.int 0]], .lst [.lst [], .lst ((rngZ s).map .int)]], ?_, rfl, ?_⟩
  · have hr : ev G (callI G fns (n + 1)) (.lrng false (.rng (.var 1))) env M = .ok (.lst ((rngZ s).map .int)) M := by
      rw [q_lrng]
      have : s = 2 ∨ s = 3 ∨ s = 4 := by omega
      rcases this with rfl | rfl | rfl <;> simp only [q_rng, q_var, h1, R.of_some, R.bind_ok] <;> rfl
    simp only [extraE, q_1, q_0, q_call, q_var, h1, R.of_some, R.bind_ok, e1, q_lst, q_lit, q_d0, q_tup, hr]
  · intro x hx
    simp only [List.mem_cons, List.not_mem_nil, or_false] at hx
    rcases hx with rfl | rfl | rfl | rfl | rfl | rfl | rfl | rfl | rfl | rfl | rfl | rfl
    · exact hv
    · exact val_nils (k := 1) rfl (by decide)
    · exact val_nils (k := 0) rfl (by decide)
    · exact val_flat rfl rfl rfl sm_non
    · exact val_flat rfl rfl rfl (sm_bl true)
    · exact val_flat rfl rfl rfl (sm_int (by decide))
    · exact val_flat rfl rfl rfl sm_str2
    · exact val_flat rfl rfl rfl sm_dct
    · exact val_nils (k := 2) rfl (by decide)
    · exact val_nils (k := 1) rfl (by decide)
    · exact val_seq rfl (by decide) fun y hy => by rw [List.mem_singleton.mp hy]; exact val_ints (l := [0]) (by decide) (by decide)
    · refine val_seq rfl (by simp) fun y hy => ?_
      have : s = 2 ∨ s = 3 ∨ s = 4 := by omega
      simp only [List.mem_cons, List.not_mem_nil, or_false] at hy
      rcases hy with rfl | rfl
      · exact itm_nil
      · rcases this with rfl | rfl | rfl
        · exact val_ints (l := rngZ 2) (by decide) (by decide)
        · exact val_ints (l := rngZ 3) (by decide) (by decide)
        · exact val_ints (l := rngZ 4) (by decide) (by decide)
end
end Z
end
section
set_option Elab.async false
set_option linter.all false
set_option maxRecDepth 100000
set_option maxHeartbeats 4000000
/-! M24h: the law's own def (k24). -/
namespace Z
open PySem (PyData sizeLine)
section
variable {G : Gt} {fns : Nat → Option Fn} {n : Nat} {M : Mem} {j J L c f1 f2 f3 f4 : Nat} {s : Int} {ds ss : List Int} {vals : List D}
theorem fam_few (hs : s ≤ 4) {dl sl F : List (List Int)} (h : Fam s dl sl F) : F.length ≤ 16 ∧ 0 < F.length :=
  ⟨h.nod.length_le_of_subset (l₂ := lots16) fun _ hl => lot16 hs (h.lot _ hl), List.length_pos_of_mem h.nil⟩
theorem loop_two {t : Tg} {body : Env → Mem → R Fl} {x y : D} {env e1 e2 e3 e4 : Env} {M M1 M2 : Mem} (a : bindT t x env = some e1) (b : body e1 M = .ok (.nx e2) M1) (c : bindT t y e2 = some e3) (d : body e3 M1 = .ok (.nx e4) M2) : loopF t body [x, y] env M = .ok (.nx e4) M2 := by
  simp only [loopF, a, b, c, d, R.of_some, R.bind_ok]
/-- the first loop -/
theorem lays_ok {iD iK : Nat} {c1 : Int} (hD : fns iD = some (fDraw c1)) (hK : fns iK = some (fKind iD)) (hs : 2 ≤ s ∧ s ≤ 4) {dl sl F1 F2 : List (List Int)} (h1 : Fam s dl sl F1) (h2 : Fam s dl sl F2) (h : Lay j J L c f1 f2 f3 f4 s ds ss M []) (d2 d3 : D) :
    ∃ o6 o7 o8 o9 M' ws, loopF (.one 6) (fun env M => exb G (callI G fns (n + 2)) (layB iD iK) env M) [.lst (F1.map rowZ), .lst (F2.map rowZ)] (E14 (.ref j) (.int s) d2 d3 (.ref J) (.ref L) none none none none none none none) M =
        .ok (.nx (E14 (.ref j) (.int s) d2 d3 (.ref J) (.ref L) o6 o7 o8 o9 none none none)) M' ∧ Lay j J L c f1 f2 f3 f4 s ds ss M' (.lst (F1.map rowZ) :: ws) ∧ ws.length ≤ 60 := by
  obtain ⟨l1, l1'⟩ := fam_few hs.2 h1
  obtain ⟨l2, l2'⟩ := fam_few hs.2 h2
  obtain ⟨p7, p8, p9, M1, ws, a1, a2, a3⟩ := lay_ok (G := G) (n := n) hD hK hs h1.lot l1' l1 h (by simp) d2 d3 none none none
  rw [List.nil_append] at a2
  obtain ⟨q7, q8, q9, M2, us, b1, b2, b3⟩ := lay_ok (G := G) (n := n) hD hK hs h2.lot l2' l2 a2 (by rw [List.length_cons]; omega) d2 d3 p7 p8 p9
  refine ⟨some (.lst (F2.map rowZ)), q7, q8, q9, M2, ws ++ .lst (F2.map rowZ) :: us, ?_, ?_, by rw [List.length_append, List.length_cons]; omega⟩
  · exact (loop_two (t := .one 6) rfl a1 rfl b1)
  · rw [List.cons_append] at b2; exact b2
theorem run_right {f iP iCl iK iD iA iF iIs iKs iLa iOf iIn iW iKk iB iPl ka kb : Nat} {c1 : Int} (h : fns f = some (fRight iP c iCl iK iD iA iF iIs)) (hP : fns iP = some (fParts iD iKs ka kb)) (hk : ka ≤ 8 ∧ kb ≤ 8) (hKs : fns iKs = some (fKinds iD iK)) (hK : fns iK = some (fKind iD)) (hD : fns iD = some (fDraw c1))
    (hCl : fns iCl = some (fClosed iLa iOf)) (hLa : fns iLa = some fLaid) (hOf : fns iOf = some fOff) (hA : fns iA = some fAllLots) (hI : G.ini c = iIn) (hIn : fns iIn = some (fInit iW iKk iB iPl f1 f2 f3 f4)) (SI : StoreIds G fns iW iKk iB iPl f1 f2 f3 f4) (LI : LookIds fns iF iIs c f1 f2 f3) (hp : PotAt M j) :
    ∃ M', callI G fns (n + 7) f [.ref j] M = .ok (.bl true) M' := by
  obtain ⟨s, dl, sl, M1, e1, st1, s2, s4, kd, ks⟩ := run_parts (G := G) (n := n + 2) hP hKs hK hD hp (m := 4) (by decide) (by decide) (by omega) (by omega)
  have hs : 2 ≤ s ∧ s ≤ 4 := ⟨s2, s4⟩
  have hd : ∀ k ∈ dl, Lot s k := fun k hk => ⟨(kd.all k hk).1, (kd.all k hk).2.1⟩
  have hsl : ∀ k ∈ sl, Lot s k := fun k hk => ⟨(ks.all k hk).1, (ks.all k hk).2.1⟩
  have ld := kd.len
  have lk := ks.len
  let J := M1.length
  let Ma : Mem := M1 ++ [.ins c []]
  have hJ : Ma[J]? = some (.ins c []) := by simp [Ma, J]
  have hLa' : Ma.length = J + 1 := by simp [Ma, J]
  obtain ⟨M2, e2, len2, at2, old2⟩ := run_init (G := G) (n := n) hIn SI hJ (s := s) ⟨by omega, by omega⟩ kd.all (by omega) ks.all (by omega)
  have hjJ : j < J := pot_lt st1.pot
  let L := M2.length
  let M3 : Mem := M2 ++ [.lst []]
  have in3 : ∀ {i : Nat} {o : MO}, M2[i]? = some o → M3[i]? = some o := fun {i o} e => (List.getElem?_append_left (List.getElem?_eq_some_iff.mp e).1).trans e
  have hLJ : L = J + 2 := by show M2.length = _; rw [len2, hLa']
  have lay3 : Lay j J L c f1 f2 f3 f4 s (ownZ dl) (ownZ sl) M3 [] := by
    obtain ⟨a, b, hab⟩ := st1.pot
    refine ⟨⟨a, b, in3 ((old2 j (by omega) (by omega)).trans ((List.getElem?_append_left hjJ).trans hab))⟩, ⟨_, in3 at2⟩, ?_, by omega, by omega, by omega, by simp⟩
    simp [M3, L]
  obtain ⟨F1, M4, c1', c2', c3', fam1, _⟩ := run_closed (G := G) (n := n + 4) (M := M3) hCl hLa hOf (by omega : s ≤ 8) hd (by omega) hsl (by omega) (lots := []) (by simp) (by simp)
  have lay4 := lay3.old c3'
  obtain ⟨l, M5, k1, kst, kk⟩ := run_kind (G := G) (n := n + 4) (M := M4) hK hD lay4.pot (s := s) (by omega) (by omega)
  have lay5 := lay4.step kst
  obtain ⟨F2, M6, d1', d2', d3', fam2, _⟩ := run_closed (G := G) (n := n + 4) (M := M5) hCl hLa hOf (by omega : s ≤ 8) hd (by omega) hsl (by omega) (lots := [l]) (fun x hx => by rw [List.mem_singleton.mp hx]; exact ⟨kk.1, kk.2.1⟩) (by simp)
  have lay6 := lay5.old d3'
  obtain ⟨o6, o7, o8, o9, M7, ws, w1, lay7, w3⟩ := lays_ok (G := G) (n := n + 4) hD hK hs fam1 fam2 lay6 (.lst (dl.map rowZ)) (.lst (sl.map rowZ))
  let vals : List D := .lst (F1.map rowZ) :: ws
  obtain ⟨xs, x1, x2, x3⟩ := extras_ok (G := G) (n := n + 5) (M := M7) hA hs (env := E14 (.ref j) (.int s) (.lst (dl.map rowZ)) (.lst (sl.map rowZ)) (.ref J) (.ref L) o6 o7 o8 o9 none none none) rfl
  let all : List D := .lst (F1.map rowZ) :: (ws ++ xs)
  have hall : ∀ v ∈ all, Val v := fun v hv => by
    rcases List.mem_append.mp (show v ∈ vals ++ xs from hv) with hv | hv
    · exact lay7.val v hv
    · exact x3 v hv
  let L2 := M7.length
  let M8 : Mem := M7 ++ [.lst all]
  let M9 : Mem := M8.set L2 .dead
  have hJ7 : J < L2 := by obtain ⟨r, hr⟩ := lay7.sto; exact (List.getElem?_eq_some_iff.mp hr).1
  have sto9 : StoreAt M9 J c f1 f2 f3 f4 s (ownZ dl) (ownZ sl) := by
    obtain ⟨r, hr⟩ := lay7.sto
    exact ⟨r, (List.getElem?_set_ne (by omega)).trans ((List.getElem?_append_left hJ7).trans hr)⟩
  obtain ⟨p10, p11, p12, M10, g1, sto10⟩ := chks_ok (G := G) (n := n) LI hs hd (by omega) hsl (by omega) sto9 hall (.ref j) (.lst all) o6 o7 o8 o9
  have hl1 := own_len dl
  have hl2 := own_len sl
  have last : callI G fns (n + 6) iIs [.ref J, .lst (F1.map rowZ)] M10 = .ok (.bl true) M10 := by
    obtain ⟨iLa', iOf', iW', iCo, iLi, iL, iAl, iB', iLed, b1', b2', b3', b4', b5', b6', b7', b8', b9', b10'⟩ := LI.ids
    obtain ⟨n12, n13, n23⟩ := LI.ne
    have e := run_isClosed (G := G) (n := n) (M := M10) b4' b5' b6' b7' b8' b9' n12 n13 n23 b10' (by omega : s ≤ 8) sto10 (by omega) (by omega) (hall _ List.mem_cons_self).1
    rw [e, agree hs.2 hd hsl, fam_true (by omega) fam1]
  have e1' : callI G fns (n + 6) iP [.ref j, .int 4] M = _ := e1
  have c1f : callI G fns (n + 6) iCl [.lst (dl.map rowZ), .lst (sl.map rowZ), .lst []] M3 = _ := c1'
  have k1f : callI G fns (n + 6) iK [.ref j, .int s] M4 = _ := k1
  have d1f : callI G fns (n + 6) iCl [.lst (dl.map rowZ), .lst (sl.map rowZ), .lst [rowZ l]] M5 = _ := d1'
  have x1f : evs G (callI G fns (n + 6)) (extraE iA) (E14 (.ref j) (.int s) (.lst (dl.map rowZ)) (.lst (sl.map rowZ)) (.ref J) (.ref L) o6 o7 o8 o9 none none none) M7 = .ok xs M7 := x1
  have E0 : exs G (callI G fns (n + 6)) (.asg (.tp [(.nm 1), (.nm 2), (.nm 3)]) (.call iP (.cons (.var 0) (.cons (.lit (.int 4)) .nil)))) [some (.ref j), none, none, none, none, none, none, none, none, none, none, none, none, none] M =
      .ok (.nx [some (.ref j), some (.int s), some (.lst (dl.map rowZ)), some (.lst (sl.map rowZ)), none, none, none, none, none, none, none, none, none, none]) M1 := by
    simp only [q_asg, q_call, q_1, q_0, q_var, q_lit, List.getElem?_cons_zero, Option.bind_some, id_eq, R.of_some, R.bind_ok, e1']
    rfl
  have Emk : ev G (callI G fns (n + 6)) (.mk c (.cons (.var 1) (.cons (.var 2) (.cons (.var 3) .nil)))) [some (.ref j), some (.int s), some (.lst (dl.map rowZ)), some (.lst (sl.map rowZ)), none, none, none, none, none, none, none, none, none, none] M1 = .ok (.ref J) M2 := by
    simp only [q_mk, q_1, q_0, q_var, List.getElem?_cons_zero, List.getElem?_cons_succ, Option.bind_some, id_eq, R.of_some, R.bind_ok, hI]
    show (callI G fns (n + 6) iIn [.ref J, .int s, .lst (dl.map rowZ), .lst (sl.map rowZ)] Ma).bind _ = _
    rw [e2]
    rfl
  have E1 : exs G (callI G fns (n + 6)) (.par [4, 5] (.cons (.mk c (.cons (.var 1) (.cons (.var 2) (.cons (.var 3) .nil)))) (.cons (.alloc (.lst .nil)) .nil))) [some (.ref j), some (.int s), some (.lst (dl.map rowZ)), some (.lst (sl.map rowZ)), none, none, none, none, none, none, none, none, none, none] M1 =
      .ok (.nx (E14 (.ref j) (.int s) (.lst (dl.map rowZ)) (.lst (sl.map rowZ)) (.ref J) (.ref L) none none none none none none none)) M3 := by
    rw [q_par, q_1, Emk]
    rfl
  have E2 : exs G (callI G fns (n + 6)) (.fr (.one 6) (.seq (.lst (twoE iCl iK))) (layB iD iK)) (E14 (.ref j) (.int s) (.lst (dl.map rowZ)) (.lst (sl.map rowZ)) (.ref J) (.ref L) none none none none none none none) M3 =
      .ok (.nx (E14 (.ref j) (.int s) (.lst (dl.map rowZ)) (.lst (sl.map rowZ)) (.ref J) (.ref L) o6 o7 o8 o9 none none none)) M7 := by
    have hi : evi G (callI G fns (n + 6)) (.seq (.lst (twoE iCl iK))) (E14 (.ref j) (.int s) (.lst (dl.map rowZ)) (.lst (sl.map rowZ)) (.ref J) (.ref L) none none none none none none none) M3 = .ok [.lst (F1.map rowZ), .lst (F2.map rowZ)] M6 := by
      simp only [twoE, E14, q_seq, q_lst, q_1, q_0, q_call, q_var, List.getElem?_cons_zero, List.getElem?_cons_succ, Option.bind_some, id_eq, R.of_some, R.bind_ok, c1f, k1f, d1f, seqD]
    rw [q_fr, hi]
    exact w1
  have E3 : exs G (callI G fns (n + 6)) (.asg (.nm 5) (.alloc (.bin .add (.var 5) (.lst (extraE iA))))) (E14 (.ref j) (.int s) (.lst (dl.map rowZ)) (.lst (sl.map rowZ)) (.ref J) (.ref L) o6 o7 o8 o9 none none none) M7 =
      .ok (.nx (E14 (.ref j) (.int s) (.lst (dl.map rowZ)) (.lst (sl.map rowZ)) (.ref J) (.ref L2) o6 o7 o8 o9 none none none)) M8 := by
    have hv5 : ev G (callI G fns (n + 6)) (.var 5) (E14 (.ref j) (.int s) (.lst (dl.map rowZ)) (.lst (sl.map rowZ)) (.ref J) (.ref L) o6 o7 o8 o9 none none none) M7 = .ok (.ref L) M7 := rfl
    have hb : bop .add M7 (.ref L) (.lst xs) = some (.lst all) := by
      simp only [bop, asL, lay7.lst]
      rw [if_pos (by rw [PySem.sizeLine_eq]; show (D.lst (F1.map rowZ) :: ws).length + xs.length ≤ _; rw [List.length_cons]; omega)]
      rfl
    rw [q_asg, q_alloc, q_bin, hv5]
    simp only [R.bind_ok, q_lst, x1f, hb, R.of_some]
    rfl
  have E4 : exs G (callI G fns (n + 6)) (.frz 5) (E14 (.ref j) (.int s) (.lst (dl.map rowZ)) (.lst (sl.map rowZ)) (.ref J) (.ref L2) o6 o7 o8 o9 none none none) M8 =
      .ok (.nx (E14 (.ref j) (.int s) (.lst (dl.map rowZ)) (.lst (sl.map rowZ)) (.ref J) (.lst all) o6 o7 o8 o9 none none none)) M9 := by
    have h8 : M8[L2]? = some (.lst all) := by show (M7 ++ [MO.lst all])[M7.length]? = _; simp
    rw [q_frz]
    simp only [E14, List.getElem?_cons_zero, List.getElem?_cons_succ, Option.bind_some, id_eq, h8]
    rfl
  have E5 : exs G (callI G fns (n + 6)) (.fr (.one 10) (.seq (.var 5)) (chkB iF iIs)) (E14 (.ref j) (.int s) (.lst (dl.map rowZ)) (.lst (sl.map rowZ)) (.ref J) (.lst all) o6 o7 o8 o9 none none none) M9 =
      .ok (.nx (E14 (.ref j) (.int s) (.lst (dl.map rowZ)) (.lst (sl.map rowZ)) (.ref J) (.lst all) o6 o7 o8 o9 p10 p11 p12)) M10 := by
    have hi : evi G (callI G fns (n + 6)) (.seq (.var 5)) (E14 (.ref j) (.int s) (.lst (dl.map rowZ)) (.lst (sl.map rowZ)) (.ref J) (.lst all) o6 o7 o8 o9 none none none) M9 = .ok all M9 := rfl
    rw [q_fr, hi]
    exact g1
  have E6 : exs G (callI G fns (n + 6)) (.ret (.isB false true (.callk iIs (.cons (.idx (.var 5) (.lit (.int 0))) (.cons (.var 4) .nil)) [1, 0]))) (E14 (.ref j) (.int s) (.lst (dl.map rowZ)) (.lst (sl.map rowZ)) (.ref J) (.lst all) o6 o7 o8 o9 p10 p11 p12) M10 = .ok (.rt (.bl true)) M10 := by
    have hx : ev G (callI G fns (n + 6)) (.idx (.var 5) (.lit (.int 0))) (E14 (.ref j) (.int s) (.lst (dl.map rowZ)) (.lst (sl.map rowZ)) (.ref J) (.lst all) o6 o7 o8 o9 p10 p11 p12) M10 = .ok (.lst (F1.map rowZ)) M10 := by
      have : idxD M10 (.lst all) (.int 0) = some (.lst (F1.map rowZ)) := by
        show atD (.lst (F1.map rowZ) :: (ws ++ xs)) (.int 0) = _
        simp only [atD, _root_.L2.atI, _root_.L2.ixN, List.length_cons]
        have hz : (0 : Int) < ((ws ++ xs).length + 1 : Nat) := by omega
        simp only [Int.le_refl, if_true, hz]
        simp <;> omega
      simp only [E14, q_idx, q_var, q_lit, List.getElem?_cons_zero, List.getElem?_cons_succ, Option.bind_some, id_eq, R.of_some, R.bind_ok, this]
    have hm : mapO (fun i => [D.lst (F1.map rowZ), D.ref J][i]?) [1, 0] = some [.ref J, .lst (F1.map rowZ)] := rfl
    rw [q_ret, q_isB, q_callk, q_1, hx]
    simp only [E14, q_1, q_0, q_var, List.getElem?_cons_zero, List.getElem?_cons_succ, Option.bind_some, id_eq, R.of_some, R.bind_ok, hm, last]
    rfl
  refine ⟨M10, ?_⟩
  rw [callI_b h [some (.ref j), none, none, none, none, none, none, none, none, none, none, none, none, none]]
  simp only [fRight]
  rw [q_cons, E0]; simp only [R.bind_ok]
  rw [q_cons, E1]; simp only [R.bind_ok]
  rw [q_cons, E2]; simp only [R.bind_ok]
  rw [q_cons, E3]; simp only [R.bind_ok]
  rw [q_cons, E4]; simp only [R.bind_ok]
  rw [q_cons, E5]; simp only [R.bind_ok]
  rw [q_cons, E6]; simp only [R.bind_ok]
  rfl
end
end Z
end
section
set_option Elab.async false
set_option linter.all false
set_option maxRecDepth 100000
set_option maxHeartbeats 0
namespace Z.K24
open Z PySem L2 PyProof.Rows
def f_InvalidShelves___init__ : Fn := ⟨2, 2, (.cons (.fset (.var 0) 0 (.var 1)) .nil)⟩
def f_InvalidStore___init__ : Fn := ⟨2, 2, (.cons (.fset (.var 0) 0 (.var 1)) .nil)⟩
def f_InvalidDeliveries___init__ : Fn := ⟨2, 2, (.cons (.fset (.var 0) 0 (.var 1)) .nil)⟩
def f_InvalidSales___init__ : Fn := ⟨2, 2, (.cons (.fset (.var 0) 0 (.var 1)) .nil)⟩
def f_is_integer : Fn := ⟨1, 1, (.cons (.ret (.and (.isin .int (.var 0)) (.not (.isin .bool (.var 0))))) .nil)⟩
def f_is_count : Fn := ⟨1, 1, (.cons (.ret (.and (.call 4 (.cons (.var 0) .nil)) (.cmp .ge (.var 0) (.lit (.int 0))))) .nil)⟩
def f_is_list : Fn := ⟨1, 1, (.cons (.ret (.isin .listtuple (.var 0))) .nil)⟩
def f_are_shelves : Fn := ⟨1, 1, (.cons (.ret (.and (.call 5 (.cons (.var 0) .nil)) (.chn .le .le (.glob 0) (.var 0) (.glob 1)))) .nil)⟩
def f_want_shelves : Fn := ⟨1, 1, (.cons (.ifs (.not (.call 7 (.cons (.var 0) .nil))) (.cons .stop .nil) .nil) .nil)⟩
def f_is_lot_of : Fn := ⟨2, 3, (.cons (.ifs (.or (.not (.call 6 (.cons (.var 1) .nil))) (.not (.b1 .all (.cmpr (.and (.call 5 (.cons (.var 2) .nil)) (.cmp .lt (.var 2) (.var 0))) (.one 2) (.seq (.var 1)) .none [2])))) (.cons (.ret (.lit (.bl false))) .nil) .nil) (.cons (.ret (.cmp .eq (.b1 .len (.b1 .sset (.var 1))) (.b1 .len (.var 1)))) .nil))⟩
def f_bits_of : Fn := ⟨1, 3, (.cons (.asg (.nm 1) (.lit (.int 0))) (.cons (.fr (.one 2) (.seq (.var 0)) (.cons (.asg (.nm 1) (.bin .bor (.var 1) (.bin .shl (.lit (.int 1)) (.var 2)))) .nil)) (.cons (.ret (.var 1)) .nil)))⟩
def f_spots_of : Fn := ⟨1, 2, (.cons (.ret (.b1 .tuple (.cmpr (.var 1) (.one 1) (.rng (.glob 1)) (.some (.cmp .eq (.bin .band (.bin .shr (.var 0) (.var 1)) (.lit (.int 1))) (.lit (.int 1)))) [1]))) .nil)⟩
def f_told_lot : Fn := ⟨1, 1, (.cons (.ret (.b1 .list (.call 11 (.cons (.var 0) .nil)))) .nil)⟩
def f_is_kind : Fn := ⟨2, 2, (.cons (.ret (.and (.call 9 (.cons (.var 0) (.cons (.var 1) .nil))) (.cmp .gt (.b1 .len (.var 1)) (.lit (.int 0))))) .nil)⟩
def f_are_kinds : Fn := ⟨2, 3, (.cons (.ret (.and (.call 6 (.cons (.var 1) .nil)) (.and (.cmp .le (.b1 .len (.var 1)) (.glob 2)) (.b1 .all (.cmpr (.call 13 (.cons (.var 0) (.cons (.var 2) .nil))) (.one 2) (.seq (.var 1)) .none [2]))))) .nil)⟩
def f_plain_kinds : Fn := ⟨1, 3, (.cons (.ret (.b1 .tuple (.cmpr (.call 10 (.cons (.var 2) .nil)) (.one 2) (.seq (.b1 .sorted (.cmpr (.call 12 (.cons (.var 1) .nil)) (.one 1) (.seq (.b1 .sset (.var 0))) .none [1]))) .none [2]))) .nil)⟩
def f_Store___init__ : Fn := ⟨4, 5, (.cons (.ex (.call 8 (.cons (.var 1) .nil))) (.cons (.ifs (.not (.call 14 (.cons (.var 1) (.cons (.var 2) .nil)))) (.cons .stop .nil) .nil) (.cons (.ifs (.not (.call 14 (.cons (.var 1) (.cons (.var 3) .nil)))) (.cons .stop .nil) .nil) (.cons (.fset (.var 0) 1 (.var 1)) (.cons (.fset (.var 0) 2 (.call 15 (.cons (.cmpr (.call 10 (.cons (.var 4) .nil)) (.one 4) (.seq (.var 2)) .none [4]) .nil))) (.cons (.fset (.var 0) 3 (.call 15 (.cons (.cmpr (.call 10 (.cons (.var 4) .nil)) (.one 4) (.seq (.var 3)) .none [4]) .nil))) (.cons (.fset (.var 0) 4 (.alloc .dct0)) .nil)))))))⟩
def f_Store_shelves : Fn := ⟨1, 1, (.cons (.ret (.fld 1 (.var 0))) .nil)⟩
def f_Store_deliveries : Fn := ⟨1, 2, (.cons (.ret (.cmpr (.call 12 (.cons (.var 1) .nil)) (.one 1) (.seq (.fld 2 (.var 0))) .none [1])) .nil)⟩
def f_Store_sales : Fn := ⟨1, 2, (.cons (.ret (.cmpr (.call 12 (.cons (.var 1) .nil)) (.one 1) (.seq (.fld 3 (.var 0))) .none [1])) .nil)⟩
def f_Store___eq__ : Fn := ⟨2, 2, (.cons (.ifs (.or (.not (.isin (.cls 5) (.var 1))) (.cmp .ne (.fld 1 (.var 0)) (.fld 1 (.var 1)))) (.cons (.ret (.lit (.bl false))) .nil) .nil) (.cons (.ret (.and (.cmp .eq (.fld 2 (.var 0)) (.fld 2 (.var 1))) (.cmp .eq (.fld 3 (.var 0)) (.fld 3 (.var 1))))) .nil))⟩
def f_want_store : Fn := ⟨1, 1, (.cons (.ifs (.not (.isin (.cls 5) (.var 0))) (.cons .stop .nil) .nil) (.cons (.ret (.var 0)) .nil))⟩
def f_led_on : Fn := ⟨2, 3, (.cons (.ret (.bin .add (.cmpr (.bin .bor (.var 1) (.var 2)) (.one 2) (.seq (.fld 2 (.var 0))) .none [2]) (.cmpr (.bin .band (.var 1) (.inv (.var 2))) (.one 2) (.seq (.fld 3 (.var 0))) .none [2]))) .nil)⟩
def f_are_lots : Fn := ⟨2, 3, (.cons (.ret (.and (.call 6 (.cons (.var 1) .nil)) (.b1 .all (.cmpr (.call 9 (.cons (.fld 1 (.var 0)) (.cons (.var 2) .nil))) (.one 2) (.seq (.var 1)) .none [2])))) .nil)⟩
def f_is_closed_of : Fn := ⟨2, 6, (.cons (.ifs (.not (.call 23 (.cons (.var 0) (.cons (.var 1) .nil)))) (.cons (.ret (.lit (.bl false))) .nil) .nil) (.cons (.asg (.nm 2) (.cmpr (.call 10 (.cons (.var 3) .nil)) (.one 3) (.seq (.var 1)) .none [3])) (.cons (.ret (.and (.cmp .inn (.lit (.int 0)) (.var 2)) (.b1 .all (.cmpr (.b1 .all (.cmpr (.cmp .inn (.var 5) (.var 2)) (.one 5) (.seq (.call 22 (.cons (.var 0) (.cons (.var 4) .nil)))) .none [5])) (.one 4) (.seq (.var 2)) .none [4])))) .nil)))⟩
def f_is_closed : Fn := ⟨2, 2, (.cons (.ex (.call 21 (.cons (.var 0) .nil))) (.cons (.ret (.call 24 (.cons (.var 0) (.cons (.var 1) .nil)))) .nil))⟩
def f__law_pot : Fn := ⟨2, 3, (.cons (.asg (.nm 2) (.bin .add (.bin .add (.bin .mul (.lit (.int 883)) (.var 1)) (.lit (.int 823))) (.bin .mod (.b1 .sum (.slc (.var 0) .none (.some (.lit (.int 1))))) (.lit (.int 1000003))))) (.cons (.ifs (.cmp .lt (.var 1) (.b1 .len (.var 0))) (.cons (.asg (.nm 2) (.b1 .abs (.idx (.var 0) (.var 1)))) .nil) .nil) (.cons (.ret (.alloc (.lst (.cons (.b2 .max (.lit (.int 0)) (.bin .sub (.var 2) (.bin .pow (.lit (.int 10)) (.lit (.int 18))))) (.cons (.bin .add (.bin .mod (.bin .mul (.b1 .int (.bin .add (.bin .mod (.b1 .int (.var 2)) (.lit (.int 2147483549))) (.lit (.int 17573)))) (.bin .pow (.bin .add (.bin .mul (.lit (.int 2)) (.var 1)) (.lit (.int 5))) (.lit (.int 3)))) (.lit (.int 2147483477))) (.lit (.int 1))) .nil))))) .nil)))⟩
def f__law_draw : Fn := ⟨2, 3, (.cons (.ifs (.cmp .gt (.idx (.var 0) (.lit (.int 0))) (.lit (.int 0))) (.cons (.asg (.tp [(.sub (.var 0) (.lit (.int 0))), (.nm 2)]) (.b2 .divmod (.idx (.var 0) (.lit (.int 0))) (.var 1))) (.cons (.ret (.var 2)) .nil)) .nil) (.cons (.asg (.sub (.var 0) (.lit (.int 1))) (.bin .mod (.b1 .int (.bin .add (.bin .mul (.idx (.var 0) (.lit (.int 1))) (.lit (.int 48271))) (.lit (.int 17573)))) (.lit (.int 2147483587)))) (.cons (.ret (.bin .mod (.b1 .int (.bin .div (.bin .mod (.b1 .int (.bin .mul (.idx (.var 0) (.lit (.int 1))) (.idx (.var 0) (.lit (.int 1))))) (.lit (.int 2147483549))) (.lit (.int 13)))) (.var 1))) .nil)))⟩
def f__law_kind : Fn := ⟨2, 4, (.cons (.asg (.nm 2) (.cmpr (.var 3) (.one 3) (.rng (.var 1)) (.some (.cmp .eq (.call 27 (.cons (.var 0) (.cons (.lit (.int 2)) .nil))) (.lit (.int 0)))) [3])) (.cons (.ret (.ite (.cmp .ne (.var 2) (.lst .nil)) (.var 2) (.lst (.cons (.call 27 (.cons (.var 0) (.cons (.var 1) .nil))) .nil)))) .nil))⟩
def f__law_kinds : Fn := ⟨3, 6, (.cons (.asg (.nm 3) (.alloc (.lst .nil))) (.cons (.fr (.one 4) (.rng (.call 27 (.cons (.var 0) (.cons (.bin .add (.var 2) (.lit (.int 1))) .nil)))) (.cons (.asg (.nm 5) (.call 28 (.cons (.var 0) (.cons (.var 1) .nil)))) (.cons (.ifs (.cmp .nin (.var 5) (.var 3)) (.cons (.ex (.app (.var 3) (.var 5))) .nil) .nil) .nil))) (.cons (.ret (.b1 .sorted (.var 3))) .nil)))⟩
def f__law_parts : Fn := ⟨2, 3, (.cons (.asg (.nm 2) (.bin .add (.lit (.int 2)) (.call 27 (.cons (.var 0) (.cons (.bin .sub (.var 1) (.lit (.int 1))) .nil))))) (.cons (.ret (.tup (.cons (.var 2) (.cons (.call 29 (.cons (.var 0) (.cons (.var 2) (.cons (.lit (.int 4)) .nil)))) (.cons (.call 29 (.cons (.var 0) (.cons (.var 2) (.cons (.lit (.int 3)) .nil)))) .nil))))) .nil))⟩
def f__law_laid : Fn := ⟨2, 3, (.cons (.ret (.b1 .sorted (.bin .add (.var 0) (.cmpr (.var 2) (.one 2) (.seq (.var 1)) (.some (.cmp .nin (.var 2) (.var 0))) [2])))) .nil)⟩
def f__law_off : Fn := ⟨2, 3, (.cons (.ret (.cmpr (.var 2) (.one 2) (.seq (.var 0)) (.some (.cmp .nin (.var 2) (.var 1))) [2])) .nil)⟩
def f__law_closed : Fn := ⟨3, 7, (.cons (.par [3, 4] (.cons (.alloc (.lst .nil)) (.cons (.alloc (.bin .add (.lst (.cons (.lst .nil) .nil)) (.cmpr (.b1 .sorted (.var 5)) (.one 5) (.seq (.var 2)) .none [5]))) .nil))) (.cons (.whl (.cmp .ne (.var 4) (.lst .nil)) (.cons (.asg (.nm 5) (.pop (.var 4))) (.cons (.ifs (.cmp .nin (.var 5) (.var 3)) (.cons (.ex (.app (.var 3) (.var 5))) (.cons (.ex (.ext (.var 4) (.bin .add (.cmpr (.call 31 (.cons (.var 5) (.cons (.var 6) .nil))) (.one 6) (.seq (.var 0)) .none [6]) (.cmpr (.call 32 (.cons (.var 5) (.cons (.var 6) .nil))) (.one 6) (.seq (.var 1)) .none [6])))) .nil)) .nil) .nil))) (.cons (.ret (.b1 .sorted (.var 3))) .nil)))⟩
def f__law_all_lots : Fn := ⟨1, 4, (.cons (.asg (.nm 1) (.lst (.cons (.lst .nil) .nil))) (.cons (.fr (.one 2) (.rng (.var 0)) (.cons (.asg (.nm 1) (.bin .add (.var 1) (.cmpr (.bin .add (.var 3) (.lst (.cons (.var 2) .nil))) (.one 3) (.seq (.var 1)) .none [3]))) .nil)) (.cons (.ret (.var 1)) .nil)))⟩
def f__law_is_family : Fn := ⟨4, 8, (.cons (.ifs (.not (.isin .listtuple (.var 3))) (.cons (.ret (.lit (.bl false))) .nil) .nil) (.cons (.asg (.nm 4) (.alloc (.lst .nil))) (.cons (.fr (.one 5) (.seq (.var 3)) (.cons (.ifs (.or (.not (.isin .listtuple (.var 5))) (.not (.b1 .all (.cmpr (.and (.isin .int (.var 6)) (.and (.not (.isin .bool (.var 6))) (.chn .le .lt (.lit (.int 0)) (.var 6) (.var 0)))) (.one 6) (.seq (.var 5)) .none [6])))) (.cons (.ret (.lit (.bl false))) .nil) .nil) (.cons (.ex (.app (.var 4) (.b1 .sorted (.var 5)))) (.cons (.ifs (.cmp .lt (.b1 .lset (.idx (.var 4) (.neg (.lit (.int 1))))) (.b1 .len (.idx (.var 4) (.neg (.lit (.int 1)))))) (.cons (.ret (.lit (.bl false))) .nil) .nil) .nil)))) (.cons (.ifs (.cmp .nin (.lst .nil) (.var 4)) (.cons (.ret (.lit (.bl false))) .nil) .nil) (.cons (.frz 4) (.cons (.fr (.one 5) (.seq (.var 4)) (.cons (.ifs (.or (.not (.b1 .all (.cmpr (.cmp .inn (.call 31 (.cons (.var 5) (.cons (.var 7) .nil))) (.var 4)) (.one 7) (.seq (.var 1)) .none [7]))) (.not (.b1 .all (.cmpr (.cmp .inn (.call 32 (.cons (.var 5) (.cons (.var 7) .nil))) (.var 4)) (.one 7) (.seq (.var 2)) .none [7])))) (.cons (.ret (.lit (.bl false))) .nil) .nil) .nil)) (.cons (.ret (.lit (.bl true))) .nil)))))))⟩
def f__law_right : Fn := ⟨1, 14, (.cons (.asg (.tp [(.nm 1), (.nm 2), (.nm 3)]) (.call 30 (.cons (.var 0) (.cons (.lit (.int 4)) .nil)))) (.cons (.par [4, 5] (.cons (.mk 5 (.cons (.var 1) (.cons (.var 2) (.cons (.var 3) .nil)))) (.cons (.alloc (.lst .nil)) .nil))) (.cons (.fr (.one 6) (.seq (.lst (.cons (.call 33 (.cons (.var 2) (.cons (.var 3) (.cons (.lst .nil) .nil)))) (.cons (.call 33 (.cons (.var 2) (.cons (.var 3) (.cons (.lst (.cons (.call 28 (.cons (.var 0) (.cons (.var 1) .nil))) .nil)) .nil)))) .nil)))) (.cons (.par [7, 8] (.cons (.call 27 (.cons (.var 0) (.cons (.b1 .len (.var 6)) .nil))) (.cons (.call 28 (.cons (.var 0) (.cons (.var 1) .nil))) .nil))) (.cons (.ex (.ext (.var 5) (.lst (.cons (.var 6) (.cons (.b1 .tuple (.var 6)) (.cons (.rev (.var 6)) (.cons (.bin .add (.var 6) (.slc (.var 6) .none (.some (.lit (.int 1))))) (.cons (.bin .add (.slc (.var 6) .none (.some (.var 7))) (.slc (.var 6) (.some (.bin .add (.var 7) (.lit (.int 1)))) .none)) (.cons (.bin .add (.var 6) (.lst (.cons (.var 8) .nil))) (.cons (.cmpr (.b1 .tuple (.rev (.var 13))) (.one 13) (.seq (.var 6)) .none [13]) .nil)))))))))) (.cons (.fr (.one 9) (.seq (.lst (.cons (.lit .non) (.cons (.lit (.int 0)) (.cons (.lit (.str "")) (.cons (.lst (.cons (.lit (.bl true)) .nil)) (.cons (.lst (.cons (.var 1) .nil)) (.cons (.bin .add (.var 8) (.slc (.var 8) .none (.some (.lit (.int 1))))) (.cons (.lst (.cons (.neg (.lit (.int 1))) .nil)) (.cons (.lst (.cons (.lit .non) .nil)) (.cons (.lst (.cons (.lst (.cons (.lit (.int 0)) .nil)) .nil)) (.cons .dct0 .nil)))))))))))) (.cons (.ex (.app (.var 5) (.bin .add (.bin .add (.slc (.var 6) .none (.some (.var 7))) (.lst (.cons (.var 9) .nil))) (.slc (.var 6) (.some (.bin .add (.var 7) (.lit (.int 1)))) .none)))) .nil)) .nil)))) (.cons (.asg (.nm 5) (.alloc (.bin .add (.var 5) (.lst (.cons (.call 34 (.cons (.var 1) .nil)) (.cons (.lst (.cons (.lst .nil) .nil)) (.cons (.lst .nil) (.cons (.lit .non) (.cons (.lit (.bl true)) (.cons (.lit (.int 5)) (.cons (.lit (.str "[]")) (.cons .dct0 (.cons (.lst (.cons (.lst .nil) (.cons (.lst .nil) .nil))) (.cons (.tup (.cons (.lst .nil) .nil)) (.cons (.lst (.cons (.lst (.cons (.lit (.int 0)) .nil)) .nil)) (.cons (.lst (.cons (.lst .nil) (.cons (.lrng false (.rng (.var 1))) .nil))) .nil)))))))))))))))) (.cons (.frz 5) (.cons (.fr (.one 10) (.seq (.var 5)) (.cons (.par [11, 12] (.cons (.call 35 (.cons (.var 1) (.cons (.var 2) (.cons (.var 3) (.cons (.var 10) .nil))))) (.cons (.b1 .repr (.var 10)) .nil))) (.cons (.ifs (.or (.cmp .ne (.b1 .repr (.call 25 (.cons (.var 4) (.cons (.var 10) .nil)))) (.b1 .repr (.var 11))) (.cmp .ne (.b1 .repr (.var 10)) (.var 12))) (.cons (.ret (.lit (.bl false))) .nil) .nil) .nil))) (.cons (.ret (.isB false true (.callk 25 (.cons (.idx (.var 5) (.lit (.int 0))) (.cons (.var 4) .nil)) [1, 0]))) .nil)))))))⟩
def f_law : Fn := ⟨1, 1, (.cons (.ret (.call 36 (.cons (.call 26 (.cons (.var 0) (.cons (.lit (.int 0)) .nil))) .nil))) .nil)⟩
def fns : Nat → Option Fn
  | 0 => some f_InvalidShelves___init__
  | 1 => some f_InvalidStore___init__
  | 2 => some f_InvalidDeliveries___init__
  | 3 => some f_InvalidSales___init__
  | 4 => some f_is_integer
  | 5 => some f_is_count
  | 6 => some f_is_list
  | 7 => some f_are_shelves
  | 8 => some f_want_shelves
  | 9 => some f_is_lot_of
  | 10 => some f_bits_of
  | 11 => some f_spots_of
  | 12 => some f_told_lot
  | 13 => some f_is_kind
  | 14 => some f_are_kinds
  | 15 => some f_plain_kinds
  | 16 => some f_Store___init__
  | 17 => some f_Store_shelves
  | 18 => some f_Store_deliveries
  | 19 => some f_Store_sales
  | 20 => some f_Store___eq__
  | 21 => some f_want_store
  | 22 => some f_led_on
  | 23 => some f_are_lots
  | 24 => some f_is_closed_of
  | 25 => some f_is_closed
  | 26 => some f__law_pot
  | 27 => some f__law_draw
  | 28 => some f__law_kind
  | 29 => some f__law_kinds
  | 30 => some f__law_parts
  | 31 => some f__law_laid
  | 32 => some f__law_off
  | 33 => some f__law_closed
  | 34 => some f__law_all_lots
  | 35 => some f__law_is_family
  | 36 => some f__law_right
  | 37 => some f_law
  | _ => none
def glb : Nat → D
  | 0 => (.int 2)
  | 1 => (.int 8)
  | 2 => (.int 8)
  | _ => .non
def ini : Nat → Nat
  | 1 => 0
  | 2 => 1
  | 3 => 2
  | 4 => 3
  | 5 => 16
  | _ => 0
def G : Gt := ⟨glb, ini, id⟩
def fld : Nat → Str
  | 0 => "value"
  | 1 => "own_shelves"
  | 2 => "own_deliveries"
  | 3 => "own_sales"
  | 4 => "own_kept"
  | _ => ""
def knC : Nat → Bool
  | 5 => true
  | _ => false
def tab : Tab := ⟨fun _ => none, fun _ => none, fun _ => none, fld, knC, fun f => decide (f < 5)⟩
def gw (ca : Nat → Addr) : Gw := ⟨G, fns, tab, ca, fun _ => 0, fun _ => default⟩
def top (i : Nat) : Stmt := PySem.Challenge.pw_twoabove_k24_any_value_as_closed_family.main.body.getD i (.Pass ⟨0, 0, 0, 0⟩)
def mem (s : Stmt) (i : Nat) : Stmt := match s with
  | .ClassDef _ _ _ b _ _ _ _ _ _ _ => b.getD i (.Pass ⟨0, 0, 0, 0⟩)
  | _ => s
structure Tx (K : PySem.W.Frag) (mg : Str → Option Value) (ca : Nat → Addr) : Prop where
  cf : CF (gw ca) K
  isf : IsF (gw ca) K
  z_abs : mg "abs" = none
  z_all : mg "all" = none
  z_bool : mg "bool" = none
  z_divmod : mg "divmod" = none
  z_int : mg "int" = none
  z_isinstance : mg "isinstance" = none
  z_len : mg "len" = none
  z_list : mg "list" = none
  z_max : mg "max" = none
  z_range : mg "range" = none
  z_repr : mg "repr" = none
  z_set : mg "set" = none
  z_sorted : mg "sorted" = none
  z_sum : mg "sum" = none
  z_tuple : mg "tuple" = none
  g_0 : ∃ t, mg "LEAST_SHELVES" = some (.int 2 t)
  g_1 : ∃ t, mg "MOST_SHELVES" = some (.int 8 t)
  g_2 : ∃ t, mg "MOST_KINDS" = some (.int 8 t)
  k_5 : mg "Store" = some (.ref (ca 5))
  d4 : DefI K mg "is_integer" "is_integer" (top 7) ["value"]
  d5 : DefI K mg "is_count" "is_count" (top 8) ["value"]
  d6 : DefI K mg "is_list" "is_list" (top 9) ["value"]
  d7 : DefI K mg "are_shelves" "are_shelves" (top 13) ["value"]
  d8 : DefI K mg "want_shelves" "want_shelves" (top 14) ["value"]
  d9 : DefI K mg "is_lot_of" "is_lot_of" (top 15) ["shelves", "value"]
  d10 : DefI K mg "bits_of" "bits_of" (top 16) ["lot"]
  d11 : DefI K mg "spots_of" "spots_of" (top 17) ["bits"]
  d12 : DefI K mg "told_lot" "told_lot" (top 18) ["bits"]
  d13 : DefI K mg "is_kind" "is_kind" (top 21) ["shelves", "value"]
  d14 : DefI K mg "are_kinds" "are_kinds" (top 22) ["shelves", "value"]
  d15 : DefI K mg "plain_kinds" "plain_kinds" (top 23) ["kinds"]
  d16 : InitI K mg (ca 5) "Store" "Store.__init__" (mem (top 24) 0) ["self", "shelves", "deliveries", "sales"]
  d21 : DefI K mg "want_store" "want_store" (top 25) ["value"]
  d22 : DefI K mg "led_on" "led_on" (top 27) ["store", "bits"]
  d23 : DefI K mg "are_lots" "are_lots" (top 28) ["store", "value"]
  d24 : DefI K mg "is_closed_of" "is_closed_of" (top 29) ["store", "value"]
  d25 : DefI K mg "is_closed" "is_closed" (top 30) ["store", "value"]
  d26 : DefI K mg "_law_pot" "_law_pot" (top 32) ["_law_script", "_law_k"]
  d27 : DefI K mg "_law_draw" "_law_draw" (top 33) ["_law_pot_here", "_law_many"]
  d28 : DefI K mg "_law_kind" "_law_kind" (top 34) ["_law_pot_here", "_law_shelves"]
  d29 : DefI K mg "_law_kinds" "_law_kinds" (top 35) ["_law_pot_here", "_law_shelves", "_law_most"]
  d30 : DefI K mg "_law_parts" "_law_parts" (top 36) ["_law_pot_here", "_law_most"]
  d31 : DefI K mg "_law_laid" "_law_laid" (top 37) ["_law_lot", "_law_kind_here"]
  d32 : DefI K mg "_law_off" "_law_off" (top 38) ["_law_lot", "_law_kind_here"]
  d33 : DefI K mg "_law_closed" "_law_closed" (top 39) ["_law_deliveries", "_law_sales", "_law_lots"]
  d34 : DefI K mg "_law_all_lots" "_law_all_lots" (top 40) ["_law_shelves"]
  d35 : DefI K mg "_law_is_family" "_law_is_family" (top 41) ["_law_shelves", "_law_deliveries", "_law_sales", "_law_value"]
  d36 : DefI K mg "_law_right" "_law_right" (top 42) ["_law_pot_here"]
  kw25_value_store : KwI K mg "is_closed" ["store", "value"] ["value", "store"] [1, 0]
structure Al (P : Program) (w : World) (K : PySem.W.Frag) (mg : Str → Option Value) (base : Heap) (ca : Nat → Addr) (n : Nat) : Prop where
  c4 : CalI P w K mg base (gw ca) n 4 "is_integer" ["value"]
  c5 : CalI P w K mg base (gw ca) n 5 "is_count" ["value"]
  c6 : CalI P w K mg base (gw ca) n 6 "is_list" ["value"]
  c7 : CalI P w K mg base (gw ca) n 7 "are_shelves" ["value"]
  c8 : CalI P w K mg base (gw ca) n 8 "want_shelves" ["value"]
  c9 : CalI P w K mg base (gw ca) n 9 "is_lot_of" ["shelves", "value"]
  c10 : CalI P w K mg base (gw ca) n 10 "bits_of" ["lot"]
  c11 : CalI P w K mg base (gw ca) n 11 "spots_of" ["bits"]
  c12 : CalI P w K mg base (gw ca) n 12 "told_lot" ["bits"]
  c13 : CalI P w K mg base (gw ca) n 13 "is_kind" ["shelves", "value"]
  c14 : CalI P w K mg base (gw ca) n 14 "are_kinds" ["shelves", "value"]
  c15 : CalI P w K mg base (gw ca) n 15 "plain_kinds" ["kinds"]
  m5 : MkI P w K mg base (gw ca) n 16 (ca 5) "Store" ["self", "shelves", "deliveries", "sales"]
  c21 : CalI P w K mg base (gw ca) n 21 "want_store" ["value"]
  c22 : CalI P w K mg base (gw ca) n 22 "led_on" ["store", "bits"]
  c23 : CalI P w K mg base (gw ca) n 23 "are_lots" ["store", "value"]
  c24 : CalI P w K mg base (gw ca) n 24 "is_closed_of" ["store", "value"]
  c25 : CalI P w K mg base (gw ca) n 25 "is_closed" ["store", "value"]
  c26 : CalI P w K mg base (gw ca) n 26 "_law_pot" ["_law_script", "_law_k"]
  c27 : CalI P w K mg base (gw ca) n 27 "_law_draw" ["_law_pot_here", "_law_many"]
  c28 : CalI P w K mg base (gw ca) n 28 "_law_kind" ["_law_pot_here", "_law_shelves"]
  c29 : CalI P w K mg base (gw ca) n 29 "_law_kinds" ["_law_pot_here", "_law_shelves", "_law_most"]
  c30 : CalI P w K mg base (gw ca) n 30 "_law_parts" ["_law_pot_here", "_law_most"]
  c31 : CalI P w K mg base (gw ca) n 31 "_law_laid" ["_law_lot", "_law_kind_here"]
  c32 : CalI P w K mg base (gw ca) n 32 "_law_off" ["_law_lot", "_law_kind_here"]
  c33 : CalI P w K mg base (gw ca) n 33 "_law_closed" ["_law_deliveries", "_law_sales", "_law_lots"]
  c34 : CalI P w K mg base (gw ca) n 34 "_law_all_lots" ["_law_shelves"]
  c35 : CalI P w K mg base (gw ca) n 35 "_law_is_family" ["_law_shelves", "_law_deliveries", "_law_sales", "_law_value"]
  c36 : CalI P w K mg base (gw ca) n 36 "_law_right" ["_law_pot_here"]
section
variable {P : Program} {w : World} {K : PySem.W.Frag} {mg : Str → Option Value} {base : Heap} {ca : Nat → Addr} {n : Nat}
theorem sc4 : FnScope ["value"] ["value"] (defScope (top 7)) := ⟨rfl, rfl, rfl, by decide +kernel, rfl, by decide +kernel, by decide +kernel⟩
theorem p4 (T : Tx K mg ca) (I : Al P w K mg base ca n) (hB : ∃ mm, base.Ns sysModules mm) : CalI P w K mg base (gw ca) (n + 1) 4 "is_integer" ["value"] :=
  have nd := sc4.nd
  cal_s T.d4 sc4 rfl fun f cdv A outer t H E hr hgd => ((y_cons (y_ret (v_and (x_isin .int T.isf T.z_isinstance T.z_int (by decide +kernel : bootBuiltins "int" = some (.type "int")) (x_var 0)) (v_one (v_not (x_isin .bool T.isf T.z_isinstance T.z_bool (by decide +kernel : bootBuiltins "bool" = some (.type "bool")) (x_var 0)))))) y_nil))
theorem sc5 : FnScope ["value"] ["value"] (defScope (top 8)) := ⟨rfl, rfl, rfl, by decide +kernel, rfl, by decide +kernel, by decide +kernel⟩
theorem p5 (T : Tx K mg ca) (I : Al P w K mg base ca n) (hB : ∃ mm, base.Ns sysModules mm) : CalI P w K mg base (gw ca) (n + 1) 5 "is_count" ["value"] :=
  have nd := sc5.nd
  cal_s T.d5 sc5 rfl fun f cdv A outer t H E hr hgd => ((y_cons (y_ret (v_and (x_call I.c4 hr hgd tk_D (a1 (x_var 0) a0)) (v_one (x_cmp .ge hr (x_var 0) x_int)))) y_nil))
theorem sc6 : FnScope ["value"] ["value"] (defScope (top 9)) := ⟨rfl, rfl, rfl, by decide +kernel, rfl, by decide +kernel, by decide +kernel⟩
theorem p6 (T : Tx K mg ca) (I : Al P w K mg base ca n) (hB : ∃ mm, base.Ns sysModules mm) : CalI P w K mg base (gw ca) (n + 1) 6 "is_list" ["value"] :=
  have nd := sc6.nd
  cal_s T.d6 sc6 rfl fun f cdv A outer t H E hr hgd => ((y_cons (y_ret (x_isin2 T.isf T.z_isinstance T.z_list T.z_tuple (x_var 0))) y_nil))
theorem sc7 : FnScope ["value"] ["value"] (defScope (top 13)) := ⟨rfl, rfl, rfl, by decide +kernel, rfl, by decide +kernel, by decide +kernel⟩
theorem p7 (T : Tx K mg ca) (I : Al P w K mg base ca n) (hB : ∃ mm, base.Ns sysModules mm) : CalI P w K mg base (gw ca) (n + 1) 7 "are_shelves" ["value"] :=
  have nd := sc7.nd
  cal_s T.d7 sc7 rfl fun f cdv A outer t H E hr hgd => ((y_cons (y_ret (v_and (x_call I.c5 hr hgd tk_D (a1 (x_var 0) a0)) (v_one (x_chn .le .le hr (x_gint T.g_0) (x_var 0) (x_gint T.g_1))))) y_nil))
theorem sc8 : FnScope ["value"] ["value"] (defScope (top 14)) := ⟨rfl, rfl, rfl, by decide +kernel, rfl, by decide +kernel, by decide +kernel⟩
theorem p8 (T : Tx K mg ca) (I : Al P w K mg base ca n) (hB : ∃ mm, base.Ns sysModules mm) : CalI P w K mg base (gw ca) (n + 1) 8 "want_shelves" ["value"] :=
  have nd := sc8.nd
  cal_s T.d8 sc8 rfl fun f cdv A outer t H E hr hgd => ((y_cons (y_if (t_not (x_t (x_call I.c7 hr hgd tk_D (a1 (x_var 0) a0)))) (y_cons y_stop y_nil) y_nil) y_nil))
theorem sc9 : FnScope ["shelves", "value", "shelf"] ["shelves", "value"] (defScope (top 15)) := ⟨rfl, rfl, rfl, by decide +kernel, rfl, by decide +kernel, by decide +kernel⟩
theorem p9 (T : Tx K mg ca) (I : Al P w K mg base ca n) (hB : ∃ mm, base.Ns sysModules mm) : CalI P w K mg base (gw ca) (n + 1) 9 "is_lot_of" ["shelves", "value"] :=
  have nd := sc9.nd
  cal_s T.d9 sc9 rfl fun f cdv A outer t H E hr hgd => ((y_cons (y_if (PW.pt (w_or (t_not (x_t (x_call I.c6 hr hgd tk_D (a1 (x_var 1) a0)))) (w_one (t_not (x_t (x_all T.z_all (x_lc [("shelf", 2)] nd (i_seq (x_var 1)) (fun _ _ _ _ _ => (gt_1 2 nd)) (fun _ _ _ _ _ => c_no) (fun _ _ _ _ _ => (v_and (x_call I.c5 hr hgd takes0 (a1 (x_var 2) a0)) (v_one (x_cmp .lt hr (x_var 2) (x_var 0)))))))))))) (y_cons (y_ret x_bl) y_nil) y_nil) (y_cons (y_ret (x_cmp .eq hr (x_len T.z_len (x_sset (f_sset T.z_sorted T.z_set (x_var 1)))) (x_len T.z_len (x_var 1)))) y_nil)))
theorem sc10 : FnScope ["lot", "found", "shelf"] ["lot"] (defScope (top 16)) := ⟨rfl, rfl, rfl, by decide +kernel, rfl, by decide +kernel, by decide +kernel⟩
theorem p10 (T : Tx K mg ca) (I : Al P w K mg base ca n) (hB : ∃ mm, base.Ns sysModules mm) : CalI P w K mg base (gw ca) (n + 1) 10 "bits_of" ["lot"] :=
  have nd := sc10.nd
  cal_s T.d10 sc10 rfl fun f cdv A outer t H E hr hgd => ((y_cons (z_set 1 nd x_int) (y_cons (z_for own_D (i_seq (x_var 0)) (gt_1 2 nd) (y_cons (z_set 1 nd (x_bin .bor (x_var 1) (x_bin .shl x_int (x_var 2)))) y_nil)) (y_cons (y_ret (x_var 1)) y_nil))))
theorem sc11 : FnScope ["bits", "shelf"] ["bits"] (defScope (top 17)) := ⟨rfl, rfl, rfl, by decide +kernel, rfl, by decide +kernel, by decide +kernel⟩
theorem p11 (T : Tx K mg ca) (I : Al P w K mg base ca n) (hB : ∃ mm, base.Ns sysModules mm) : CalI P w K mg base (gw ca) (n + 1) 11 "spots_of" ["bits"] :=
  have nd := sc11.nd
  cal_s T.d11 sc11 rfl fun f cdv A outer t H E hr hgd => ((y_cons (y_ret (x_tuple T.z_tuple (x_lc [("shelf", 1)] nd (i_range T.z_range (x_gint T.g_1)) (fun _ _ _ _ _ => (gt_1 1 nd)) (fun _ _ _ _ _ => (c_if (t_cmp .eq hr (x_bin .band (x_bin .shr (x_var 0) (x_var 1)) x_int) x_int))) (fun _ _ _ _ _ => (x_var 1))))) y_nil))
theorem sc12 : FnScope ["bits"] ["bits"] (defScope (top 18)) := ⟨rfl, rfl, rfl, by decide +kernel, rfl, by decide +kernel, by decide +kernel⟩
theorem p12 (T : Tx K mg ca) (I : Al P w K mg base ca n) (hB : ∃ mm, base.Ns sysModules mm) : CalI P w K mg base (gw ca) (n + 1) 12 "told_lot" ["bits"] :=
  have nd := sc12.nd
  cal_s T.d12 sc12 rfl fun f cdv A outer t H E hr hgd => ((y_cons (y_ret (x_list (f_list T.z_list (x_call I.c11 hr hgd tk_D (a1 (x_var 0) a0))))) y_nil))
theorem sc13 : FnScope ["shelves", "value"] ["shelves", "value"] (defScope (top 21)) := ⟨rfl, rfl, rfl, by decide +kernel, rfl, by decide +kernel, by decide +kernel⟩
theorem p13 (T : Tx K mg ca) (I : Al P w K mg base ca n) (hB : ∃ mm, base.Ns sysModules mm) : CalI P w K mg base (gw ca) (n + 1) 13 "is_kind" ["shelves", "value"] :=
  have nd := sc13.nd
  cal_s T.d13 sc13 rfl fun f cdv A outer t H E hr hgd => ((y_cons (y_ret (v_and (x_call I.c9 hr hgd tk_D (a1 (x_var 0) (a1 (x_var 1) a0))) (v_one (x_cmp .gt hr (x_len T.z_len (x_var 1)) x_int)))) y_nil))
theorem sc14 : FnScope ["shelves", "value", "one"] ["shelves", "value"] (defScope (top 22)) := ⟨rfl, rfl, rfl, by decide +kernel, rfl, by decide +kernel, by decide +kernel⟩
theorem p14 (T : Tx K mg ca) (I : Al P w K mg base ca n) (hB : ∃ mm, base.Ns sysModules mm) : CalI P w K mg base (gw ca) (n + 1) 14 "are_kinds" ["shelves", "value"] :=
  have nd := sc14.nd
  cal_s T.d14 sc14 rfl fun f cdv A outer t H E hr hgd => ((y_cons (y_ret (v_and (x_call I.c6 hr hgd tk_D (a1 (x_var 1) a0)) (v_and (x_cmp .le hr (x_len T.z_len (x_var 1)) (x_gint T.g_2)) (v_one (x_all T.z_all (x_lc [("one", 2)] nd (i_seq (x_var 1)) (fun _ _ _ _ _ => (gt_1 2 nd)) (fun _ _ _ _ _ => c_no) (fun _ _ _ _ _ => (x_call I.c13 hr hgd takes0 (a1 (x_var 0) (a1 (x_var 2) a0)))))))))) y_nil))
theorem sc15 : FnScope ["kinds", "bits", "lot"] ["kinds"] (defScope (top 23)) := ⟨rfl, rfl, rfl, by decide +kernel, rfl, by decide +kernel, by decide +kernel⟩
theorem p15 (T : Tx K mg ca) (I : Al P w K mg base ca n) (hB : ∃ mm, base.Ns sysModules mm) : CalI P w K mg base (gw ca) (n + 1) 15 "plain_kinds" ["kinds"] :=
  have nd := sc15.nd
  cal_s T.d15 sc15 rfl fun f cdv A outer t H E hr hgd => ((y_cons (y_ret (x_tuple T.z_tuple (x_lc [("lot", 2)] nd (i_seq (x_sorted (f_sorted hr T.z_sorted (x_lc [("bits", 1)] nd (i_seq (x_sset (f_sset T.z_sorted T.z_set (x_var 0)))) (fun _ _ _ _ _ => (gt_1 1 nd)) (fun _ _ _ _ _ => c_no) (fun _ _ _ _ _ => (x_call I.c12 hr hgd takes0 (a1 (x_var 1) a0))))))) (fun _ _ _ _ _ => (gt_1 2 nd)) (fun _ _ _ _ _ => c_no) (fun _ _ _ _ _ => (x_call I.c10 hr hgd takes0 (a1 (x_var 2) a0)))))) y_nil))
theorem sc16 : FnScope ["self", "shelves", "deliveries", "sales", "kind"] ["self", "shelves", "deliveries", "sales"] (defScope (mem (top 24) 0)) := ⟨rfl, rfl, rfl, by decide +kernel, rfl, by decide +kernel, by decide +kernel⟩
theorem p16 (T : Tx K mg ca) (I : Al P w K mg base ca n) (hB : ∃ mm, base.Ns sysModules mm) : MkI P w K mg base (gw ca) (n + 1) 16 (ca 5) "Store" ["self", "shelves", "deliveries", "sales"] :=
  have nd := sc16.nd
  mk_s T.d16 sc16 rfl fun f cdv A outer t H E hr hgd => ((y_cons (z_ex (x_call I.c8 hr hgd tk_D (a1 (x_var 1) a0))) (y_cons (y_if (t_not (x_t (x_call I.c14 hr hgd tk_D (a1 (x_var 1) (a1 (x_var 2) a0))))) (y_cons y_stop y_nil) y_nil) (y_cons (y_if (t_not (x_t (x_call I.c14 hr hgd tk_D (a1 (x_var 1) (a1 (x_var 3) a0))))) (y_cons y_stop y_nil) y_nil) (y_cons (z_fset 1 T.cf (x_var 0) (x_var 1)) (y_cons (z_fset 2 T.cf (x_var 0) (x_call I.c15 hr hgd tk_D (a1 (x_lc [("kind", 4)] nd (i_seq (x_var 2)) (fun _ _ _ _ _ => (gt_1 4 nd)) (fun _ _ _ _ _ => c_no) (fun _ _ _ _ _ => (x_call I.c10 hr hgd takes0 (a1 (x_var 4) a0)))) a0))) (y_cons (z_fset 3 T.cf (x_var 0) (x_call I.c15 hr hgd tk_D (a1 (x_lc [("kind", 4)] nd (i_seq (x_var 3)) (fun _ _ _ _ _ => (gt_1 4 nd)) (fun _ _ _ _ _ => c_no) (fun _ _ _ _ _ => (x_call I.c10 hr hgd takes0 (a1 (x_var 4) a0)))) a0))) (y_cons (z_fset 4 T.cf (x_var 0) s_ad0) y_nil))))))))
theorem sc21 : FnScope ["value"] ["value"] (defScope (top 25)) := ⟨rfl, rfl, rfl, by decide +kernel, rfl, by decide +kernel, by decide +kernel⟩
theorem p21 (T : Tx K mg ca) (I : Al P w K mg base ca n) (hB : ∃ mm, base.Ns sysModules mm) : CalI P w K mg base (gw ca) (n + 1) 21 "want_store" ["value"] :=
  have nd := sc21.nd
  cal_s T.d21 sc21 rfl fun f cdv A outer t H E hr hgd => ((y_cons (y_if (t_not (x_t (x_isinC 5 T.isf T.z_isinstance T.k_5 (x_var 0)))) (y_cons y_stop y_nil) y_nil) (y_cons (y_ret (x_var 0)) y_nil)))
theorem sc22 : FnScope ["store", "bits", "kind"] ["store", "bits"] (defScope (top 27)) := ⟨rfl, rfl, rfl, by decide +kernel, rfl, by decide +kernel, by decide +kernel⟩
theorem p22 (T : Tx K mg ca) (I : Al P w K mg base ca n) (hB : ∃ mm, base.Ns sysModules mm) : CalI P w K mg base (gw ca) (n + 1) 22 "led_on" ["store", "bits"] :=
  have nd := sc22.nd
  cal_s T.d22 sc22 rfl fun f cdv A outer t H E hr hgd => ((y_cons (y_ret (x_bin .add (x_lc [("kind", 2)] nd (i_seq (x_fld 2 T.cf (x_var 0))) (fun _ _ _ _ _ => (gt_1 2 nd)) (fun _ _ _ _ _ => c_no) (fun _ _ _ _ _ => (x_bin .bor (x_var 1) (x_var 2)))) (x_lc [("kind", 2)] nd (i_seq (x_fld 3 T.cf (x_var 0))) (fun _ _ _ _ _ => (gt_1 2 nd)) (fun _ _ _ _ _ => c_no) (fun _ _ _ _ _ => (x_bin .band (x_var 1) (s_inv (x_var 2))))))) y_nil))
theorem sc23 : FnScope ["store", "value", "one"] ["store", "value"] (defScope (top 28)) := ⟨rfl, rfl, rfl, by decide +kernel, rfl, by decide +kernel, by decide +kernel⟩
theorem p23 (T : Tx K mg ca) (I : Al P w K mg base ca n) (hB : ∃ mm, base.Ns sysModules mm) : CalI P w K mg base (gw ca) (n + 1) 23 "are_lots" ["store", "value"] :=
  have nd := sc23.nd
  cal_s T.d23 sc23 rfl fun f cdv A outer t H E hr hgd => ((y_cons (y_ret (v_and (x_call I.c6 hr hgd tk_D (a1 (x_var 1) a0)) (v_one (x_all T.z_all (x_lc [("one", 2)] nd (i_seq (x_var 1)) (fun _ _ _ _ _ => (gt_1 2 nd)) (fun _ _ _ _ _ => c_no) (fun _ _ _ _ _ => (x_call I.c9 hr hgd takes0 (a1 (x_fld 1 T.cf (x_var 0)) (a1 (x_var 2) a0))))))))) y_nil))
theorem sc24 : FnScope ["store", "value", "some", "lot", "bits", "one"] ["store", "value"] (defScope (top 29)) := ⟨rfl, rfl, rfl, by decide +kernel, rfl, by decide +kernel, by decide +kernel⟩
theorem p24 (T : Tx K mg ca) (I : Al P w K mg base ca n) (hB : ∃ mm, base.Ns sysModules mm) : CalI P w K mg base (gw ca) (n + 1) 24 "is_closed_of" ["store", "value"] :=
  have nd := sc24.nd
  cal_s T.d24 sc24 rfl fun f cdv A outer t H E hr hgd => ((y_cons (y_if (t_not (x_t (x_call I.c23 hr hgd tk_D (a1 (x_var 0) (a1 (x_var 1) a0))))) (y_cons (y_ret x_bl) y_nil) y_nil) (y_cons (z_set 2 nd (x_lc [("lot", 3)] nd (i_seq (x_var 1)) (fun _ _ _ _ _ => (gt_1 3 nd)) (fun _ _ _ _ _ => c_no) (fun _ _ _ _ _ => (x_call I.c10 hr hgd takes0 (a1 (x_var 3) a0))))) (y_cons (y_ret (v_and (x_cmp .inn hr x_int (x_var 2)) (v_one (x_all T.z_all (x_lc [("bits", 4)] nd (i_seq (x_var 2)) (fun _ _ _ _ _ => (gt_1 4 nd)) (fun _ _ _ _ _ => c_no) (fun _ _ _ _ _ => (x_all T.z_all (x_lc [("one", 5)] nd (i_seq (x_call I.c22 hr hgd takes0 (a1 (x_var 0) (a1 (x_var 4) a0)))) (fun _ _ _ _ _ => (gt_1 5 nd)) (fun _ _ _ _ _ => c_no) (fun _ _ _ _ _ => (x_cmp .inn hr (x_var 5) (x_var 2))))))))))) y_nil))))
theorem sc25 : FnScope ["store", "value"] ["store", "value"] (defScope (top 30)) := ⟨rfl, rfl, rfl, by decide +kernel, rfl, by decide +kernel, by decide +kernel⟩
theorem p25 (T : Tx K mg ca) (I : Al P w K mg base ca n) (hB : ∃ mm, base.Ns sysModules mm) : CalI P w K mg base (gw ca) (n + 1) 25 "is_closed" ["store", "value"] :=
  have nd := sc25.nd
  cal_s T.d25 sc25 rfl fun f cdv A outer t H E hr hgd => ((y_cons (z_ex (x_call I.c21 hr hgd tk_D (a1 (x_var 0) a0))) (y_cons (y_ret (x_call I.c24 hr hgd tk_D (a1 (x_var 0) (a1 (x_var 1) a0)))) y_nil)))
theorem sc26 : FnScope ["_law_script", "_law_k", "_law_cell"] ["_law_script", "_law_k"] (defScope (top 32)) := ⟨rfl, rfl, rfl, by decide +kernel, rfl, by decide +kernel, by decide +kernel⟩
theorem p26 (T : Tx K mg ca) (I : Al P w K mg base ca n) (hB : ∃ mm, base.Ns sysModules mm) : CalI P w K mg base (gw ca) (n + 1) 26 "_law_pot" ["_law_script", "_law_k"] :=
  have nd := sc26.nd
  cal_s T.d26 sc26 rfl fun f cdv A outer t H E hr hgd => ((y_cons (z_set 2 nd (x_bin .add (x_bin .add (x_bin .mul x_int (x_var 1)) x_int) (x_bin .mod (x_sum T.z_sum (s_slc (x_var 0) s_oN (s_oS x_int))) x_int))) (y_cons (y_if (t_cmp .lt hr (x_var 1) (x_len T.z_len (x_var 0))) (y_cons (z_set 2 nd (x_abs T.z_abs (x_idx hr (x_var 0) (x_var 1)))) y_nil) y_nil) (y_cons (y_ret (x_alst (a1 (x_max2 T.z_max x_int (x_bin .sub (x_var 2) (x_bin .pow x_int x_int))) (a1 (x_bin .add (x_bin .mod (x_bin .mul (x_int1 T.z_int (x_bin .add (x_bin .mod (x_int1 T.z_int (x_var 2)) x_int) x_int)) (x_bin .pow (x_bin .add (x_bin .mul x_int (x_var 1)) x_int) x_int)) x_int) x_int) a0)))) y_nil))))
theorem sc27 : FnScope ["_law_pot_here", "_law_many", "_law_digit"] ["_law_pot_here", "_law_many"] (defScope (top 33)) := ⟨rfl, rfl, rfl, by decide +kernel, rfl, by decide +kernel, by decide +kernel⟩
theorem p27 (T : Tx K mg ca) (I : Al P w K mg base ca n) (hB : ∃ mm, base.Ns sysModules mm) : CalI P w K mg base (gw ca) (n + 1) 27 "_law_draw" ["_law_pot_here", "_law_many"] :=
  have nd := sc27.nd
  cal_s T.d27 sc27 rfl fun f cdv A outer t H E hr hgd => ((y_cons (y_if (t_cmp .gt hr (x_idx hr (x_var 0) x_int) x_int) (y_cons (z_asg (x_divmod T.z_divmod (x_idx hr (x_var 0) x_int) (x_var 1)) (t_tp (ts_1 (t_sub (x_var 0) x_int) (ts_1 (t_nm 2 nd) ts_0)))) (y_cons (y_ret (x_var 2)) y_nil)) y_nil) (y_cons (z_asg (x_bin .mod (x_int1 T.z_int (x_bin .add (x_bin .mul (x_idx hr (x_var 0) x_int) x_int) x_int)) x_int) (t_sub (x_var 0) x_int)) (y_cons (y_ret (x_bin .mod (x_int1 T.z_int (x_bin .div (x_bin .mod (x_int1 T.z_int (x_bin .mul (x_idx hr (x_var 0) x_int) (x_idx hr (x_var 0) x_int))) x_int) x_int)) (x_var 1))) y_nil))))
theorem sc28 : FnScope ["_law_pot_here", "_law_shelves", "_law_found", "_law_shelf"] ["_law_pot_here", "_law_shelves"] (defScope (top 34)) := ⟨rfl, rfl, rfl, by decide +kernel, rfl, by decide +kernel, by decide +kernel⟩
theorem p28 (T : Tx K mg ca) (I : Al P w K mg base ca n) (hB : ∃ mm, base.Ns sysModules mm) : CalI P w K mg base (gw ca) (n + 1) 28 "_law_kind" ["_law_pot_here", "_law_shelves"] :=
  have nd := sc28.nd
  cal_s T.d28 sc28 rfl fun f cdv A outer t H E hr hgd => ((y_cons (z_setLc 2 [("_law_shelf", 3)] nd (i_range T.z_range (x_var 1)) (fun _ _ _ _ _ => (gt_1 3 nd)) (fun _ _ _ _ _ => (c_if (t_cmp .eq hr (x_call I.c27 hr hgd takes0 (a1 (x_var 0) (a1 x_int a0))) x_int))) (fun _ _ _ _ _ => (x_var 3))) (y_cons (y_ret (v_ite (t_cmp .ne hr (x_var 2) (x_lst a0)) (x_var 2) (x_lst (a1 (x_call I.c27 hr hgd tk_D (a1 (x_var 0) (a1 (x_var 1) a0))) a0)))) y_nil)))
theorem sc29 : FnScope ["_law_pot_here", "_law_shelves", "_law_most", "_law_found", "_law_turn", "_law_kind_here"] ["_law_pot_here", "_law_shelves", "_law_most"] (defScope (top 35)) := ⟨rfl, rfl, rfl, by decide +kernel, rfl, by decide +kernel, by decide +kernel⟩
theorem p29 (T : Tx K mg ca) (I : Al P w K mg base ca n) (hB : ∃ mm, base.Ns sysModules mm) : CalI P w K mg base (gw ca) (n + 1) 29 "_law_kinds" ["_law_pot_here", "_law_shelves", "_law_most"] :=
  have nd := sc29.nd
  cal_s T.d29 sc29 rfl fun f cdv A outer t H E hr hgd => ((y_cons (z_set 3 nd (x_alst a0)) (y_cons (z_for own_D (i_range T.z_range (x_call I.c27 hr hgd tk_D (a1 (x_var 0) (a1 (x_bin .add (x_var 2) x_int) a0)))) (gt_1 4 nd) (y_cons (z_set 5 nd (x_call I.c28 hr hgd tk_D (a1 (x_var 0) (a1 (x_var 1) a0)))) (y_cons (y_if (t_cmp .nin hr (x_var 5) (x_var 3)) (y_cons (z_ex (x_app (x_var 3) (x_var 5))) y_nil) y_nil) y_nil))) (y_cons (y_ret (x_sorted (f_sorted hr T.z_sorted (x_var 3)))) y_nil))))
theorem sc30 : FnScope ["_law_pot_here", "_law_most", "_law_shelves"] ["_law_pot_here", "_law_most"] (defScope (top 36)) := ⟨rfl, rfl, rfl, by decide +kernel, rfl, by decide +kernel, by decide +kernel⟩
theorem p30 (T : Tx K mg ca) (I : Al P w K mg base ca n) (hB : ∃ mm, base.Ns sysModules mm) : CalI P w K mg base (gw ca) (n + 1) 30 "_law_parts" ["_law_pot_here", "_law_most"] :=
  have nd := sc30.nd
  cal_s T.d30 sc30 rfl fun f cdv A outer t H E hr hgd => ((y_cons (z_set 2 nd (x_bin .add x_int (x_call I.c27 hr hgd tk_D (a1 (x_var 0) (a1 (x_bin .sub (x_var 1) x_int) a0))))) (y_cons (y_ret (x_tup (a1 (x_var 2) (a1 (x_call I.c29 hr hgd tk_D (a1 (x_var 0) (a1 (x_var 2) (a1 x_int a0)))) (a1 (x_call I.c29 hr hgd tk_D (a1 (x_var 0) (a1 (x_var 2) (a1 x_int a0)))) a0))))) y_nil)))
theorem sc31 : FnScope ["_law_lot", "_law_kind_here", "_law_shelf"] ["_law_lot", "_law_kind_here"] (defScope (top 37)) := ⟨rfl, rfl, rfl, by decide +kernel, rfl, by decide +kernel, by decide +kernel⟩
theorem p31 (T : Tx K mg ca) (I : Al P w K mg base ca n) (hB : ∃ mm, base.Ns sysModules mm) : CalI P w K mg base (gw ca) (n + 1) 31 "_law_laid" ["_law_lot", "_law_kind_here"] :=
  have nd := sc31.nd
  cal_s T.d31 sc31 rfl fun f cdv A outer t H E hr hgd => ((y_cons (y_ret (x_sorted (f_sorted hr T.z_sorted (x_bin .add (x_var 0) (x_lc [("_law_shelf", 2)] nd (i_seq (x_var 1)) (fun _ _ _ _ _ => (gt_1 2 nd)) (fun _ _ _ _ _ => (c_if (t_cmp .nin hr (x_var 2) (x_var 0)))) (fun _ _ _ _ _ => (x_var 2))))))) y_nil))
theorem sc32 : FnScope ["_law_lot", "_law_kind_here", "_law_shelf"] ["_law_lot", "_law_kind_here"] (defScope (top 38)) := ⟨rfl, rfl, rfl, by decide +kernel, rfl, by decide +kernel, by decide +kernel⟩
theorem p32 (T : Tx K mg ca) (I : Al P w K mg base ca n) (hB : ∃ mm, base.Ns sysModules mm) : CalI P w K mg base (gw ca) (n + 1) 32 "_law_off" ["_law_lot", "_law_kind_here"] :=
  have nd := sc32.nd
  cal_s T.d32 sc32 rfl fun f cdv A outer t H E hr hgd => ((y_cons (y_ret (x_lc [("_law_shelf", 2)] nd (i_seq (x_var 0)) (fun _ _ _ _ _ => (gt_1 2 nd)) (fun _ _ _ _ _ => (c_if (t_cmp .nin hr (x_var 2) (x_var 1)))) (fun _ _ _ _ _ => (x_var 2)))) y_nil))
theorem sc33 : FnScope ["_law_deliveries", "_law_sales", "_law_lots", "_law_found", "_law_left", "_law_lot", "_law_kind_here"] ["_law_deliveries", "_law_sales", "_law_lots"] (defScope (top 39)) := ⟨rfl, rfl, rfl, by decide +kernel, rfl, by decide +kernel, by decide +kernel⟩
theorem p33 (T : Tx K mg ca) (I : Al P w K mg base ca n) (hB : ∃ mm, base.Ns sysModules mm) : CalI P w K mg base (gw ca) (n + 1) 33 "_law_closed" ["_law_deliveries", "_law_sales", "_law_lots"] :=
  have nd := sc33.nd
  cal_s T.d33 sc33 rfl fun f cdv A outer t H E hr hgd => ((y_cons (z_par2 3 4 nd (a1 (x_alst a0) (a1 (x_abin .add (x_lst (a1 (x_lst a0) a0)) (x_lc [("_law_lot", 5)] nd (i_seq (x_var 2)) (fun _ _ _ _ _ => (gt_1 5 nd)) (fun _ _ _ _ _ => c_no) (fun _ _ _ _ _ => (x_sorted (f_sorted hr T.z_sorted (x_var 5)))))) a0))) (y_cons (y_whl own_D (t_cmp .ne hr (x_var 4) (x_lst a0)) (y_cons (z_set 5 nd (x_pop (x_var 4))) (y_cons (y_if (t_cmp .nin hr (x_var 5) (x_var 3)) (y_cons (z_ex (x_app (x_var 3) (x_var 5))) (y_cons (z_ex (x_ext (x_var 4) (x_bin .add (x_lc [("_law_kind_here", 6)] nd (i_seq (x_var 0)) (fun _ _ _ _ _ => (gt_1 6 nd)) (fun _ _ _ _ _ => c_no) (fun _ _ _ _ _ => (x_call I.c31 hr hgd takes0 (a1 (x_var 5) (a1 (x_var 6) a0))))) (x_lc [("_law_kind_here", 6)] nd (i_seq (x_var 1)) (fun _ _ _ _ _ => (gt_1 6 nd)) (fun _ _ _ _ _ => c_no) (fun _ _ _ _ _ => (x_call I.c32 hr hgd takes0 (a1 (x_var 5) (a1 (x_var 6) a0)))))))) y_nil)) y_nil) y_nil))) (y_cons (y_ret (x_sorted (f_sorted hr T.z_sorted (x_var 3)))) y_nil))))
theorem sc34 : FnScope ["_law_shelves", "_law_found", "_law_shelf", "_law_lot"] ["_law_shelves"] (defScope (top 40)) := ⟨rfl, rfl, rfl, by decide +kernel, rfl, by decide +kernel, by decide +kernel⟩
theorem p34 (T : Tx K mg ca) (I : Al P w K mg base ca n) (hB : ∃ mm, base.Ns sysModules mm) : CalI P w K mg base (gw ca) (n + 1) 34 "_law_all_lots" ["_law_shelves"] :=
  have nd := sc34.nd
  cal_s T.d34 sc34 rfl fun f cdv A outer t H E hr hgd => ((y_cons (z_set 1 nd (x_lst (a1 (x_lst a0) a0))) (y_cons (z_for own_D (i_range T.z_range (x_var 0)) (gt_1 2 nd) (y_cons (z_set 1 nd (x_bin .add (x_var 1) (x_lc [("_law_lot", 3)] nd (i_seq (x_var 1)) (fun _ _ _ _ _ => (gt_1 3 nd)) (fun _ _ _ _ _ => c_no) (fun _ _ _ _ _ => (x_bin .add (x_var 3) (x_lst (a1 (x_var 2) a0))))))) y_nil)) (y_cons (y_ret (x_var 1)) y_nil))))
theorem sc35 : FnScope ["_law_shelves", "_law_deliveries", "_law_sales", "_law_value", "_law_lots", "_law_lot", "_law_one", "_law_kind_here"] ["_law_shelves", "_law_deliveries", "_law_sales", "_law_value"] (defScope (top 41)) := ⟨rfl, rfl, rfl, by decide +kernel, rfl, by decide +kernel, by decide +kernel⟩
theorem p35 (T : Tx K mg ca) (I : Al P w K mg base ca n) (hB : ∃ mm, base.Ns sysModules mm) : CalI P w K mg base (gw ca) (n + 1) 35 "_law_is_family" ["_law_shelves", "_law_deliveries", "_law_sales", "_law_value"] :=
  have nd := sc35.nd
  cal_s T.d35 sc35 rfl fun f cdv A outer t H E hr hgd => ((y_cons (y_if (t_not (x_t (x_isin2 T.isf T.z_isinstance T.z_list T.z_tuple (x_var 3)))) (y_cons (y_ret x_bl) y_nil) y_nil) (y_cons (z_set 4 nd (x_alst a0)) (y_cons (z_for own_D (i_seq (x_var 3)) (gt_1 5 nd) (y_cons (y_if (PW.pt (w_or (t_not (x_t (x_isin2 T.isf T.z_isinstance T.z_list T.z_tuple (x_var 5)))) (w_one (t_not (x_t (x_all T.z_all (x_lc [("_law_one", 6)] nd (i_seq (x_var 5)) (fun _ _ _ _ _ => (gt_1 6 nd)) (fun _ _ _ _ _ => c_no) (fun _ _ _ _ _ => (v_and (x_isin .int T.isf T.z_isinstance T.z_int (by decide +kernel : bootBuiltins "int" = some (.type "int")) (x_var 6)) (v_and (v_not (x_isin .bool T.isf T.z_isinstance T.z_bool (by decide +kernel : bootBuiltins "bool" = some (.type "bool")) (x_var 6))) (v_one (x_chn .le .lt hr x_int (x_var 6) (x_var 0))))))))))))) (y_cons (y_ret x_bl) y_nil) y_nil) (y_cons (z_ex (x_app (x_var 4) (x_sorted (f_sorted hr T.z_sorted (x_var 5))))) (y_cons (y_if (t_cmp .lt hr (x_lset T.z_len T.z_set (x_idx hr (x_var 4) (s_neg x_int))) (x_len T.z_len (x_idx hr (x_var 4) (s_neg x_int)))) (y_cons (y_ret x_bl) y_nil) y_nil) y_nil)))) (y_cons (y_if (t_cmp .nin hr (x_lst a0) (x_var 4)) (y_cons (y_ret x_bl) y_nil) y_nil) (y_frz (y_cons (z_for own_D (i_seq (x_var 4)) (gt_1 5 nd) (y_cons (y_if (PW.pt (w_or (t_not (x_t (x_all T.z_all (x_lc [("_law_kind_here", 7)] nd (i_seq (x_var 1)) (fun _ _ _ _ _ => (gt_1 7 nd)) (fun _ _ _ _ _ => c_no) (fun _ _ _ _ _ => (x_cmp .inn hr (x_call I.c31 hr hgd takes0 (a1 (x_var 5) (a1 (x_var 7) a0))) (x_var 4))))))) (w_one (t_not (x_t (x_all T.z_all (x_lc [("_law_kind_here", 7)] nd (i_seq (x_var 2)) (fun _ _ _ _ _ => (gt_1 7 nd)) (fun _ _ _ _ _ => c_no) (fun _ _ _ _ _ => (x_cmp .inn hr (x_call I.c32 hr hgd takes0 (a1 (x_var 5) (a1 (x_var 7) a0))) (x_var 4)))))))))) (y_cons (y_ret x_bl) y_nil) y_nil) y_nil)) (y_cons (y_ret x_bl) y_nil))))))))
theorem sc36 : FnScope ["_law_pot_here", "_law_shelves", "_law_deliveries", "_law_sales", "_law_store", "_law_values", "_law_base", "_law_at", "_law_lot", "_law_odd", "_law_value", "_law_due", "_law_shown", "_law_one"] ["_law_pot_here"] (defScope (top 42)) := ⟨rfl, rfl, rfl, by decide +kernel, rfl, by decide +kernel, by decide +kernel⟩
theorem p36 (T : Tx K mg ca) (I : Al P w K mg base ca n) (hB : ∃ mm, base.Ns sysModules mm) : CalI P w K mg base (gw ca) (n + 1) 36 "_law_right" ["_law_pot_here"] :=
  have nd := sc36.nd
  cal_s T.d36 sc36 rfl fun f cdv A outer t H E hr hgd => ((y_cons (z_asg (x_call I.c30 hr hgd tk_D (a1 (x_var 0) (a1 x_int a0))) (t_tp (ts_1 (t_nm 1 nd) (ts_1 (t_nm 2 nd) (ts_1 (t_nm 3 nd) ts_0))))) (y_cons (z_par2 4 5 nd (a1 (x_mk I.m5 T.cf hr hgd tk_D (a1 (x_var 1) (a1 (x_var 2) (a1 (x_var 3) a0)))) (a1 (x_alst a0) a0))) (y_cons (z_for own_D (i_seq (x_lst (a1 (x_call I.c33 hr hgd tk_D (a1 (x_var 2) (a1 (x_var 3) (a1 (x_lst a0) a0)))) (a1 (x_call I.c33 hr hgd tk_D (a1 (x_var 2) (a1 (x_var 3) (a1 (x_lst (a1 (x_call I.c28 hr hgd tk_D (a1 (x_var 0) (a1 (x_var 1) a0))) a0)) a0)))) a0)))) (gt_1 6 nd) (y_cons (z_par2 7 8 nd (a1 (x_call I.c27 hr hgd tk_D (a1 (x_var 0) (a1 (x_len T.z_len (x_var 6)) a0))) (a1 (x_call I.c28 hr hgd tk_D (a1 (x_var 0) (a1 (x_var 1) a0))) a0))) (y_cons (z_ex (x_ext (x_var 5) (x_lst (a1 (x_var 6) (a1 (x_tuple T.z_tuple (x_var 6)) (a1 (x_rev (x_var 6)) (a1 (x_bin .add (x_var 6) (s_slc (x_var 6) s_oN (s_oS x_int))) (a1 (x_bin .add (s_slc (x_var 6) s_oN (s_oS (x_var 7))) (s_slc (x_var 6) (s_oS (x_bin .add (x_var 7) x_int)) s_oN)) (a1 (x_bin .add (x_var 6) (x_lst (a1 (x_var 8) a0))) (a1 (x_lc [("_law_one", 13)] nd (i_seq (x_var 6)) (fun _ _ _ _ _ => (gt_1 13 nd)) (fun _ _ _ _ _ => c_no) (fun _ _ _ _ _ => (x_tuple T.z_tuple (x_rev (x_var 13))))) a0)))))))))) (y_cons (z_for own_D (i_seq (x_lst (a1 x_non (a1 x_int (a1 x_str (a1 (x_lst (a1 x_bl a0)) (a1 (x_lst (a1 (x_var 1) a0)) (a1 (x_bin .add (x_var 8) (s_slc (x_var 8) s_oN (s_oS x_int))) (a1 (x_lst (a1 (s_neg x_int) a0)) (a1 (x_lst (a1 x_non a0)) (a1 (x_lst (a1 (x_lst (a1 x_int a0)) a0)) (a1 s_d0 a0)))))))))))) (gt_1 9 nd) (y_cons (z_ex (x_app (x_var 5) (x_bin .add (x_bin .add (s_slc (x_var 6) s_oN (s_oS (x_var 7))) (x_lst (a1 (x_var 9) a0))) (s_slc (x_var 6) (s_oS (x_bin .add (x_var 7) x_int)) s_oN)))) y_nil)) y_nil)))) (y_cons (z_set 5 nd (x_abin .add (x_var 5) (x_lst (a1 (x_call I.c34 hr hgd tk_D (a1 (x_var 1) a0)) (a1 (x_lst (a1 (x_lst a0) a0)) (a1 (x_lst a0) (a1 x_non (a1 x_bl (a1 x_int (a1 x_str (a1 s_d0 (a1 (x_lst (a1 (x_lst a0) (a1 (x_lst a0) a0))) (a1 (x_tup (a1 (x_lst a0) a0)) (a1 (x_lst (a1 (x_lst (a1 x_int a0)) a0)) (a1 (x_lst (a1 (x_lst a0) (a1 (x_lrng T.z_list T.z_range (x_var 1)) a0))) a0))))))))))))))) (y_frz (y_cons (z_for own_D (i_seq (x_var 5)) (gt_1 10 nd) (y_cons (z_par2 11 12 nd (a1 (x_call I.c35 hr hgd tk_D (a1 (x_var 1) (a1 (x_var 2) (a1 (x_var 3) (a1 (x_var 10) a0))))) (a1 (x_repr hr hgd hB T.z_repr (x_var 10)) a0))) (y_cons (y_if (PW.pt (w_or (t_cmp .ne hr (x_repr hr hgd hB T.z_repr (x_call I.c25 hr hgd tk_D (a1 (x_var 4) (a1 (x_var 10) a0)))) (x_repr hr hgd hB T.z_repr (x_var 11))) (w_one (t_cmp .ne hr (x_repr hr hgd hB T.z_repr (x_var 10)) (x_var 12))))) (y_cons (y_ret x_bl) y_nil) y_nil) y_nil))) (y_cons (y_ret (s_isB (ng := false) (x_callk I.c25 T.kw25_value_store hr hgd tk_D (k1 (x_idx hr (x_var 5) x_int) (k1 (x_var 4) k0)))).1) y_nil))))))))
theorem sc37 : FnScope ["_law_script"] ["_law_script"] (defScope (top 43)) := ⟨rfl, rfl, rfl, by decide +kernel, rfl, by decide +kernel, by decide +kernel⟩
theorem al (T : Tx K mg ca) (hB : ∃ mm, base.Ns sysModules mm) : ∀ n : Nat, Al P w K mg base ca n
  | 0 => ⟨cal_0 T.d4, cal_0 T.d5, cal_0 T.d6, cal_0 T.d7, cal_0 T.d8, cal_0 T.d9, cal_0 T.d10, cal_0 T.d11, cal_0 T.d12, cal_0 T.d13, cal_0 T.d14, cal_0 T.d15, mk_0 T.d16, cal_0 T.d21, cal_0 T.d22, cal_0 T.d23, cal_0 T.d24, cal_0 T.d25, cal_0 T.d26, cal_0 T.d27, cal_0 T.d28, cal_0 T.d29, cal_0 T.d30, cal_0 T.d31, cal_0 T.d32, cal_0 T.d33, cal_0 T.d34, cal_0 T.d35, cal_0 T.d36⟩
  | n + 1 =>
    have I := al T hB n
    ⟨p4 T I hB, p5 T I hB, p6 T I hB, p7 T I hB, p8 T I hB, p9 T I hB, p10 T I hB, p11 T I hB, p12 T I hB, p13 T I hB, p14 T I hB, p15 T I hB, p16 T I hB, p21 T I hB, p22 T I hB, p23 T I hB, p24 T I hB, p25 T I hB, p26 T I hB, p27 T I hB, p28 T I hB, p29 T I hB, p30 T I hB, p31 T I hB, p32 T I hB, p33 T I hB, p34 T I hB, p35 T I hB, p36 T I hB⟩
theorem plaw (T : Tx K mg ca) (I : Al P w K mg base ca n) (hB : ∃ mm, base.Ns sysModules mm) {f : Addr} {fd : FuncData} (F : L2.Fun K "law" "law" (top 43) f fd) : FnG P w K mg base (2 * (n + 1)) f fd ["_law_script"] (spI (gw ca) K (n + 1) 37 1) :=
  have nd := sc37.nd
  fn_of_fun F sc37 rfl fun f cdv A outer t H E hr hgd => ((y_cons (y_ret (x_call I.c36 hr hgd tk_D (a1 (x_call I.c26 hr hgd tk_D (a1 (x_var 0) (a1 x_int a0))) a0))) y_nil))
end
theorem knC_cases {c : Nat} (h : knC c = true) : c = 5 := by
  unfold knC at h
  split at h <;> simp_all
set_option maxRecDepth 100000 in
theorem mk {P : Program} {w : World} {K : PySem.W.Frag} {h : Heap} {mg : Str → Option Value} {fa : Addr} (X : K.In h) (G : h.Ns mainGlobals mg) (hfa : mg "law" = some (.ref fa))
    {C5 : Addr}
    {f4 : Addr} {od4 an4 : Option Addr} {sl4 : Array (Option Value)} {oc4 kV4 dc4 pm4 cd4 ct4 : Value}
    {f5 : Addr} {od5 an5 : Option Addr} {sl5 : Array (Option Value)} {oc5 kV5 dc5 pm5 cd5 ct5 : Value}
    {f6 : Addr} {od6 an6 : Option Addr} {sl6 : Array (Option Value)} {oc6 kV6 dc6 pm6 cd6 ct6 : Value}
    {f7 : Addr} {od7 an7 : Option Addr} {sl7 : Array (Option Value)} {oc7 kV7 dc7 pm7 cd7 ct7 : Value}
    {f8 : Addr} {od8 an8 : Option Addr} {sl8 : Array (Option Value)} {oc8 kV8 dc8 pm8 cd8 ct8 : Value}
    {f9 : Addr} {od9 an9 : Option Addr} {sl9 : Array (Option Value)} {oc9 kV9 dc9 pm9 cd9 ct9 : Value}
    {f10 : Addr} {od10 an10 : Option Addr} {sl10 : Array (Option Value)} {oc10 kV10 dc10 pm10 cd10 ct10 : Value}
    {f11 : Addr} {od11 an11 : Option Addr} {sl11 : Array (Option Value)} {oc11 kV11 dc11 pm11 cd11 ct11 : Value}
    {f12 : Addr} {od12 an12 : Option Addr} {sl12 : Array (Option Value)} {oc12 kV12 dc12 pm12 cd12 ct12 : Value}
    {f13 : Addr} {od13 an13 : Option Addr} {sl13 : Array (Option Value)} {oc13 kV13 dc13 pm13 cd13 ct13 : Value}
    {f14 : Addr} {od14 an14 : Option Addr} {sl14 : Array (Option Value)} {oc14 kV14 dc14 pm14 cd14 ct14 : Value}
    {f15 : Addr} {od15 an15 : Option Addr} {sl15 : Array (Option Value)} {oc15 kV15 dc15 pm15 cd15 ct15 : Value}
    {f16 : Addr} {od16 an16 : Option Addr} {sl16 : Array (Option Value)} {oc16 kV16 dc16 pm16 cd16 ct16 : Value}
    {f21 : Addr} {od21 an21 : Option Addr} {sl21 : Array (Option Value)} {oc21 kV21 dc21 pm21 cd21 ct21 : Value}
    {f22 : Addr} {od22 an22 : Option Addr} {sl22 : Array (Option Value)} {oc22 kV22 dc22 pm22 cd22 ct22 : Value}
    {f23 : Addr} {od23 an23 : Option Addr} {sl23 : Array (Option Value)} {oc23 kV23 dc23 pm23 cd23 ct23 : Value}
    {f24 : Addr} {od24 an24 : Option Addr} {sl24 : Array (Option Value)} {oc24 kV24 dc24 pm24 cd24 ct24 : Value}
    {f25 : Addr} {od25 an25 : Option Addr} {sl25 : Array (Option Value)} {oc25 kV25 dc25 pm25 cd25 ct25 : Value}
    {f26 : Addr} {od26 an26 : Option Addr} {sl26 : Array (Option Value)} {oc26 kV26 dc26 pm26 cd26 ct26 : Value}
    {f27 : Addr} {od27 an27 : Option Addr} {sl27 : Array (Option Value)} {oc27 kV27 dc27 pm27 cd27 ct27 : Value}
    {f28 : Addr} {od28 an28 : Option Addr} {sl28 : Array (Option Value)} {oc28 kV28 dc28 pm28 cd28 ct28 : Value}
    {f29 : Addr} {od29 an29 : Option Addr} {sl29 : Array (Option Value)} {oc29 kV29 dc29 pm29 cd29 ct29 : Value}
    {f30 : Addr} {od30 an30 : Option Addr} {sl30 : Array (Option Value)} {oc30 kV30 dc30 pm30 cd30 ct30 : Value}
    {f31 : Addr} {od31 an31 : Option Addr} {sl31 : Array (Option Value)} {oc31 kV31 dc31 pm31 cd31 ct31 : Value}
    {f32 : Addr} {od32 an32 : Option Addr} {sl32 : Array (Option Value)} {oc32 kV32 dc32 pm32 cd32 ct32 : Value}
    {f33 : Addr} {od33 an33 : Option Addr} {sl33 : Array (Option Value)} {oc33 kV33 dc33 pm33 cd33 ct33 : Value}
    {f34 : Addr} {od34 an34 : Option Addr} {sl34 : Array (Option Value)} {oc34 kV34 dc34 pm34 cd34 ct34 : Value}
    {f35 : Addr} {od35 an35 : Option Addr} {sl35 : Array (Option Value)} {oc35 kV35 dc35 pm35 cd35 ct35 : Value}
    {f36 : Addr} {od36 an36 : Option Addr} {sl36 : Array (Option Value)} {oc36 kV36 dc36 pm36 cd36 ct36 : Value}
    {f37 : Addr} {od37 an37 : Option Addr} {sl37 : Array (Option Value)} {oc37 kV37 dc37 pm37 cd37 ct37 : Value}
    {t_0 : Tok}
    {t_1 : Tok}
    {t_2 : Tok}
    (aC5 : PySem.W.nsIn K mainGlobals "Store" = some (some (.ref C5)))
    (pg5 : PySem.W.plainGet K C5 Str.empty = true)
    (hd5 : PySem.W.hasDictIn K C5 = true)
    (po5 : PySem.W.plainOver K C5 = true)
    (sa5 : PySem.W.findIn K (.ref C5) "__setattr__" = some (some (.builtin "object.__setattr__")))
    (mk5 : PySem.W.makesIn K C5 = true)
    (kc5 : PySem.W.keepIn K (.ref C5) = true)
    (ih5 : PySem.W.findIn K (.ref C5) "__class__" = some (some (.builtin "object.__class__")))
    (in5 : PySem.W.specialIn K (.builtin "object.__class__") "__get__" = some (some (.builtin "getset_descriptor.__get__")))
    (it5 : PySem.W.takesIn K (.builtin "object.__class__") = some true)
    (im5 : PySem.W.mroIn K C5 (.type "object") = some true)
    (nA5_0 : PySem.W.findIn K (.ref C5) "value" = some none)
    (nA5_1 : PySem.W.findIn K (.ref C5) "own_shelves" = some none)
    (nA5_2 : PySem.W.findIn K (.ref C5) "own_deliveries" = some none)
    (nA5_3 : PySem.W.findIn K (.ref C5) "own_sales" = some none)
    (nA5_4 : PySem.W.findIn K (.ref C5) "own_kept" = some none)
    (ic5 : PySem.W.isClsIn K C5 = true)
    (ty5 : PySem.W.typeIn K (.ref C5) = some (.type "type"))
    (ko5_int : PySem.W.mroIn K C5 (.type "int") = some false)
    (ko5_bool : PySem.W.mroIn K C5 (.type "bool") = some false)
    (ko5_str : PySem.W.mroIn K C5 (.type "str") = some false)
    (ko5_list : PySem.W.mroIn K C5 (.type "list") = some false)
    (ko5_tuple : PySem.W.mroIn K C5 (.type "tuple") = some false)
    (a4 : PySem.W.nsIn K mainGlobals "is_integer" = some (some (.ref f4)))
    (l4 : K.lookup f4 = some ⟨oc4, od4, .func (PySem.W.fnOf "is_integer" "is_integer" (defArgs (top 7)) (defBody (top 7)) (defScope (top 7)) .none kV4 dc4 pm4 an4 cd4 ct4), sl4⟩)
    (c4 : PySem.W.codeIn K cd4 "is_integer" = true)
    (k4 : PySem.W.keepIn K (.ref f4) = true)
    (a5 : PySem.W.nsIn K mainGlobals "is_count" = some (some (.ref f5)))
    (l5 : K.lookup f5 = some ⟨oc5, od5, .func (PySem.W.fnOf "is_count" "is_count" (defArgs (top 8)) (defBody (top 8)) (defScope (top 8)) .none kV5 dc5 pm5 an5 cd5 ct5), sl5⟩)
    (c5 : PySem.W.codeIn K cd5 "is_count" = true)
    (k5 : PySem.W.keepIn K (.ref f5) = true)
    (a6 : PySem.W.nsIn K mainGlobals "is_list" = some (some (.ref f6)))
    (l6 : K.lookup f6 = some ⟨oc6, od6, .func (PySem.W.fnOf "is_list" "is_list" (defArgs (top 9)) (defBody (top 9)) (defScope (top 9)) .none kV6 dc6 pm6 an6 cd6 ct6), sl6⟩)
    (c6 : PySem.W.codeIn K cd6 "is_list" = true)
    (k6 : PySem.W.keepIn K (.ref f6) = true)
    (a7 : PySem.W.nsIn K mainGlobals "are_shelves" = some (some (.ref f7)))
    (l7 : K.lookup f7 = some ⟨oc7, od7, .func (PySem.W.fnOf "are_shelves" "are_shelves" (defArgs (top 13)) (defBody (top 13)) (defScope (top 13)) .none kV7 dc7 pm7 an7 cd7 ct7), sl7⟩)
    (c7 : PySem.W.codeIn K cd7 "are_shelves" = true)
    (k7 : PySem.W.keepIn K (.ref f7) = true)
    (a8 : PySem.W.nsIn K mainGlobals "want_shelves" = some (some (.ref f8)))
    (l8 : K.lookup f8 = some ⟨oc8, od8, .func (PySem.W.fnOf "want_shelves" "want_shelves" (defArgs (top 14)) (defBody (top 14)) (defScope (top 14)) .none kV8 dc8 pm8 an8 cd8 ct8), sl8⟩)
    (c8 : PySem.W.codeIn K cd8 "want_shelves" = true)
    (k8 : PySem.W.keepIn K (.ref f8) = true)
    (a9 : PySem.W.nsIn K mainGlobals "is_lot_of" = some (some (.ref f9)))
    (l9 : K.lookup f9 = some ⟨oc9, od9, .func (PySem.W.fnOf "is_lot_of" "is_lot_of" (defArgs (top 15)) (defBody (top 15)) (defScope (top 15)) .none kV9 dc9 pm9 an9 cd9 ct9), sl9⟩)
    (c9 : PySem.W.codeIn K cd9 "is_lot_of" = true)
    (k9 : PySem.W.keepIn K (.ref f9) = true)
    (a10 : PySem.W.nsIn K mainGlobals "bits_of" = some (some (.ref f10)))
    (l10 : K.lookup f10 = some ⟨oc10, od10, .func (PySem.W.fnOf "bits_of" "bits_of" (defArgs (top 16)) (defBody (top 16)) (defScope (top 16)) .none kV10 dc10 pm10 an10 cd10 ct10), sl10⟩)
    (c10 : PySem.W.codeIn K cd10 "bits_of" = true)
    (k10 : PySem.W.keepIn K (.ref f10) = true)
    (a11 : PySem.W.nsIn K mainGlobals "spots_of" = some (some (.ref f11)))
    (l11 : K.lookup f11 = some ⟨oc11, od11, .func (PySem.W.fnOf "spots_of" "spots_of" (defArgs (top 17)) (defBody (top 17)) (defScope (top 17)) .none kV11 dc11 pm11 an11 cd11 ct11), sl11⟩)
    (c11 : PySem.W.codeIn K cd11 "spots_of" = true)
    (k11 : PySem.W.keepIn K (.ref f11) = true)
    (a12 : PySem.W.nsIn K mainGlobals "told_lot" = some (some (.ref f12)))
    (l12 : K.lookup f12 = some ⟨oc12, od12, .func (PySem.W.fnOf "told_lot" "told_lot" (defArgs (top 18)) (defBody (top 18)) (defScope (top 18)) .none kV12 dc12 pm12 an12 cd12 ct12), sl12⟩)
    (c12 : PySem.W.codeIn K cd12 "told_lot" = true)
    (k12 : PySem.W.keepIn K (.ref f12) = true)
    (a13 : PySem.W.nsIn K mainGlobals "is_kind" = some (some (.ref f13)))
    (l13 : K.lookup f13 = some ⟨oc13, od13, .func (PySem.W.fnOf "is_kind" "is_kind" (defArgs (top 21)) (defBody (top 21)) (defScope (top 21)) .none kV13 dc13 pm13 an13 cd13 ct13), sl13⟩)
    (c13 : PySem.W.codeIn K cd13 "is_kind" = true)
    (k13 : PySem.W.keepIn K (.ref f13) = true)
    (a14 : PySem.W.nsIn K mainGlobals "are_kinds" = some (some (.ref f14)))
    (l14 : K.lookup f14 = some ⟨oc14, od14, .func (PySem.W.fnOf "are_kinds" "are_kinds" (defArgs (top 22)) (defBody (top 22)) (defScope (top 22)) .none kV14 dc14 pm14 an14 cd14 ct14), sl14⟩)
    (c14 : PySem.W.codeIn K cd14 "are_kinds" = true)
    (k14 : PySem.W.keepIn K (.ref f14) = true)
    (a15 : PySem.W.nsIn K mainGlobals "plain_kinds" = some (some (.ref f15)))
    (l15 : K.lookup f15 = some ⟨oc15, od15, .func (PySem.W.fnOf "plain_kinds" "plain_kinds" (defArgs (top 23)) (defBody (top 23)) (defScope (top 23)) .none kV15 dc15 pm15 an15 cd15 ct15), sl15⟩)
    (c15 : PySem.W.codeIn K cd15 "plain_kinds" = true)
    (k15 : PySem.W.keepIn K (.ref f15) = true)
    (a16 : PySem.W.findIn K (.ref C5) "__init__" = some (some (.ref f16)))
    (i16 : PySem.W.isFn K (.ref f16) = true)
    (l16 : K.lookup f16 = some ⟨oc16, od16, .func (PySem.W.fnOf "__init__" "Store.__init__" (defArgs (mem (top 24) 0)) (defBody (mem (top 24) 0)) (defScope (mem (top 24) 0)) .none kV16 dc16 pm16 an16 cd16 ct16), sl16⟩)
    (c16 : PySem.W.codeIn K cd16 "Store.__init__" = true)
    (k16 : PySem.W.keepIn K (.ref f16) = true)
    (a21 : PySem.W.nsIn K mainGlobals "want_store" = some (some (.ref f21)))
    (l21 : K.lookup f21 = some ⟨oc21, od21, .func (PySem.W.fnOf "want_store" "want_store" (defArgs (top 25)) (defBody (top 25)) (defScope (top 25)) .none kV21 dc21 pm21 an21 cd21 ct21), sl21⟩)
    (c21 : PySem.W.codeIn K cd21 "want_store" = true)
    (k21 : PySem.W.keepIn K (.ref f21) = true)
    (a22 : PySem.W.nsIn K mainGlobals "led_on" = some (some (.ref f22)))
    (l22 : K.lookup f22 = some ⟨oc22, od22, .func (PySem.W.fnOf "led_on" "led_on" (defArgs (top 27)) (defBody (top 27)) (defScope (top 27)) .none kV22 dc22 pm22 an22 cd22 ct22), sl22⟩)
    (c22 : PySem.W.codeIn K cd22 "led_on" = true)
    (k22 : PySem.W.keepIn K (.ref f22) = true)
    (a23 : PySem.W.nsIn K mainGlobals "are_lots" = some (some (.ref f23)))
    (l23 : K.lookup f23 = some ⟨oc23, od23, .func (PySem.W.fnOf "are_lots" "are_lots" (defArgs (top 28)) (defBody (top 28)) (defScope (top 28)) .none kV23 dc23 pm23 an23 cd23 ct23), sl23⟩)
    (c23 : PySem.W.codeIn K cd23 "are_lots" = true)
    (k23 : PySem.W.keepIn K (.ref f23) = true)
    (a24 : PySem.W.nsIn K mainGlobals "is_closed_of" = some (some (.ref f24)))
    (l24 : K.lookup f24 = some ⟨oc24, od24, .func (PySem.W.fnOf "is_closed_of" "is_closed_of" (defArgs (top 29)) (defBody (top 29)) (defScope (top 29)) .none kV24 dc24 pm24 an24 cd24 ct24), sl24⟩)
    (c24 : PySem.W.codeIn K cd24 "is_closed_of" = true)
    (k24 : PySem.W.keepIn K (.ref f24) = true)
    (a25 : PySem.W.nsIn K mainGlobals "is_closed" = some (some (.ref f25)))
    (l25 : K.lookup f25 = some ⟨oc25, od25, .func (PySem.W.fnOf "is_closed" "is_closed" (defArgs (top 30)) (defBody (top 30)) (defScope (top 30)) .none kV25 dc25 pm25 an25 cd25 ct25), sl25⟩)
    (c25 : PySem.W.codeIn K cd25 "is_closed" = true)
    (k25 : PySem.W.keepIn K (.ref f25) = true)
    (a26 : PySem.W.nsIn K mainGlobals "_law_pot" = some (some (.ref f26)))
    (l26 : K.lookup f26 = some ⟨oc26, od26, .func (PySem.W.fnOf "_law_pot" "_law_pot" (defArgs (top 32)) (defBody (top 32)) (defScope (top 32)) .none kV26 dc26 pm26 an26 cd26 ct26), sl26⟩)
    (c26 : PySem.W.codeIn K cd26 "_law_pot" = true)
    (k26 : PySem.W.keepIn K (.ref f26) = true)
    (a27 : PySem.W.nsIn K mainGlobals "_law_draw" = some (some (.ref f27)))
    (l27 : K.lookup f27 = some ⟨oc27, od27, .func (PySem.W.fnOf "_law_draw" "_law_draw" (defArgs (top 33)) (defBody (top 33)) (defScope (top 33)) .none kV27 dc27 pm27 an27 cd27 ct27), sl27⟩)
    (c27 : PySem.W.codeIn K cd27 "_law_draw" = true)
    (k27 : PySem.W.keepIn K (.ref f27) = true)
    (a28 : PySem.W.nsIn K mainGlobals "_law_kind" = some (some (.ref f28)))
    (l28 : K.lookup f28 = some ⟨oc28, od28, .func (PySem.W.fnOf "_law_kind" "_law_kind" (defArgs (top 34)) (defBody (top 34)) (defScope (top 34)) .none kV28 dc28 pm28 an28 cd28 ct28), sl28⟩)
    (c28 : PySem.W.codeIn K cd28 "_law_kind" = true)
    (k28 : PySem.W.keepIn K (.ref f28) = true)
    (a29 : PySem.W.nsIn K mainGlobals "_law_kinds" = some (some (.ref f29)))
    (l29 : K.lookup f29 = some ⟨oc29, od29, .func (PySem.W.fnOf "_law_kinds" "_law_kinds" (defArgs (top 35)) (defBody (top 35)) (defScope (top 35)) .none kV29 dc29 pm29 an29 cd29 ct29), sl29⟩)
    (c29 : PySem.W.codeIn K cd29 "_law_kinds" = true)
    (k29 : PySem.W.keepIn K (.ref f29) = true)
    (a30 : PySem.W.nsIn K mainGlobals "_law_parts" = some (some (.ref f30)))
    (l30 : K.lookup f30 = some ⟨oc30, od30, .func (PySem.W.fnOf "_law_parts" "_law_parts" (defArgs (top 36)) (defBody (top 36)) (defScope (top 36)) .none kV30 dc30 pm30 an30 cd30 ct30), sl30⟩)
    (c30 : PySem.W.codeIn K cd30 "_law_parts" = true)
    (k30 : PySem.W.keepIn K (.ref f30) = true)
    (a31 : PySem.W.nsIn K mainGlobals "_law_laid" = some (some (.ref f31)))
    (l31 : K.lookup f31 = some ⟨oc31, od31, .func (PySem.W.fnOf "_law_laid" "_law_laid" (defArgs (top 37)) (defBody (top 37)) (defScope (top 37)) .none kV31 dc31 pm31 an31 cd31 ct31), sl31⟩)
    (c31 : PySem.W.codeIn K cd31 "_law_laid" = true)
    (k31 : PySem.W.keepIn K (.ref f31) = true)
    (a32 : PySem.W.nsIn K mainGlobals "_law_off" = some (some (.ref f32)))
    (l32 : K.lookup f32 = some ⟨oc32, od32, .func (PySem.W.fnOf "_law_off" "_law_off" (defArgs (top 38)) (defBody (top 38)) (defScope (top 38)) .none kV32 dc32 pm32 an32 cd32 ct32), sl32⟩)
    (c32 : PySem.W.codeIn K cd32 "_law_off" = true)
    (k32 : PySem.W.keepIn K (.ref f32) = true)
    (a33 : PySem.W.nsIn K mainGlobals "_law_closed" = some (some (.ref f33)))
    (l33 : K.lookup f33 = some ⟨oc33, od33, .func (PySem.W.fnOf "_law_closed" "_law_closed" (defArgs (top 39)) (defBody (top 39)) (defScope (top 39)) .none kV33 dc33 pm33 an33 cd33 ct33), sl33⟩)
    (c33 : PySem.W.codeIn K cd33 "_law_closed" = true)
    (k33 : PySem.W.keepIn K (.ref f33) = true)
    (a34 : PySem.W.nsIn K mainGlobals "_law_all_lots" = some (some (.ref f34)))
    (l34 : K.lookup f34 = some ⟨oc34, od34, .func (PySem.W.fnOf "_law_all_lots" "_law_all_lots" (defArgs (top 40)) (defBody (top 40)) (defScope (top 40)) .none kV34 dc34 pm34 an34 cd34 ct34), sl34⟩)
    (c34 : PySem.W.codeIn K cd34 "_law_all_lots" = true)
    (k34 : PySem.W.keepIn K (.ref f34) = true)
    (a35 : PySem.W.nsIn K mainGlobals "_law_is_family" = some (some (.ref f35)))
    (l35 : K.lookup f35 = some ⟨oc35, od35, .func (PySem.W.fnOf "_law_is_family" "_law_is_family" (defArgs (top 41)) (defBody (top 41)) (defScope (top 41)) .none kV35 dc35 pm35 an35 cd35 ct35), sl35⟩)
    (c35 : PySem.W.codeIn K cd35 "_law_is_family" = true)
    (k35 : PySem.W.keepIn K (.ref f35) = true)
    (a36 : PySem.W.nsIn K mainGlobals "_law_right" = some (some (.ref f36)))
    (l36 : K.lookup f36 = some ⟨oc36, od36, .func (PySem.W.fnOf "_law_right" "_law_right" (defArgs (top 42)) (defBody (top 42)) (defScope (top 42)) .none kV36 dc36 pm36 an36 cd36 ct36), sl36⟩)
    (c36 : PySem.W.codeIn K cd36 "_law_right" = true)
    (k36 : PySem.W.keepIn K (.ref f36) = true)
    (a37 : PySem.W.nsIn K mainGlobals "law" = some (some (.ref f37)))
    (l37 : K.lookup f37 = some ⟨oc37, od37, .func (PySem.W.fnOf "law" "law" (defArgs (top 43)) (defBody (top 43)) (defScope (top 43)) .none kV37 dc37 pm37 an37 cd37 ct37), sl37⟩)
    (c37 : PySem.W.codeIn K cd37 "law" = true)
    (k37 : PySem.W.keepIn K (.ref f37) = true)
    (z_abs : PySem.W.nsIn K mainGlobals "abs" = some none)
    (z_all : PySem.W.nsIn K mainGlobals "all" = some none)
    (z_bool : PySem.W.nsIn K mainGlobals "bool" = some none)
    (z_divmod : PySem.W.nsIn K mainGlobals "divmod" = some none)
    (z_int : PySem.W.nsIn K mainGlobals "int" = some none)
    (z_isinstance : PySem.W.nsIn K mainGlobals "isinstance" = some none)
    (z_len : PySem.W.nsIn K mainGlobals "len" = some none)
    (z_list : PySem.W.nsIn K mainGlobals "list" = some none)
    (z_max : PySem.W.nsIn K mainGlobals "max" = some none)
    (z_range : PySem.W.nsIn K mainGlobals "range" = some none)
    (z_repr : PySem.W.nsIn K mainGlobals "repr" = some none)
    (z_set : PySem.W.nsIn K mainGlobals "set" = some none)
    (z_sorted : PySem.W.nsIn K mainGlobals "sorted" = some none)
    (z_sum : PySem.W.nsIn K mainGlobals "sum" = some none)
    (z_tuple : PySem.W.nsIn K mainGlobals "tuple" = some none)
    (g_0 : PySem.W.nsIn K mainGlobals "LEAST_SHELVES" = some (some (.int 2 t_0)))
    (g_1 : PySem.W.nsIn K mainGlobals "MOST_SHELVES" = some (some (.int 8 t_1)))
    (g_2 : PySem.W.nsIn K mainGlobals "MOST_KINDS" = some (some (.int 8 t_2))) :
    ∃ (ca : Nat → Addr) (fd : FuncData), (∀ (s : Shared) (u : Value), BindsTo s fd ⟨[u], []⟩ [("_law_script", u)]) ∧ ∀ base : Heap, K.In base → base.Ns mainGlobals mg → (∃ mm, base.Ns sysModules mm) → FnG P w K mg base 80 fa fd ["_law_script"] (spI (gw ca) K 40 37 1) := by
  have e := hfa.symm.trans (PySem.W.mg_of X G a37)
  cases e
  have F4 := fun_mk (st := (top 7)) l4 c4 k4
  have b4 := F4.binds (ps := ["value"]) fun _ _ _ _ _ _ us hl => match us, hl with | [_], _ => rfl
  have F5 := fun_mk (st := (top 8)) l5 c5 k5
  have b5 := F5.binds (ps := ["value"]) fun _ _ _ _ _ _ us hl => match us, hl with | [_], _ => rfl
  have F6 := fun_mk (st := (top 9)) l6 c6 k6
  have b6 := F6.binds (ps := ["value"]) fun _ _ _ _ _ _ us hl => match us, hl with | [_], _ => rfl
  have F7 := fun_mk (st := (top 13)) l7 c7 k7
  have b7 := F7.binds (ps := ["value"]) fun _ _ _ _ _ _ us hl => match us, hl with | [_], _ => rfl
  have F8 := fun_mk (st := (top 14)) l8 c8 k8
  have b8 := F8.binds (ps := ["value"]) fun _ _ _ _ _ _ us hl => match us, hl with | [_], _ => rfl
  have F9 := fun_mk (st := (top 15)) l9 c9 k9
  have b9 := F9.binds (ps := ["shelves", "value"]) fun _ _ _ _ _ _ us hl => match us, hl with | [_, _], _ => rfl
  have F10 := fun_mk (st := (top 16)) l10 c10 k10
  have b10 := F10.binds (ps := ["lot"]) fun _ _ _ _ _ _ us hl => match us, hl with | [_], _ => rfl
  have F11 := fun_mk (st := (top 17)) l11 c11 k11
  have b11 := F11.binds (ps := ["bits"]) fun _ _ _ _ _ _ us hl => match us, hl with | [_], _ => rfl
  have F12 := fun_mk (st := (top 18)) l12 c12 k12
  have b12 := F12.binds (ps := ["bits"]) fun _ _ _ _ _ _ us hl => match us, hl with | [_], _ => rfl
  have F13 := fun_mk (st := (top 21)) l13 c13 k13
  have b13 := F13.binds (ps := ["shelves", "value"]) fun _ _ _ _ _ _ us hl => match us, hl with | [_, _], _ => rfl
  have F14 := fun_mk (st := (top 22)) l14 c14 k14
  have b14 := F14.binds (ps := ["shelves", "value"]) fun _ _ _ _ _ _ us hl => match us, hl with | [_, _], _ => rfl
  have F15 := fun_mk (st := (top 23)) l15 c15 k15
  have b15 := F15.binds (ps := ["kinds"]) fun _ _ _ _ _ _ us hl => match us, hl with | [_], _ => rfl
  have F16 := fun_mk (st := (mem (top 24) 0)) l16 c16 k16
  have b16 := F16.binds (ps := ["self", "shelves", "deliveries", "sales"]) fun _ _ _ _ _ _ us hl => match us, hl with | [_, _, _, _], _ => rfl
  have F21 := fun_mk (st := (top 25)) l21 c21 k21
  have b21 := F21.binds (ps := ["value"]) fun _ _ _ _ _ _ us hl => match us, hl with | [_], _ => rfl
  have F22 := fun_mk (st := (top 27)) l22 c22 k22
  have b22 := F22.binds (ps := ["store", "bits"]) fun _ _ _ _ _ _ us hl => match us, hl with | [_, _], _ => rfl
  have F23 := fun_mk (st := (top 28)) l23 c23 k23
  have b23 := F23.binds (ps := ["store", "value"]) fun _ _ _ _ _ _ us hl => match us, hl with | [_, _], _ => rfl
  have F24 := fun_mk (st := (top 29)) l24 c24 k24
  have b24 := F24.binds (ps := ["store", "value"]) fun _ _ _ _ _ _ us hl => match us, hl with | [_, _], _ => rfl
  have F25 := fun_mk (st := (top 30)) l25 c25 k25
  have b25 := F25.binds (ps := ["store", "value"]) fun _ _ _ _ _ _ us hl => match us, hl with | [_, _], _ => rfl
  have F26 := fun_mk (st := (top 32)) l26 c26 k26
  have b26 := F26.binds (ps := ["_law_script", "_law_k"]) fun _ _ _ _ _ _ us hl => match us, hl with | [_, _], _ => rfl
  have F27 := fun_mk (st := (top 33)) l27 c27 k27
  have b27 := F27.binds (ps := ["_law_pot_here", "_law_many"]) fun _ _ _ _ _ _ us hl => match us, hl with | [_, _], _ => rfl
  have F28 := fun_mk (st := (top 34)) l28 c28 k28
  have b28 := F28.binds (ps := ["_law_pot_here", "_law_shelves"]) fun _ _ _ _ _ _ us hl => match us, hl with | [_, _], _ => rfl
  have F29 := fun_mk (st := (top 35)) l29 c29 k29
  have b29 := F29.binds (ps := ["_law_pot_here", "_law_shelves", "_law_most"]) fun _ _ _ _ _ _ us hl => match us, hl with | [_, _, _], _ => rfl
  have F30 := fun_mk (st := (top 36)) l30 c30 k30
  have b30 := F30.binds (ps := ["_law_pot_here", "_law_most"]) fun _ _ _ _ _ _ us hl => match us, hl with | [_, _], _ => rfl
  have F31 := fun_mk (st := (top 37)) l31 c31 k31
  have b31 := F31.binds (ps := ["_law_lot", "_law_kind_here"]) fun _ _ _ _ _ _ us hl => match us, hl with | [_, _], _ => rfl
  have F32 := fun_mk (st := (top 38)) l32 c32 k32
  have b32 := F32.binds (ps := ["_law_lot", "_law_kind_here"]) fun _ _ _ _ _ _ us hl => match us, hl with | [_, _], _ => rfl
  have F33 := fun_mk (st := (top 39)) l33 c33 k33
  have b33 := F33.binds (ps := ["_law_deliveries", "_law_sales", "_law_lots"]) fun _ _ _ _ _ _ us hl => match us, hl with | [_, _, _], _ => rfl
  have F34 := fun_mk (st := (top 40)) l34 c34 k34
  have b34 := F34.binds (ps := ["_law_shelves"]) fun _ _ _ _ _ _ us hl => match us, hl with | [_], _ => rfl
  have F35 := fun_mk (st := (top 41)) l35 c35 k35
  have b35 := F35.binds (ps := ["_law_shelves", "_law_deliveries", "_law_sales", "_law_value"]) fun _ _ _ _ _ _ us hl => match us, hl with | [_, _, _, _], _ => rfl
  have F36 := fun_mk (st := (top 42)) l36 c36 k36
  have b36 := F36.binds (ps := ["_law_pot_here"]) fun _ _ _ _ _ _ us hl => match us, hl with | [_], _ => rfl
  have F37 := fun_mk (st := (top 43)) l37 c37 k37
  have b37 := F37.binds (ps := ["_law_script"]) fun _ _ _ _ _ _ us hl => match us, hl with | [_], _ => rfl
  have T : Tx K mg (fun c => if c = 5 then C5 else 0) := by
    refine { cf := ⟨fun c hc => ?cl, fun c f hc hf => ?na, fun f f2 h1 h2 h3 => ?inj⟩, isf := ⟨fun c hc => ?isi, fun c hc => ?isa, fun c c2 hc hc2 => ?iso⟩, z_abs := PySem.W.mg_none_of X G z_abs, z_all := PySem.W.mg_none_of X G z_all, z_bool := PySem.W.mg_none_of X G z_bool, z_divmod := PySem.W.mg_none_of X G z_divmod, z_int := PySem.W.mg_none_of X G z_int, z_isinstance := PySem.W.mg_none_of X G z_isinstance, z_len := PySem.W.mg_none_of X G z_len, z_list := PySem.W.mg_none_of X G z_list, z_max := PySem.W.mg_none_of X G z_max, z_range := PySem.W.mg_none_of X G z_range, z_repr := PySem.W.mg_none_of X G z_repr, z_set := PySem.W.mg_none_of X G z_set, z_sorted := PySem.W.mg_none_of X G z_sorted, z_sum := PySem.W.mg_none_of X G z_sum, z_tuple := PySem.W.mg_none_of X G z_tuple, g_0 := ⟨_, PySem.W.mg_of X G g_0⟩, g_1 := ⟨_, PySem.W.mg_of X G g_1⟩, g_2 := ⟨_, PySem.W.mg_of X G g_2⟩, k_5 := PySem.W.mg_of X G aC5, d4 := ⟨⟨_, _, PySem.W.mg_of X G a4, F4, b4⟩⟩, d5 := ⟨⟨_, _, PySem.W.mg_of X G a5, F5, b5⟩⟩, d6 := ⟨⟨_, _, PySem.W.mg_of X G a6, F6, b6⟩⟩, d7 := ⟨⟨_, _, PySem.W.mg_of X G a7, F7, b7⟩⟩, d8 := ⟨⟨_, _, PySem.W.mg_of X G a8, F8, b8⟩⟩, d9 := ⟨⟨_, _, PySem.W.mg_of X G a9, F9, b9⟩⟩, d10 := ⟨⟨_, _, PySem.W.mg_of X G a10, F10, b10⟩⟩, d11 := ⟨⟨_, _, PySem.W.mg_of X G a11, F11, b11⟩⟩, d12 := ⟨⟨_, _, PySem.W.mg_of X G a12, F12, b12⟩⟩, d13 := ⟨⟨_, _, PySem.W.mg_of X G a13, F13, b13⟩⟩, d14 := ⟨⟨_, _, PySem.W.mg_of X G a14, F14, b14⟩⟩, d15 := ⟨⟨_, _, PySem.W.mg_of X G a15, F15, b15⟩⟩, d16 := ⟨⟨_, _, PySem.W.mg_of X G aC5, ⟨mk5, a16, i16, kc5⟩, F16, b16⟩⟩, d21 := ⟨⟨_, _, PySem.W.mg_of X G a21, F21, b21⟩⟩, d22 := ⟨⟨_, _, PySem.W.mg_of X G a22, F22, b22⟩⟩, d23 := ⟨⟨_, _, PySem.W.mg_of X G a23, F23, b23⟩⟩, d24 := ⟨⟨_, _, PySem.W.mg_of X G a24, F24, b24⟩⟩, d25 := ⟨⟨_, _, PySem.W.mg_of X G a25, F25, b25⟩⟩, d26 := ⟨⟨_, _, PySem.W.mg_of X G a26, F26, b26⟩⟩, d27 := ⟨⟨_, _, PySem.W.mg_of X G a27, F27, b27⟩⟩, d28 := ⟨⟨_, _, PySem.W.mg_of X G a28, F28, b28⟩⟩, d29 := ⟨⟨_, _, PySem.W.mg_of X G a29, F29, b29⟩⟩, d30 := ⟨⟨_, _, PySem.W.mg_of X G a30, F30, b30⟩⟩, d31 := ⟨⟨_, _, PySem.W.mg_of X G a31, F31, b31⟩⟩, d32 := ⟨⟨_, _, PySem.W.mg_of X G a32, F32, b32⟩⟩, d33 := ⟨⟨_, _, PySem.W.mg_of X G a33, F33, b33⟩⟩, d34 := ⟨⟨_, _, PySem.W.mg_of X G a34, F34, b34⟩⟩, d35 := ⟨⟨_, _, PySem.W.mg_of X G a35, F35, b35⟩⟩, d36 := ⟨⟨_, _, PySem.W.mg_of X G a36, F36, b36⟩⟩, kw25_value_store := ?kw25_value_store }
    case cl =>
      rcases knC_cases hc with rfl
      · exact ⟨pg5, hd5, po5, sa5⟩
    case na =>
      have hf2 : f < 5 := of_decide_eq_true hf
      rcases knC_cases hc with rfl
      · match f, hf2 with
        | 0, _ => exact nA5_0
        | 1, _ => exact nA5_1
        | 2, _ => exact nA5_2
        | 3, _ => exact nA5_3
        | 4, _ => exact nA5_4
        | f + 5, q => exact absurd q (by omega)
    case inj =>
      have q1 : f < 5 := of_decide_eq_true h1
      have q2 : f2 < 5 := of_decide_eq_true h2
      have key : ∀ i : Fin 5, ∀ j : Fin 5, fld i.val = fld j.val → i.val = j.val := by decide +kernel
      exact key ⟨f, q1⟩ ⟨f2, q2⟩ h3
    case isi =>
      rcases knC_cases hc with rfl
      · exact ⟨⟨⟨pg5, hd5, po5, sa5⟩, ih5, in5, it5, im5⟩, ⟨kit_ct ko5_int (by decide +kernel), kit_ct ko5_bool (by decide +kernel), kit_ct ko5_str (by decide +kernel), kit_ct ko5_list (by decide +kernel), kit_ct ko5_tuple (by decide +kernel)⟩⟩
    case isa =>
      rcases knC_cases hc with rfl
      · exact ⟨kit_tc ic5 ty5 (by rfl), kit_tc ic5 ty5 (by rfl), kit_tc ic5 ty5 (by rfl), kit_tc ic5 ty5 (by rfl), kit_tc ic5 ty5 (by rfl), kit_tc ic5 ty5 (by rfl), kit_tc ic5 ty5 (by rfl)⟩
    case iso =>
      rcases knC_cases hc with rfl
      · rcases knC_cases hc2 with rfl
        · exact kit_cc
    case kw25_value_store =>
      refine ⟨fun f fd oc od osl hm lk => ?_⟩
      have e := (PySem.W.mg_of X G a25).symm.trans hm
      cases e
      have e2 := l25.symm.trans lk
      cases e2
      exact kw_mk fun s ws hl => match ws, hl with
        | _ :: _ :: _, _ => .of_eq rfl
        | [], h => by simp [pick] at h
        | [_], h => by simp [pick] at h
  exact ⟨_, _, fun s u => .of_eq rfl, fun base _ _ hB => plaw T (al T hB 39) hB F37⟩
end Z.K24
end
section
set_option Elab.async false
set_option linter.all false
set_option maxRecDepth 100000
/-! M24i: the law's answer (k24). -/
open Z
theorem Z.K24.main (ns : List Int) (hl : ns.length ≤ 63) : ∃ Mf, Z.callI Z.K24.G Z.K24.fns 40 37 [.scr ns] [] = .ok (.bl true) Mf := by
  obtain ⟨a, b, hp⟩ := run_pot (G := Z.K24.G) (fns := Z.K24.fns) (n := 38) (M := []) (f := 26) (k1 := 883) (k2 := 823) (c1 := 17573) (k3 := 5) rfl (by decide) (by decide) (by decide) ns (k := 0) (by decide)
  have SI : StoreIds Z.K24.G Z.K24.fns 8 14 10 15 1 2 3 4 := ⟨⟨7, 5, 4, 0, 1, 6, 13, 9, 2, 12, 11, 1, rfl, rfl, rfl, rfl, rfl, rfl, rfl, rfl, rfl, rfl, rfl, rfl, rfl, rfl, rfl, rfl⟩, by decide⟩
  have LI : LookIds Z.K24.fns 35 25 5 1 2 3 := ⟨⟨31, 32, 21, 24, 6, 9, 23, 10, 22, rfl, rfl, rfl, rfl, rfl, rfl, rfl, rfl, rfl, ⟨5, 4, rfl, rfl, rfl, rfl⟩⟩, by decide⟩
  obtain ⟨Mf, e⟩ := run_right (G := Z.K24.G) (fns := Z.K24.fns) (n := 32) (M := [.lst [.int a, .int b]]) (f := 36) (iP := 30) (c := 5) (iCl := 33) (iK := 28) (iD := 27) (iA := 34) (iF := 35) (iIs := 25) (iKs := 29) (iLa := 31) (iOf := 32) (iIn := 16) (ka := 4) (kb := 3) (c1 := 17573) (j := 0) rfl rfl (by decide) rfl rfl rfl rfl rfl rfl rfl rfl rfl SI LI ⟨a, b, rfl⟩
  refine ⟨Mf, ?_⟩
  have hp' : callI Z.K24.G Z.K24.fns 39 26 [.scr ns, .int 0] [] = _ := hp
  have e' : callI Z.K24.G Z.K24.fns 39 36 [.ref 0] [.lst [.int a, .int b]] = _ := e
  rw [callI_b (fn := Z.K24.f_law) rfl [some (.scr ns)]]
  simp only [Z.K24.f_law]
  rw [q_cons, q_ret, q_call, q_1, q_call]
  have ea : evs Z.K24.G (callI Z.K24.G Z.K24.fns 39) (.cons (.var 0) (.cons (.lit (.int 0)) .nil)) [some (.scr ns)] [] = .ok [.scr ns, .int 0] [] := rfl
  rw [ea]
  simp only [R.bind_ok, hp', q_0]
  have e'' : callI Z.K24.G Z.K24.fns 39 36 [.ref ([] : Mem).length] ([] ++ [.lst [.int a, .int b]]) = _ := e'
  rw [e'']
  rfl
end
set_option Elab.async false
open PySem PySem.W PyProof.Rows
set_option maxRecDepth 100000 in
set_option maxHeartbeats 0 in
theorem PySem.Challenge.cw_twoabove_k24_any_value_as_closed_family_holds : PySem.Challenge.rw_twoabove_k24_any_value_as_closed_family.Holds := by
  w_on; o_law; k_head; (case hw => w_witness2)
  k_fill
  refine Z.walk_Z (l := PySem.Challenge.rw_twoabove_k24_any_value_as_closed_family) (m := 63) (k := 80) (n := 40) (fi := 37) (x := "_law_script") Z.K24.gw rfl (by decide) rfl ⟨rfl, by decide, by decide⟩ (by decide +kernel) (fun w h Y => PySem.W.kIn_of Y) ?F (fun ca ns hl => Z.K24.main ns hl)
  case F =>
    intro w mg fa h KX G hmg
    refine' Z.K24.mk KX G hmg ?aC5 ?pg5 ?hd5 ?po5 ?sa5 ?mk5 ?kc5 ?ih5 ?in5 ?it5 ?im5 ?nA5_0 ?nA5_1 ?nA5_2 ?nA5_3 ?nA5_4 ?ic5 ?ty5 ?ko5_int ?ko5_bool ?ko5_str ?ko5_list ?ko5_tuple ?a4 ?l4 ?c4 ?k4 ?a5 ?l5 ?c5 ?k5 ?a6 ?l6 ?c6 ?k6 ?a7 ?l7 ?c7 ?k7 ?a8 ?l8 ?c8 ?k8 ?a9 ?l9 ?c9 ?k9 ?a10 ?l10 ?c10 ?k10 ?a11 ?l11 ?c11 ?k11 ?a12 ?l12 ?c12 ?k12 ?a13 ?l13 ?c13 ?k13 ?a14 ?l14 ?c14 ?k14 ?a15 ?l15 ?c15 ?k15 ?a16 ?i16 ?l16 ?c16 ?k16 ?a21 ?l21 ?c21 ?k21 ?a22 ?l22 ?c22 ?k22 ?a23 ?l23 ?c23 ?k23 ?a24 ?l24 ?c24 ?k24 ?a25 ?l25 ?c25 ?k25 ?a26 ?l26 ?c26 ?k26 ?a27 ?l27 ?c27 ?k27 ?a28 ?l28 ?c28 ?k28 ?a29 ?l29 ?c29 ?k29 ?a30 ?l30 ?c30 ?k30 ?a31 ?l31 ?c31 ?k31 ?a32 ?l32 ?c32 ?k32 ?a33 ?l33 ?c33 ?k33 ?a34 ?l34 ?c34 ?k34 ?a35 ?l35 ?c35 ?k35 ?a36 ?l36 ?c36 ?k36 ?a37 ?l37 ?c37 ?k37 ?z_abs ?z_all ?z_bool ?z_divmod ?z_int ?z_isinstance ?z_len ?z_list ?z_max ?z_range ?z_repr ?z_set ?z_sorted ?z_sum ?z_tuple ?g_0 ?g_1 ?g_2
    (case aC5 => k_is)
    (case pg5 => k_is)
    (case hd5 => k_is)
    (case po5 => k_is)
    (case sa5 => k_is)
    (case mk5 => k_is)
    (case kc5 => k_is)
    (case ih5 => k_is)
    (case in5 => k_is)
    (case it5 => k_is)
    (case im5 => k_is)
    (case nA5_0 => k_is)
    (case nA5_1 => k_is)
    (case nA5_2 => k_is)
    (case nA5_3 => k_is)
    (case nA5_4 => k_is)
    (case ic5 => k_is)
    (case ty5 => k_is)
    (case ko5_int => k_is)
    (case ko5_bool => k_is)
    (case ko5_str => k_is)
    (case ko5_list => k_is)
    (case ko5_tuple => k_is)
    (case a4 => k_is)
    (case l4 => k_is)
    (case c4 => k_is)
    (case k4 => k_is)
    (case a5 => k_is)
    (case l5 => k_is)
    (case c5 => k_is)
    (case k5 => k_is)
    (case a6 => k_is)
    (case l6 => k_is)
    (case c6 => k_is)
    (case k6 => k_is)
    (case a7 => k_is)
    (case l7 => k_is)
    (case c7 => k_is)
    (case k7 => k_is)
    (case a8 => k_is)
    (case l8 => k_is)
    (case c8 => k_is)
    (case k8 => k_is)
    (case a9 => k_is)
    (case l9 => k_is)
    (case c9 => k_is)
    (case k9 => k_is)
    (case a10 => k_is)
    (case l10 => k_is)
    (case c10 => k_is)
    (case k10 => k_is)
    (case a11 => k_is)
    (case l11 => k_is)
    (case c11 => k_is)
    (case k11 => k_is)
    (case a12 => k_is)
    (case l12 => k_is)
    (case c12 => k_is)
    (case k12 => k_is)
    (case a13 => k_is)
    (case l13 => k_is)
    (case c13 => k_is)
    (case k13 => k_is)
    (case a14 => k_is)
    (case l14 => k_is)
    (case c14 => k_is)
    (case k14 => k_is)
    (case a15 => k_is)
    (case l15 => k_is)
    (case c15 => k_is)
    (case k15 => k_is)
    (case a16 => k_is)
    (case i16 => k_is)
    (case l16 => k_is)
    (case c16 => k_is)
    (case k16 => k_is)
    (case a21 => k_is)
    (case l21 => k_is)
    (case c21 => k_is)
    (case k21 => k_is)
    (case a22 => k_is)
    (case l22 => k_is)
    (case c22 => k_is)
    (case k22 => k_is)
    (case a23 => k_is)
    (case l23 => k_is)
    (case c23 => k_is)
    (case k23 => k_is)
    (case a24 => k_is)
    (case l24 => k_is)
    (case c24 => k_is)
    (case k24 => k_is)
    (case a25 => k_is)
    (case l25 => k_is)
    (case c25 => k_is)
    (case k25 => k_is)
    (case a26 => k_is)
    (case l26 => k_is)
    (case c26 => k_is)
    (case k26 => k_is)
    (case a27 => k_is)
    (case l27 => k_is)
    (case c27 => k_is)
    (case k27 => k_is)
    (case a28 => k_is)
    (case l28 => k_is)
    (case c28 => k_is)
    (case k28 => k_is)
    (case a29 => k_is)
    (case l29 => k_is)
    (case c29 => k_is)
    (case k29 => k_is)
    (case a30 => k_is)
    (case l30 => k_is)
    (case c30 => k_is)
    (case k30 => k_is)
    (case a31 => k_is)
    (case l31 => k_is)
    (case c31 => k_is)
    (case k31 => k_is)
    (case a32 => k_is)
    (case l32 => k_is)
    (case c32 => k_is)
    (case k32 => k_is)
    (case a33 => k_is)
    (case l33 => k_is)
    (case c33 => k_is)
    (case k33 => k_is)
    (case a34 => k_is)
    (case l34 => k_is)
    (case c34 => k_is)
    (case k34 => k_is)
    (case a35 => k_is)
    (case l35 => k_is)
    (case c35 => k_is)
    (case k35 => k_is)
    (case a36 => k_is)
    (case l36 => k_is)
    (case c36 => k_is)
    (case k36 => k_is)
    (case a37 => k_is)
    (case l37 => k_is)
    (case c37 => k_is)
    (case k37 => k_is)
    (case z_abs => k_is)
    (case z_all => k_is)
    (case z_bool => k_is)
    (case z_divmod => k_is)
    (case z_int => k_is)
    (case z_isinstance => k_is)
    (case z_len => k_is)
    (case z_list => k_is)
    (case z_max => k_is)
    (case z_range => k_is)
    (case z_repr => k_is)
    (case z_set => k_is)
    (case z_sorted => k_is)
    (case z_sum => k_is)
    (case z_tuple => k_is)
    (case g_0 => k_is)
    (case g_1 => k_is)
    (case g_2 => k_is)

