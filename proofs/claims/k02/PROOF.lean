import PyProof.Rows.All
import HandS.ForMost
import HandS.ForExc
import HandS.TupAny
import HandS.TupMul
import HandS.Deep
import HandS.IsInst
import HandS.SortInts
import HandS.More
import HandS.Flow
import HandS.Iter
import HandS.Zip
import HandS.Comp
import KE.GoesMore
import HandS.Style
import KE.KRevSl
import HandS.WordsExc
import HandS.Ends
import PySem.Challenge.RW_kneesany_k02_deeds_done
set_option Elab.async false
set_option linter.all false
/-! KnSem: a small language of plain values, and what its pieces compute. -/
namespace Kn
open PySem (Operator CmpOp PyData)

inductive D where
  | non | bl (b : Bool) | int (i : Int) | str (s : List Nat) | tup (xs : List D) | lst (xs : List D)
  | ro (xs : List D) | ref (k : Nat) | fn (i : Nat) | cls (i : Nat)
  deriving Inhabited

inductive Ky where
  | i (n : Int) | s (x : List Nat)
  deriving DecidableEq, Inhabited

inductive Ob where
  | lst (xs : List D) | dct (lk : Bool) (kvs : List (Ky × D)) | ins (c : Nat) (fs : List (List Nat × D))
  deriving Inhabited

/-- what a slot holds, an argument is: a value, or a lambda with the slots of its maker -/
inductive Ag where
  | dat (d : D) | clo (c : Nat) (env : List (Option Ag))
  deriving Inhabited

abbrev St := List Ob
abbrev En := List (Option Ag)

inductive R (α : Type) where
  | ok (a : α) (s : St) | exc (c : Nat) (p : Option D) (s : St) | bad

def R.bind {α β : Type} (r : R α) (f : α → St → R β) : R β :=
  match r with
  | .ok a s => f a s
  | .exc c p s => .exc c p s
  | .bad => .bad

inductive RS where
  | nx (e : En) (s : St) | rt (d : D) (s : St) | bk (e : En) (s : St) | ct (e : En) (s : St) | exc (c : Nat) (p : Option D) (e : En) (s : St) | bad

structure Cl where
  fuel : Nat
  fn : Nat → List Ag → St → R D
  clo : Nat → En → List Ag → St → R D

abbrev SE := Cl → En → St → R D
abbrev SA := Cl → En → St → R Ag
abbrev SL := Cl → En → St → R (List D)
abbrev SS := Cl → En → St → RS

def line : Nat := 16777216

def mapO {α β : Type} (f : α → Option β) : List α → Option (List β)
  | [] => some []
  | x :: xs => match f x with
    | none => none
    | some y => match mapO f xs with
      | none => none
      | some ys => some (y :: ys)

/-- a value as data, at most so deep -/
def pd (st : St) : Nat → D → Option PyData
  | 0, _ => none
  | n + 1, d => match d with
    | .non => some .none
    | .bl b => some (.bool b)
    | .int i => some (.int i)
    | .str s => some (.str ⟨s.toArray⟩)
    | .tup xs => (mapO (pd st n) xs).map .tuple
    | .lst xs => (mapO (pd st n) xs).map .list
    | .ref k => match st[k]? with
      | some (.lst xs) => (mapO (pd st n) xs).map .list
      | _ => none
    | _ => none

def ofO {α : Type} (o : Option α) (s : St) : R α := match o with
  | some a => .ok a s
  | none => .bad

/-- a list's items -/
def asL (s : St) : D → Option (List D)
  | .lst xs => some xs
  | .ref k => match s[k]? with
    | some (.lst xs) => some xs
    | _ => none
  | _ => none

def dEq (s : St) (x y : D) : Option Bool :=
  match pd s 64 x, pd s 64 y with
  | some a, some b => some (PyData.eqv a b)
  | _, _ => none

def eqvD (a : PyData) (b : PyData) : Bool := PyData.eqv a b

/-! ### operators -/
def addD (s : St) : D → D → R D
  | .int a, .int b => .ok (.int (a + b)) s
  | .str a, .str b => if a.length + b.length ≤ line then .ok (.str (a ++ b)) s else .bad
  | .tup a, .tup b => if a.length + b.length ≤ line then .ok (.tup (a ++ b)) s else .bad
  | x, y => match asL s x, asL s y with
    | some a, some b => if a.length + b.length ≤ line then .ok (.lst (a ++ b)) s else .bad
    | _, _ => .bad
def subD (s : St) : D → D → R D
  | .int a, .int b => .ok (.int (a - b)) s
  | _, _ => .bad
def big : Int := 18446744073709551616
def mulD (s : St) : D → D → R D
  | .int a, .int b => if (-big < a ∧ a < big) ∨ (-big < b ∧ b < big) then .ok (.int (a * b)) s else .bad
  | .tup a, .int b => if a ≠ [] ∧ 2 ≤ b ∧ b ≤ 1000 ∧ a.length ≤ 1000 then .ok (.tup (List.replicate b.toNat a).flatten) s else .bad
  | .lst a, .int b => if 0 ≤ b ∧ b ≤ 1000 ∧ a.length ≤ 1000 then .ok (.lst (List.replicate b.toNat a).flatten) s else .bad
  | _, _ => .bad
def divD (s : St) : D → D → R D
  | .int a, .int b => if 0 < b ∧ b < 1073741824 then .ok (.int (a / b)) s else .bad
  | _, _ => .bad
def modD (s : St) : D → D → R D
  | .int a, .int b => if 0 < b then .ok (.int (a % b)) s else .bad
  | _, _ => .bad
def powD (s : St) : D → D → R D
  | .int a, .int b => if 0 ≤ b ∧ b ≤ 1000000 ∧ a.natAbs < 18446744073709551616 then .ok (.int (a ^ b.toNat)) s else .bad
  | _, _ => .bad

inductive Bo | add | sub | mul | div | mod | pow
def boD (s : St) : Bo → D → D → R D
  | .add => addD s
  | .sub => subD s
  | .mul => mulD s
  | .div => divD s
  | .mod => modD s
  | .pow => powD s

/-! ### comparisons -/
inductive Co | eq | ne | lt | le | gt | ge | inn | nin
def kyOf : D → Option Ky
  | .int i => some (.i i)
  | .str x => some (.s x)
  | _ => none
def valK (kvs : List (Ky × D)) (k : Ky) : Option D := match kvs with
  | [] => none
  | (j, v) :: r => if j = k then some v else valK r k
def putK (kvs : List (Ky × D)) (k : Ky) (v : D) : List (Ky × D) :=
  if kvs.any (fun kv => decide (kv.1 = k)) then kvs.map fun kv => if kv.1 = k then (kv.1, v) else kv else kvs ++ [(k, v)]
def dropK (kvs : List (Ky × D)) (k : Ky) : List (Ky × D) := kvs.filter fun kv => decide (kv.1 ≠ k)
def flatD : D → Bool
  | .non => true
  | .bl _ => true
  | .int _ => true
  | .str _ => true
  | _ => false
def eqFl : D → D → Bool
  | .non, .non => true
  | .bl a, .bl b => a == b
  | .bl a, .int j => (if a then 1 else 0) == j
  | .int i, .bl b => i == (if b then 1 else 0)
  | .int i, .int j => i == j
  | .str x, .str y => x == y
  | _, _ => false
/-- x in y -/
def inD (s : St) (x y : D) : Option Bool :=
  match y with
  | .ref k => match s[k]? with
    | some (.dct _ kvs) => match kyOf x with
      | some q => some (valK kvs q).isSome
      | none => none
    | some (.lst ys) => match pd s 64 x, mapO (pd s 63) ys with
      | some a, some bs => some (bs.any fun b => PyData.eqv b a)
      | _, _ => none
    | _ => none
  | .tup ys => if flatD x && ys.all flatD then some (ys.any fun y => eqFl y x) else none
  | .lst ys => match pd s 64 x, mapO (pd s 63) ys with
    | some a, some bs => some (bs.any fun b => PyData.eqv b a)
    | _, _ => none
  | _ => none
def coD (s : St) (o : Co) (x y : D) : Option Bool :=
  match o with
  | .eq => dEq s x y
  | .ne => (dEq s x y).map (!·)
  | .inn => inD s x y
  | .nin => (inD s x y).map (!·)
  | .lt => match x, y with
    | .int a, .int b => some (decide (a < b))
    | _, _ => none
  | .le => match x, y with
    | .int a, .int b => some (decide (a ≤ b))
    | _, _ => none
  | .gt => match x, y with
    | .int a, .int b => some (decide (b < a))
    | _, _ => none
  | .ge => match x, y with
    | .int a, .int b => some (decide (b ≤ a))
    | _, _ => none

/-- truth -/
def truD (s : St) : D → Option Bool
  | .non => some false
  | .bl b => some b
  | .int i => some (i != 0)
  | .str x => some (!x.isEmpty)
  | .tup x => some (!x.isEmpty)
  | .lst x => some (!x.isEmpty)
  | .ref k => match s[k]? with
    | some (.lst x) => some (!x.isEmpty)
    | _ => none
  | _ => none
def isN : D → Bool
  | .non => true
  | _ => false

/-! ### items and slices -/
def ixN (n : Nat) (i : Int) : Option Nat := if 0 ≤ i then (if i < n then some i.toNat else none) else if -(n : Int) ≤ i then some (i + n).toNat else none
def atD {α : Type} (xs : List α) (i : Int) : Option α := match ixN xs.length i with
  | some j => xs[j]?
  | none => none
def itemD (s : St) (x i : D) : R D :=
  match x with
  | .tup xs => match i with
    | .int j => ofO (atD xs j) s
    | _ => .bad
  | .lst xs => match i with
    | .int j => ofO (atD xs j) s
    | _ => .bad
  | .ro xs => match i with
    | .int j => ofO (atD xs j) s
    | _ => .bad
  | .ref k => match s[k]? with
    | some (.lst xs) => match i with
      | .int j => ofO (atD xs j) s
      | _ => .bad
    | some (.dct _ kvs) => match kyOf i with
      | some q => ofO (valK kvs q) s
      | none => .bad
    | _ => .bad
  | _ => .bad
def sIx (n d : Nat) : Option Int → Nat
  | none => d
  | some v => if v < 0 then (v + (n : Int)).toNat else min v.toNat n
def cutD (xs : List D) (lo hi : Option Int) : List D := (xs.drop (sIx xs.length 0 lo)).take (sIx xs.length xs.length hi - sIx xs.length 0 lo)
def sliceD (s : St) (x : D) (lo hi : Option Int) : R D :=
  match x with
  | .tup xs => .ok (.tup (cutD xs lo hi)) s
  | x => match asL s x with
    | some xs => .ok (.lst (cutD xs lo hi)) s
    | none => .bad

/-! ### built-ins -/
inductive Bf | len | abs | int | bool | str | tuple | list | min | max | sum | all | any | sorted
def intD : D → Option Int
  | .int i => some i
  | _ => none
def blD : D → Option Bool
  | .bl i => some i
  | _ => none
def prD : D → Option (Int × Int)
  | .tup [.int i, .int j] => some (i, j)
  | _ => none
def intsOf (xs : List D) : Option (List Int) := mapO intD xs
def blsOf (xs : List D) : Option (List Bool) := mapO blD xs
def prsOf (xs : List D) : Option (List (Int × Int)) := mapO prD xs
def minI : Int → List Int → Int
  | m, [] => m
  | m, x :: xs => minI (if x < m then x else m) xs
def maxI : Int → List Int → Int
  | m, [] => m
  | m, x :: xs => maxI (if m < x then x else m) xs
def insI (x : Int) : List Int → List Int
  | [] => [x]
  | y :: ys => if x ≤ y then x :: y :: ys else y :: insI x ys
def sortI : List Int → List Int
  | [] => []
  | x :: xs => insI x (sortI xs)
def leP (x y : Int × Int) : Bool := decide (x.1 < y.1) || (decide (x.1 = y.1) && decide (x.2 ≤ y.2))
def insP (x : Int × Int) : List (Int × Int) → List (Int × Int)
  | [] => [x]
  | y :: ys => if leP x y then x :: y :: ys else y :: insP x ys
def sortP : List (Int × Int) → List (Int × Int)
  | [] => []
  | x :: xs => insP x (sortP xs)
def kyD : Ky → D
  | .i n => .int n
  | .s x => .str x
def keysOf (kvs : List (Ky × D)) : List D := kvs.map fun kv => kyD kv.1
def sortedD (s : St) (x : D) : R D :=
  let go (xs : List D) : R D := match intsOf xs with
    | some ns => if ns.length < 64 then .ok (.lst ((sortI ns).map .int)) s else .bad
    | none => match prsOf xs with
      | some ps => if ps.length < 64 then .ok (.lst ((sortP ps).map fun p => .tup [.int p.1, .int p.2])) s else .bad
      | none => .bad
  match x with
  | .ref k => match s[k]? with
    | some (.lst xs) => go xs
    | some (.dct _ kvs) => match intsOf (keysOf kvs) with
      | some ns => if ns.length < 64 then .ok (.lst ((sortI ns).map .int)) s else .bad
      | none => .bad
    | _ => .bad
  | .lst xs => go xs
  | _ => .bad
def lenD (s : St) : D → R D
  | .str x => .ok (.int x.length) s
  | .tup x => .ok (.int x.length) s
  | .lst x => .ok (.int x.length) s
  | .ro x => .ok (.int x.length) s
  | .ref k => match s[k]? with
    | some (.lst x) => .ok (.int x.length) s
    | _ => .bad
  | _ => .bad
def bfD (s : St) : Bf → List D → R D
  | .len, [x] => lenD s x
  | .abs, [.int i] => .ok (.int (if i < 0 then -i else i)) s
  | .int, [.int i] => .ok (.int i) s
  | .int, [.bl b] => .ok (.int (if b then 1 else 0)) s
  | .bool, [.int i] => .ok (.bl (i != 0)) s
  | .bool, [.bl b] => .ok (.bl b) s
  | .tuple, [.tup xs] => .ok (.tup xs) s
  | .tuple, [x] => match asL s x with
    | some xs => .ok (.tup xs) s
    | none => .bad
  | .list, [.tup xs] => .ok (.lst xs) s
  | .list, [x] => match asL s x with
    | some xs => .ok (.lst xs) s
    | none => .bad
  | .min, [.int a, .int b] => .ok (.int (if b < a then b else a)) s
  | .max, [.int a, .int b] => .ok (.int (if b > a then b else a)) s
  | .min, [x] => match asL s x with
    | some xs => match intsOf xs with
      | some (n :: ns) => .ok (.int (minI n ns)) s
      | _ => .bad
    | none => .bad
  | .max, [x] => match asL s x with
    | some xs => match intsOf xs with
      | some (n :: ns) => .ok (.int (maxI n ns)) s
      | _ => .bad
    | none => .bad
  | .sum, [x] => match asL s x with
    | some xs => match intsOf xs with
      | some ns => .ok (.int ns.sum) s
      | none => .bad
    | none => .bad
  | .all, [x] => match asL s x with
    | some xs => match blsOf xs with
      | some bs => .ok (.bl (bs.all id)) s
      | none => .bad
    | none => .bad
  | .any, [x] => match asL s x with
    | some xs => match blsOf xs with
      | some bs => .ok (.bl (bs.any id)) s
      | none => .bad
    | none => .bad
  | .sorted, [x] => sortedD s x
  | _, _ => .bad

/-! ### types -/
inductive Ty | int | bool | str | tuple | list | cls (i : Nat)
  deriving DecidableEq
def isiD (s : St) (x : D) (t : Ty) : Option Bool :=
  match x with
  | .non => some (decide (t = .int ∧ False))
  | .bl _ => some (decide (t = .int ∨ t = .bool))
  | .int _ => some (decide (t = .int))
  | .str _ => some (decide (t = .str))
  | .tup _ => some (decide (t = .tuple))
  | .lst _ => some (decide (t = .list))
  | .ref k => match s[k]? with
    | some (.lst _) => some (decide (t = .list))
    | _ => none
  | _ => none

/-! ### methods of built-in types -/
inductive Mt | append | pop1 | index
def setS (s : St) (k : Nat) (o : Ob) : St := s.set k o
def firstAt (p : D → Bool) : List D → Nat → Option Nat
  | [], _ => none
  | x :: xs, n => if p x then some n else firstAt p xs (n + 1)
def mtOk (s : St) : Mt → D → Bool
  | .append, x => (asL s x).isSome
  | .index, x => (asL s x).isSome
  | .pop1, .ref k => match s[k]? with
    | some (.dct _ _) => true
    | _ => false
  | _, _ => false
def mtD (s : St) : Mt → D → List D → R D
  | .append, .ref k, [x] => match s[k]? with
    | some (.lst xs) => if xs.length < line then .ok .non (s.set k (.lst (xs ++ [x]))) else .bad
    | _ => .bad
  | .pop1, .ref k, [x] => match s[k]? with
    | some (.dct false kvs) => match kyOf x with
      | some q => match valK kvs q with
        | some v => .ok v (s.set k (.dct false (dropK kvs q)))
        | none => .bad
      | none => .bad
    | _ => .bad
  | .index, x, [y] => match asL s x with
    | some xs => if flatD y && xs.all flatD then match firstAt (fun z => eqFl z y) xs 0 with
      | some n => .ok (.int n) s
      | none => .bad
      else .bad
    | none => .bad
  | _, _, _ => .bad
end Kn
set_option Elab.async false
set_option linter.all false
/-! KnSem2: pieces of the text as functions. -/
namespace Kn
open PySem (Operator CmpOp PyData)

def sVar (i : Nat) : SE := fun _ e s => match e[i]? with
  | some (some (.dat d)) => .ok d s
  | _ => .bad
def sCst (d : D) : SE := fun _ _ s => .ok d s
def sList : List SE → SL
  | [], _, _, s => .ok [] s
  | f :: fs, c, e, s => (f c e s).bind fun d s1 => (sList fs c e s1).bind fun ds s2 => .ok (d :: ds) s2
def sTup (fs : List SE) : SE := fun c e s => (sList fs c e s).bind fun ds s1 => .ok (.tup ds) s1
def sLst (mu : Bool) (fs : List SE) : SE := fun c e s => (sList fs c e s).bind fun ds s1 => if mu then .ok (.ref s1.length) (s1 ++ [.lst ds]) else .ok (.lst ds) s1
def sBin (o : Bo) (a b : SE) : SE := fun c e s => (a c e s).bind fun x s1 => (b c e s1).bind fun y s2 => boD s2 o x y
def cmpD (st : St) (o : Co) (a b : D) : R D := match coD st o a b with
  | some k => .ok (.bl k) st
  | none => .bad
def sCmp (o : Co) (a b : SE) : SE := fun c e s => (a c e s).bind fun x s1 => (b c e s1).bind fun y s2 => cmpD s2 o x y
def sCmp2 (o p : Co) (a b d : SE) : SE := fun c e s => (a c e s).bind fun x s1 => (b c e s1).bind fun y s2 => match coD s2 o x y with
  | none => .bad
  | some false => .ok (.bl false) s2
  | some true => (d c e s2).bind fun z s3 => cmpD s3 p y z
def sIsN (neg : Bool) (a : SE) : SE := fun c e s => (a c e s).bind fun x s1 => .ok (.bl (if neg then !isN x else isN x)) s1
def negD (s : St) : D → R D
  | .int i => .ok (.int (-i)) s
  | _ => .bad
def sNeg (a : SE) : SE := fun c e s => (a c e s).bind fun x s1 => negD s1 x
def sTru (f : SE) : Cl → En → St → R Bool := fun c e s => (f c e s).bind fun x s1 => ofO (truD s1 x) s1
def sNot (f : SE) : SE := fun c e s => (sTru f c e s).bind fun b s1 => .ok (.bl (!b)) s1
def sAnd : List SE → SE
  | [], _, _, _ => .bad
  | f :: fs, c, e, s => match fs with
    | [] => f c e s
    | _ :: _ => (f c e s).bind fun x s1 => match truD s1 x with
      | none => .bad
      | some true => sAnd fs c e s1
      | some false => .ok x s1
def sOr : List SE → SE
  | [], _, _, _ => .bad
  | f :: fs, c, e, s => match fs with
    | [] => f c e s
    | _ :: _ => (f c e s).bind fun x s1 => match truD s1 x with
      | none => .bad
      | some true => .ok x s1
      | some false => sOr fs c e s1
def sIf (t a b : SE) : SE := fun c e s => (sTru t c e s).bind fun k s1 => if k then a c e s1 else b c e s1
def sItem (a b : SE) : SE := fun c e s => (a c e s).bind fun x s1 => (b c e s1).bind fun y s2 => itemD s2 x y
def sPart (o : Option SE) : Cl → En → St → R (Option Int) := fun c e s => match o with
  | none => .ok none s
  | some f => (f c e s).bind fun x s1 => match x with
    | .int i => .ok (some i) s1
    | _ => .bad
def sSlice (a : SE) (lo hi : Option SE) : SE := fun c e s => (a c e s).bind fun x s1 => (sPart lo c e s1).bind fun l s2 => (sPart hi c e s2).bind fun h s3 => sliceD s3 x l h
def sIsi (a : SE) (t : Ty) : SE := fun c e s => (a c e s).bind fun x s1 => match isiD s1 x t with
  | some b => .ok (.bl b) s1
  | none => .bad
def sBf (b : Bf) (fs : List SE) : SE := fun c e s => (sList fs c e s).bind fun ds s1 => bfD s1 b ds
def sMt (m : Mt) (o : SE) (fs : List SE) : SE := fun c e s => (o c e s).bind fun x s1 => if mtOk s1 m x then (sList fs c e s1).bind fun ds s2 => mtD s2 m x ds else .bad
/-! ### arguments, calls -/
def aDat (f : SE) : SA := fun c e s => (f c e s).bind fun d s1 => .ok (.dat d) s1
def aVar (i : Nat) : SA := fun _ e s => match e[i]? with
  | some (some a) => .ok a s
  | _ => .bad
def sArgs : List SA → Cl → En → St → R (List Ag)
  | [], _, _, s => .ok [] s
  | f :: fs, c, e, s => (f c e s).bind fun d s1 => (sArgs fs c e s1).bind fun ds s2 => .ok (d :: ds) s2
def sCall (i : Nat) (fs : List SA) : SE := fun c e s => (sArgs fs c e s).bind fun as s1 => c.fn i as s1

/-! ### dicts -/
def sDict0 : SE := fun _ _ s => .ok (.ref s.length) (s ++ [.dct false []])
def sDict (ks : List Ky) (fs : List SE) : SE := fun c e s => (sList fs c e (s ++ [.dct false []])).bind fun ds s1 => match s1[s.length]? with
  | some (.dct false []) => .ok (.ref s.length) (s1.set s.length (.dct false (ks.zip ds)))
  | _ => .bad

/-! ### targets -/
abbrev SG := D → En → St → Option En
def gNm (i : Nat) : SG := fun d e _ => some (e.set i (some (.dat d)))
def gAll : List SG → List D → En → St → Option En
  | [], [], e, _ => some e
  | g :: gs, d :: ds, e, s => match g d e s with
    | some e1 => gAll gs ds e1 s
    | none => none
  | _, _, _, _ => none
def asT (s : St) : D → Option (List D)
  | .tup ds => some ds
  | d => asL s d
def gTp (gs : List SG) : SG := fun d e s => match asT s d with
  | some ds => gAll gs ds e s
  | none => none

/-! ### what is walked -/
inductive Src where
  | fix (xs : List D) | rl (k : Nat) | dk (k : Nat)
def Src.get : Src → Nat → St → Option (Option D)
  | .fix xs, i, _ => some xs[i]?
  | .rl k, i, s => match s[k]? with
    | some (.lst xs) => some xs[i]?
    | _ => none
  | .dk k, i, s => match s[k]? with
    | some (.dct true kvs) => some (keysOf kvs)[i]?
    | _ => none
abbrev SI := Cl → En → St → R (Src × Nat)
def srcOf (s : St) : D → Option (Src × Nat)
  | .tup xs => some (.fix xs, xs.length)
  | .lst xs => some (.fix xs, xs.length)
  | .ro xs => some (.fix xs, xs.length)
  | .ref k => match s[k]? with
    | some (.lst xs) => some (.rl k, xs.length)
    | some (.dct true kvs) => some (.dk k, kvs.length)
    | _ => none
  | _ => none
def iVal (f : SE) : SI := fun c e s => (f c e s).bind fun d s1 => ofO (srcOf s1 d) s1
def rangeD (lo : Int) (n : Nat) : List D := (List.range n).map fun i => .int (lo + (i : Nat))
def lim : Int := 8388608
def iRange1 (f : SE) : SI := fun c e s => (f c e s).bind fun d s1 => match d with
  | .int j => if -lim ≤ j ∧ j < lim then .ok (.fix (rangeD 0 j.toNat), j.toNat) s1 else .bad
  | _ => .bad
def iRange2 (f g : SE) : SI := fun c e s => (f c e s).bind fun d s1 => (g c e s1).bind fun d2 s2 => match d with
  | .int i => match d2 with
    | .int j => if -lim ≤ i ∧ i < lim ∧ -lim ≤ j ∧ j < lim then .ok (.fix (rangeD i (j - i).toNat), (j - i).toNat) s2 else .bad
    | _ => .bad
  | _ => .bad
def enumD : Nat → List D → List D
  | _, [] => []
  | n, x :: xs => .tup [.int n, x] :: enumD (n + 1) xs
def iEnum (f : SE) : SI := fun c e s => (f c e s).bind fun d s1 => match d with
  | .tup xs => .ok (.fix (enumD 0 xs), xs.length) s1
  | .lst xs => .ok (.fix (enumD 0 xs), xs.length) s1
  | _ => .bad
def zipD : List D → List D → List D
  | x :: xs, y :: ys => .tup [x, y] :: zipD xs ys
  | _, _ => []
def iZip (f g : SE) : SI := fun c e s => (f c e s).bind fun d s1 => (g c e s1).bind fun d2 s2 => match d with
  | .tup xs => match d2 with
    | .tup ys => .ok (.fix (zipD xs ys), xs.length) s2
    | _ => .bad
  | .lst xs => match d2 with
    | .lst ys => .ok (.fix (zipD xs ys), xs.length) s2
    | _ => .bad
  | _ => .bad

/-! ### comprehensions -/
def wipeA : Option Ag → Option Ag
  | some (.dat d) => some (.dat d)
  | _ => none
def wipeI (e : En) : List Nat → En
  | [] => e
  | v :: vs => (wipeI e vs).set v none
def wipeE (own : List Nat) (e : En) : En := (wipeI e own).map wipeA
def lcTurn (own : List Nat) (g : SG) (t : Option SE) (elt : SE) (c : Cl) (e : En) (d : D) (s : St) : R (Option D) :=
  match g d (wipeE own e) s with
  | none => .bad
  | some e1 => match t with
    | none => (elt c e1 s).bind fun x s1 => .ok (some x) s1
    | some t => (sTru t c e1 s).bind fun b s1 => if b then (elt c e1 s1).bind fun x s2 => .ok (some x) s2 else .ok none s1
def lcG (get : Nat → St → Option (Option D)) (turn : D → St → R (Option D)) : Nat → Nat → List D → St → R (List D)
  | 0, i, acc, s => match get i s with
    | some none => .ok acc s
    | _ => .bad
  | n + 1, i, acc, s => match get i s with
    | none => .bad
    | some none => .ok acc s
    | some (some d) => match turn d s with
      | .ok (some x) s1 => lcG get turn n (i + 1) (acc ++ [x]) s1
      | .ok none s1 => lcG get turn n (i + 1) acc s1
      | _ => .bad
def lcI (own : List Nat) (g : SG) (t : Option SE) (elt : SE) (it : SI) : Cl → En → St → R (List D) := fun c e s =>
  (it c e s).bind fun src s1 => lcG src.1.get (lcTurn own g t elt c e) src.2 0 [] s1
def sLc (own : List Nat) (g : SG) (t : Option SE) (elt : SE) (it : SI) : SE := fun c e s => (lcI own g t elt it c e s).bind fun ds s1 => .ok (.lst ds) s1
/-- over a dict: it stands locked meanwhile -/
def sLcD (own : List Nat) (g : SG) (t : Option SE) (elt : SE) (f : SE) : SE := fun c e s => match f c e s with
  | .ok (.ref k) _ => match s[k]? with
    | some (.dct false kvs) => (lcI own g t elt (iVal f) c e (s.set k (.dct true kvs))).bind fun ds s1 => match s1[k]? with
      | some (.dct true kvs') => .ok (.lst ds) (s1.set k (.dct false kvs'))
      | _ => .bad
    | _ => sLc own g t elt (iVal f) c e s
  | _ => sLc own g t elt (iVal f) c e s

/-! ### statements -/
def R.out {α : Type} (r : R α) (e : En) (f : α → St → RS) : RS :=
  match r with
  | .ok a s => f a s
  | .exc c p s => .exc c p e s
  | .bad => .bad
def xSeq : List SS → SS
  | [], _, e, s => .nx e s
  | x :: xs, c, e, s => match xs with
    | [] => x c e s
    | _ :: _ => match x c e s with
      | .nx e1 s1 => xSeq xs c e1 s1
      | r => r
def xExpr (f : SE) : SS := fun c e s => (f c e s).out e fun _ s1 => .nx e s1
def xRet (f : SE) : SS := fun c e s => (f c e s).out e fun d s1 => .rt d s1
def xPass : SS := fun _ e s => .nx e s
def xNever : SS := fun _ _ _ => .bad
def xAsg (g : SG) (f : SE) : SS := fun c e s => (f c e s).out e fun d s1 => match g d e s1 with
  | some e1 => .nx e1 s1
  | none => .bad
def xPar (i j : Nat) (f g : SE) : SS := fun c e s => (sList [f, g] c e s).out e fun ds s1 => match ds with
  | [a, b] => .nx ((e.set i (some (.dat a))).set j (some (.dat b))) s1
  | _ => .bad
def setD (s : St) (o i v : D) : Option St := match o with
  | .ref k => match s[k]? with
    | some (.lst xs) => match i with
      | .int j => match ixN xs.length j with
        | some n => some (s.set k (.lst (xs.set n v)))
        | none => none
      | _ => none
    | some (.dct false kvs) => match kyOf i with
      | some q => if kvs.length < line then some (s.set k (.dct false (putK kvs q v))) else none
      | none => none
    | _ => none
  | _ => none
def xSet (o i v : SE) : SS := fun c e s => (v c e s).out e fun d s1 => (o c e s1).out e fun x s2 => (i c e s2).out e fun y s3 => match setD s3 x y d with
  | some s4 => .nx e s4
  | none => .bad
def xIf (t : SE) (a b : SS) : SS := fun c e s => (sTru t c e s).out e fun k s1 => if k then a c e s1 else b c e s1
def forG (get : Nat → St → Option (Option D)) (g : SG) (body : En → St → RS) : Nat → Nat → En → St → RS
  | 0, i, e, s => match get i s with
    | some none => .nx e s
    | _ => .bad
  | n + 1, i, e, s => match get i s with
    | none => .bad
    | some none => .nx e s
    | some (some d) => match g d e s with
      | none => .bad
      | some e1 => match body e1 s with
        | .nx e2 s2 => forG get g body n (i + 1) e2 s2
        | .ct e2 s2 => forG get g body n (i + 1) e2 s2
        | .bk e2 s2 => .nx e2 s2
        | r => r
def xFor (g : SG) (it : SI) (body : SS) : SS := fun c e s => (it c e s).out e fun src s1 => forG src.1.get g (body c) src.2 0 e s1
def whileG (t : En → St → R Bool) (body : En → St → RS) : Nat → En → St → RS
  | 0, _, _ => .bad
  | n + 1, e, s => (t e s).out e fun k s1 => if k then match body e s1 with
      | .nx e2 s2 => whileG t body n e2 s2
      | .ct e2 s2 => whileG t body n e2 s2
      | .bk e2 s2 => .nx e2 s2
      | r => r
    else .nx e s1
def xWhile (t : SE) (body : SS) : SS := fun c e s => whileG (sTru t c) (body c) c.fuel e s

/-! ### defs -/
structure FD where
  np : Nat
  ns : Nat
  body : SS
def runFD (fd : FD) (c : Cl) (as : List Ag) (s : St) : R D :=
  if as.length = fd.np then
    match fd.body c (as.map some ++ List.replicate (fd.ns - as.length) none) s with
    | .nx _ s1 => .ok .non s1
    | .rt d s1 => .ok d s1
    | .exc c p _ s1 => .exc c p s1
    | _ => .bad
  else .bad
def run (T : Nat → Option FD) (fuel : Nat) : Nat → Nat → List Ag → St → R D
  | 0, _, _, _ => .bad
  | n + 1, i, as, s => match T i with
    | some fd => runFD fd ⟨fuel, run T fuel n, fun _ _ _ _ => .bad⟩ as s
    | none => .bad
end Kn
set_option Elab.async false
set_option linter.all false
set_option maxHeartbeats 4000000
/-! KnRel: the plain values in the machine's heap. -/
namespace Kn
open PySem L2

def sOk (s : List Nat) : Prop := s.length ≤ line ∧ (s.all fun c => decide (c < 0x110000)) = true
def TupK (K : PySem.W.Frag) (a : Addr) (vs : List V) : Prop :=
  ∃ (o : Obj) (its : Array Value) (n : Nat), K.lookup a = some o ∧ o.cls = .type "tuple" ∧ o.data = .seq its n ∧ its.size ≤ sizeLine ∧ Vals vs its.toList
def LstK (K : PySem.W.Frag) (a : Addr) (vs : List V) : Prop :=
  ∃ (o : Obj) (its : Array Value) (n : Nat), K.lookup a = some o ∧ o.cls = .type "list" ∧ o.dict = none ∧ o.data = .seq its n ∧ its.size ≤ sizeLine ∧ Vals vs its.toList

/-- what the text has: the written part, where defs and error classes stand -/
structure Wd where
  K : PySem.W.Frag
  fa : Nat → Option Addr
  xa : Nat → Option Addr

/-- the addresses of the store; those of lists that are just being made -/
structure Mp where
  s : List Addr
  x : List Addr
mutual
inductive Rep (W : Wd) (m : Mp) (H : Hp) : D → V → Prop
  | non : Rep W m H .non .non
  | bl (b : Bool) : Rep W m H (.bl b) (.bl b)
  | int (i : Int) : Rep W m H (.int i) (.int i)
  | str (s : List Nat) : sOk s → Rep W m H (.str s) (.str ⟨s.toArray⟩)
  | tup {a : Addr} {vs : List V} {xs : List D} : H a = some (.tup vs) → a ∉ m.s → RepL W m H xs vs → Rep W m H (.tup xs) (.ref a)
  | tupK {a : Addr} {vs : List V} {xs : List D} : TupK W.K a vs → RepL W m H xs vs → (∀ x ∈ xs, ∃ s, x = .str s) → Rep W m H (.tup xs) (.ref a)
  | lst {a : Addr} {vs : List V} {xs : List D} : H a = some (.lst vs) → a ∉ m.s → a ∉ m.x → RepL W m H xs vs → Rep W m H (.lst xs) (.ref a)
  | ro {a : Addr} {vs : List V} {xs : List D} : Rd H a (.lst vs) → a ∉ m.s → a ∉ m.x → RepL W m H xs vs → Rep W m H (.ro xs) (.ref a)
  | roK {a : Addr} {vs : List V} {xs : List D} : LstK W.K a vs → RepL W m H xs vs → Rep W m H (.ro xs) (.ref a)
  | ref {k : Nat} {a : Addr} : m.s[k]? = some a → Rep W m H (.ref k) (.ref a)
  | fn {i : Nat} {a : Addr} : W.fa i = some a → Rep W m H (.fn i) (.ref a)
inductive RepL (W : Wd) (m : Mp) (H : Hp) : List D → List V → Prop
  | nil : RepL W m H [] []
  | cons {d : D} {ds : List D} {v : V} {vs : List V} : Rep W m H d v → RepL W m H ds vs → RepL W m H (d :: ds) (v :: vs)
end

/-- a step of the heap: m grew by new addresses, all that stands apart from m is kept -/
structure Stp (m : Mp) (H : Hp) (m' : Mp) (H' : Hp) : Prop where
  pre : ∃ r, m'.s = m.s ++ r
  prv : m'.x = m.x
  new : ∀ a, a ∈ m'.s → a ∈ m.s ∨ H a = none
  kep : ∀ b o, H b = some o → b ∉ m.s → H' b = some o
  frz : ∀ b o u, H b = some (.frz o u) → H' b = some (.frz o u)
theorem Stp.refl {m : Mp} {H : Hp} : Stp m H m H := ⟨⟨[], by simp⟩, rfl, fun _ h => .inl h, fun _ _ h _ => h, fun _ _ _ h => h⟩
theorem Stp.sub {m m' : Mp} {H H' : Hp} (s : Stp m H m' H') {a : Addr} (h : a ∈ m.s) : a ∈ m'.s := by
  obtain ⟨r, e⟩ := s.pre
  rw [e]
  exact List.mem_append_left _ h
theorem Stp.not {m m' : Mp} {H H' : Hp} (s : Stp m H m' H') {a : Addr} {o : HO} (h : H a = some o) (n : a ∉ m.s) : a ∉ m'.s := fun z => by
  rcases s.new a z with q | q
  · exact n q
  · rw [h] at q; cases q
theorem Stp.trans {m1 m2 m3 : Mp} {H1 H2 H3 : Hp} (a : Stp m1 H1 m2 H2) (b : Stp m2 H2 m3 H3) : Stp m1 H1 m3 H3 := by
  refine ⟨?_, b.prv.trans a.prv, fun x h => ?_, fun x o h n => ?_, fun x o u h => b.frz x o u (a.frz x o u h)⟩
  · obtain ⟨r, e⟩ := a.pre
    obtain ⟨r', e'⟩ := b.pre
    exact ⟨r ++ r', by rw [e', e, List.append_assoc]⟩
  · rcases b.new x h with q | q
    · exact a.new x q
    · cases e : H1 x with
      | none => exact .inr rfl
      | some o =>
        by_cases hx : x ∈ m1.s
        · exact .inl hx
        · rw [a.kep x o e hx] at q; cases q
  · exact b.kep x o (a.kep x o h n) (a.not h n)
theorem Stp.ix {m m' : Mp} {H H' : Hp} (s : Stp m H m' H') {k : Nat} {a : Addr} (h : m.s[k]? = some a) : m'.s[k]? = some a := by
  obtain ⟨r, e⟩ := s.pre
  rw [e, List.getElem?_append_left (List.getElem?_eq_some_iff.mp h).1]
  exact h
theorem Stp.nx {m m' : Mp} {H H' : Hp} (s : Stp m H m' H') {a : Addr} (h : a ∉ m.x) : a ∉ m'.x := by
  rw [s.prv]
  exact h

section
variable {W : Wd} {m m' : Mp} {H H' : Hp}
mutual
theorem Rep.stp (s : Stp m H m' H') : ∀ {d : D} {v : V}, Rep W m H d v → Rep W m' H' d v
  | _, _, .non => .non
  | _, _, .bl b => .bl b
  | _, _, .int i => .int i
  | _, _, .str x h => .str x h
  | _, _, .tup h n r => .tup (s.kep _ _ h n) (s.not h n) (RepL.stp s r)
  | _, _, .tupK h r z => .tupK h (RepL.stp s r) z
  | _, _, .lst h n x r => .lst (s.kep _ _ h n) (s.not h n) (s.nx x) (RepL.stp s r)
  | _, _, .ro (.inl h) n x r => .ro (.inl (s.kep _ _ h n)) (s.not h n) (s.nx x) (RepL.stp s r)
  | _, _, .ro (.inr ⟨o, h⟩) n x r => .ro (.inr ⟨o, s.kep _ _ h n⟩) (s.not h n) (s.nx x) (RepL.stp s r)
  | _, _, .roK h r => .roK h (RepL.stp s r)
  | _, _, .ref h => .ref (s.ix h)
  | _, _, .fn h => .fn h
theorem RepL.stp (s : Stp m H m' H') : ∀ {d : List D} {v : List V}, RepL W m H d v → RepL W m' H' d v
  | _, _, .nil => .nil
  | _, _, .cons h r => .cons (Rep.stp s h) (RepL.stp s r)
end
theorem RepL.length : ∀ {d : List D} {v : List V}, RepL W m H d v → d.length = v.length
  | _, _, .nil => rfl
  | _, _, .cons _ r => by rw [List.length_cons, List.length_cons, RepL.length r]
theorem RepL.get : ∀ {ds : List D} {vs : List V} {i : Nat} {d : D}, RepL W m H ds vs → ds[i]? = some d → ∃ v, vs[i]? = some v ∧ Rep W m H d v
  | _, _, _, _, .nil, e => by simp at e
  | _, _, 0, _, .cons r _, e => by simp at e; subst e; exact ⟨_, rfl, r⟩
  | _, _, i + 1, _, .cons _ t, e => by
    obtain ⟨v, h1, h2⟩ := RepL.get (i := i) t (by simpa using e)
    exact ⟨v, by simpa using h1, h2⟩
theorem RepL.append : ∀ {a b : List D} {u v : List V}, RepL W m H a u → RepL W m H b v → RepL W m H (a ++ b) (u ++ v)
  | _, _, _, _, .nil, h => h
  | _, _, _, _, .cons r t, h => .cons r (RepL.append t h)
theorem RepL.take : ∀ {a : List D} {u : List V} (n : Nat), RepL W m H a u → RepL W m H (a.take n) (u.take n)
  | _, _, 0, _ => .nil
  | _, _, _ + 1, .nil => .nil
  | _, _, n + 1, .cons r t => .cons r (RepL.take n t)
theorem RepL.drop : ∀ {a : List D} {u : List V} (n : Nat), RepL W m H a u → RepL W m H (a.drop n) (u.drop n)
  | _, _, 0, h => h
  | _, _, _ + 1, .nil => .nil
  | _, _, n + 1, .cons _ t => RepL.drop n t
theorem RepL.flat {a : List D} {u : List V} (h : RepL W m H a u) : ∀ n : Nat, RepL W m H (List.replicate n a).flatten (List.replicate n u).flatten
  | 0 => .nil
  | n + 1 => by
    rw [List.replicate_succ, List.replicate_succ, List.flatten_cons, List.flatten_cons]
    exact h.append (RepL.flat h n)
end

/-! ### the store -/
def kyV : Ky → Key
  | .i n => .inl n
  | .s x => .inr ⟨x.toArray⟩
theorem kyV_inj : ∀ {a b : Ky}, kyV a = kyV b → a = b
  | .i a, .i b, h => by injection h with h; rw [h]
  | .s a, .s b, h => by
    injection h with h
    injection h with h
    rw [show a = b from by simpa using congrArg Array.toList h]
  | .i _, .s _, h => nomatch h
  | .s _, .i _, h => nomatch h
def kyOk : Ky → Prop
  | .i _ => True
  | .s x => sOk x
inductive RepK (W : Wd) (m : Mp) (H : Hp) : List (Ky × D) → List (Key × V) → Prop
  | nil : RepK W m H [] []
  | cons {k : Ky} {d : D} {ds : List (Ky × D)} {v : V} {vs : List (Key × V)} : kyOk k → Rep W m H d v → RepK W m H ds vs → RepK W m H ((k, d) :: ds) ((kyV k, v) :: vs)
def RepO (W : Wd) (m : Mp) (H : Hp) (a : Addr) : Ob → Prop
  | .lst xs => ∃ vs, H a = some (.lst vs) ∧ RepL W m H xs vs
  | .dct false kvs => ∃ vs, H a = some (.dK vs) ∧ RepK W m H kvs vs
  | .dct true kvs => ∃ o vs, H a = some (.frz o (.dK vs)) ∧ RepK W m H kvs vs
  | .ins _ _ => False
structure RelS (W : Wd) (m : Mp) (st : St) (H : Hp) : Prop where
  len : m.s.length = st.length
  nd : m.s.Nodup
  prv : ∀ a ∈ m.x, ∃ u, H a = some u
  ob : ∀ (k : Nat) (o : Ob) (a : Addr), st[k]? = some o → m.s[k]? = some a → RepO W m H a o
section
variable {W : Wd} {m m' : Mp} {H H' : Hp} {st : St}
theorem RepK.stp (s : Stp m H m' H') : ∀ {d : List (Ky × D)} {v : List (Key × V)}, RepK W m H d v → RepK W m' H' d v
  | _, _, .nil => .nil
  | _, _, .cons h q r => .cons h (q.stp s) (RepK.stp s r)
theorem RepO.trk {a : Addr} {o : Ob} (h : RepO W m H a o) : ∃ u, H a = some u := by
  cases o with
  | lst xs => obtain ⟨vs, e, _⟩ := h; exact ⟨_, e⟩
  | dct lk kvs =>
    cases lk with
    | false => obtain ⟨vs, e, _⟩ := h; exact ⟨_, e⟩
    | true => obtain ⟨o, vs, e, _⟩ := h; exact ⟨_, e⟩
  | ins c fs => exact h.elim
theorem RelS.addr (S : RelS W m st H) {k : Nat} {o : Ob} (h : st[k]? = some o) : ∃ a, m.s[k]? = some a ∧ RepO W m H a o := by
  have hk : k < m.s.length := by rw [S.len]; exact (List.getElem?_eq_some_iff.mp h).1
  exact ⟨m.s[k], List.getElem?_eq_getElem hk, S.ob k o _ h (List.getElem?_eq_getElem hk)⟩
theorem RelS.tracked (S : RelS W m st H) {a : Addr} (h : a ∈ m.s) : ∃ u, H a = some u := by
  obtain ⟨k, hk, e⟩ := List.mem_iff_getElem.mp h
  have hs : k < st.length := by rw [← S.len]; exact hk
  exact (S.ob k _ a (List.getElem?_eq_getElem hs) (by rw [List.getElem?_eq_getElem hk, e])).trk
theorem RelS.fresh (S : RelS W m st H) {a : Addr} (h : H a = none) : a ∉ m.s := fun z => by
  obtain ⟨u, e⟩ := S.tracked z
  rw [h] at e; cases e
theorem RelS.freshx (S : RelS W m st H) {a : Addr} (h : H a = none) : a ∉ m.x := fun z => by
  obtain ⟨u, e⟩ := S.prv a z
  rw [h] at e; cases e
/-- a new thing beside m -/
theorem Stp.put {p : Addr} {o : HO} (hp : H p = none) : Stp m H m (upd H p o) := ⟨⟨[], by simp⟩, rfl, fun _ h => .inl h, fun b u h _ => by
  rw [upd_ne (ne_of_none h hp)]
  exact h, fun b q u h => by
  rw [upd_ne (ne_of_none h hp)]
  exact h⟩
theorem RepO.stp (s : Stp m H m' H') {a : Addr} {o : Ob} (hk : ∀ u, H a = some u → H' a = some u) (h : RepO W m H a o) : RepO W m' H' a o := by
  cases o with
  | lst xs => obtain ⟨vs, e, r⟩ := h; exact ⟨vs, hk _ e, r.stp s⟩
  | dct lk kvs =>
    cases lk with
    | false => obtain ⟨vs, e, r⟩ := h; exact ⟨vs, hk _ e, r.stp s⟩
    | true => obtain ⟨o, vs, e, r⟩ := h; exact ⟨o, vs, hk _ e, r.stp s⟩
  | ins c fs => exact h.elim
theorem RelS.put (S : RelS W m st H) {p : Addr} {o : HO} (hp : H p = none) : RelS W m st (upd H p o) :=
  ⟨S.len, S.nd, fun a h => by
    obtain ⟨u, e⟩ := S.prv a h
    exact ⟨u, by rw [upd_ne (ne_of_none e hp)]; exact e⟩, fun k ob a h1 h2 => RepO.stp (Stp.put hp) (fun u e => by
    rw [upd_ne (ne_of_none e hp)]
    exact e) (S.ob k ob a h1 h2)⟩
/-- a new thing in the store -/
theorem Stp.add {p : Addr} {o : HO} (hp : H p = none) : Stp m H ⟨m.s ++ [p], m.x⟩ (upd H p o) := ⟨⟨[p], rfl⟩, rfl, fun a h => by
  rcases List.mem_append.mp h with q | q
  · exact .inl q
  · have e : a = p := by simpa using q
    exact .inr (e ▸ hp), fun b u h _ => by
  rw [upd_ne (ne_of_none h hp)]
  exact h, fun b q u h => by
  rw [upd_ne (ne_of_none h hp)]
  exact h⟩
theorem RelS.add (S : RelS W m st H) {p : Addr} {o : HO} {ob : Ob} (hp : H p = none) (new : RepO W ⟨m.s ++ [p], m.x⟩ (upd H p o) p ob) : RelS W ⟨m.s ++ [p], m.x⟩ (st ++ [ob]) (upd H p o) := by
  refine ⟨by simp [S.len], List.nodup_append.mpr ⟨S.nd, by simp, fun a ha b hb e => ?_⟩, fun a h => ?_, fun k u a h1 h2 => ?_⟩
  · have e' : b = p := by simpa using hb
    subst e'
    subst e
    exact S.fresh hp ha
  · obtain ⟨u, e⟩ := S.prv a h
    exact ⟨u, by rw [upd_ne (ne_of_none e hp)]; exact e⟩
  · have h2 : (m.s ++ [p])[k]? = some a := h2
    by_cases hk : k < st.length
    · rw [List.getElem?_append_left hk] at h1
      rw [List.getElem?_append_left (by rw [S.len]; exact hk)] at h2
      exact RepO.stp (Stp.add hp) (fun w e => by
        rw [upd_ne (ne_of_none e hp)]
        exact e) (S.ob k u a h1 h2)
    · have hk1 := (List.getElem?_eq_some_iff.mp h1).1
      rw [List.length_append, List.length_singleton] at hk1
      have hk2 : k = st.length := by omega
      subst hk2
      rw [List.getElem?_append_right (Nat.le_refl _), Nat.sub_self] at h1
      rw [List.getElem?_append_right (by rw [S.len]; exact Nat.le_refl _), S.len, Nat.sub_self] at h2
      cases h1
      cases h2
      exact new
/-- a thing of the store is written -/
theorem Stp.set {p : Addr} {o : HO} (hp : p ∈ m.s) (hf : ∀ q u, H p ≠ some (.frz q u)) : Stp m H m (upd H p o) := ⟨⟨[], by simp⟩, rfl, fun _ h => .inl h, fun b u h n => by
  have hb : b ≠ p := by
    rintro rfl
    exact n hp
  rw [upd_ne hb]
  exact h, fun b q u h => by
  have hb : b ≠ p := by
    rintro rfl
    exact hf q u h
  rw [upd_ne hb]
  exact h⟩
theorem RelS.set (S : RelS W m st H) {k : Nat} {p : Addr} {o : HO} {ob : Ob} (hk : m.s[k]? = some p) (hf : ∀ q u, H p ≠ some (.frz q u)) (new : RepO W m (upd H p o) p ob) : RelS W m (st.set k ob) (upd H p o) := by
  refine ⟨by rw [List.length_set]; exact S.len, S.nd, fun a h => ?_, fun j u a h1 h2 => ?_⟩
  · obtain ⟨u, e⟩ := S.prv a h
    by_cases ha : a = p
    · exact ⟨o, by rw [ha, upd_same]⟩
    · exact ⟨u, by rw [upd_ne ha]; exact e⟩
  by_cases hj : j = k
  · subst hj
    rw [hk] at h2
    cases h2
    have hl : j < st.length := by rw [← S.len]; exact (List.getElem?_eq_some_iff.mp hk).1
    rw [List.getElem?_set_self hl] at h1
    cases h1
    exact new
  · rw [List.getElem?_set_ne (Ne.symm hj)] at h1
    have hne : a ≠ p := fun z => hj (by
      obtain ⟨l1, e1⟩ := List.getElem?_eq_some_iff.mp h2
      obtain ⟨l2, e2⟩ := List.getElem?_eq_some_iff.mp hk
      exact (List.getElem_inj S.nd).mp (by rw [e1, e2, z]))
    exact RepO.stp (Stp.set (List.mem_of_getElem? hk) hf) (fun w e => by
      rw [upd_ne hne]
      exact e) (S.ob j u a h1 h2)
end

/-! ### slots -/
/-- CP: what a lambda's value must be -/
abbrev CPt := Nat → En → V → Prop
def RepA (W : Wd) (CP : CPt) (m : Mp) (H : Hp) : Ag → V → Prop
  | .dat d, v => Rep W m H d v
  | .clo c e, v => CP c e v
structure RelE (W : Wd) (CP : CPt) (m : Mp) (en : En) (σ : L2.St) (H : Hp) : Prop where
  len : en.length = σ.length
  at_ : ∀ (i : Nat) (a : Ag), en[i]? = some (some a) → ∃ v, σ[i]? = some (some v) ∧ RepA W CP m H a v
section
variable {W : Wd} {CP : CPt} {m m' : Mp} {H H' : Hp} {en : En} {σ : L2.St}
theorem RepA.stp (s : Stp m H m' H') {a : Ag} {v : V} (h : RepA W CP m H a v) : RepA W CP m' H' a v := by
  cases a with
  | dat d => exact Rep.stp s h
  | clo c e => exact h
theorem RelE.stp (s : Stp m H m' H') (E : RelE W CP m en σ H) : RelE W CP m' en σ H' := ⟨E.len, fun i a h => by
  obtain ⟨v, h1, h2⟩ := E.at_ i a h
  exact ⟨v, h1, h2.stp s⟩⟩
theorem RelE.set (E : RelE W CP m en σ H) {i : Nat} {a : Ag} {v : V} (h : RepA W CP m H a v) : RelE W CP m (en.set i (some a)) (σ.set i (some v)) H := by
  refine ⟨by rw [List.length_set, List.length_set]; exact E.len, fun j b hb => ?_⟩
  by_cases hj : j = i
  · subst hj
    have hl := (List.getElem?_eq_some_iff.mp hb).1
    rw [List.length_set] at hl
    rw [List.getElem?_set_self hl] at hb
    cases hb
    rw [List.getElem?_set_self (by rw [← E.len]; exact hl)]
    exact ⟨v, rfl, h⟩
  · rw [List.getElem?_set_ne (Ne.symm hj)] at hb
    rw [List.getElem?_set_ne (Ne.symm hj)]
    exact E.at_ j b hb
end
/-- an exception in flight -/
def ExR (W : Wd) (m : Mp) (H : Hp) (c : Nat) (p : Option D) (cls : Value) (dd : Option Addr) : Prop :=
  (∃ C, W.xa c = some C ∧ cls = .ref C) ∧ match p with
    | none => dd = none
    | some d => ∃ a f v, dd = some a ∧ H a = some (.xd [(f, v)]) ∧ a ∉ m.s ∧ Rep W m H d v
end Kn
set_option Elab.async false
set_option linter.all false
set_option maxHeartbeats 4000000
/-! KnJ: what it means that a piece of the text computes as told. -/
namespace Kn
open PySem L2

section
variable {α β γ δ : Type}
/-- the end of a computation, as the machine must show it -/
def Fin (W : Wd) (Wx : WX) (σ : L2.St) (m : Mp) (H : Hp) (r : R α) (Rp : Mp → Hp → α → β → Prop) (Q : β → Hp → Prop) : Prop :=
  match r with
  | .ok d st' => ∀ v H' m', Stp m H m' H' → RelS W m' st' H' → Rp m' H' d v → Q v H'
  | .exc c p st' => ∀ cls dd H' m', Stp m H m' H' → RelS W m' st' H' → ExR W m' H' c p cls dd → Wx cls dd σ H'
  | .bad => False
variable {W : Wd} {Wx : WX} {σ : L2.St} {m m' : Mp} {H H' : Hp} {r : R α} {Rp : Mp → Hp → α → β → Prop} {Rq : Mp → Hp → γ → δ → Prop} {Q Q' : β → Hp → Prop} {Z : δ → Hp → Prop} {g : α → St → R γ}
theorem Fin.mono (h : Fin W Wx σ m H r Rp Q) (k : ∀ v H', Q v H' → Q' v H') : Fin W Wx σ m H r Rp Q' := by
  cases r with
  | ok d st' => exact fun v H' m' a b c => k _ _ (h v H' m' a b c)
  | exc c p st' => exact h
  | bad => exact h
theorem Fin.step (s : Stp m H m' H') (h : Fin W Wx σ m H r Rp Q) : Fin W Wx σ m' H' r Rp Q := by
  cases r with
  | ok d st' => exact fun v H1 m1 a b c => h v H1 m1 (s.trans a) b c
  | exc c p st' => exact fun cls dd H1 m1 a b c => h cls dd H1 m1 (s.trans a) b c
  | bad => exact h
theorem Fin.bind (h : Fin W Wx σ m H (r.bind g) Rq Z) :
    Fin W Wx σ m H r Rp (fun v H1 => ∃ a st1 m1, r = .ok a st1 ∧ Stp m H m1 H1 ∧ RelS W m1 st1 H1 ∧ Rp m1 H1 a v ∧ Fin W Wx σ m1 H1 (g a st1) Rq Z) := by
  cases r with
  | ok d st' => exact fun v H1 m1 a b c => ⟨d, st', m1, rfl, a, b, c, Fin.step a h⟩
  | exc c p st' => exact h
  | bad => exact h
theorem Fin.ok {d : α} {st : St} {v : β} (h : Fin W Wx σ m H (.ok d st) Rp Q) (S : RelS W m st H) (q : Rp m H d v) : Q v H := h v H m .refl S q
end
section
variable (W : Wd) (CP : CPt) (Wx : WX)
/-- the reading of a computation -/
def tG {α β : Type} (Rp : Mp → Hp → α → β → Prop) (f : En → St → R α) : L2.St → Hp → (β → Hp → Prop) → Prop := fun σ H Q =>
  ∃ en st m, RelE W CP m en σ H ∧ RelS W m st H ∧ Fin W Wx σ m H (f en st) Rp Q
abbrev tI (f : En → St → R D) : TE := tG W CP Wx (Rep W) f
abbrev bRp : Mp → Hp → Bool → Bool → Prop := fun _ _ a b => a = b
abbrev tIb (f : En → St → R Bool) : TT := tG W CP Wx bRp f
abbrev tIl (f : En → St → R (List D)) : TA := tG W CP Wx (RepL W) f
inductive RepAL (m : Mp) (H : Hp) : List Ag → List V → Prop
  | nil : RepAL m H [] []
  | cons {d : Ag} {ds : List Ag} {v : V} {vs : List V} : RepA W CP m H d v → RepAL m H ds vs → RepAL m H (d :: ds) (v :: vs)
abbrev tIa (f : En → St → R (List Ag)) : TA := tG W CP Wx (RepAL W CP) f
end
section
variable {W : Wd} {CP : CPt} {Wx : WX}
theorem RepAL.stp {m m' : Mp} {H H' : Hp} (s : Stp m H m' H') : ∀ {d : List Ag} {v : List V}, RepAL W CP m H d v → RepAL W CP m' H' d v
  | _, _, .nil => .nil
  | _, _, .cons h r => .cons (h.stp s) (RepAL.stp s r)
theorem RepAL.length {m : Mp} {H : Hp} : ∀ {d : List Ag} {v : List V}, RepAL W CP m H d v → d.length = v.length
  | _, _, .nil => rfl
  | _, _, .cons h r => by rw [List.length_cons, List.length_cons, RepAL.length r]
end
/-- a rule under a weaker reading -/
theorem pe_imp {X : Cx} {e : Expr} {t t' : TE} (h : PE X e t) (k : ∀ σ H Q, t' σ H Q → t σ H Q) : PE X e t' := ⟨fun pins s σ H Q I q => h.run pins s σ H Q I (k σ H Q q)⟩
theorem pt_imp {X : Cx} {e : Expr} {t t' : TT} (h : PT X e t) (k : ∀ σ H Q, t' σ H Q → t σ H Q) : PT X e t' := ⟨fun pins s σ H Q I q => h.run pins s σ H Q I (k σ H Q q)⟩
theorem pw_imp {X : Cx} {e : Expr} {t t' : TT} (h : PW X e t) (k : ∀ σ H Q, t' σ H Q → t σ H Q) : PW X e t' := ⟨fun wh pins s σ H Q I q => h.run wh pins s σ H Q I (k σ H Q q)⟩
theorem pa_imp {X : Cx} {e : List Expr} {t t' : TA} (h : PA X e t) (k : ∀ σ H Q, t' σ H Q → t σ H Q) : PA X e t' := ⟨fun pos pins s σ H Q I q => h.run pos pins s σ H Q I (k σ H Q q)⟩
theorem ps_imp {X : Cx} {e : Stmt} {t t' : TS} (h : PS X e t) (k : ∀ D σ H, t' D σ H → t D σ H) : PS X e t' := ⟨fun pins s σ H D I q => h.run pins s σ H D I (k D σ H q)⟩
theorem pss_imp {X : Cx} {e : List Stmt} {t t' : TS} (h : PSs X e t) (k : ∀ D σ H, t' D σ H → t D σ H) : PSs X e t' := ⟨fun pins s σ H D I q => h.run pins s σ H D I (k D σ H q)⟩

/-! ### the values by their reps -/
section
variable {W : Wd} {m : Mp} {H : Hp} {K : PySem.W.Frag}
theorem TupK.sq {a : Addr} {vs : List V} (h : TupK K a vs) : SqT K H a vs := .inr h
theorem LstK.sq {a : Addr} {vs : List V} (h : LstK K a vs) : SqL K H a vs := .inr h
theorem Rep.tupE {xs : List D} {v : V} (h : Rep W m H (.tup xs) v) : ∃ a vs, v = .ref a ∧ SqT W.K H a vs ∧ RepL W m H xs vs := by
  cases h with
  | tup e n r => exact ⟨_, _, rfl, .inl (.inl e), r⟩
  | tupK e r _ => exact ⟨_, _, rfl, e.sq, r⟩
theorem Rep.lstE {xs : List D} {v : V} (h : Rep W m H (.lst xs) v) : ∃ a vs, v = .ref a ∧ H a = some (.lst vs) ∧ a ∉ m.s ∧ RepL W m H xs vs := by
  cases h with
  | lst e n x r => exact ⟨_, _, rfl, e, n, r⟩
theorem Rep.roE {xs : List D} {v : V} (h : Rep W m H (.ro xs) v) : ∃ a vs, v = .ref a ∧ SqL W.K H a vs ∧ RepL W m H xs vs := by
  cases h with
  | ro e n x r => exact ⟨_, _, rfl, .inl e, r⟩
  | roK e r => exact ⟨_, _, rfl, e.sq, r⟩
theorem Rep.refE {k : Nat} {v : V} (h : Rep W m H (.ref k) v) : ∃ a, v = .ref a ∧ m.s[k]? = some a := by
  cases h with
  | ref e => exact ⟨_, rfl, e⟩
/-- a list by value, or in the store -/
theorem asL_rep {st : St} {x : D} {xs : List D} {v : V} (S : RelS W m st H) (h : Rep W m H x v) (e : asL st x = some xs) : ∃ a vs, v = .ref a ∧ H a = some (.lst vs) ∧ RepL W m H xs vs := by
  cases x with
  | lst ys =>
    have e' : ys = xs := Option.some.inj e
    subst e'
    obtain ⟨a, vs, e1, e2, _, r⟩ := h.lstE
    exact ⟨a, vs, e1, e2, r⟩
  | ref k =>
    obtain ⟨a, e1, e2⟩ := h.refE
    have e' : (match st[k]? with | some (.lst xs) => some xs | _ => none) = some xs := e
    cases hk : st[k]? with
    | none => rw [hk] at e'; cases e'
    | some o =>
      rw [hk] at e'
      cases o with
      | lst ys =>
        have e3 : ys = xs := Option.some.inj e'
        subst e3
        obtain ⟨vs, e4, r⟩ := S.ob k _ a hk e2
        exact ⟨a, vs, e1, e4, r⟩
      | dct _ _ => cases e'
      | ins _ _ => cases e'
  | _ => cases e
end
theorem line_eq : line = sizeLine := by rw [sizeLine_eq]; rfl
theorem sOk.app {a b : List Nat} (h1 : sOk a) (h2 : sOk b) (h : a.length + b.length ≤ line) : sOk (a ++ b) := ⟨by rw [List.length_append]; exact h, by rw [List.all_append, h1.2, h2.2]; rfl⟩

/-! ### data -/
section
variable {W : Wd} {m : Mp} {H : Hp} {st : St}
theorem mapO_some {α β : Type} {f : α → Option β} : ∀ {xs : List α} {ys : List β}, mapO f xs = some ys → Paired (fun a b => f a = some b) xs ys
  | [], ys, h => by
    have e : [] = ys := Option.some.inj h
    subst e
    exact .nil
  | x :: xs, ys, h => by
    unfold mapO at h
    cases e : f x with
    | none => rw [e] at h; cases h
    | some y =>
      rw [e] at h
      cases e2 : mapO f xs with
      | none => rw [e2] at h; cases h
      | some zs =>
        rw [e2] at h
        have e3 : y :: zs = ys := Option.some.inj h
        subst e3
        exact .cons e (mapO_some e2)
theorem dpAll_of {K : PySem.W.Frag} {f : D → Option PyData} (ih : ∀ d v p, f d = some p → Rep W m H d v → Dp K H v p ∧ p.canLay0 = true ∧ p.depth ≤ n) : ∀ {xs : List D} {ps : List PyData} {vs : List V},
    Paired (fun a b => f a = some b) xs ps → RepL W m H xs vs → DpAll K H vs ps ∧ PyData.canLayAll0 ps = true ∧ PyData.depthAll ps ≤ n
  | _, _, _, .nil, .nil => ⟨.nil, by simp [PyData.canLayAll0], by simp [PyData.depthAll]⟩
  | _, _, _, .cons e p, .cons r q => by
    obtain ⟨a1, a2, a3⟩ := ih _ _ _ e r
    obtain ⟨b1, b2, b3⟩ := dpAll_of ih p q
    exact ⟨.cons a1 b1, by simp [PyData.canLayAll0, a2, b2], by simp only [PyData.depthAll]; omega⟩
theorem asL_ref {k : Nat} {xs : List D} (h : st[k]? = some (.lst xs)) : asL st (.ref k) = some xs := by
  show (match st[k]? with | some (.lst xs) => some xs | _ => none) = some xs
  rw [h]
theorem pd_dp (S : RelS W m st H) : ∀ (n : Nat) (d : D) (v : V) (p : PyData), pd st n d = some p → Rep W m H d v → Dp W.K H v p ∧ p.canLay0 = true ∧ p.depth ≤ n := by
  intro n
  induction n with
  | zero =>
    intro d v p e r
    cases e
  | succ n ih =>
    have all : ∀ {xs : List D} {vs : List V} {ps : List PyData}, mapO (pd st n) xs = some ps → RepL W m H xs vs → DpAll W.K H vs ps ∧ PyData.canLayAll0 ps = true ∧ PyData.depthAll ps ≤ n := fun e r => dpAll_of ih (mapO_some e) r
    intro d v p e r
    cases d with
    | non =>
      cases r; cases e
      exact ⟨.non, by simp [PyData.canLay0], by simp [PyData.depth]⟩
    | bl b =>
      cases r; cases e
      exact ⟨.bl b, by simp [PyData.canLay0], by simp [PyData.depth]⟩
    | int i =>
      cases r; cases e
      exact ⟨.int i, by simp [PyData.canLay0], by simp [PyData.depth]⟩
    | str s =>
      cases r with
      | str _ h =>
        cases e
        refine ⟨.str _, ?_, by simp [PyData.depth]⟩
        have h2 := h.2
        simp only [PyData.canLay0, PyData.strOk]
        simpa using h2
    | tup xs =>
      obtain ⟨a, vs, rfl, q, rr⟩ := r.tupE
      have e : (mapO (pd st n) xs).map PyData.tuple = some p := e
      cases e2 : mapO (pd st n) xs with
      | none => rw [e2] at e; cases e
      | some ps =>
        rw [e2] at e
        have e3 : PyData.tuple ps = p := Option.some.inj e
        subst e3
        obtain ⟨a1, a2, a3⟩ := all e2 rr
        exact ⟨.tup q a1, by simpa [PyData.canLay0] using a2, by simp only [PyData.depth]; omega⟩
    | lst xs =>
      obtain ⟨a, vs, rfl, q, _, rr⟩ := r.lstE
      have e : (mapO (pd st n) xs).map PyData.list = some p := e
      cases e2 : mapO (pd st n) xs with
      | none => rw [e2] at e; cases e
      | some ps =>
        rw [e2] at e
        have e3 : PyData.list ps = p := Option.some.inj e
        subst e3
        obtain ⟨a1, a2, a3⟩ := all e2 rr
        exact ⟨.lst (.of q) a1, by simpa [PyData.canLay0] using a2, by simp only [PyData.depth]; omega⟩
    | ref k =>
      have e : (match st[k]? with | some (.lst xs) => (mapO (pd st n) xs).map PyData.list | _ => none) = some p := e
      cases hk : st[k]? with
      | none => rw [hk] at e; cases e
      | some o =>
        rw [hk] at e
        cases o with
        | dct _ _ => cases e
        | ins _ _ => cases e
        | lst xs =>
          have e : (mapO (pd st n) xs).map PyData.list = some p := e
          obtain ⟨a, vs, rfl, q, rr⟩ := asL_rep (x := .ref k) (xs := xs) S r (asL_ref hk)
          cases e2 : mapO (pd st n) xs with
          | none => rw [e2] at e; cases e
          | some ps =>
            rw [e2] at e
            have e3 : PyData.list ps = p := Option.some.inj e
            subst e3
            obtain ⟨a1, a2, a3⟩ := all e2 rr
            exact ⟨.lst (.of q) a1, by simpa [PyData.canLay0] using a2, by simp only [PyData.depth]; omega⟩
    | ro xs => cases e
    | fn i => cases e
    | cls i => cases e
theorem shaped_of {p : PyData} {n : Nat} (h1 : p.canLay0 = true) (h2 : p.depth ≤ n) (h : n ≤ 64) : SeqAt.shaped p = true := by
  unfold SeqAt.shaped
  rw [h1, decide_eq_true (by omega : p.depth ≤ 64)]
  rfl
end
end Kn
set_option Elab.async false
set_option linter.all false
set_option maxHeartbeats 4000000
/-! KnOps: operators, comparisons, items, slices by values. -/
namespace Kn
open PySem L2 PyProof.Rows

def OpOk (W : Wd) (op : St → D → D → R D) (r : R2) : Prop := ∀ (Wx : WX) (σ : L2.St) (m : Mp) (H : Hp) (st : St) (a b : D) (x y : V) (Q : VK),
  RelS W m st H → Rep W m H a x → Rep W m H b y → Fin W Wx σ m H (op st a b) (Rep W) Q → r x y H Q
/-- an operator of the text computes as told -/
structure Op2 (W : Wd) (X : Cx) (f : Value → Value → Sem Value) (op : St → D → D → R D) : Prop where
  ex : ∃ r : R2, OpR X f r ∧ OpOk W op r
theorem fin_if {W : Wd} {Wx : WX} {σ : L2.St} {m : Mp} {H : Hp} {c : Prop} [Decidable c] {α β : Type} {r : R α} {Rp : Mp → Hp → α → β → Prop} {Q : β → Hp → Prop} (h : Fin W Wx σ m H (if c then r else .bad) Rp Q) : c ∧ Fin W Wx σ m H r Rp Q := by
  by_cases hc : c
  · rw [if_pos hc] at h
    exact ⟨hc, h⟩
  · rw [if_neg hc] at h
    exact h.elim
section
variable {W : Wd} {X : Cx}
/-- the answer is a new list, by value -/
theorem fin_newL {Wx : WX} {σ : L2.St} {m : Mp} {H : Hp} {st : St} {xs : List D} {vs : List V} {Q : VK} (S : RelS W m st H) (r : RepL W m H xs vs) (F : Fin W Wx σ m H (.ok (.lst xs) st) (Rep W) Q) :
    ∀ p, H p = none → Q (.ref p) (upd H p (.lst vs)) := fun p hp =>
  F (.ref p) (upd H p (.lst vs)) m (Stp.put hp) (S.put hp) (.lst upd_same (S.fresh hp) (S.freshx hp) (r.stp (Stp.put hp)))
theorem fin_newT {Wx : WX} {σ : L2.St} {m : Mp} {H : Hp} {st : St} {xs : List D} {vs : List V} {Q : VK} (S : RelS W m st H) (r : RepL W m H xs vs) (F : Fin W Wx σ m H (.ok (.tup xs) st) (Rep W) Q) :
    ∀ p, H p = none → Q (.ref p) (upd H p (.tup vs)) := fun p hp =>
  F (.ref p) (upd H p (.tup vs)) m (Stp.put hp) (S.put hp) (.tup upd_same (S.fresh hp) (r.stp (Stp.put hp)))
theorem add_ok (hK : X.K = W.K) : Op2 W X (binaryOp .Add) addD := by
  refine ⟨_, (op_add).or (op_add_str.or (op_catA.or op_cat)), ?_⟩
  intro Wx σ m H st a b x y Q S ra rb F
  have lists : (match asL st a, asL st b with
    | some a, some b => if a.length + b.length ≤ line then R.ok (.lst (a ++ b)) st else .bad
    | _, _ => .bad) = addD st a b → rCat x y H Q := fun e => by
    rw [← e] at F
    cases ea : asL st a with
    | none => rw [ea] at F; exact F.elim
    | some xs =>
      cases eb : asL st b with
      | none => rw [ea, eb] at F; exact F.elim
      | some ys =>
        rw [ea, eb] at F
        obtain ⟨hl, F⟩ := fin_if F
        obtain ⟨p, vs, rfl, hp, r1⟩ := asL_rep S ra ea
        obtain ⟨q, us, rfl, hq, r2⟩ := asL_rep S rb eb
        exact ⟨p, q, vs, us, rfl, rfl, hp, hq, by rw [← r1.length, ← r2.length, ← line_eq]; exact hl, fin_newL S (r1.append r2) F⟩
  cases a with
  | int i =>
    cases b with
    | int j =>
      cases ra; cases rb
      exact .inl ⟨i, j, rfl, rfl, F.ok S (.int _)⟩
    | _ => exact .inr (.inr (.inr (lists rfl)))
  | str s =>
    cases b with
    | str t =>
      obtain ⟨hl, F⟩ := fin_if F
      cases ra with
      | str _ h1 =>
        cases rb with
        | str _ h2 =>
          refine .inr (.inl ⟨_, _, rfl, rfl, ?_, ?_⟩)
          · rw [← line_eq]
            simpa [Str.length] using hl
          · have e := F.ok S (.str _ (h1.app h2 hl))
            have e2 : (⟨s.toArray⟩ : Str) ++ ⟨t.toArray⟩ = ⟨(s ++ t).toArray⟩ := by
              show Str.append _ _ = _
              simp [Str.append]
            rw [e2]
            exact e
    | _ => exact .inr (.inr (.inr (lists rfl)))
  | tup s =>
    cases b with
    | tup t =>
      obtain ⟨hl, F⟩ := fin_if F
      obtain ⟨p, vs, rfl, hp, r1⟩ := ra.tupE
      obtain ⟨q, us, rfl, hq, r2⟩ := rb.tupE
      refine .inr (.inr (.inl ⟨p, q, vs, us, rfl, rfl, hK ▸ hp, hK ▸ hq, by rw [← r1.length, ← r2.length, ← line_eq]; exact hl, fun e => ?_, fun e1 e2 => ?_, fun _ _ => fin_newT S (r1.append r2) F⟩))
      · subst e
        cases r1
        exact F.ok S rb
      · subst e2
        cases r2
        rw [List.append_nil] at F
        exact F.ok S ra
    | _ => exact .inr (.inr (.inr (lists rfl)))
  | _ => exact .inr (.inr (.inr (lists rfl)))

theorem sub_ok : Op2 W X (binaryOp .Sub) subD := by
  refine ⟨_, op_sub, ?_⟩
  intro Wx σ m H st a b x y Q S ra rb F
  cases a with
  | int i =>
    cases b with
    | int j =>
      cases ra; cases rb
      exact ⟨i, j, rfl, rfl, F.ok S (.int _)⟩
    | _ => exact (show False from F).elim
  | _ => exact (show False from F).elim
theorem mul_ok (hK : X.K = W.K) : Op2 W X (binaryOp .Mult) mulD := by
  refine ⟨_, (op_mul).or (op_repT.or op_rep), ?_⟩
  intro Wx σ m H st a b x y Q S ra rb F
  cases a with
  | int i =>
    cases b with
    | int j =>
      cases ra; cases rb
      obtain ⟨hc, F⟩ := fin_if F
      refine .inl ⟨i, j, rfl, rfl, ?_, F.ok S (.int _)⟩
      exact hc
    | _ => exact (show False from F).elim
  | tup s =>
    cases b with
    | int k =>
      obtain ⟨⟨h1, h2, h3, h4⟩, F⟩ := fin_if F
      obtain ⟨p, vs, rfl, hp, r1⟩ := ra.tupE
      cases rb
      refine .inr (.inl ⟨p, k, vs, rfl, rfl, hK ▸ hp, fun e => ?_, h2, h3, by rw [← r1.length]; exact h4, fin_newT S (r1.flat _) F⟩)
      subst e
      cases r1
      exact h1 rfl
    | _ => exact (show False from F).elim
  | lst s =>
    cases b with
    | int k =>
      obtain ⟨⟨h1, h2, h3⟩, F⟩ := fin_if F
      obtain ⟨p, vs, rfl, hp, _, r1⟩ := ra.lstE
      cases rb
      refine .inr (.inr ⟨p, k, vs, rfl, rfl, hp, by omega, by omega, ?_, fin_newL S (r1.flat _) F⟩)
      rw [← r1.length, sizeLine_eq]
      exact Nat.le_trans (Nat.mul_le_mul h3 (by omega : k.toNat ≤ 1000)) (by decide)
    | _ => exact (show False from F).elim
  | _ => exact (show False from F).elim
theorem div_ok : Op2 W X (binaryOp .FloorDiv) divD := by
  refine ⟨_, op_fdiv, ?_⟩
  intro Wx σ m H st a b x y Q S ra rb F
  cases a with
  | int i =>
    cases b with
    | int j =>
      cases ra; cases rb
      obtain ⟨hc, F⟩ := fin_if F
      exact ⟨i, j, rfl, rfl, hc, F.ok S (.int _)⟩
    | _ => exact (show False from F).elim
  | _ => exact (show False from F).elim
theorem mod_ok : Op2 W X (binaryOp .Mod) modD := by
  refine ⟨_, op_mod, ?_⟩
  intro Wx σ m H st a b x y Q S ra rb F
  cases a with
  | int i =>
    cases b with
    | int j =>
      cases ra; cases rb
      obtain ⟨hc, F⟩ := fin_if F
      exact ⟨i, j, rfl, rfl, hc, F.ok S (.int _)⟩
    | _ => exact (show False from F).elim
  | _ => exact (show False from F).elim
theorem pow_ok : Op2 W X (binaryOp .Pow) powD := by
  refine ⟨_, op_pow, ?_⟩
  intro Wx σ m H st a b x y Q S ra rb F
  cases a with
  | int i =>
    cases b with
    | int j =>
      cases ra; cases rb
      obtain ⟨hc, F⟩ := fin_if F
      exact ⟨i, j, rfl, rfl, hc, F.ok S (.int _)⟩
    | _ => exact (show False from F).elim
  | _ => exact (show False from F).elim
def boOp : Bo → Operator
  | .add => .Add | .sub => .Sub | .mul => .Mult | .div => .FloorDiv | .mod => .Mod | .pow => .Pow
theorem bo_ok (hK : X.K = W.K) : ∀ o : Bo, Op2 W X (binaryOp (boOp o)) (fun st => boD st o)
  | .add => add_ok hK
  | .sub => sub_ok
  | .mul => mul_ok hK
  | .div => div_ok
  | .mod => mod_ok
  | .pow => pow_ok

/-! ### comparisons -/
theorem fin_cmp {Wx : WX} {σ : L2.St} {m : Mp} {H : Hp} {st : St} {o : Co} {a b : D} {Q : VK} (S : RelS W m st H) (F : Fin W Wx σ m H (cmpD st o a b) (Rep W) Q) : ∃ k, coD st o a b = some k ∧ Q (.bl k) H := by
  unfold cmpD at F
  cases e : coD st o a b with
  | none => rw [e] at F; exact F.elim
  | some k =>
    rw [e] at F
    exact ⟨k, rfl, F.ok S (.bl k)⟩
theorem dEq_dp {m : Mp} {H : Hp} {st : St} {a b : D} {x y : V} {k : Bool} (S : RelS W m st H) (ra : Rep W m H a x) (rb : Rep W m H b y) (e : dEq st a b = some k) :
    ∃ d e, Dp W.K H x d ∧ Dp W.K H y e ∧ SeqAt.shaped d = true ∧ SeqAt.shaped e = true ∧ PyData.eqv d e = k := by
  unfold dEq at e
  cases e1 : pd st 64 a with
  | none => rw [e1] at e; cases e
  | some p =>
    cases e2 : pd st 64 b with
    | none => rw [e1, e2] at e; cases e
    | some q =>
      rw [e1, e2] at e
      obtain ⟨h1, h2, h3⟩ := pd_dp S 64 a x p e1 ra
      obtain ⟨g1, g2, g3⟩ := pd_dp S 64 b y q e2 rb
      exact ⟨p, q, h1, g1, shaped_of h2 h3 (Nat.le_refl _), shaped_of g2 g3 (Nat.le_refl _), Option.some.inj e⟩
theorem eq_ok (hK : X.K = W.K) (hu : X.A.units + 64 < cLine) : Op2 W X (compareOp .Eq) (fun st => cmpD st .eq) := by
  refine ⟨_, op_eqD hu, ?_⟩
  intro Wx σ m H st a b x y Q S ra rb F
  obtain ⟨k, e, q⟩ := fin_cmp S F
  obtain ⟨d, e', h1, h2, h3, h4, h5⟩ := dEq_dp S ra rb e
  exact ⟨d, e', hK ▸ h1, hK ▸ h2, h3, h4, by rw [h5]; exact q⟩
theorem ne_ok (hK : X.K = W.K) (hu : X.A.units + 64 < cLine) : Op2 W X (compareOp .NotEq) (fun st => cmpD st .ne) := by
  refine ⟨_, op_neD hu, ?_⟩
  intro Wx σ m H st a b x y Q S ra rb F
  obtain ⟨k, e, q⟩ := fin_cmp S F
  have e : (dEq st a b).map (!·) = some k := e
  cases e2 : dEq st a b with
  | none => rw [e2] at e; cases e
  | some j =>
    rw [e2] at e
    have e3 : (!j) = k := Option.some.inj e
    obtain ⟨d, e', h1, h2, h3, h4, h5⟩ := dEq_dp S ra rb e2
    exact ⟨d, e', hK ▸ h1, hK ▸ h2, h3, h4, by rw [h5, e3]; exact q⟩
theorem lt_ok : Op2 W X (compareOp .Lt) (fun st => cmpD st .lt) := by
  refine ⟨_, op_lt, ?_⟩
  intro Wx σ m H st a b x y Q S ra rb F
  cases a with
  | int i =>
    cases b with
    | int j => cases ra; cases rb; exact ⟨i, j, rfl, rfl, F.ok S (.bl _)⟩
    | _ => exact (show False from F).elim
  | _ => exact (show False from F).elim
theorem le_ok : Op2 W X (compareOp .LtE) (fun st => cmpD st .le) := by
  refine ⟨_, op_le, ?_⟩
  intro Wx σ m H st a b x y Q S ra rb F
  cases a with
  | int i =>
    cases b with
    | int j => cases ra; cases rb; exact ⟨i, j, rfl, rfl, F.ok S (.bl _)⟩
    | _ => exact (show False from F).elim
  | _ => exact (show False from F).elim
theorem gt_ok : Op2 W X (compareOp .Gt) (fun st => cmpD st .gt) := by
  refine ⟨_, op_gt, ?_⟩
  intro Wx σ m H st a b x y Q S ra rb F
  cases a with
  | int i =>
    cases b with
    | int j => cases ra; cases rb; exact ⟨i, j, rfl, rfl, F.ok S (.bl _)⟩
    | _ => exact (show False from F).elim
  | _ => exact (show False from F).elim
theorem ge_ok : Op2 W X (compareOp .GtE) (fun st => cmpD st .ge) := by
  refine ⟨_, op_ge, ?_⟩
  intro Wx σ m H st a b x y Q S ra rb F
  cases a with
  | int i =>
    cases b with
    | int j => cases ra; cases rb; exact ⟨i, j, rfl, rfl, F.ok S (.bl _)⟩
    | _ => exact (show False from F).elim
  | _ => exact (show False from F).elim

/-! ### dicts -/
theorem RepK.val {m : Mp} {H : Hp} {q : Ky} : ∀ {kvs : List (Ky × D)} {vs : List (Key × V)}, RepK W m H kvs vs → (valK kvs q = none ∧ valV vs (kyV q) = none) ∨ ∃ d v, valK kvs q = some d ∧ valV vs (kyV q) = some v ∧ Rep W m H d v
  | _, _, .nil => .inl ⟨rfl, rfl⟩
  | _, _, .cons (k := k) (d := d) (v := v) (ds := ds) hk r t => by
    by_cases h : k = q
    · subst h
      refine .inr ⟨d, v, ?_, valV_pos rfl, r⟩
      unfold valK
      rw [if_pos rfl]
    · have e1 : valK ((k, d) :: ds) q = valK ds q := by
        conv => lhs; unfold valK
        rw [if_neg h]
      rw [e1, valV_neg (p := (kyV k, v)) (fun z => h (kyV_inj z))]
      exact RepK.val t
theorem kyOf_rep {m : Mp} {H : Hp} {d : D} {v : V} {q : Ky} (e : kyOf d = some q) (r : Rep W m H d v) : v = kV (kyV q) ∧ kyOk q := by
  cases d with
  | int i => cases e; cases r; exact ⟨rfl, trivial⟩
  | str s =>
    cases e
    cases r with
    | str _ h => exact ⟨rfl, h⟩
  | _ => cases e
theorem RepO.dk {m : Mp} {H : Hp} {a : Addr} {lk : Bool} {kvs : List (Ky × D)} (h : RepO W m H a (.dct lk kvs)) : ∃ vs, Rd H a (.dK vs) ∧ RepK W m H kvs vs := by
  cases lk with
  | false => obtain ⟨vs, e, r⟩ := h; exact ⟨vs, .inl e, r⟩
  | true => obtain ⟨o, vs, e, r⟩ := h; exact ⟨vs, .inr ⟨o, e⟩, r⟩
theorem dct_rep {m : Mp} {H : Hp} {st : St} {k : Nat} {v : V} {lk : Bool} {kvs : List (Ky × D)} (S : RelS W m st H) (hk : st[k]? = some (.dct lk kvs)) (r : Rep W m H (.ref k) v) :
    ∃ a vs, v = .ref a ∧ m.s[k]? = some a ∧ Rd H a (.dK vs) ∧ RepK W m H kvs vs := by
  obtain ⟨a, e1, e2⟩ := r.refE
  obtain ⟨vs, e3, r3⟩ := (S.ob k _ a hk e2 : RepO W m H a (.dct lk kvs)).dk
  exact ⟨a, vs, e1, e2, e3, r3⟩
theorem op_in_dict (hu : X.A.units + 1 < cLine) : OpR X (compareOp .In) (fun y x H Q => ∃ a o, x = .ref a ∧ DGet H a y o ∧ Q (.bl o.isSome) H) := by
  intro pins s σ H y x u v Q I ry rx h
  obtain ⟨a, o, rfl, g, q⟩ := h
  cases rx
  exact d_in hu I g ry fun s3 I3 => ⟨.bl o.isSome, H, I3, rfl, q⟩
theorem op_nin_dict (hu : X.A.units + 1 < cLine) : OpR X (compareOp .NotIn) (fun y x H Q => ∃ a o, x = .ref a ∧ DGet H a y o ∧ Q (.bl (!o.isSome)) H) := by
  intro pins s σ H y x u v Q I ry rx h
  obtain ⟨a, o, rfl, g, q⟩ := h
  cases rx
  exact d_notIn hu I g ry fun s3 I3 => ⟨.bl (!o.isSome), H, I3, rfl, q⟩
/-- flat data -/
theorem flat_rep {m : Mp} {H : Hp} {d : D} {v : V} (e : flatD d = true) (r : Rep W m H d v) : flatV v = true := by
  cases d with
  | non => cases r; rfl
  | bl b => cases r; rfl
  | int i => cases r; rfl
  | str s =>
    cases r with
    | str _ h => rfl
  | _ => cases e
theorem eqFl_rep {m : Mp} {H : Hp} {d e : D} {v w : V} (h1 : flatD d = true) (h2 : flatD e = true) (r1 : Rep W m H d v) (r2 : Rep W m H e w) : eqV v w = eqFl d e := by
  cases d with
  | non =>
    cases r1
    cases e with
    | non => cases r2; rfl
    | bl b => cases r2; rfl
    | int i => cases r2; rfl
    | str s =>
      cases r2 with
      | str _ h => rfl
    | _ => cases h2
  | bl b =>
    cases r1
    cases e with
    | non => cases r2; rfl
    | bl b => cases r2; rfl
    | int i => cases r2; rfl
    | str s =>
      cases r2 with
      | str _ h => rfl
    | _ => cases h2
  | int i =>
    cases r1
    cases e with
    | non => cases r2; rfl
    | bl b => cases r2; rfl
    | int i => cases r2; rfl
    | str s =>
      cases r2 with
      | str _ h => rfl
    | _ => cases h2
  | str s =>
    cases r1 with
    | str _ h =>
      cases e with
      | non => cases r2; rfl
      | bl b => cases r2; rfl
      | int i => cases r2; rfl
      | str t =>
        cases r2 with
        | str _ h =>
          show ((⟨s.toArray⟩ : Str) == ⟨t.toArray⟩) = (s == t)
          rw [Bool.eq_iff_iff]
          simp
      | _ => cases h2
  | _ => cases h1
theorem flats_rep {m : Mp} {H : Hp} {e : D} {w : V} (h2 : flatD e = true) (r2 : Rep W m H e w) : ∀ {ds : List D} {vs : List V}, ds.all flatD = true → RepL W m H ds vs → vs.all flatV = true ∧ inV w vs = ds.any fun y => eqFl y e
  | _, _, _, .nil => ⟨rfl, rfl⟩
  | _, _, h, .cons r t => by
    rw [List.all_cons, Bool.and_eq_true] at h
    obtain ⟨a, b⟩ := flats_rep h2 r2 h.2 t
    refine ⟨by rw [List.all_cons, flat_rep h.1 r, a]; rfl, ?_⟩
    unfold inV at b ⊢
    rw [List.any_cons, List.any_cons, eqFl_rep h.1 h2 r r2, b]
/-- what in asks -/
def rInAll (K : PySem.W.Frag) (neg : Bool) : R2 := fun x y H Q => (∃ a o, y = .ref a ∧ DGet H a x o ∧ Q (.bl (if neg then !o.isSome else o.isSome)) H) ∨ rIn K neg x y H Q ∨
  ∃ d ds, Dp K H x d ∧ Dp K H y (.list ds) ∧ SeqAt.shaped d = true ∧ SeqAt.shaped (.list ds) = true ∧ Q (.bl (if neg then !(ds.any fun z => PyData.eqv z d) else ds.any fun z => PyData.eqv z d)) H
theorem inAll_of (hK : X.K = W.K) {neg : Bool} {m : Mp} {H : Hp} {st : St} {a b : D} {x y : V} {Q : VK} {k : Bool} (S : RelS W m st H) (ra : Rep W m H a x) (rb : Rep W m H b y) (e : inD st a b = some k) (q : Q (.bl (if neg then !k else k)) H) : rInAll X.K neg x y H Q := by
  have deep : ∀ {ys : List D} {p : Addr} {vs : List V}, y = .ref p → H p = some (.lst vs) → RepL W m H ys vs → (match pd st 64 a, mapO (pd st 63) ys with
      | some a, some bs => some (bs.any fun b => PyData.eqv b a)
      | _, _ => none) = some k → rInAll X.K neg x y H Q := fun {ys p vs} ey hp rr e => by
    cases e1 : pd st 64 a with
    | none => rw [e1] at e; cases e
    | some d =>
      cases e2 : mapO (pd st 63) ys with
      | none => rw [e1, e2] at e; cases e
      | some ds =>
        rw [e1, e2] at e
        obtain ⟨h1, h2, h3⟩ := pd_dp S 64 a x d e1 ra
        obtain ⟨g1, g2, g3⟩ := dpAll_of (pd_dp S 63) (mapO_some e2) rr
        have e3 : (ds.any fun b => PyData.eqv b d) = k := Option.some.inj e
        refine .inr (.inr ⟨d, ds, hK ▸ h1, ?_, shaped_of h2 h3 (Nat.le_refl _), shaped_of (n := 64) (by simpa [PyData.canLay0] using g2) (by simp only [PyData.depth]; omega) (Nat.le_refl _), by rw [e3]; exact q⟩)
        rw [ey, hK]
        exact .lst (.of hp) g1
  cases b with
  | tup ys =>
    have e : (if (flatD a && ys.all flatD) = true then some (ys.any fun y => eqFl y a) else none) = some k := e
    by_cases hc : (flatD a && ys.all flatD) = true
    · rw [if_pos hc] at e
      rw [Bool.and_eq_true] at hc
      obtain ⟨p, vs, rfl, hp, rr⟩ := rb.tupE
      obtain ⟨h1, h2⟩ := flats_rep hc.1 ra hc.2 rr
      refine .inr (.inl ⟨p, vs, rfl, .inr (hK ▸ hp), flat_rep hc.1 ra, h1, ?_⟩)
      rw [h2, Option.some.inj e]
      exact q
    · rw [if_neg hc] at e
      cases e
  | lst ys =>
    obtain ⟨p, vs, ey, hp, _, rr⟩ := rb.lstE
    exact deep ey hp rr e
  | ref j =>
    have e : (match st[j]? with
      | some (.dct _ kvs) => match kyOf a with
        | some q => some (valK kvs q).isSome
        | none => none
      | some (.lst ys) => match pd st 64 a, mapO (pd st 63) ys with
        | some a, some bs => some (bs.any fun b => PyData.eqv b a)
        | _, _ => none
      | _ => none) = some k := e
    cases hj : st[j]? with
    | none => rw [hj] at e; cases e
    | some o =>
      rw [hj] at e
      cases o with
      | ins _ _ => cases e
      | lst ys =>
        obtain ⟨p, vs, ey, hp, rr⟩ := asL_rep (x := .ref j) S rb (asL_ref hj)
        exact deep ey hp rr e
      | dct lk kvs =>
        have e : (match kyOf a with
          | some q => some (valK kvs q).isSome
          | none => none) = some k := e
        cases ha : kyOf a with
        | none => rw [ha] at e; cases e
        | some z =>
          rw [ha] at e
          have e : (valK kvs z).isSome = k := Option.some.inj e
          obtain ⟨p, vs, rfl, _, hr, rr⟩ := dct_rep S hj rb
          obtain ⟨rfl, _⟩ := kyOf_rep ha ra
          refine .inl ⟨p, valV vs (kyV z), rfl, .inl ⟨vs, kyV z, hr, rfl, rfl⟩, ?_⟩
          have e2 : (valV vs (kyV z)).isSome = k := by
            rw [← e]
            rcases rr.val (q := z) with ⟨e1, e2⟩ | ⟨d, v, e1, e2, _⟩
            · rw [e1, e2]; rfl
            · rw [e1, e2]; rfl
          rw [e2]
          exact q
  | _ => cases e
theorem in_ok (hK : X.K = W.K) (hu : X.A.units + 65 < cLine) : Op2 W X (compareOp .In) (fun st => cmpD st .inn) := by
  refine ⟨_, (op_in_dict (by omega)).or (op_in_seq.or (op_inD hu)), ?_⟩
  intro Wx σ m H st a b x y Q S ra rb F
  obtain ⟨k, e, q⟩ := fin_cmp S F
  exact inAll_of (neg := false) hK S ra rb e q
theorem nin_ok (hK : X.K = W.K) (hu : X.A.units + 65 < cLine) : Op2 W X (compareOp .NotIn) (fun st => cmpD st .nin) := by
  refine ⟨_, (op_nin_dict (by omega)).or (op_notIn_seq.or (op_notInD hu)), ?_⟩
  intro Wx σ m H st a b x y Q S ra rb F
  obtain ⟨k, e, q⟩ := fin_cmp S F
  have e : (inD st a b).map (!·) = some k := e
  cases e2 : inD st a b with
  | none => rw [e2] at e; cases e
  | some j =>
    rw [e2] at e
    have e3 : (!j) = k := Option.some.inj e
    exact inAll_of (neg := true) hK S ra rb e2 (by rw [← e3] at q; exact q)
def coOp : Co → CmpOp
  | .eq => .Eq | .ne => .NotEq | .lt => .Lt | .le => .LtE | .gt => .Gt | .ge => .GtE | .inn => .In | .nin => .NotIn
theorem co_ok (hK : X.K = W.K) (hu : X.A.units + 65 < cLine) : ∀ o : Co, Op2 W X (compareOp (coOp o)) (fun st => cmpD st o)
  | .eq => eq_ok hK (by omega)
  | .ne => ne_ok hK (by omega)
  | .lt => lt_ok
  | .le => le_ok
  | .gt => gt_ok
  | .ge => ge_ok
  | .inn => in_ok hK hu
  | .nin => nin_ok hK hu

/-! ### items -/
def rIxD : R2 := fun x y H Q => ∃ a v, x = .ref a ∧ DGet H a y (some v) ∧ Q v H
theorem ix_dict (hu : X.A.units + 1 < cLine) : IxR X rIxD := by
  intro value slice pins s σ H x y v u Q I rx ry h hs
  obtain ⟨a, w, rfl, g, q⟩ := h
  cases rx
  unfold subscriptTail
  have hT := dict_typeIs I g
  refine wpAny_bind ?_
  rw [getitemInPython_of_ne hT.not_modules]
  refine wpAny_bind (wpAny_specialOf hT PySem.F.slot_dict_getitem.lookup ?_)
  have fin : wpAny (model X.prog X.w) X.A (subscripted slice false (.ref a) u) (fun r s₃ => wpAny (model X.prog X.w) X.A (letTemporaryGo value (.ref a) r >>= fun _ => pure r) (EP X pins σ Q) X.xe s₃) X.xe s := by
    rw [hs]
    exact wpAny_operating (wpAny_mono (d_getItem hu I g ry fun w' s3 I3 rw' => ⟨w, H, I3, rw', q⟩) (fun r s₃ h₃ => wpAny_bind (wpAny_letTemporaryGo (wpAny_pure h₃))) fun _ _ x => x)
  first
    | exact wpAny_pure (wpAny_bind fin)
    | exact wpAny_bind (wpAny_pure (wpAny_bind fin))
    | exact wpAny_bind fin
theorem atD_rep {m : Mp} {H : Hp} {xs : List D} {vs : List V} {i : Int} {d : D} (r : RepL W m H xs vs) (e : atD xs i = some d) : ∃ v, atI vs i = some v ∧ Rep W m H d v := by
  have hx : L2.ixN vs.length i = Kn.ixN xs.length i := by
    rw [r.length]
    rfl
  unfold atD at e
  cases e1 : Kn.ixN xs.length i with
  | none => rw [e1] at e; cases e
  | some j =>
    rw [e1] at e
    obtain ⟨v, h1, h2⟩ := r.get e
    refine ⟨v, ?_, h2⟩
    unfold atI
    rw [hx, e1]
    exact h1
theorem fin_of {Wx : WX} {σ : L2.St} {m : Mp} {H : Hp} {st : St} {o : Option D} {Q : VK} (F : Fin W Wx σ m H (ofO o st) (Rep W) Q) : ∃ d, o = some d ∧ Fin W Wx σ m H (.ok d st) (Rep W) Q := by
  cases o with
  | none => exact F.elim
  | some d => exact ⟨d, rfl, F⟩
theorem item_ok (hK : X.K = W.K) (hu : X.A.units + 1 < cLine) : ∃ r, IxR X r ∧ OpOk W itemD r := by
  refine ⟨_, ix_seq.or (ix_dict hu), ?_⟩
  intro Wx σ m H st a b x y Q S ra rb F
  cases a with
  | tup xs =>
    cases b with
    | int i =>
      obtain ⟨d, e, F⟩ := fin_of F
      obtain ⟨p, vs, rfl, hp, rr⟩ := ra.tupE
      cases rb
      obtain ⟨v, h1, h2⟩ := atD_rep rr e
      exact .inl (.inr (.inl ⟨p, vs, i, v, rfl, rfl, hK ▸ hp, h1, F.ok S h2⟩))
    | _ => exact (show False from F).elim
  | lst xs =>
    cases b with
    | int i =>
      obtain ⟨d, e, F⟩ := fin_of F
      obtain ⟨p, vs, rfl, hp, _, rr⟩ := ra.lstE
      cases rb
      obtain ⟨v, h1, h2⟩ := atD_rep rr e
      exact .inl (.inl ⟨p, vs, i, v, rfl, rfl, .of hp, h1, F.ok S h2⟩)
    | _ => exact (show False from F).elim
  | ro xs =>
    cases b with
    | int i =>
      obtain ⟨d, e, F⟩ := fin_of F
      obtain ⟨p, vs, rfl, hp, rr⟩ := ra.roE
      cases rb
      obtain ⟨v, h1, h2⟩ := atD_rep rr e
      exact .inl (.inl ⟨p, vs, i, v, rfl, rfl, hK ▸ hp, h1, F.ok S h2⟩)
    | _ => exact (show False from F).elim
  | ref k =>
    have F : Fin W Wx σ m H (match st[k]? with
      | some (.lst xs) => match b with
        | .int j => ofO (atD xs j) st
        | _ => .bad
      | some (.dct _ kvs) => match kyOf b with
        | some q => ofO (valK kvs q) st
        | none => .bad
      | _ => .bad) (Rep W) Q := F
    cases hk : st[k]? with
    | none => rw [hk] at F; exact F.elim
    | some o =>
      rw [hk] at F
      cases o with
      | ins _ _ => exact F.elim
      | lst xs =>
        cases b with
        | int i =>
          obtain ⟨d, e, F⟩ := fin_of F
          obtain ⟨p, vs, rfl, hp, rr⟩ := asL_rep (x := .ref k) S ra (asL_ref hk)
          cases rb
          obtain ⟨v, h1, h2⟩ := atD_rep rr e
          exact .inl (.inl ⟨p, vs, i, v, rfl, rfl, .of hp, h1, F.ok S h2⟩)
        | _ => exact (show False from F).elim
      | dct lk kvs =>
        have F : Fin W Wx σ m H (match kyOf b with
          | some q => ofO (valK kvs q) st
          | none => .bad) (Rep W) Q := F
        cases hb : kyOf b with
        | none => rw [hb] at F; exact F.elim
        | some z =>
          rw [hb] at F
          obtain ⟨d, e, F⟩ := fin_of F
          obtain ⟨p, vs, rfl, _, hr, rr⟩ := dct_rep S hk ra
          obtain ⟨rfl, _⟩ := kyOf_rep hb rb
          rcases rr.val (q := z) with ⟨e1, e2⟩ | ⟨d', v, e1, e2, r3⟩
          · rw [e1] at e; cases e
          · rw [e1] at e
            cases e
            exact .inr ⟨p, v, rfl, .inl ⟨vs, kyV z, hr, rfl, e2.symm⟩, F.ok S r3⟩
  | _ => exact (show False from F).elim

/-! ### slices -/
theorem sIx_eq (n d : Nat) (o : Option Int) : HT.sIx n d o = Kn.sIx n d o := by
  cases o <;> rfl
theorem cut_rep {m : Mp} {H : Hp} {xs : List D} {vs : List V} (lo hi : Option Int) (r : RepL W m H xs vs) : RepL W m H (cutD xs lo hi) (cutV vs lo hi) := by
  unfold cutD cutV
  rw [← r.length, sIx_eq, sIx_eq]
  exact (r.drop _).take _
theorem cut_whole {xs : List D} {lo hi : Option Int} (h : Kn.sIx xs.length 0 lo = 0 ∧ Kn.sIx xs.length xs.length hi = xs.length) : cutD xs lo hi = xs := by
  unfold cutD
  rw [h.1, h.2]
  simp
theorem slice_ok (hK : X.K = W.K) : ∃ r, SlR X r ∧ ∀ (Wx : WX) (σ : L2.St) (m : Mp) (H : Hp) (st : St) (a : D) (x : V) (lo hi : Option Int) (Q : VK), RelS W m st H → Rep W m H a x → Fin W Wx σ m H (sliceD st a lo hi) (Rep W) Q → r x lo hi H Q := by
  refine ⟨_, sl_tupA.or sl_list, ?_⟩
  intro Wx σ m H st a x lo hi Q S ra F
  have lists : (match asL st a with
    | some xs => R.ok (.lst (cutD xs lo hi)) st
    | none => .bad) = sliceD st a lo hi → rSlL X.K x lo hi H Q := fun e => by
    rw [← e] at F
    cases ea : asL st a with
    | none => rw [ea] at F; exact F.elim
    | some xs =>
      rw [ea] at F
      obtain ⟨p, vs, rfl, hp, rr⟩ := asL_rep S ra ea
      exact ⟨p, vs, rfl, .of hp, fin_newL S (cut_rep lo hi rr) F⟩
  cases a with
  | tup xs =>
    obtain ⟨p, vs, rfl, hp, rr⟩ := ra.tupE
    refine .inl ⟨p, vs, rfl, hK ▸ hp, fun h => ?_, fun _ => fin_newT S (cut_rep lo hi rr) F⟩
    rw [sIx_eq, sIx_eq, ← rr.length] at h
    have F : Fin W Wx σ m H (.ok (.tup (cutD xs lo hi)) st) (Rep W) Q := F
    rw [cut_whole h] at F
    exact F.ok S ra
  | _ => exact .inr (lists rfl)
end
end Kn
set_option Elab.async false
set_option linter.all false
set_option maxHeartbeats 4000000
/-! KnBf: built-in functions, truth, methods of built-in types. -/
namespace Kn
open PySem L2 PyProof.Rows

section
variable {W : Wd} {X : Cx}
/-- a built-in called computes as told -/
structure Bf1 (W : Wd) (X : Cx) (f : Value) (b : Bf) : Prop where
  ex : ∃ r, CallR X f r ∧ ∀ (Wx : WX) (σ : L2.St) (m : Mp) (H : Hp) (st : St) (ds : List D) (vs : List V) (Q : VK), RelS W m st H → RepL W m H ds vs → Fin W Wx σ m H (bfD st b ds) (Rep W) Q → r vs H Q
theorem intD_some {d : D} {i : Int} (h : intD d = some i) : d = .int i := by
  cases d with
  | int j => cases h; rfl
  | _ => cases h
theorem blD_some {d : D} {i : Bool} (h : blD d = some i) : d = .bl i := by
  cases d with
  | bl j => cases h; rfl
  | _ => cases h
theorem mapO_cons {α β : Type} {f : α → Option β} {x : α} {xs : List α} {ys : List β} (h : mapO f (x :: xs) = some ys) : ∃ y zs, f x = some y ∧ mapO f xs = some zs ∧ ys = y :: zs := by
  unfold mapO at h
  split at h
  · cases h
  · rename_i y hy
    split at h
    · cases h
    · rename_i zs hz
      cases h
      exact ⟨y, zs, hy, hz, rfl⟩
theorem ints_rep {m : Mp} {H : Hp} {ds : List D} {ns : List Int} {vs : List V} (e : intsOf ds = some ns) (r : RepL W m H ds vs) : vs = ns.map V.int := by
  induction ds generalizing ns vs with
  | nil => cases r; cases e; rfl
  | cons d ds ih =>
    obtain ⟨y, zs, h1, h2, rfl⟩ := mapO_cons e
    cases r with
    | cons r1 r2 =>
      rw [List.map_cons, ← ih h2 r2]
      cases intD_some h1
      cases r1
      rfl
theorem bls_rep {m : Mp} {H : Hp} {ds : List D} {ns : List Bool} {vs : List V} (e : blsOf ds = some ns) (r : RepL W m H ds vs) : vs = ns.map V.bl := by
  induction ds generalizing ns vs with
  | nil => cases r; cases e; rfl
  | cons d ds ih =>
    obtain ⟨y, zs, h1, h2, rfl⟩ := mapO_cons e
    cases r with
    | cons r1 r2 =>
      rw [List.map_cons, ← ih h2 r2]
      cases blD_some h1
      cases r1
      rfl
theorem ints_back {m : Mp} {H : Hp} : ∀ (ns : List Int), RepL W m H (ns.map D.int) (ns.map V.int)
  | [] => .nil
  | n :: ns => .cons (.int n) (ints_back ns)
theorem repL1 {m : Mp} {H : Hp} {d : D} {vs : List V} (h : RepL W m H [d] vs) : ∃ v, vs = [v] ∧ Rep W m H d v := by
  cases h with
  | cons r t => cases t; exact ⟨_, rfl, r⟩
theorem repL2 {m : Mp} {H : Hp} {d e : D} {vs : List V} (h : RepL W m H [d, e] vs) : ∃ v w, vs = [v, w] ∧ Rep W m H d v ∧ Rep W m H e w := by
  cases h with
  | cons r t =>
    obtain ⟨w, rfl, r2⟩ := repL1 t
    exact ⟨_, _, rfl, r, r2⟩
/-- one argument, or nothing is told -/
theorem one_arg {Wx : WX} {σ : L2.St} {m : Mp} {H : Hp} {st : St} {ds : List D} {b : Bf} {Q : VK} (F : Fin W Wx σ m H (bfD st b ds) (Rep W) Q) (h : ∀ st d e r, bfD st b (d :: e :: r) = .bad) (h0 : ∀ st, bfD st b [] = .bad) : ∃ d, ds = [d] := by
  cases ds with
  | nil => rw [h0] at F; exact F.elim
  | cons d r =>
    cases r with
    | nil => exact ⟨d, rfl⟩
    | cons e r => rw [h] at F; exact F.elim
theorem len_rep {m : Mp} {H : Hp} {Wx : WX} {σ : L2.St} {st : St} {d : D} {v : V} {Q : VK} (S : RelS W m st H) (r : Rep W m H d v) (F : Fin W Wx σ m H (lenD st d) (Rep W) Q) : ∃ n : Nat, LenV W.K v H n ∧ Q (.int n) H := by
  cases d with
  | str s =>
    cases r with
    | str _ h =>
      refine ⟨s.length, ⟨?_, ?_⟩, F.ok S (.int _)⟩
      · show (⟨s.toArray⟩ : Str).length ≤ sizeLine
        rw [← line_eq]
        simpa [Str.length] using h.1
      · simp [Str.length]
  | tup xs =>
    obtain ⟨a, vs, rfl, q, rr⟩ := r.tupE
    exact ⟨xs.length, .inr ⟨vs, q, rr.length⟩, F.ok S (.int _)⟩
  | lst xs =>
    obtain ⟨a, vs, rfl, q, _, rr⟩ := r.lstE
    exact ⟨xs.length, .inl ⟨vs, .of q, rr.length⟩, F.ok S (.int _)⟩
  | ro xs =>
    obtain ⟨a, vs, rfl, q, rr⟩ := r.roE
    exact ⟨xs.length, .inl ⟨vs, q, rr.length⟩, F.ok S (.int _)⟩
  | ref k =>
    have F : Fin W Wx σ m H (match st[k]? with
      | some (.lst x) => .ok (.int x.length) st
      | _ => .bad) (Rep W) Q := F
    cases hk : st[k]? with
    | none => rw [hk] at F; exact F.elim
    | some o =>
      rw [hk] at F
      cases o with
      | ins _ _ => exact F.elim
      | dct _ _ => exact F.elim
      | lst xs =>
        obtain ⟨a, vs, rfl, q, rr⟩ := asL_rep (x := .ref k) S r (asL_ref hk)
        exact ⟨xs.length, .inl ⟨vs, .of q, rr.length⟩, Fin.ok F S (.int _)⟩
  | _ => exact (show False from F).elim
theorem len_ok (hK : X.K = W.K) : Bf1 W X (.builtin "len") .len := by
  refine ⟨_, call_len, ?_⟩
  intro Wx σ m H st ds vs Q S r F
  obtain ⟨d, rfl⟩ := one_arg F (fun _ _ _ _ => rfl) fun _ => rfl
  obtain ⟨v, rfl, rv⟩ := repL1 r
  obtain ⟨n, h1, h2⟩ := len_rep S rv F
  exact ⟨v, n, rfl, hK ▸ h1, h2⟩
theorem abs_ok : Bf1 W X (.builtin "abs") .abs := by
  refine ⟨_, call_abs, ?_⟩
  intro Wx σ m H st ds vs Q S r F
  obtain ⟨d, rfl⟩ := one_arg F (fun _ d _ _ => by cases d <;> rfl) fun _ => rfl
  obtain ⟨v, rfl, rv⟩ := repL1 r
  cases d with
  | int i => cases rv; exact ⟨i, rfl, F.ok S (.int _)⟩
  | _ => exact (show False from F).elim
theorem int_ok : Bf1 W X (.type "int") .int := by
  refine ⟨_, call_int1, ?_⟩
  intro Wx σ m H st ds vs Q S r F
  obtain ⟨d, rfl⟩ := one_arg F (fun _ d _ _ => by cases d <;> rfl) fun _ => rfl
  obtain ⟨v, rfl, rv⟩ := repL1 r
  cases d with
  | int i => cases rv; exact .inl ⟨i, rfl, F.ok S (.int _)⟩
  | bl b => cases rv; exact .inr ⟨b, rfl, F.ok S (.int _)⟩
  | _ => exact (show False from F).elim
theorem bool_ok : Bf1 W X (.type "bool") .bool := by
  refine ⟨_, call_bool1, ?_⟩
  intro Wx σ m H st ds vs Q S r F
  obtain ⟨d, rfl⟩ := one_arg F (fun _ d _ _ => by cases d <;> rfl) fun _ => rfl
  obtain ⟨v, rfl, rv⟩ := repL1 r
  cases d with
  | int i => cases rv; exact .inl ⟨i, rfl, F.ok S (.bl _)⟩
  | bl b => cases rv; exact .inr ⟨b, rfl, F.ok S (.bl _)⟩
  | _ => exact (show False from F).elim
theorem tuple_ok (hK : X.K = W.K) : Bf1 W X (.type "tuple") .tuple := by
  refine ⟨_, call_tuple_of, ?_⟩
  intro Wx σ m H st ds vs Q S r F
  obtain ⟨d, rfl⟩ := one_arg F (fun _ d _ _ => by cases d <;> rfl) fun _ => rfl
  obtain ⟨v, rfl, rv⟩ := repL1 r
  have lists : (match asL st d with
    | some xs => R.ok (.tup xs) st
    | none => .bad) = bfD st .tuple [d] → ∃ a ys, [v] = [V.ref a] ∧ ((SqL X.K H a ys ∧ ∀ l, H l = none → Q (.ref l) (upd H l (.tup ys))) ∨ (SqT X.K H a ys ∧ Q (.ref a) H)) := fun e => by
    rw [← e] at F
    cases ea : asL st d with
    | none => rw [ea] at F; exact F.elim
    | some xs =>
      rw [ea] at F
      obtain ⟨p, vs, rfl, hp, rr⟩ := asL_rep S rv ea
      exact ⟨p, vs, rfl, .inl ⟨.of hp, fin_newT S rr F⟩⟩
  cases d with
  | tup xs =>
    obtain ⟨p, vs, rfl, hp, rr⟩ := rv.tupE
    exact ⟨p, vs, rfl, .inr ⟨hK ▸ hp, F.ok S rv⟩⟩
  | _ => exact lists rfl
theorem list_ok (hK : X.K = W.K) : Bf1 W X (.type "list") .list := by
  refine ⟨_, call_list_of, ?_⟩
  intro Wx σ m H st ds vs Q S r F
  obtain ⟨d, rfl⟩ := one_arg F (fun _ d _ _ => by cases d <;> rfl) fun _ => rfl
  obtain ⟨v, rfl, rv⟩ := repL1 r
  have lists : (match asL st d with
    | some xs => R.ok (.lst xs) st
    | none => .bad) = bfD st .list [d] → ∃ p ys, [v] = [V.ref p] ∧ (SqL X.K H p ys ∨ SqT X.K H p ys) ∧ ∀ l, H l = none → Q (.ref l) (upd H l (.lst ys)) := fun e => by
    rw [← e] at F
    cases ea : asL st d with
    | none => rw [ea] at F; exact F.elim
    | some xs =>
      rw [ea] at F
      obtain ⟨p, vs, rfl, hp, rr⟩ := asL_rep S rv ea
      exact ⟨p, vs, rfl, .inl (.of hp), fin_newL S rr F⟩
  cases d with
  | tup xs =>
    obtain ⟨p, vs, rfl, hp, rr⟩ := rv.tupE
    exact ⟨p, vs, rfl, .inr (hK ▸ hp), fin_newL S rr F⟩
  | _ => exact lists rfl

/-! ### min, max, sum, all, any -/
theorem minI_spec : ∀ (ns : List Int) (n : Int), minI n ns ∈ n :: ns ∧ ∀ y ∈ n :: ns, minI n ns ≤ y
  | [], n => ⟨List.mem_cons_self, fun y hy => by
    have e : y = n := by simpa using hy
    rw [e]
    exact Int.le_refl _⟩
  | x :: xs, n => by
    obtain ⟨h1, h2⟩ := minI_spec xs (if x < n then x else n)
    have e : minI n (x :: xs) = minI (if x < n then x else n) xs := rfl
    rw [e]
    have h3 := h2 _ List.mem_cons_self
    refine ⟨?_, fun y hy => ?_⟩
    · rcases List.mem_cons.mp h1 with q | q
      · rw [q]
        by_cases h : x < n
        · rw [if_pos h]; exact List.mem_cons_of_mem _ List.mem_cons_self
        · rw [if_neg h]; exact List.mem_cons_self
      · exact List.mem_cons_of_mem _ (List.mem_cons_of_mem _ q)
    · rcases List.mem_cons.mp hy with q | q
      · rw [q]
        by_cases h : x < n
        · rw [if_pos h] at h3 ⊢; omega
        · rw [if_neg h] at h3 ⊢; exact h3
      · rcases List.mem_cons.mp q with q | q
        · rw [q]
          by_cases h : x < n
          · rw [if_pos h] at h3 ⊢; exact h3
          · rw [if_neg h] at h3 ⊢; omega
        · exact h2 y (List.mem_cons_of_mem _ q)
theorem maxI_spec : ∀ (ns : List Int) (n : Int), maxI n ns ∈ n :: ns ∧ ∀ y ∈ n :: ns, y ≤ maxI n ns
  | [], n => ⟨List.mem_cons_self, fun y hy => by
    have e : y = n := by simpa using hy
    rw [e]
    exact Int.le_refl _⟩
  | x :: xs, n => by
    obtain ⟨h1, h2⟩ := maxI_spec xs (if n < x then x else n)
    have e : maxI n (x :: xs) = maxI (if n < x then x else n) xs := rfl
    rw [e]
    have h3 := h2 _ List.mem_cons_self
    refine ⟨?_, fun y hy => ?_⟩
    · rcases List.mem_cons.mp h1 with q | q
      · rw [q]
        by_cases h : n < x
        · rw [if_pos h]; exact List.mem_cons_of_mem _ List.mem_cons_self
        · rw [if_neg h]; exact List.mem_cons_self
      · exact List.mem_cons_of_mem _ (List.mem_cons_of_mem _ q)
    · rcases List.mem_cons.mp hy with q | q
      · rw [q]
        by_cases h : n < x
        · rw [if_pos h] at h3 ⊢; omega
        · rw [if_neg h] at h3 ⊢; exact h3
      · rcases List.mem_cons.mp q with q | q
        · rw [q]
          by_cases h : n < x
          · rw [if_pos h] at h3 ⊢; exact h3
          · rw [if_neg h] at h3 ⊢; omega
        · exact h2 y (List.mem_cons_of_mem _ q)
/-- the ints of a list argument -/
theorem list_ints {m : Mp} {H : Hp} {st : St} {d : D} {xs : List D} {ns : List Int} {v : V} (S : RelS W m st H) (r : Rep W m H d v) (e : asL st d = some xs) (e2 : intsOf xs = some ns) : ∃ a, v = .ref a ∧ H a = some (.lst (ns.map V.int)) := by
  obtain ⟨a, vs, rfl, hp, rr⟩ := asL_rep S r e
  rw [ints_rep e2 rr] at hp
  exact ⟨a, rfl, hp⟩
/-- two ints or a list of them, for min and max -/
theorem mm_cases {Wx : WX} {σ : L2.St} {m : Mp} {H : Hp} {st : St} {b : Bf} {ds : List D} {vs : List V} {Q : VK} {g : Int → Int → Int} {gl : Int → List Int → Int} (S : RelS W m st H) (r : RepL W m H ds vs) (F : Fin W Wx σ m H (bfD st b ds) (Rep W) Q)
    (h2 : ∀ i j, bfD st b [.int i, .int j] = .ok (.int (g i j)) st) (h1 : ∀ d, bfD st b [d] = match asL st d with
      | some xs => match intsOf xs with
        | some (n :: ns) => .ok (.int (gl n ns)) st
        | _ => .bad
      | none => .bad) (h0 : bfD st b [] = .bad) (h3 : ∀ d e f r, bfD st b (d :: e :: f :: r) = .bad) (h4 : ∀ d e, (∀ i j, ¬ (d = .int i ∧ e = .int j)) → bfD st b [d, e] = .bad) :
    (∃ i j, vs = [.int i, .int j] ∧ Q (.int (g i j)) H) ∨ ∃ a n ns, vs = [.ref a] ∧ H a = some (.lst ((n :: ns).map V.int)) ∧ Q (.int (gl n ns)) H := by
  cases ds with
  | nil => rw [h0] at F; exact F.elim
  | cons d ds =>
    cases ds with
    | nil =>
      obtain ⟨v, rfl, rv⟩ := repL1 r
      rw [h1] at F
      cases e : asL st d with
      | none => rw [e] at F; exact F.elim
      | some xs =>
        rw [e] at F
        cases e2 : intsOf xs with
        | none =>
          have F : Fin W Wx σ m H (match intsOf xs with
            | some (n :: ns) => .ok (.int (gl n ns)) st
            | _ => .bad) (Rep W) Q := F
          rw [e2] at F; exact F.elim
        | some ks =>
          have F : Fin W Wx σ m H (match intsOf xs with
            | some (n :: ns) => .ok (.int (gl n ns)) st
            | _ => .bad) (Rep W) Q := F
          rw [e2] at F
          cases ks with
          | nil => exact F.elim
          | cons n ns =>
            obtain ⟨a, rfl, hp⟩ := list_ints S rv e e2
            exact .inr ⟨a, n, ns, rfl, hp, Fin.ok F S (.int _)⟩
    | cons e ds =>
      cases ds with
      | nil =>
        obtain ⟨v, w, rfl, rv, rw'⟩ := repL2 r
        by_cases hc : ∃ i j, d = .int i ∧ e = .int j
        · obtain ⟨i, j, rfl, rfl⟩ := hc
          cases rv; cases rw'
          rw [h2] at F
          exact .inl ⟨i, j, rfl, F.ok S (.int _)⟩
        · rw [h4 d e fun i j z => hc ⟨i, j, z⟩] at F
          exact F.elim
      | cons f ds => rw [h3] at F; exact F.elim
theorem min_ok (hK : X.K = W.K) (hc : X.calm = true) : Bf1 W X (.builtin "min") .min := by
  refine ⟨_, (call_min2 hc).or (cr_min hc), ?_⟩
  intro Wx σ m H st ds vs Q S r F
  rcases mm_cases (g := fun a b => if b < a then b else a) (gl := minI) S r F (fun _ _ => rfl) (fun d => by cases d <;> rfl) rfl (fun d e _ _ => by cases d <;> first | rfl | (cases e <;> rfl)) (fun d e h => by
      cases d <;> first
        | rfl
        | (cases e <;> first
          | rfl
          | exact absurd ⟨rfl, rfl⟩ (h _ _))) with ⟨i, j, rfl, q⟩ | ⟨a, n, ns, rfl, hp, q⟩
  · exact .inl ⟨i, j, rfl, q⟩
  · refine .inr ⟨a, n :: ns, rfl, .of hp, by simp, fun k hk hle => ?_⟩
    obtain ⟨h1, h2⟩ := minI_spec ns n
    have e : k = minI n ns := Int.le_antisymm (hle _ h1) (h2 _ hk)
    rw [e]
    exact q
theorem max_ok (hK : X.K = W.K) (hc : X.calm = true) : Bf1 W X (.builtin "max") .max := by
  refine ⟨_, (call_max2 hc).or (cr_max hc), ?_⟩
  intro Wx σ m H st ds vs Q S r F
  rcases mm_cases (g := fun a b => if b > a then b else a) (gl := maxI) S r F (fun _ _ => rfl) (fun d => by cases d <;> rfl) rfl (fun d e _ _ => by cases d <;> first | rfl | (cases e <;> rfl)) (fun d e h => by
      cases d <;> first
        | rfl
        | (cases e <;> first
          | rfl
          | exact absurd ⟨rfl, rfl⟩ (h _ _))) with ⟨i, j, rfl, q⟩ | ⟨a, n, ns, rfl, hp, q⟩
  · exact .inl ⟨i, j, rfl, q⟩
  · refine .inr ⟨a, n :: ns, rfl, .of hp, by simp, fun k hk hle => ?_⟩
    obtain ⟨h1, h2⟩ := maxI_spec ns n
    have e : k = maxI n ns := Int.le_antisymm (h2 _ hk) (hle _ h1)
    rw [e]
    exact q
theorem sum_ok (hK : X.K = W.K) (hc : X.calm = true) : Bf1 W X (.builtin "sum") .sum := by
  refine ⟨_, cr_sum hc, ?_⟩
  intro Wx σ m H st ds vs Q S r F
  obtain ⟨d, rfl⟩ := one_arg F (fun _ d _ _ => by cases d <;> rfl) fun _ => rfl
  obtain ⟨v, rfl, rv⟩ := repL1 r
  have F : Fin W Wx σ m H (match asL st d with
    | some xs => match intsOf xs with
      | some ns => .ok (.int ns.sum) st
      | none => .bad
    | none => .bad) (Rep W) Q := F
  cases e : asL st d with
  | none => rw [e] at F; exact F.elim
  | some xs =>
    rw [e] at F
    have F : Fin W Wx σ m H (match intsOf xs with
      | some ns => .ok (.int ns.sum) st
      | none => .bad) (Rep W) Q := F
    cases e2 : intsOf xs with
    | none => rw [e2] at F; exact F.elim
    | some ns =>
      rw [e2] at F
      obtain ⟨a, rfl, hp⟩ := list_ints S rv e e2
      exact ⟨a, ns, rfl, .of hp, Fin.ok F S (.int _)⟩
theorem all_ok (hK : X.K = W.K) (hc : X.calm = true) : Bf1 W X (.builtin "all") .all := by
  refine ⟨_, cr_all hc, ?_⟩
  intro Wx σ m H st ds vs Q S r F
  obtain ⟨d, rfl⟩ := one_arg F (fun _ d _ _ => by cases d <;> rfl) fun _ => rfl
  obtain ⟨v, rfl, rv⟩ := repL1 r
  have F : Fin W Wx σ m H (match asL st d with
    | some xs => match blsOf xs with
      | some ns => .ok (.bl (ns.all id)) st
      | none => .bad
    | none => .bad) (Rep W) Q := F
  cases e : asL st d with
  | none => rw [e] at F; exact F.elim
  | some xs =>
    rw [e] at F
    have F : Fin W Wx σ m H (match blsOf xs with
      | some ns => .ok (.bl (ns.all id)) st
      | none => .bad) (Rep W) Q := F
    cases e2 : blsOf xs with
    | none => rw [e2] at F; exact F.elim
    | some ns =>
      rw [e2] at F
      obtain ⟨a, us, rfl, hp, rr⟩ := asL_rep S rv e
      rw [bls_rep e2 rr] at hp
      exact ⟨a, ns, rfl, .of hp, Fin.ok F S (.bl _)⟩
theorem any_ok (hK : X.K = W.K) (hc : X.calm = true) : Bf1 W X (.builtin "any") .any := by
  refine ⟨_, cr_any hc, ?_⟩
  intro Wx σ m H st ds vs Q S r F
  obtain ⟨d, rfl⟩ := one_arg F (fun _ d _ _ => by cases d <;> rfl) fun _ => rfl
  obtain ⟨v, rfl, rv⟩ := repL1 r
  have F : Fin W Wx σ m H (match asL st d with
    | some xs => match blsOf xs with
      | some ns => .ok (.bl (ns.any id)) st
      | none => .bad
    | none => .bad) (Rep W) Q := F
  cases e : asL st d with
  | none => rw [e] at F; exact F.elim
  | some xs =>
    rw [e] at F
    have F : Fin W Wx σ m H (match blsOf xs with
      | some ns => .ok (.bl (ns.any id)) st
      | none => .bad) (Rep W) Q := F
    cases e2 : blsOf xs with
    | none => rw [e2] at F; exact F.elim
    | some ns =>
      rw [e2] at F
      obtain ⟨a, us, rfl, hp, rr⟩ := asL_rep S rv e
      rw [bls_rep e2 rr] at hp
      exact ⟨a, ns, rfl, .of hp, Fin.ok F S (.bl _)⟩

/-! ### sorted -/
theorem insI_perm (x : Int) : ∀ ns, (insI x ns).Perm (x :: ns)
  | [] => .refl _
  | y :: ys => by
    unfold insI
    split
    · exact .refl _
    · exact ((insI_perm x ys).cons y).trans (List.Perm.swap x y ys)
theorem sortI_perm : ∀ ns, (sortI ns).Perm ns
  | [] => .refl _
  | x :: xs => (insI_perm x (sortI xs)).trans ((sortI_perm xs).cons x)
theorem insI_srt (x : Int) : ∀ ns : List Int, ns.Pairwise (· ≤ ·) → (insI x ns).Pairwise (· ≤ ·)
  | [], _ => by simp [insI]
  | y :: ys, h => by
    unfold insI
    rw [List.pairwise_cons] at h
    split
    · rename_i hx
      rw [List.pairwise_cons, List.pairwise_cons]
      refine ⟨fun z hz => ?_, h.1, h.2⟩
      rcases List.mem_cons.mp hz with e | hz
      · rw [e]; exact hx
      · exact Int.le_trans hx (h.1 z hz)
    · rename_i hx
      rw [List.pairwise_cons]
      refine ⟨fun z hz => ?_, insI_srt x ys h.2⟩
      rcases List.mem_cons.mp ((insI_perm x ys).mem_iff.mp hz) with e | hz
      · rw [e]; omega
      · exact h.1 z hz
theorem sortI_srt : ∀ ns, (sortI ns).Pairwise (· ≤ ·)
  | [] => .nil
  | x :: xs => insI_srt x _ (sortI_srt xs)
theorem leP_total (x y : Int × Int) : leP x y = false → leP y x = true := by
  unfold leP
  simp only [Bool.or_eq_false_iff, Bool.and_eq_false_iff, decide_eq_false_iff_not, Bool.or_eq_true, Bool.and_eq_true, decide_eq_true_eq]
  omega
theorem leP_trans {x y z : Int × Int} (h1 : leP x y = true) (h2 : leP y z = true) : leP x z = true := by
  unfold leP at *
  simp only [Bool.or_eq_true, Bool.and_eq_true, decide_eq_true_eq] at *
  omega
theorem leP_anti {x y : Int × Int} (h1 : leP x y = true) (h2 : leP y x = true) : x = y := by
  unfold leP at *
  simp only [Bool.or_eq_true, Bool.and_eq_true, decide_eq_true_eq] at *
  exact Prod.ext (by omega) (by omega)
theorem insP_perm (x : Int × Int) : ∀ ns, (insP x ns).Perm (x :: ns)
  | [] => .refl _
  | y :: ys => by
    unfold insP
    split
    · exact .refl _
    · exact ((insP_perm x ys).cons y).trans (List.Perm.swap x y ys)
theorem sortP_perm : ∀ ns, (sortP ns).Perm ns
  | [] => .refl _
  | x :: xs => (insP_perm x (sortP xs)).trans ((sortP_perm xs).cons x)
theorem insP_srt (x : Int × Int) : ∀ ns : List (Int × Int), ns.Pairwise (fun a b => leP a b = true) → (insP x ns).Pairwise (fun a b => leP a b = true)
  | [], _ => by simp [insP]
  | y :: ys, h => by
    unfold insP
    rw [List.pairwise_cons] at h
    split
    · rename_i hx
      rw [List.pairwise_cons, List.pairwise_cons]
      refine ⟨fun z hz => ?_, h.1, h.2⟩
      rcases List.mem_cons.mp hz with e | hz
      · rw [e]; exact hx
      · exact leP_trans hx (h.1 z hz)
    · rename_i hx
      rw [List.pairwise_cons]
      refine ⟨fun z hz => ?_, insP_srt x ys h.2⟩
      rcases List.mem_cons.mp ((insP_perm x ys).mem_iff.mp hz) with e | hz
      · rw [e]; exact leP_total _ _ (by simpa using hx)
      · exact h.1 z hz
theorem sortP_srt : ∀ ns, (sortP ns).Pairwise (fun a b => leP a b = true)
  | [] => .nil
  | x :: xs => insP_srt x _ (sortP_srt xs)
theorem sortI_uniq {ns ks : List Int} (h1 : ks.Perm ns) (h2 : ks.Pairwise (· ≤ ·)) : ks = sortI ns :=
  List.Perm.eq_of_pairwise (le := (· ≤ ·)) (fun _ _ _ _ => Int.le_antisymm) h2 (sortI_srt ns) (h1.trans (sortI_perm ns).symm)
theorem sortP_uniq {ns ks : List (Int × Int)} (h1 : ks.Perm ns) (h2 : ks.Pairwise (fun a b => leP a b = true)) : ks = sortP ns :=
  List.Perm.eq_of_pairwise (le := fun a b => leP a b = true) (fun _ _ _ _ => leP_anti) h2 (sortP_srt ns) (h1.trans (sortP_perm ns).symm)
/-- the pair that a value is -/
def prV (H : Hp) : V → Int × Int
  | .ref t => match H t with
    | some (.tup [.int i, .int j]) => (i, j)
    | _ => (0, 0)
  | _ => (0, 0)
theorem prD_some {d : D} {p : Int × Int} (h : prD d = some p) : d = .tup [.int p.1, .int p.2] := by
  unfold prD at h
  split at h
  · cases h; rfl
  · cases h
theorem prs_rep {m : Mp} {H : Hp} {ds : List D} {ps : List (Int × Int)} {vs : List V} (e : prsOf ds = some ps) (r : RepL W m H ds vs) :
    vs.map (prV H) = ps ∧ ∀ x ∈ vs, ∃ t, x = V.ref t ∧ H t = some (.tup [.int (prV H x).1, .int (prV H x).2]) ∧ t ∉ m.s := by
  induction ds generalizing ps vs with
  | nil => cases r; cases e; exact ⟨rfl, fun x hx => absurd hx (by simp)⟩
  | cons d ds ih =>
    obtain ⟨q, zs, h1, h2, rfl⟩ := mapO_cons e
    cases r with
    | cons r1 r2 =>
      obtain ⟨g1, g2⟩ := ih h2 r2
      have e := prD_some h1
      subst e
      cases r1 with
      | tupK _ _ z =>
        obtain ⟨s, e⟩ := z _ List.mem_cons_self
        cases e
      | @tup b _ _ q' n rr =>
        obtain ⟨v1, v2, rfl, a1, a2⟩ := repL2 rr
        cases a1; cases a2
        have e3 : prV H (.ref b) = q := by
          show (match H b with
            | some (.tup [.int i, .int j]) => (i, j)
            | _ => (0, 0)) = q
          rw [q']
        refine ⟨by rw [List.map_cons, g1, e3], fun x hx => ?_⟩
        rcases List.mem_cons.mp hx with e4 | hx
        · rw [e4, e3]
          exact ⟨_, rfl, q', n⟩
        · exact g2 x hx
/-- sorted, by value -/
theorem srt_ints {Wx : WX} {σ : L2.St} {m : Mp} {H : Hp} {st : St} {ns : List Int} {Q : VK} (S : RelS W m st H) (F : Fin W Wx σ m H (.ok (.lst ((sortI ns).map .int)) st) (Rep W) Q) :
    ∀ (ns' : List Int) (p : Addr), ns'.Perm ns → ns'.Pairwise (· ≤ ·) → H p = none → Q (.ref p) (upd H p (.lst (ns'.map V.int))) := fun ns' p h1 h2 hp => by
  rw [sortI_uniq h1 h2]
  exact fin_newL S (ints_back _) F p hp
theorem prs_back {m : Mp} {H : Hp} {ps : List (Int × Int)} {ys : List V} (h1 : ys.map (prV H) = ps) (h2 : ∀ x ∈ ys, ∃ t, x = V.ref t ∧ H t = some (.tup [.int (prV H x).1, .int (prV H x).2]) ∧ t ∉ m.s) : RepL W m H (ps.map fun p => D.tup [.int p.1, .int p.2]) ys := by
  subst h1
  induction ys with
  | nil => exact .nil
  | cons y ys ih =>
    obtain ⟨t, e, q, n⟩ := h2 y List.mem_cons_self
    refine .cons ?_ (ih fun x hx => h2 x (List.mem_cons_of_mem _ hx))
    have r : Rep W m H (.tup [.int (prV H y).1, .int (prV H y).2]) (.ref t) := .tup q n (.cons (.int _) (.cons (.int _) .nil))
    rw [← e] at r
    exact r
theorem srt_go {Wx : WX} {σ : L2.St} {m : Mp} {H : Hp} {st : St} {xs : List D} {vs : List V} {a : Addr} {Q : VK} (S : RelS W m st H) (hp : H a = some (.lst vs)) (rr : RepL W m H xs vs)
    (F : Fin W Wx σ m H (match intsOf xs with
      | some ns => if ns.length < 64 then .ok (.lst ((sortI ns).map .int)) st else .bad
      | none => match prsOf xs with
        | some ps => if ps.length < 64 then .ok (.lst ((sortP ps).map fun p => .tup [.int p.1, .int p.2])) st else .bad
        | none => .bad) (Rep W) Q) : rSortedI X.K [.ref a] H Q ∨ rSortedPO X.K [.ref a] H Q := by
  cases e : intsOf xs with
  | some ns =>
    rw [e] at F
    obtain ⟨hl, F⟩ := fin_if F
    rw [ints_rep e rr] at hp
    exact .inl ⟨a, ns, rfl, .of hp, srt_ints S F⟩
  | none =>
    rw [e] at F
    have F : Fin W Wx σ m H (match prsOf xs with
        | some ps => if ps.length < 64 then .ok (.lst ((sortP ps).map fun p => .tup [.int p.1, .int p.2])) st else .bad
        | none => .bad) (Rep W) Q := F
    cases e2 : prsOf xs with
    | none => rw [e2] at F; exact F.elim
    | some ps =>
      rw [e2] at F
      obtain ⟨hl, F⟩ := fin_if F
      obtain ⟨h1, h2⟩ := prs_rep e2 rr
      refine .inr ⟨a, vs, prV H, rfl, .of hp, fun x hx => ?_, fun ys p hs hb hn => ?_⟩
      · obtain ⟨t, e, q, _⟩ := h2 x hx
        exact ⟨t, e, q⟩
      · have pm := hb.perm
        have e3 : ys.map (prV H) = sortP ps := by
          refine sortP_uniq ?_ ?_
          · rw [← h1]
            exact pm.map _
          · rw [List.pairwise_map]
            refine hs.imp fun {x y} h => ?_
            have h4 := SrtO.lexB_no.mp h
            unfold leP
            simp only [Bool.or_eq_true, Bool.and_eq_true, decide_eq_true_eq]
            omega
        exact fin_newL S (prs_back e3 fun x hx => h2 x (pm.mem_iff.mp hx)) F p hn
theorem keys_ints {m : Mp} {H : Hp} {kvs : List (Ky × D)} {vs : List (Key × V)} (rr : RepK W m H kvs vs) : ∀ {ns : List Int}, intsOf (keysOf kvs) = some ns → vs.map (·.1) = ns.map Sum.inl := by
  induction rr with
  | nil => intro ns e; cases e; rfl
  | @cons q d ds v vs hk r t ih =>
    intro ns e
    obtain ⟨n, ks, h1, h2, rfl⟩ := mapO_cons (x := kyD q) (xs := keysOf ds) e
    rw [List.map_cons, List.map_cons, ih h2]
    cases q with
    | i n' => cases h1; rfl
    | s x => cases h1
theorem sorted_ok (hc : X.calm = true) : Bf1 W X (.builtin "sorted") .sorted := by
  refine ⟨_, cr_sortedI.or (cr_sortedPO.or (call_sortedDI hc)), ?_⟩
  intro Wx σ m H st ds vs Q S r F
  obtain ⟨d, rfl⟩ := one_arg F (fun _ d _ _ => by cases d <;> rfl) fun _ => rfl
  obtain ⟨v, rfl, rv⟩ := repL1 r
  have two : ∀ {a : Addr}, rSortedI X.K [.ref a] H Q ∨ rSortedPO X.K [.ref a] H Q → rSortedI X.K [.ref a] H Q ∨ rSortedPO X.K [.ref a] H Q ∨ (∃ (b : Addr) (kvs : List (Key × V)) (ks : List Int), [V.ref a] = [.ref b] ∧ Rd H b (.dK kvs) ∧ kvs.map (·.1) = ks.map Sum.inl ∧ ks.length < 64 ∧
    ∀ (ys : List Int) (p : Addr), ys.Perm ks → ys.Pairwise (· ≤ ·) → H p = none → Q (.ref p) (upd H p (.lst (ys.map V.int)))) := fun h => h.elim .inl fun h => .inr (.inl h)
  cases d with
  | lst xs =>
    obtain ⟨a, us, rfl, hp, _, rr⟩ := rv.lstE
    exact two (srt_go S hp rr F)
  | ref k =>
    cases hk : st[k]? with
    | none =>
      have F : Fin W Wx σ m H (sortedD st (.ref k)) (Rep W) Q := F
      unfold sortedD at F
      simp only [hk] at F
      exact F.elim
    | some o =>
      have F : Fin W Wx σ m H (sortedD st (.ref k)) (Rep W) Q := F
      unfold sortedD at F
      simp only [hk] at F
      cases o with
      | ins _ _ => exact F.elim
      | lst xs =>
        obtain ⟨a, us, rfl, hp, rr⟩ := asL_rep (x := .ref k) S rv (asL_ref hk)
        exact two (srt_go S hp rr F)
      | dct lk kvs =>
        have F : Fin W Wx σ m H (match intsOf (keysOf kvs) with
          | some ns => if ns.length < 64 then .ok (.lst ((sortI ns).map .int)) st else .bad
          | none => .bad) (Rep W) Q := F
        cases e : intsOf (keysOf kvs) with
        | none => rw [e] at F; exact F.elim
        | some ns =>
          rw [e] at F
          obtain ⟨hl, F⟩ := fin_if F
          obtain ⟨a, vs, rfl, _, hr, rr⟩ := dct_rep S hk rv
          exact .inr (.inr ⟨a, vs, ns, rfl, hr, keys_ints rr e, hl, srt_ints S F⟩)
  | _ => exact (show False from F).elim
def bfVal : Bf → Value
  | .len => .builtin "len" | .abs => .builtin "abs" | .int => .type "int" | .bool => .type "bool" | .str => .type "str" | .tuple => .type "tuple" | .list => .type "list"
  | .min => .builtin "min" | .max => .builtin "max" | .sum => .builtin "sum" | .all => .builtin "all" | .any => .builtin "any" | .sorted => .builtin "sorted"
def bfName : Bf → Str
  | .len => "len" | .abs => "abs" | .int => "int" | .bool => "bool" | .str => "str" | .tuple => "tuple" | .list => "list"
  | .min => "min" | .max => "max" | .sum => "sum" | .all => "all" | .any => "any" | .sorted => "sorted"
theorem bf_boot : ∀ b : Bf, bootBuiltins (bfName b) = some (bfVal b)
  | .len => by decide +kernel
  | .abs => by decide +kernel
  | .int => by decide +kernel
  | .bool => by decide +kernel
  | .str => by decide +kernel
  | .tuple => by decide +kernel
  | .list => by decide +kernel
  | .min => by decide +kernel
  | .max => by decide +kernel
  | .sum => by decide +kernel
  | .all => by decide +kernel
  | .any => by decide +kernel
  | .sorted => by decide +kernel
theorem bf_ok (hK : X.K = W.K) (hc : X.calm = true) : ∀ b : Bf, b ≠ .str → Bf1 W X (bfVal b) b
  | .len, _ => len_ok hK
  | .abs, _ => abs_ok
  | .int, _ => int_ok
  | .bool, _ => bool_ok
  | .str, h => absurd rfl h
  | .tuple, _ => tuple_ok hK
  | .list, _ => list_ok hK
  | .min, _ => min_ok hK hc
  | .max, _ => max_ok hK hc
  | .sum, _ => sum_ok hK hc
  | .all, _ => all_ok hK hc
  | .any, _ => any_ok hK hc
  | .sorted, _ => sorted_ok hc

/-! ### truth -/
theorem tru_rep {m : Mp} {H : Hp} {st : St} {d : D} {v : V} {k : Bool} (S : RelS W m st H) (r : Rep W m H d v) (e : truD st d = some k) : TruV W.K v H k := by
  have emp : ∀ {xs : List D} {vs : List V}, RepL W m H xs vs → (!xs.isEmpty) = !vs.isEmpty := fun h => by cases h <;> rfl
  cases d with
  | non => cases r; exact (Option.some.inj e).symm
  | bl b => cases r; exact (Option.some.inj e).symm
  | int i => cases r; exact (Option.some.inj e).symm
  | str s =>
    cases r with
    | str _ h =>
      refine ⟨by rw [← line_eq]; simpa [Str.length] using h.1, ?_⟩
      rw [← Option.some.inj e]
      cases s with
      | nil => rfl
      | cons c s =>
        show true = ((((c :: s).toArray.size : Nat) : Int) != 0)
        rw [eq_comm, bne_iff_ne]
        simp only [List.size_toArray, List.length_cons]
        omega
  | tup xs =>
    obtain ⟨a, vs, rfl, q, rr⟩ := r.tupE
    exact .inr (.inl ⟨vs, q, by rw [← Option.some.inj e, emp rr]⟩)
  | lst xs =>
    obtain ⟨a, vs, rfl, q, _, rr⟩ := r.lstE
    exact .inl ⟨vs, .of q, by rw [← Option.some.inj e, emp rr]⟩
  | ref j =>
    have e : (match st[j]? with
      | some (.lst x) => some (!x.isEmpty)
      | _ => none) = some k := e
    cases hj : st[j]? with
    | none => rw [hj] at e; cases e
    | some o =>
      rw [hj] at e
      cases o with
      | ins _ _ => cases e
      | dct _ _ => cases e
      | lst xs =>
        obtain ⟨a, vs, rfl, hp, rr⟩ := asL_rep (x := .ref j) S r (asL_ref hj)
        exact .inl ⟨vs, .of hp, by rw [← Option.some.inj e, emp rr]⟩
  | _ => cases e
theorem isN_rep {m : Mp} {H : Hp} {d : D} {v : V} (r : Rep W m H d v) : decide (v = .non) = isN d := by
  cases r <;> rfl
end
end Kn
set_option Elab.async false
set_option linter.all false
set_option maxHeartbeats 4000000
/-! KnE: single constructs of the text, by judgement. -/
namespace Kn
open PySem L2 PyProof.Rows

structure Cfg where
  N : List Str
  sc : Scope
  dfn : Bool
  mu : Bool
structure Good (W : Wd) (P : Program) (w : World) (mg : Str → Option Value) (base : Heap) (c : Cfg) (n : Nat) (Wx : WX) (X : Cx) : Prop where
  hK : X.K = W.K
  hmg : X.mg = mg
  hP : X.prog = P
  hw : X.w = w
  hb : X.base = base
  room : Room n X.A
  sc : X.env.scope = c.sc
  N : X.N = c.N
  nd : c.N.Nodup
  calm : X.calm = true
  tk : Takes X Wx
  fn : c.dfn = true → X.fn = fun _ => true
  po : c.dfn = true → PassesOwn (model X.prog X.w) X.A X.env X.xe

section
variable {W : Wd} {CP : CPt} {Wx : WX} {X : Cx} {cl : Cl}
abbrev PEi (W : Wd) (CP : CPt) (Wx : WX) (X : Cx) (cl : Cl) (e : Expr) (f : SE) : Prop := PE X e (tI W CP Wx (f cl))
abbrev PTi (W : Wd) (CP : CPt) (Wx : WX) (X : Cx) (cl : Cl) (e : Expr) (f : SE) : Prop := PT X e (tIb W CP Wx (sTru f cl))
/-- both: as a value, as a test -/
def Ex (W : Wd) (CP : CPt) (Wx : WX) (X : Cx) (cl : Cl) (e : Expr) (f : SE) : Prop := PEi W CP Wx X cl e f ∧ PTi W CP Wx X cl e f

theorem tru_of {σ : L2.St} {m : Mp} {H : Hp} {st : St} {d : D} {v : V} {Q : Bool → Hp → Prop} {X : Cx} (hK : X.K = W.K) (S : RelS W m st H) (r : Rep W m H d v) (F : Fin W Wx σ m H (ofO (truD st d) st) bRp Q) : ∃ k, TruV X.K v H k ∧ truD st d = some k ∧ Q k H := by
  cases e : truD st d with
  | none => rw [e] at F; exact F.elim
  | some k =>
    rw [e] at F
    exact ⟨k, by rw [hK]; exact tru_rep S r e, rfl, F.ok S rfl⟩
/-- a test by the value's truth -/
theorem ex_of (hK : X.K = W.K) {e : Expr} {f : SE} (h : PEi W CP Wx X cl e f) (he : ∀ whole, isTrue e X.env whole = (do let v ← whole; standAt e.pos; holding [v] (truthy v))) : Ex W CP Wx X cl e f := by
  refine ⟨h, pt_imp (pt_truth h he) fun σ H Q ⟨en, st, m, E, S, F⟩ => ⟨en, st, m, E, S, (Fin.bind F).mono fun v H1 ⟨d, st1, m1, _, s1, S1, r1, F1⟩ => ?_⟩⟩
  obtain ⟨k, h1, _, h2⟩ := tru_of hK S1 r1 F1
  exact ⟨k, h1, h2⟩

/-! ### names and constants -/
theorem e_var {i : Nat} {x : Str} {pos : Pos} (hN : X.N[i]? = some x) (hv : Vis X.env.scope x) (hd : (x == ("__debug__" : Str)) = false) (hcd : (x == ("__classdict__" : Str)) = false) : PEi W CP Wx X cl (.Name x pos) (sVar i) := by
  refine pe_imp (pe_var hN hv hd hcd) fun σ H Q ⟨en, st, m, E, S, F⟩ => ?_
  have F : Fin W Wx σ m H (match en[i]? with
    | some (some (.dat d)) => .ok d st
    | _ => .bad) (Rep W) Q := F
  cases e : en[i]? with
  | none => rw [e] at F; exact F.elim
  | some o =>
    rw [e] at F
    cases o with
    | none => exact F.elim
    | some a =>
      cases a with
      | clo _ _ => exact F.elim
      | dat d =>
        obtain ⟨v, h1, h2⟩ := E.at_ i _ e
        exact ⟨v, h1, Fin.ok F S h2⟩
theorem e_glob {x : Str} {pos : Pos} {u : Value} {v : V} {d : D} (hg : Gl X x) (hm : X.mg x = some u) (r : RelV v u) (q : ∀ m H, Rep W m H d v) (hd : (x == ("__debug__" : Str)) = false) : PEi W CP Wx X cl (.Name x pos) (sCst d) :=
  pe_imp (pe_glob hg hm r hd) fun σ H Q ⟨en, st, m, E, S, F⟩ => F.ok S (q m H)
theorem e_int {i : Int} {j : Nat} {pos : Pos} : PEi W CP Wx X cl (.Constant (.int i) j pos) (sCst (.int i)) := pe_imp pe_int fun σ H Q ⟨en, st, m, E, S, F⟩ => F.ok S (.int i)
theorem e_bl {i : Bool} {j : Nat} {pos : Pos} : PEi W CP Wx X cl (.Constant (.bool i) j pos) (sCst (.bl i)) := pe_imp pe_bl fun σ H Q ⟨en, st, m, E, S, F⟩ => F.ok S (.bl i)
theorem e_non {j : Nat} {pos : Pos} : PEi W CP Wx X cl (.Constant .none j pos) (sCst .non) := pe_imp pe_non fun σ H Q ⟨en, st, m, E, S, F⟩ => F.ok S .non
def strB (s : Str) : Bool := decide (s.cps.toList.length ≤ line) && s.cps.toList.all fun c => decide (c < 0x110000)
theorem strB_ok {s : Str} (h : strB s = true) : sOk s.cps.toList ∧ (⟨s.cps.toList.toArray⟩ : Str) = s := by
  unfold strB at h
  rw [Bool.and_eq_true] at h
  exact ⟨⟨of_decide_eq_true h.1, h.2⟩, by cases s; simp⟩
theorem e_str {s : Str} {j : Nat} {pos : Pos} (h : strB s = true) : PEi W CP Wx X cl (.Constant (.str s) j pos) (sCst (.str s.cps.toList)) := pe_imp pe_str fun σ H Q ⟨en, st, m, E, S, F⟩ => by
  have q := F.ok S (.str _ (strB_ok h).1)
  rw [(strB_ok h).2] at q
  exact q

/-! ### lists of expressions -/
def noStar : Expr → Bool
  | .Starred .. => false
  | _ => true
theorem star_of {e : Expr} {es : List Expr} {env : Env} (h : noStar e = true) : starEach (e :: es) env = (false, eval e env) :: starEach es env := by
  cases e <;> first | rfl | cases h
theorem pa_list : ∀ {es : List Expr} {fs : List SE}, Paired (fun e f => noStar e = true ∧ PEi W CP Wx X cl e f) es fs → PA X es (tIl W CP Wx (sList fs cl))
  | _, _, .nil => pa_imp pa_nil fun σ H Q ⟨en, st, m, E, S, F⟩ => F.ok S .nil
  | _, _, .cons h t => pa_imp (pa_cons h.2 (pa_list t) (star_of h.1)) fun σ H Q ⟨en, st, m, E, S, F⟩ =>
    ⟨en, st, m, E, S, (Fin.bind F).mono fun v H1 ⟨d, st1, m1, _, s1, S1, r1, F1⟩ =>
      ⟨en, st1, m1, E.stp s1, S1, (Fin.bind F1).mono fun vs H2 ⟨ds, st2, m2, _, s2, S2, r2, F2⟩ => F2.ok S2 (.cons (r1.stp s2) r2)⟩⟩
theorem plain_any {es : List Expr} {env : Env} (h : es.all noStar = true) (pos : Pos) : (backTo pos (starEach es env)).any (·.1) = false := by
  induction es with
  | nil => rfl
  | cons e es ih =>
    rw [List.all_cons, Bool.and_eq_true] at h
    rw [star_of h.1]
    have e1 := ih h.2
    cases es with
    | nil => rfl
    | cons e2 es =>
      rw [List.all_cons, Bool.and_eq_true] at h
      rw [star_of h.2.1] at e1 ⊢
      first
        | exact e1
        | (simp only [backTo, List.any_cons, List.any_map] at e1 ⊢; simpa using e1)
end
end Kn
set_option Elab.async false
set_option linter.all false
set_option maxHeartbeats 4000000
/-! KnE2: operators, tests, displays, calls of built-ins. -/
namespace Kn
open PySem L2 PyProof.Rows
theorem cmp_mk {W : Wd} {Wx : WX} {σ : L2.St} {m : Mp} {H : Hp} {st : St} {o : Co} {a b : D} {k : Bool} {Q : VK} (e : coD st o a b = some k) (q : ∀ H' m', Stp m H m' H' → RelS W m' st H' → Q (.bl k) H') : Fin W Wx σ m H (cmpD st o a b) (Rep W) Q := by
  unfold cmpD
  rw [e]
  intro v H' m' sa Sa c
  cases c
  exact q H' m' sa Sa
section
variable {W : Wd} {CP : CPt} {Wx : WX} {X : Cx} {cl : Cl} {pos : Pos}
theorem e_tup {es : List Expr} {fs : List SE} {k : Nat} (h : PA X es (tIl W CP Wx (sList fs cl))) (hl : es.length ≤ 1000) (hp : Paired (fun e f => noStar e = true ∧ PEi W CP Wx X cl e f) es fs) : PEi W CP Wx X cl (.Tuple es k pos) (sTup fs) :=
  pe_imp (pe_tup h) fun σ H Q ⟨en, st, m, E, S, F⟩ => ⟨en, st, m, E, S, (Fin.bind F).mono fun vs H1 ⟨ds, st1, m1, e1, s1, S1, r1, F1⟩ => by
    refine ⟨?_, fin_newT S1 r1 F1⟩
    have e : ∀ {fs : List SE} {en : En} {st st1 : St} {ds : List D}, sList fs cl en st = .ok ds st1 → ds.length = fs.length := by
      intro fs
      induction fs with
      | nil => intro en st st1 ds h; cases h; rfl
      | cons f fs ih =>
        intro en st st1 ds h
        unfold sList at h
        cases e1 : f cl en st with
        | bad => rw [e1] at h; cases h
        | exc _ _ _ => rw [e1] at h; cases h
        | ok d s1 =>
          rw [e1] at h
          have h : (sList fs cl en s1).bind (fun ds s2 => .ok (d :: ds) s2) = .ok ds st1 := h
          cases e2 : sList fs cl en s1 with
          | bad => rw [e2] at h; cases h
          | exc _ _ _ => rw [e2] at h; cases h
          | ok ds2 s2 =>
            rw [e2] at h
            cases h
            rw [List.length_cons, List.length_cons, ih e2]
    rw [← r1.length, e e1, ← hp.length, sizeLine_eq]
    omega⟩
theorem len_list : ∀ {fs : List SE} {en : En} {st st1 : St} {ds : List D}, sList fs cl en st = .ok ds st1 → ds.length = fs.length := by
  intro fs
  induction fs with
  | nil => intro en st st1 ds h; cases h; rfl
  | cons f fs ih =>
    intro en st st1 ds h
    unfold sList at h
    cases e1 : f cl en st with
    | bad => rw [e1] at h; cases h
    | exc _ _ _ => rw [e1] at h; cases h
    | ok d s1 =>
      rw [e1] at h
      have h : (sList fs cl en s1).bind (fun ds s2 => .ok (d :: ds) s2) = .ok ds st1 := h
      cases e2 : sList fs cl en s1 with
      | bad => rw [e2] at h; cases h
      | exc _ _ _ => rw [e2] at h; cases h
      | ok ds2 s2 =>
        rw [e2] at h
        cases h
        rw [List.length_cons, List.length_cons, ih e2]
theorem e_lst {es : List Expr} {fs : List SE} {mu : Bool} (h : PA X es (tIl W CP Wx (sList fs cl))) (hl : es.length ≤ 1000) (hp : Paired (fun e f => noStar e = true ∧ PEi W CP Wx X cl e f) es fs) : PEi W CP Wx X cl (.List es pos) (sLst mu fs) :=
  pe_imp (pe_lst h) fun σ H Q ⟨en, st, m, E, S, F⟩ => ⟨en, st, m, E, S, (Fin.bind F).mono fun vs H1 ⟨ds, st1, m1, e1, s1, S1, r1, F1⟩ => by
    refine ⟨?_, ?_⟩
    · rw [← r1.length, len_list e1, ← hp.length, sizeLine_eq]
      omega
    · cases mu with
      | false => exact fin_newL S1 r1 F1
      | true =>
        intro p hp
        have new : RepO W ⟨m1.s ++ [p], m1.x⟩ (upd H1 p (.lst vs)) p (.lst ds) := ⟨vs, upd_same, r1.stp (Stp.add hp)⟩
        exact F1 (.ref p) _ ⟨m1.s ++ [p], m1.x⟩ (Stp.add hp) (S1.add hp new) (.ref (by
          show (m1.s ++ [p])[st1.length]? = some p
          rw [← S1.len, List.getElem?_append_right (Nat.le_refl _), Nat.sub_self]
          rfl))⟩
theorem e_bin {a b : Expr} {f g : SE} {o : Bo} (ho : Op2 W X (binaryOp (boOp o)) (fun st => boD st o)) (ha : PEi W CP Wx X cl a f) (hb : PEi W CP Wx X cl b g) : PEi W CP Wx X cl (.BinOp a (boOp o) b pos) (sBin o f g) := by
  obtain ⟨r, h1, h2⟩ := ho.ex
  exact pe_imp (pe_op h1 ha hb) fun σ H Q ⟨en, st, m, E, S, F⟩ => ⟨en, st, m, E, S, (Fin.bind F).mono fun x H1 ⟨d, st1, m1, _, s1, S1, r1, F1⟩ =>
    ⟨en, st1, m1, E.stp s1, S1, (Fin.bind F1).mono fun y H2 ⟨d2, st2, m2, _, s2, S2, r2, F2⟩ => h2 Wx σ m2 H2 st2 d d2 x y Q S2 (r1.stp s2) r2 F2⟩⟩
theorem coOp_in {o : Co} {b : Expr} (h : ∀ es k p, b ≠ .Set es k p) : behindInMarks (coOp o) b = false := by
  cases b <;> first | rfl | exact absurd rfl (h _ _ _)
theorem e_cmp {a b : Expr} {f g : SE} {o : Co} (hK : X.K = W.K) (ho : Op2 W X (compareOp (coOp o)) (fun st => cmpD st o)) (ha : PEi W CP Wx X cl a f) (hb : PEi W CP Wx X cl b g) (hm : ∀ es k p, b ≠ .Set es k p) : Ex W CP Wx X cl (.Compare a [coOp o] [b] pos) (sCmp o f g) := by
  obtain ⟨r, h1, h2⟩ := ho.ex
  refine ⟨pe_imp (pe_cmpR h1 ha hb (coOp_in hm)) fun σ H Q ⟨en, st, m, E, S, F⟩ => ⟨en, st, m, E, S, (Fin.bind F).mono fun x H1 ⟨d, st1, m1, _, s1, S1, r1, F1⟩ =>
    ⟨en, st1, m1, E.stp s1, S1, (Fin.bind F1).mono fun y H2 ⟨d2, st2, m2, _, s2, S2, r2, F2⟩ => h2 Wx σ m2 H2 st2 d d2 x y Q S2 (r1.stp s2) r2 F2⟩⟩,
    pt_imp (pt_cmpR h1 ha hb (coOp_in hm)) fun σ H Q ⟨en, st, m, E, S, F⟩ => ?_⟩
  have F : Fin W Wx σ m H ((f cl en st).bind fun x s1 => ((g cl en s1).bind fun y s2 => (cmpD s2 o x y)).bind fun x s1 => ofO (truD s1 x) s1) bRp Q := by
    have e : sTru (sCmp o f g) cl en st = (f cl en st).bind fun x s1 => ((g cl en s1).bind fun y s2 => (cmpD s2 o x y)).bind fun x s1 => ofO (truD s1 x) s1 := by
      unfold sTru sCmp
      cases f cl en st <;> rfl
    rw [← e]
    exact F
  refine ⟨en, st, m, E, S, (Fin.bind F).mono fun x H1 ⟨d, st1, m1, _, s1, S1, r1, F1⟩ => ?_⟩
  have F1 : Fin W Wx σ m1 H1 ((g cl en st1).bind fun y s2 => (cmpD s2 o d y).bind fun x s1 => ofO (truD s1 x) s1) bRp Q := by
    have e : (((g cl en st1).bind fun y s2 => (cmpD s2 o d y)).bind fun x s1 => ofO (truD s1 x) s1) = (g cl en st1).bind fun y s2 => (cmpD s2 o d y).bind fun x s1 => ofO (truD s1 x) s1 := by
      cases g cl en st1 <;> rfl
    rw [← e]
    exact F1
  refine ⟨en, st1, m1, E.stp s1, S1, (Fin.bind F1).mono fun y H2 ⟨d2, st2, m2, _, s2, S2, r2, F2⟩ => ?_⟩
  refine h2 Wx σ m2 H2 st2 d d2 x y _ S2 (r1.stp s2) r2 ?_
  cases e : coD st2 o d d2 with
  | none =>
    unfold cmpD at F2
    rw [e] at F2; exact F2.elim
  | some k =>
    unfold cmpD at F2
    rw [e] at F2
    have F2 : Fin W Wx σ m2 H2 (.ok k st2) bRp Q := F2
    exact cmp_mk e fun H' m' a b => ⟨k, rfl, F2 k H' m' a b rfl⟩
theorem e_isN {a : Expr} {f : SE} {j : Nat} {p : Pos} (neg : Bool) (ha : PEi W CP Wx X cl a f) : Ex W CP Wx X cl (.Compare a [if neg then .IsNot else .Is] [.Constant .none j p] pos) (sIsN neg f) := by
  have key : ∀ {σ : L2.St} {m : Mp} {H : Hp} {st : St} {d : D} {v : V} {Q : VK}, RelS W m st H → Rep W m H d v → Fin W Wx σ m H (.ok (.bl (if neg then !isN d else isN d)) st) (Rep W) Q → Q (.bl (if neg then !decide (v = .non) else decide (v = .non))) H := fun S r F => by
    rw [isN_rep r]
    exact F.ok S (.bl _)
  have tk : ∀ {σ : L2.St} {m : Mp} {H : Hp} {st : St} {d : D} {v : V} {Q : Bool → Hp → Prop}, RelS W m st H → Rep W m H d v → Fin W Wx σ m H (.ok (if neg then !isN d else isN d) st) bRp Q → Q (if neg then !decide (v = .non) else decide (v = .non)) H := fun S r F => by
    rw [isN_rep r]
    exact F.ok S rfl
  have e0 : ∀ en st, sTru (sIsN neg f) cl en st = (f cl en st).bind fun x s1 => .ok (if neg then !isN x else isN x) s1 := fun en st => by
    unfold sTru sIsN
    cases f cl en st <;> rfl
  cases neg with
  | false =>
    refine ⟨pe_imp (pe_cmp (pc_isN ha)) fun σ H Q ⟨en, st, m, E, S, F⟩ => ⟨en, st, m, E, S, (Fin.bind F).mono fun x H1 ⟨d, st1, m1, _, s1, S1, r1, F1⟩ => key S1 r1 F1⟩,
      pt_imp (pt_cmp (pc_isN ha)) fun σ H Q ⟨en, st, m, E, S, F⟩ => ?_⟩
    rw [e0] at F
    exact ⟨en, st, m, E, S, (Fin.bind F).mono fun x H1 ⟨d, st1, m1, _, s1, S1, r1, F1⟩ => ⟨_, rfl, tk S1 r1 F1⟩⟩
  | true =>
    refine ⟨pe_imp (pe_cmp (pc_notN ha)) fun σ H Q ⟨en, st, m, E, S, F⟩ => ⟨en, st, m, E, S, (Fin.bind F).mono fun x H1 ⟨d, st1, m1, _, s1, S1, r1, F1⟩ => key S1 r1 F1⟩,
      pt_imp (pt_cmp (pc_notN ha)) fun σ H Q ⟨en, st, m, E, S, F⟩ => ?_⟩
    rw [e0] at F
    exact ⟨en, st, m, E, S, (Fin.bind F).mono fun x H1 ⟨d, st1, m1, _, s1, S1, r1, F1⟩ => ⟨_, rfl, tk S1 r1 F1⟩⟩
theorem e_cmp2 {a b d : Expr} {f g h : SE} {o p : Co} (hK : X.K = W.K) (ho : Op2 W X (compareOp (coOp o)) (fun st => cmpD st o)) (hp : Op2 W X (compareOp (coOp p)) (fun st => cmpD st p))
    (ha : PEi W CP Wx X cl a f) (hb : PEi W CP Wx X cl b g) (hd : PEi W CP Wx X cl d h) (hm : ∀ es k p, d ≠ .Set es k p) : Ex W CP Wx X cl (.Compare a [coOp o, coOp p] [b, d] pos) (sCmp2 o p f g h) := by
  obtain ⟨r, h1, h2⟩ := ho.ex
  obtain ⟨r', h1', h2'⟩ := hp.ex
  have lm : lastMarks [coOp o, coOp p] [b, d] = false := coOp_in (o := p) hm
  have body : ∀ {σ : L2.St} {m : Mp} {H : Hp} {en : En} {st : St} {Q : VK}, RelE W CP m en σ H → RelS W m st H → Fin W Wx σ m H (sCmp2 o p f g h cl en st) (Rep W) Q →
      tChain r r' (tI W CP Wx (f cl)) (tI W CP Wx (g cl)) (tI W CP Wx (h cl)) σ H Q := fun {σ m H en st Q} E S F =>
    ⟨en, st, m, E, S, (Fin.bind F).mono fun x H1 ⟨d1, st1, m1, _, s1, S1, r1, F1⟩ => ⟨en, st1, m1, E.stp s1, S1, (Fin.bind F1).mono fun y H2 ⟨d2, st2, m2, _, s2, S2, r2, F2⟩ => by
      refine h2 Wx σ m2 H2 st2 d1 d2 x y _ S2 (r1.stp s2) r2 ?_
      have F2 : Fin W Wx σ m2 H2 (match coD st2 o d1 d2 with
        | none => .bad
        | some false => .ok (.bl false) st2
        | some true => (h cl en st2).bind fun z s3 => cmpD s3 p d2 z) (Rep W) Q := F2
      cases e : coD st2 o d1 d2 with
      | none => rw [e] at F2; exact F2.elim
      | some k =>
        rw [e] at F2
        refine cmp_mk e fun H' m' sa Sa => ⟨k, rfl, ?_⟩
        cases k with
        | false =>
          rw [if_neg Bool.false_ne_true]
          exact F2 _ H' m' sa Sa (.bl _)
        | true =>
          rw [if_pos rfl]
          have F2 := Fin.step sa F2
          exact ⟨en, st2, m', (E.stp s1).stp (s2.trans sa), Sa, (Fin.bind F2).mono fun z H3 ⟨d3, st3, m3, _, s3, S3, r3, F3⟩ => h2' Wx σ m3 H3 st3 d2 d3 y z Q S3 ((r2.stp sa).stp s3) r3 F3⟩⟩⟩
  refine ⟨pe_imp (pe_chain h1 h1' ha hb hd lm) fun σ H Q ⟨en, st, m, E, S, F⟩ => body E S F, pt_imp (pt_chain h1 h1' ha hb hd lm) fun σ H Q ⟨en, st, m, E, S, F⟩ => ?_⟩
  refine body (Q := fun x H' => ∃ k, x = .bl k ∧ Q k H') E S ?_
  -- what the chain tells is a truth value
  have F : Fin W Wx σ m H ((sCmp2 o p f g h cl en st).bind fun x s1 => ofO (truD s1 x) s1) bRp Q := F
  have bl : ∀ d s1, sCmp2 o p f g h cl en st = .ok d s1 → ∃ k, d = .bl k := fun d s1 e => by
    unfold sCmp2 at e
    cases e1 : f cl en st with
    | bad => rw [e1] at e; cases e
    | exc _ _ _ => rw [e1] at e; cases e
    | ok x s2 =>
      rw [e1] at e
      have e : ((g cl en s2).bind fun y s2 => match coD s2 o x y with
        | none => .bad
        | some false => .ok (.bl false) s2
        | some true => (h cl en s2).bind fun z s3 => cmpD s3 p y z) = .ok d s1 := e
      cases e2 : g cl en s2 with
      | bad => rw [e2] at e; cases e
      | exc _ _ _ => rw [e2] at e; cases e
      | ok y s3 =>
        rw [e2] at e
        have e : (match coD s3 o x y with
          | none => .bad
          | some false => .ok (.bl false) s3
          | some true => (h cl en s3).bind fun z s3 => cmpD s3 p y z) = R.ok d s1 := e
        cases e3 : coD s3 o x y with
        | none => rw [e3] at e; cases e
        | some k =>
          rw [e3] at e
          cases k with
          | false => cases e; exact ⟨_, rfl⟩
          | true =>
            have e : ((h cl en s3).bind fun z s3 => cmpD s3 p y z) = R.ok d s1 := e
            cases e4 : h cl en s3 with
            | bad => rw [e4] at e; cases e
            | exc _ _ _ => rw [e4] at e; cases e
            | ok z s4 =>
              rw [e4] at e
              have e : cmpD s4 p y z = R.ok d s1 := e
              unfold cmpD at e
              cases e5 : coD s4 p y z with
              | none => rw [e5] at e; cases e
              | some k => rw [e5] at e; cases e; exact ⟨_, rfl⟩
  cases e : sCmp2 o p f g h cl en st with
  | bad => rw [e] at F; exact F.elim
  | exc c q s => rw [e] at F; exact F
  | ok d s1 =>
    rw [e] at F
    obtain ⟨k, rfl⟩ := bl d s1 e
    intro v H' m' sa Sa c
    cases c
    exact ⟨k, rfl, F k H' m' sa Sa rfl⟩
theorem e_neg {a : Expr} {f : SE} (ha : PEi W CP Wx X cl a f) : PEi W CP Wx X cl (.UnaryOp .USub a pos) (sNeg f) :=
  pe_imp (pe_un un_neg ha) fun σ H Q ⟨en, st, m, E, S, F⟩ => ⟨en, st, m, E, S, (Fin.bind F).mono fun x H1 ⟨d, st1, m1, _, s1, S1, r1, F1⟩ => by
    cases d with
    | int i => cases r1; exact ⟨i, rfl, F1.ok S1 (.int _)⟩
    | _ => exact (show False from F1).elim⟩
theorem tru_bl {f : Cl → En → St → R Bool} {en : En} {st : St} : ((f cl en st).bind fun b s1 => R.ok (D.bl b) s1).bind (fun x s1 => ofO (truD s1 x) s1) = f cl en st := by
  cases f cl en st <;> rfl
theorem e_not {a : Expr} {f : SE} (hK : X.K = W.K) (ha : Ex W CP Wx X cl a f) : Ex W CP Wx X cl (.UnaryOp .Not a pos) (sNot f) := by
  refine ⟨pe_imp (pe_notT ha.1) fun σ H Q ⟨en, st, m, E, S, F⟩ => ?_, pt_imp (pt_not ha.2) fun σ H Q ⟨en, st, m, E, S, F⟩ => ?_⟩
  · have F : Fin W Wx σ m H ((f cl en st).bind fun x s1 => (ofO (truD s1 x) s1).bind fun b s2 => .ok (.bl (!b)) s2) (Rep W) Q := by
      have e : sNot f cl en st = (f cl en st).bind fun x s1 => (ofO (truD s1 x) s1).bind fun b s2 => .ok (.bl (!b)) s2 := by
        unfold sNot sTru
        cases f cl en st <;> rfl
      rw [← e]
      exact F
    refine ⟨en, st, m, E, S, (Fin.bind F).mono fun x H1 ⟨d, st1, m1, _, s1, S1, r1, F1⟩ => ?_⟩
    cases e : truD st1 d with
    | none => rw [e] at F1; exact F1.elim
    | some k =>
      rw [e] at F1
      exact ⟨k, by rw [hK]; exact tru_rep S1 r1 e, Fin.ok F1 S1 (.bl _)⟩
  · have F : Fin W Wx σ m H ((sTru f cl en st).bind fun b s1 => .ok (!b) s1) bRp Q := by
      have e : sTru (sNot f) cl en st = (sTru f cl en st).bind fun b s1 => .ok (!b) s1 := by
        show ((sTru f cl en st).bind fun b s1 => R.ok (D.bl (!b)) s1).bind (fun x s1 => ofO (truD s1 x) s1) = _
        cases sTru f cl en st <;> rfl
      rw [← e]
      exact F
    exact ⟨en, st, m, E, S, (Fin.bind F).mono fun b H1 ⟨k, st1, m1, _, s1, S1, r1, F1⟩ => by
      have r1 : k = b := r1
      subst r1
      exact F1.ok S1 rfl⟩
theorem e_ife {a b c : Expr} {t f g : SE} (ht : PTi W CP Wx X cl c t) (ha : PEi W CP Wx X cl a f) (hb : PEi W CP Wx X cl b g) : PEi W CP Wx X cl (.IfExp c a b pos) (sIf t f g) :=
  pe_imp (pe_ifExp ht ha hb) fun σ H Q ⟨en, st, m, E, S, F⟩ => ⟨en, st, m, E, S, (Fin.bind F).mono fun k H1 ⟨k', st1, m1, _, s1, S1, r1, F1⟩ => by
    have r1 : k' = k := r1
    subst r1
    cases k' with
    | true => exact ⟨en, st1, m1, E.stp s1, S1, F1⟩
    | false => exact ⟨en, st1, m1, E.stp s1, S1, F1⟩⟩
/-! ### and, or -/
theorem e_and (hK : X.K = W.K) : ∀ {es : List Expr} {fs : List SE}, es ≠ [] → Paired (fun e f => Ex W CP Wx X cl e f) es fs → PEi W CP Wx X cl (.BoolOp .And es pos) (sAnd fs) ∧ PW X (.BoolOp .And es pos) (tIb W CP Wx (sTru (sAnd fs) cl))
  | _, _, h, .nil => absurd rfl h
  | _, _, _, .cons (l₁ := []) h .nil => ⟨pe_one h.1, pw_and1 h.2⟩
  | a :: e2 :: es, f :: f2 :: fs, _, .cons h (.cons h2 t) => by
    obtain ⟨i1, i2⟩ := e_and hK (by simp) (.cons h2 t)
    refine ⟨pe_imp (pe_andT h.1 i1) fun σ H Q ⟨en, st, m, E, S, F⟩ => ⟨en, st, m, E, S, (Fin.bind F).mono fun x H1 ⟨d, st1, m1, _, s1, S1, r1, F1⟩ => ?_⟩,
      pw_imp (pw_and h.2 i2) fun σ H Q ⟨en, st, m, E, S, F⟩ => ?_⟩
    · cases e : truD st1 d with
      | none => rw [e] at F1; exact F1.elim
      | some k =>
        rw [e] at F1
        refine ⟨k, by rw [hK]; exact tru_rep S1 r1 e, ?_⟩
        cases k with
        | true => rw [if_pos rfl]; exact ⟨en, st1, m1, E.stp s1, S1, F1⟩
        | false => rw [if_neg Bool.false_ne_true]; exact F1.ok S1 r1
    · have F : Fin W Wx σ m H ((sTru f cl en st).bind fun k s1 => if k then sTru (sAnd (f2 :: fs)) cl en s1 else .ok false s1) bRp Q := by
        have e : sTru (sAnd (f :: f2 :: fs)) cl en st = (sTru f cl en st).bind fun k s1 => if k then sTru (sAnd (f2 :: fs)) cl en s1 else .ok false s1 := by
          show (((f cl en st).bind fun x s1 => match truD s1 x with
            | none => .bad
            | some true => sAnd (f2 :: fs) cl en s1
            | some false => .ok x s1).bind fun x s1 => ofO (truD s1 x) s1) = ((f cl en st).bind fun x s1 => ofO (truD s1 x) s1).bind _
          cases f cl en st with
          | bad => rfl
          | exc _ _ _ => rfl
          | ok x s1 =>
            show (match truD s1 x with
            | none => R.bad
            | some true => sAnd (f2 :: fs) cl en s1
            | some false => .ok x s1).bind (fun x s1 => ofO (truD s1 x) s1) = (ofO (truD s1 x) s1).bind _
            cases e : truD s1 x with
            | none => rfl
            | some k =>
              cases k with
              | true => rfl
              | false =>
                show ofO (truD s1 x) s1 = R.ok false s1
                rw [e]
                rfl
        rw [← e]
        exact F
      refine ⟨en, st, m, E, S, (Fin.bind F).mono fun k H1 ⟨k', st1, m1, _, s1, S1, r1, F1⟩ => ?_⟩
      have r1 : k' = k := r1
      subst r1
      cases k' with
      | true => exact ⟨en, st1, m1, E.stp s1, S1, F1⟩
      | false => exact Fin.ok F1 S1 rfl
theorem e_or (hK : X.K = W.K) : ∀ {es : List Expr} {fs : List SE}, es ≠ [] → Paired (fun e f => Ex W CP Wx X cl e f) es fs → PEi W CP Wx X cl (.BoolOp .Or es pos) (sOr fs) ∧ PW X (.BoolOp .Or es pos) (tIb W CP Wx (sTru (sOr fs) cl))
  | _, _, h, .nil => absurd rfl h
  | _, _, _, .cons (l₁ := []) h .nil => ⟨pe_one h.1, pw_or1 h.2⟩
  | a :: e2 :: es, f :: f2 :: fs, _, .cons h (.cons h2 t) => by
    obtain ⟨i1, i2⟩ := e_or hK (by simp) (.cons h2 t)
    refine ⟨pe_imp (pe_orT h.1 i1) fun σ H Q ⟨en, st, m, E, S, F⟩ => ⟨en, st, m, E, S, (Fin.bind F).mono fun x H1 ⟨d, st1, m1, _, s1, S1, r1, F1⟩ => ?_⟩,
      pw_imp (pw_or h.2 i2) fun σ H Q ⟨en, st, m, E, S, F⟩ => ?_⟩
    · cases e : truD st1 d with
      | none => rw [e] at F1; exact F1.elim
      | some k =>
        rw [e] at F1
        refine ⟨k, by rw [hK]; exact tru_rep S1 r1 e, ?_⟩
        cases k with
        | true => rw [if_pos rfl]; exact F1.ok S1 r1
        | false => rw [if_neg Bool.false_ne_true]; exact ⟨en, st1, m1, E.stp s1, S1, F1⟩
    · have F : Fin W Wx σ m H ((sTru f cl en st).bind fun k s1 => if k then .ok true s1 else sTru (sOr (f2 :: fs)) cl en s1) bRp Q := by
        have e : sTru (sOr (f :: f2 :: fs)) cl en st = (sTru f cl en st).bind fun k s1 => if k then .ok true s1 else sTru (sOr (f2 :: fs)) cl en s1 := by
          show (((f cl en st).bind fun x s1 => match truD s1 x with
            | none => .bad
            | some true => .ok x s1
            | some false => sOr (f2 :: fs) cl en s1).bind fun x s1 => ofO (truD s1 x) s1) = ((f cl en st).bind fun x s1 => ofO (truD s1 x) s1).bind _
          cases f cl en st with
          | bad => rfl
          | exc _ _ _ => rfl
          | ok x s1 =>
            show (match truD s1 x with
            | none => R.bad
            | some true => .ok x s1
            | some false => sOr (f2 :: fs) cl en s1).bind (fun x s1 => ofO (truD s1 x) s1) = (ofO (truD s1 x) s1).bind _
            cases e : truD s1 x with
            | none => rfl
            | some k =>
              cases k with
              | false => rfl
              | true =>
                show ofO (truD s1 x) s1 = R.ok true s1
                rw [e]
                rfl
        rw [← e]
        exact F
      refine ⟨en, st, m, E, S, (Fin.bind F).mono fun k H1 ⟨k', st1, m1, _, s1, S1, r1, F1⟩ => ?_⟩
      have r1 : k' = k := r1
      subst r1
      cases k' with
      | true => exact Fin.ok F1 S1 rfl
      | false => exact ⟨en, st1, m1, E.stp s1, S1, F1⟩
/-! ### items, slices -/
theorem plainIx {b : Expr} (h : ∀ l u s p, b ≠ .Slice l u s p) : PlainIx b := fun o i => by
  cases b <;> first | rfl | exact absurd rfl (h _ _ _ _)
theorem e_item {a b : Expr} {f g : SE} (hi : ∃ r, IxR X r ∧ OpOk W itemD r) (ha : PEi W CP Wx X cl a f) (hb : PEi W CP Wx X cl b g) (hs : ∀ l u s p, b ≠ .Slice l u s p) : PEi W CP Wx X cl (.Subscript a b pos) (sItem f g) := by
  obtain ⟨r, h1, h2⟩ := hi
  exact pe_imp (pe_ix h1 ha hb (plainIx hs)) fun σ H Q ⟨en, st, m, E, S, F⟩ => ⟨en, st, m, E, S, (Fin.bind F).mono fun x H1 ⟨d, st1, m1, _, s1, S1, r1, F1⟩ =>
    ⟨en, st1, m1, E.stp s1, S1, (Fin.bind F1).mono fun y H2 ⟨d2, st2, m2, _, s2, S2, r2, F2⟩ => h2 Wx σ m2 H2 st2 d d2 x y Q S2 (r1.stp s2) r2 F2⟩⟩
abbrev oRp : Mp → Hp → Option Int → Option Int → Prop := fun _ _ a b => a = b
abbrev tIo (W : Wd) (CP : CPt) (Wx : WX) (f : En → St → R (Option Int)) : TO := tG W CP Wx oRp f
theorem po_imp {e : Option Expr} {t t' : TO} (h : PO X e t) (k : ∀ σ H Q, t' σ H Q → t σ H Q) : PO X e t' := ⟨fun pins s σ H Q I q => h.run pins s σ H Q I (k σ H Q q)⟩
theorem o_none : PO X none (tIo W CP Wx (sPart none cl)) := po_imp po_none fun σ H Q ⟨en, st, m, E, S, F⟩ => F.ok S rfl
theorem o_some {e : Expr} {f : SE} (h : PEi W CP Wx X cl e f) : PO X (some e) (tIo W CP Wx (sPart (some f) cl)) := po_imp (po_some h) fun σ H Q ⟨en, st, m, E, S, F⟩ => ⟨en, st, m, E, S, (Fin.bind F).mono fun x H1 ⟨d, st1, m1, _, s1, S1, r1, F1⟩ => by
  cases d with
  | int i => cases r1; exact ⟨i, rfl, F1.ok S1 rfl⟩
  | _ => exact (show False from F1).elim⟩
theorem e_slice {a : Expr} {lo hi : Option Expr} {f : SE} {fl fh : Option SE} {p2 : Pos} (hK : X.K = W.K) (ha : PEi W CP Wx X cl a f) (hl : PO X lo (tIo W CP Wx (sPart fl cl))) (hh : PO X hi (tIo W CP Wx (sPart fh cl))) : PEi W CP Wx X cl (.Subscript a (.Slice lo hi none p2) pos) (sSlice f fl fh) := by
  obtain ⟨r, h1, h2⟩ := slice_ok (X := X) hK
  exact pe_imp (pe_slice h1 ha hl hh) fun σ H Q ⟨en, st, m, E, S, F⟩ => ⟨en, st, m, E, S, (Fin.bind F).mono fun x H1 ⟨d, st1, m1, _, s1, S1, r1, F1⟩ =>
    ⟨en, st1, m1, E.stp s1, S1, (Fin.bind F1).mono fun l H2 ⟨l', st2, m2, _, s2, S2, r2, F2⟩ => ⟨en, st2, m2, (E.stp s1).stp s2, S2, (Fin.bind F2).mono fun u H3 ⟨u', st3, m3, _, s3, S3, r3, F3⟩ => by
      have r2 : l' = l := r2
      have r3 : u' = u := r3
      subst r2 r3
      exact h2 Wx σ m3 H3 st3 d x l' u' Q S3 ((r1.stp s2).stp s3) F3⟩⟩⟩
/-! ### calls of built-ins -/
theorem e_bf {x : Str} {b : Bf} {e : Expr} {es : List Expr} {fs : List SE} {p : Pos} (hb : Bf1 W X (bfVal b) b) (hx : x = bfName b) (hg : Gl X x) (hm : X.mg x = none) (hp : Paired (fun e f => noStar e = true ∧ PEi W CP Wx X cl e f) (e :: es) fs) (hn : (e :: es).all noStar = true) :
    PEi W CP Wx X cl (.Call (.Name x p) (e :: es) [] pos) (sBf b fs) := by
  subst hx
  obtain ⟨r, h1, h2⟩ := hb.ex
  rw [List.all_cons, Bool.and_eq_true] at hn
  have hd : (bfName b == ("__debug__" : Str)) = false := by cases b <;> decide +kernel
  have hne : bfName b ≠ "__name__" := by cases b <;> decide +kernel
  have hv := bf_boot b
  have fin : ∀ σ H Q, tI W CP Wx (sBf b fs cl) σ H Q → tCB r (tIl W CP Wx (sList fs cl)) σ H Q := fun σ H Q ⟨en, st, m, E, S, F⟩ => ⟨en, st, m, E, S, (Fin.bind F).mono fun vs H1 ⟨ds, st1, m1, _, s1, S1, r1, F1⟩ => h2 Wx σ m1 H1 st1 ds vs Q S1 r1 F1⟩
  by_cases hT : ∃ T, bfVal b = .type T
  · obtain ⟨T, e1⟩ := hT
    rw [e1] at h1 hv
    exact pe_imp (pe_callTy h1 hg hm hv (pa_list hp) hne hd (star_of hn.1) (plain_any hn.2 pos)) fin
  · have hB : ∃ T, bfVal b = .builtin T := by
      cases b <;> first | exact ⟨_, rfl⟩ | exact absurd ⟨_, rfl⟩ hT
    obtain ⟨T, e1⟩ := hB
    rw [e1] at h1 hv
    exact pe_imp (pe_callB h1 hg hm hv (pa_list hp) hne hd (star_of hn.1) (plain_any hn.2 pos)) fin
end
end Kn
set_option Elab.async false
set_option linter.all false
set_option maxHeartbeats 4000000
/-! KnE3: isinstance, methods, dict displays, calls. -/
namespace Kn
open PySem L2 PyProof.Rows
section
variable {W : Wd} {CP : CPt} {Wx : WX} {X : Cx} {cl : Cl} {pos : Pos}
/-! ### isinstance -/
def tyName : Ty → String
  | .int => "int" | .bool => "bool" | .str => "str" | .tuple => "tuple" | .list => "list" | .cls _ => ""
theorem isi_rep {m : Mp} {H : Hp} {st : St} {d : D} {v : V} {t : Ty} {b : Bool} (ht : ∀ i, t ≠ .cls i) (S : RelS W m st H) (r : Rep W m H d v) (e : isiD st d t = some b) : ∃ tv, TyX W.K H v tv ∧ PySem.W.kitOne W.K tv (.type (tyName t)) = some b := by
  cases d with
  | non => cases r; refine ⟨_, .base .non, kit_ty ?_⟩; cases t <;> first | (cases e; decide +kernel) | exact absurd rfl (ht _)
  | bl k => cases r; refine ⟨_, .base (.bl k), kit_ty ?_⟩; cases t <;> first | (cases e; decide +kernel) | exact absurd rfl (ht _)
  | int i => cases r; refine ⟨_, .base (.int i), kit_ty ?_⟩; cases t <;> first | (cases e; decide +kernel) | exact absurd rfl (ht _)
  | str s =>
    cases r with
    | str _ h => refine ⟨_, .base (.str _), kit_ty ?_⟩; cases t <;> first | (cases e; decide +kernel) | exact absurd rfl (ht _)
  | tup xs =>
    cases r with
    | tup q _ _ => refine ⟨_, .base (.tup q), kit_ty ?_⟩; cases t <;> first | (cases e; decide +kernel) | exact absurd rfl (ht _)
    | tupK q _ _ =>
      obtain ⟨o, its, n, h1, h2, _⟩ := q
      refine ⟨_, .kTuple h1 h2, kit_ty ?_⟩; cases t <;> first | (cases e; decide +kernel) | exact absurd rfl (ht _)
  | lst xs =>
    obtain ⟨a, vs, rfl, q, _, rr⟩ := r.lstE
    refine ⟨_, .base (.lst q), kit_ty ?_⟩; cases t <;> first | (cases e; decide +kernel) | exact absurd rfl (ht _)
  | ref k =>
    have e : (match st[k]? with
      | some (.lst _) => some (decide (t = .list))
      | _ => none) = some b := e
    cases hk : st[k]? with
    | none => rw [hk] at e; cases e
    | some o =>
      rw [hk] at e
      cases o with
      | dct _ _ => cases e
      | ins _ _ => cases e
      | lst xs =>
        obtain ⟨a, vs, rfl, q, rr⟩ := asL_rep (x := .ref k) S r (asL_ref hk)
        refine ⟨_, .base (.lst q), kit_ty ?_⟩; cases t <;> first | (cases e; decide +kernel) | exact absurd rfl (ht _)
  | _ => cases e
theorem e_isi {x y : Str} {a : Expr} {f : SE} {t : Ty} {p p2 : Pos} (hK : X.K = W.K) (ht : ∀ i, t ≠ .cls i) (ha : PEi W CP Wx X cl a f) (na : noStar a = true) (hg : Gl X "isinstance") (hm : X.mg "isinstance" = none) (hx : x = "isinstance") (hy : y = Str.ofString (tyName t)) (hgy : Gl X y) (hmy : X.mg y = none) :
    PEi W CP Wx X cl (.Call (.Name x p) [a, .Name y p2] [] pos) (sIsi f t) := by
  subst hx hy
  have hb : bootBuiltins (Str.ofString (tyName t)) = some (.type (tyName t)) := by cases t <;> first | decide +kernel | exact absurd rfl (ht _)
  have hn : (Str.ofString (tyName t)) ≠ "__name__" := by cases t <;> first | decide +kernel | exact absurd rfl (ht _)
  have hd : (Str.ofString (tyName t) == ("__debug__" : Str)) = false := by cases t <;> first | decide +kernel | exact absurd rfl (ht _)
  have py : PE X (.Name (Str.ofString (tyName t)) p2) (tC (.ty (tyName t))) := pe_bltn hgy hmy hb rfl hn hd
  have pa : PA X [a, .Name (Str.ofString (tyName t)) p2] (tCons (tI W CP Wx (f cl)) (tCons (tC (.ty (tyName t))) tNil)) := pa_cons ha (pa_cons py pa_nil) (star_of na)
  refine pe_imp (pe_callB call_isi hg hm (by decide +kernel) pa (by decide +kernel) (by decide +kernel) (star_of na) rfl) fun σ H Q ⟨en, st, m, E, S, F⟩ => ⟨en, st, m, E, S, (Fin.bind F).mono fun v H1 ⟨d, st1, m1, _, s1, S1, r1, F1⟩ => ?_⟩
  cases e : isiD st1 d t with
  | none => rw [e] at F1; exact F1.elim
  | some b =>
    rw [e] at F1
    obtain ⟨tv, h1, h2⟩ := isi_rep ht S1 r1 e
    exact ⟨v, .ty (tyName t), tv, .type (tyName t), b, rfl, .ty _, hK ▸ h1, hK ▸ h2, Fin.ok F1 S1 (.bl b)⟩

/-! ### methods -/
def noSup : Expr → Bool
  | .Call (.Name _ _) [] [] _ => false
  | _ => true
theorem base_of {o : Expr} {m : Str} {env : Env} (h : noSup o = true) : attributeBase o m env (eval o env) = eval o env := by
  cases o with
  | Call f as ks p =>
    cases f with
    | Name id p2 =>
      cases as with
      | nil =>
        cases ks with
        | nil => cases h
        | cons k ks => rfl
      | cons a as => rfl
    | _ => rfl
  | _ => rfl
theorem few_of {e : Expr} {env : Env} {cpos : Pos} (h : noStar e = true) : ((backTo cpos (starEach [e] env)).all (fun x => !x.1) && (backToKw cpos (keywordEach [] env)).all (fun x => x.1.isSome)
      && decide (([e] : List Expr).length + ([] : List Keyword).length + (if ([] : List Keyword).isEmpty then 0 else 1) < 30)) = true := by
  rw [star_of h]
  rfl
theorem e_append {o e : Expr} {f g : SE} {apos : Pos} (ho : PEi W CP Wx X cl o f) (he : PEi W CP Wx X cl e g) (ne : noStar e = true) (no : noSup o = true) (hl : (apos.endLine == pos.line) = true) :
    PEi W CP Wx X cl (.Call (.Attribute o "append" apos) [e] [] pos) (sMt .append f [g]) := by
  have pa : PA X [e] (tIl W CP Wx (sList [g] cl)) := pa_list (.cons ⟨ne, he⟩ .nil)
  refine pe_imp (pe_bm PySem.F.plainAttrs_list PySem.F.slot_list_append PySem.F.type_list_append mt_append ho pa (base_of no) (few_of ne) hl (star_of ne) rfl) fun σ H Q ⟨en, st, m, E, S, F⟩ => ⟨en, st, m, E, S, (Fin.bind F).mono fun x H1 ⟨d, st1, m1, _, s1, S1, r1, F1⟩ => ?_⟩
  obtain ⟨hc, F1⟩ := fin_if F1
  have hc : (asL st1 d).isSome = true := hc
  obtain ⟨xs, hx⟩ := Option.isSome_iff_exists.mp hc
  obtain ⟨a, vs, rfl, hp, _⟩ := asL_rep S1 r1 hx
  refine ⟨.inl ⟨rfl, _, .of hp⟩, en, st1, m1, E.stp s1, S1, (Fin.bind F1).mono fun ws H2 ⟨ds, st2, m2, e2, s2, S2, r2, F2⟩ => ?_⟩
  have hlen := len_list e2
  cases r2 with
  | nil => cases hlen
  | @cons y _ v _ q t =>
    cases t with
    | cons _ _ => cases hlen
    | nil =>
      cases d with
      | ref k =>
        have F2 : Fin W Wx σ m2 H2 (match st2[k]? with
          | some (.lst xs) => if xs.length < line then .ok .non (st2.set k (.lst (xs ++ [y]))) else .bad
          | _ => .bad) (Rep W) Q := F2
        cases hk : st2[k]? with
        | none => rw [hk] at F2; exact F2.elim
        | some ob =>
          rw [hk] at F2
          cases ob with
          | dct _ _ => exact F2.elim
          | ins _ _ => exact F2.elim
          | lst ys =>
            obtain ⟨hz, F2⟩ := fin_if F2
            obtain ⟨p, e5, e6⟩ := (r1.stp s2).refE
            cases e5
            obtain ⟨us, e7, rr⟩ := (S2.ob k _ a hk e6 : RepO W m2 H2 a (.lst ys))
            refine ⟨a, us, v, rfl, rfl, e7, by rw [← rr.length, ← line_eq]; exact hz, ?_⟩
            have hm := List.mem_of_getElem? e6
            have hf : ∀ q u, H2 a ≠ some (.frz q u) := fun _ _ z => by rw [e7] at z; cases z
            exact F2 .non _ m2 (Stp.set hm hf) (S2.set e6 hf ⟨us ++ [v], upd_same, (rr.append (.cons q .nil)).stp (Stp.set hm hf)⟩) .non
      | _ => exact (show False from F2).elim
theorem RepK.drop {m : Mp} {H : Hp} (q : Ky) : ∀ {kvs : List (Ky × D)} {vs : List (Key × V)}, RepK W m H kvs vs → RepK W m H (Kn.dropK kvs q) (L2.dropK vs (kyV q))
  | _, _, .nil => .nil
  | _, _, .cons (k := k) (ds := ds) (vs := vs) (v := v) (d := d) hk r t => by
    have ih := RepK.drop q t
    unfold Kn.dropK L2.dropK at ih ⊢
    rw [List.filter_cons, List.filter_cons]
    by_cases h : k = q
    · subst h
      simp only [ne_eq, not_true_eq_false, decide_false, Bool.false_eq_true, if_false]
      exact ih
    · have h2 : ¬ kyV k = kyV q := fun z => h (kyV_inj z)
      simp only [ne_eq, h, h2, not_false_eq_true, decide_true, if_true]
      exact .cons hk r ih
theorem RepK.length {m : Mp} {H : Hp} : ∀ {kvs : List (Ky × D)} {vs : List (Key × V)}, RepK W m H kvs vs → kvs.length = vs.length
  | _, _, .nil => rfl
  | _, _, .cons hk r t => by rw [List.length_cons, List.length_cons, RepK.length t]
theorem RepK.app {m : Mp} {H : Hp} : ∀ {kvs kvs2 : List (Ky × D)} {vs vs2 : List (Key × V)}, RepK W m H kvs vs → RepK W m H kvs2 vs2 → RepK W m H (kvs ++ kvs2) (vs ++ vs2)
  | _, _, _, _, .nil, h => h
  | _, _, _, _, .cons hk r t, h => .cons hk r (RepK.app t h)
theorem RepK.repl {m : Mp} {H : Hp} {q : Ky} {d : D} {v : V} (rd : Rep W m H d v) {kvs : List (Ky × D)} {vs : List (Key × V)} (h : RepK W m H kvs vs) :
    RepK W m H (kvs.map fun kv => if kv.1 = q then (kv.1, d) else kv) (vs.map fun kv => if kv.1 = kyV q then (kv.1, v) else kv) := by
  induction h with
  | nil => exact .nil
  | @cons k2 d2 ds2 v2 vs2 hk2 r2 t2 ih2 =>
    rw [List.map_cons, List.map_cons]
    by_cases z : k2 = q
    · subst z
      rw [if_pos rfl, if_pos rfl]
      exact .cons hk2 rd ih2
    · have z2 : ¬ kyV k2 = kyV q := fun w => z (kyV_inj w)
      rw [if_neg z, if_neg z2]
      exact .cons hk2 r2 ih2
theorem RepK.put {m : Mp} {H : Hp} {q : Ky} {d : D} {v : V} (hq : kyOk q) (rd : Rep W m H d v) {kvs : List (Ky × D)} {vs : List (Key × V)} (h : RepK W m H kvs vs) : RepK W m H (Kn.putK kvs q d) (L2.putK vs (kyV q) v) := by
  have e1 : (kvs.any fun kv => decide (kv.1 = q)) = vs.any fun kv => decide (kv.1 = kyV q) := by
    induction h with
    | nil => rfl
    | @cons k d ds v vs hk r t ih =>
      rw [List.any_cons, List.any_cons, ih]
      congr 1
      by_cases z : k = q
      · subst z; simp
      · have z2 : ¬ kyV k = kyV q := fun w => z (kyV_inj w)
        simp [z, z2]
  unfold Kn.putK L2.putK
  rw [e1]
  split
  · exact h.repl rd
  · exact h.app (.cons hq rd .nil)
theorem e_pop1 {o e : Expr} {f g : SE} {apos : Pos} (ho : PEi W CP Wx X cl o f) (he : PEi W CP Wx X cl e g) (ne : noStar e = true) (no : noSup o = true) (hl : (apos.endLine == pos.line) = true) :
    PEi W CP Wx X cl (.Call (.Attribute o "pop" apos) [e] [] pos) (sMt .pop1 f [g]) := by
  refine pe_imp (pe_dpop1 ho he ⟨base_of no, few_of ne, hl, by rw [star_of ne]; rfl⟩) fun σ H Q ⟨en, st, m, E, S, F⟩ => ⟨en, st, m, E, S, (Fin.bind F).mono fun x H1 ⟨d, st1, m1, _, s1, S1, r1, F1⟩ => ?_⟩
  obtain ⟨hc, F1⟩ := fin_if F1
  cases d with
  | ref k =>
    have hc : (match st1[k]? with
      | some (.dct _ _) => true
      | _ => false) = true := hc
    cases hk : st1[k]? with
    | none => rw [hk] at hc; cases hc
    | some ob =>
      rw [hk] at hc
      cases ob with
      | lst _ => cases hc
      | ins _ _ => cases hc
      | dct lk kvs =>
        obtain ⟨a, vs, rfl, _, hr, _⟩ := dct_rep S1 hk r1
        refine ⟨a, rfl, .inl ⟨vs, hr⟩, en, st1, m1, E.stp s1, S1, ?_⟩
        have F1 : Fin W Wx σ m1 H1 ((g cl en st1).bind fun y s2 => mtD s2 .pop1 (.ref k) [y]) (Rep W) Q := by
          have e : (sList [g] cl en st1).bind (fun ds s2 => mtD s2 .pop1 (.ref k) ds) = (g cl en st1).bind fun y s2 => mtD s2 .pop1 (.ref k) [y] := by
            unfold sList
            cases g cl en st1 <;> rfl
          rw [← e]
          exact F1
        refine (Fin.bind F1).mono fun y H2 ⟨d2, st2, m2, e2, s2, S2, r2, F2⟩ => ?_
        have F2 : Fin W Wx σ m2 H2 (match st2[k]? with
          | some (.dct false kvs) => match kyOf d2 with
            | some q => match valK kvs q with
              | some v => .ok v (st2.set k (.dct false (Kn.dropK kvs q)))
              | none => .bad
            | none => .bad
          | _ => .bad) (Rep W) Q := F2
        cases hk2 : st2[k]? with
        | none => rw [hk2] at F2; exact F2.elim
        | some ob =>
          rw [hk2] at F2
          cases ob with
          | lst _ => exact F2.elim
          | ins _ _ => exact F2.elim
          | dct lk2 kvs2 =>
            cases lk2 with
            | true => exact F2.elim
            | false =>
              have F2 : Fin W Wx σ m2 H2 (match kyOf d2 with
                | some q => match valK kvs2 q with
                  | some v => .ok v (st2.set k (.dct false (Kn.dropK kvs2 q)))
                  | none => .bad
                | none => .bad) (Rep W) Q := F2
              cases hq : kyOf d2 with
              | none => rw [hq] at F2; exact F2.elim
              | some q =>
                rw [hq] at F2
                have F2 : Fin W Wx σ m2 H2 (match valK kvs2 q with
                  | some v => .ok v (st2.set k (.dct false (Kn.dropK kvs2 q)))
                  | none => .bad) (Rep W) Q := F2
                obtain ⟨p, e5, e6⟩ := (r1.stp s2).refE
                cases e5
                obtain ⟨us, e7, rr⟩ := (S2.ob k _ a hk2 e6 : RepO W m2 H2 a (.dct false kvs2))
                obtain ⟨rfl, _⟩ := kyOf_rep hq r2
                rcases rr.val (q := q) with ⟨e8, e9⟩ | ⟨d3, v3, e8, e9, r3⟩
                · rw [e8] at F2; exact F2.elim
                · rw [e8] at F2
                  refine ⟨us, kyV q, v3, e7, rfl, e9, ?_⟩
                  have hm := List.mem_of_getElem? e6
                  have hf : ∀ q u, H2 a ≠ some (.frz q u) := fun _ _ z => by rw [e7] at z; cases z
                  exact F2 v3 _ m2 (Stp.set hm hf) (S2.set e6 hf ⟨L2.dropK us (kyV q), upd_same, (rr.drop q).stp (Stp.set hm hf)⟩) (r3.stp (Stp.set hm hf))
  | _ => cases hc
theorem first_rep {m : Mp} {H : Hp} {e : D} {w : V} (h2 : flatD e = true) (r2 : Rep W m H e w) {ds : List D} {vs : List V} (rr : RepL W m H ds vs) : ∀ {k n : Nat}, ds.all flatD = true → firstAt (fun z => eqFl z e) ds k = some n →
    ∃ j z, n = k + j ∧ vs[j]? = some z ∧ eqV z w = true ∧ ∀ (i : Nat) (z' : V), i < j → vs[i]? = some z' → eqV z' w = false := by
  induction ds generalizing vs with
  | nil => intro k n ha h; cases h
  | cons d ds ih =>
    cases rr with
    | @cons _ _ v vs r t =>
      intro k n ha h
      rw [List.all_cons, Bool.and_eq_true] at ha
      unfold firstAt at h
      by_cases hc : eqFl d e = true
      · rw [if_pos hc] at h
        cases h
        exact ⟨0, v, rfl, rfl, by rw [eqFl_rep ha.1 h2 r r2]; exact hc, fun i _ hi => absurd hi (Nat.not_lt_zero i)⟩
      · rw [if_neg hc] at h
        obtain ⟨j, z, e1, e2, e3, e4⟩ := ih t ha.2 h
        refine ⟨j + 1, z, by omega, by simpa using e2, e3, fun i z' hi hz => ?_⟩
        cases i with
        | zero =>
          have hz : v = z' := by simpa using hz
          subst hz
          rw [eqFl_rep ha.1 h2 r r2]
          simpa using hc
        | succ i => exact e4 i z' (by omega) (by simpa using hz)
theorem e_index {o e : Expr} {f g : SE} {apos : Pos} (hK : X.K = W.K) (ho : PEi W CP Wx X cl o f) (he : PEi W CP Wx X cl e g) (ne : noStar e = true) (no : noSup o = true) (hl : (apos.endLine == pos.line) = true) :
    PEi W CP Wx X cl (.Call (.Attribute o "index" apos) [e] [] pos) (sMt .index f [g]) := by
  have pa : PA X [e] (tIl W CP Wx (sList [g] cl)) := pa_list (.cons ⟨ne, he⟩ .nil)
  refine pe_imp (pe_bm PySem.F.plainAttrs_list PySem.F.slot_list_index PySem.F.type_list_index mt_index ho pa (base_of no) (few_of ne) hl (star_of ne) rfl) fun σ H Q ⟨en, st, m, E, S, F⟩ => ⟨en, st, m, E, S, (Fin.bind F).mono fun x H1 ⟨d, st1, m1, _, s1, S1, r1, F1⟩ => ?_⟩
  obtain ⟨hc, F1⟩ := fin_if F1
  have hc : (asL st1 d).isSome = true := hc
  obtain ⟨xs, hx⟩ := Option.isSome_iff_exists.mp hc
  obtain ⟨a, vs, rfl, hp, _⟩ := asL_rep S1 r1 hx
  refine ⟨.inl ⟨rfl, _, .of hp⟩, en, st1, m1, E.stp s1, S1, (Fin.bind F1).mono fun ws H2 ⟨ds, st2, m2, e2, s2, S2, r2, F2⟩ => ?_⟩
  have hlen := len_list e2
  cases r2 with
  | nil => cases hlen
  | @cons y _ v _ q t =>
    cases t with
    | cons _ _ => cases hlen
    | nil =>
      have F2 : Fin W Wx σ m2 H2 (match asL st2 d with
        | some xs => if flatD y && xs.all flatD then match firstAt (fun z => eqFl z y) xs 0 with
          | some n => .ok (.int n) st2
          | none => .bad
          else .bad
        | none => .bad) (Rep W) Q := F2
      cases ha : asL st2 d with
      | none => rw [ha] at F2; exact F2.elim
      | some ys =>
        rw [ha] at F2
        obtain ⟨hf, F2⟩ := fin_if F2
        rw [Bool.and_eq_true] at hf
        obtain ⟨a', us, e5, e6, rr⟩ := asL_rep S2 (r1.stp s2) ha
        cases e5
        cases hn : firstAt (fun z => eqFl z y) ys 0 with
        | none => rw [hn] at F2; exact F2.elim
        | some n =>
          rw [hn] at F2
          obtain ⟨j, z, e7, e8, e9, e10⟩ := first_rep hf.1 q rr hf.2 hn
          have e7 : n = j := by omega
          subst e7
          exact ⟨a, us, v, n, z, rfl, rfl, .of e6, flat_rep hf.1 q, (flats_rep hf.1 q hf.2 rr).1, e8, e9, e10, Fin.ok F2 S2 (.int _)⟩

/-! ### dict displays -/
theorem e_dict0 : PEi W CP Wx X cl (.Dict [] [] pos) sDict0 := pe_imp pe_dnewK fun σ H Q ⟨en, st, m, E, S, F⟩ p hp => by
  have new : RepO W ⟨m.s ++ [p], m.x⟩ (upd H p (.dK [])) p (.dct false []) := ⟨[], upd_same, .nil⟩
  exact F (.ref p) _ ⟨m.s ++ [p], m.x⟩ (Stp.add hp) (S.add hp new) (.ref (by
    show (m.s ++ [p])[st.length]? = some p
    rw [← S.len, List.getElem?_append_right (Nat.le_refl _), Nat.sub_self]
    rfl))
/-! ### defs called -/
abbrev PAa (W : Wd) (CP : CPt) (Wx : WX) (X : Cx) (cl : Cl) (e : Expr) (f : SA) : Prop := PE X e (tG W CP Wx (RepA W CP) (f cl))
theorem a_dat {e : Expr} {f : SE} (h : PEi W CP Wx X cl e f) : PAa W CP Wx X cl e (aDat f) := pe_imp h fun σ H Q ⟨en, st, m, E, S, F⟩ => ⟨en, st, m, E, S, (Fin.bind F).mono fun v H1 ⟨d, st1, m1, _, s1, S1, r1, F1⟩ => F1.ok S1 r1⟩
theorem a_var {i : Nat} {x : Str} {p : Pos} (hN : X.N[i]? = some x) (hv : Vis X.env.scope x) (hd : (x == ("__debug__" : Str)) = false) (hcd : (x == ("__classdict__" : Str)) = false) : PAa W CP Wx X cl (.Name x p) (aVar i) := by
  refine pe_imp (pe_var hN hv hd hcd) fun σ H Q ⟨en, st, m, E, S, F⟩ => ?_
  have F : Fin W Wx σ m H (match en[i]? with
    | some (some a) => .ok a st
    | _ => .bad) (RepA W CP) Q := F
  cases e : en[i]? with
  | none => rw [e] at F; exact F.elim
  | some o =>
    rw [e] at F
    cases o with
    | none => exact F.elim
    | some a =>
      obtain ⟨v, h1, h2⟩ := E.at_ i _ e
      exact ⟨v, h1, Fin.ok F S h2⟩
theorem pa_args : ∀ {es : List Expr} {fs : List SA}, Paired (fun e f => noStar e = true ∧ PAa W CP Wx X cl e f) es fs → PA X es (tIa W CP Wx (sArgs fs cl))
  | _, _, .nil => pa_imp pa_nil fun σ H Q ⟨en, st, m, E, S, F⟩ => F.ok S .nil
  | _, _, .cons h t => pa_imp (pa_cons h.2 (pa_args t) (star_of h.1)) fun σ H Q ⟨en, st, m, E, S, F⟩ =>
    ⟨en, st, m, E, S, (Fin.bind F).mono fun v H1 ⟨d, st1, m1, _, s1, S1, r1, F1⟩ =>
      ⟨en, st1, m1, E.stp s1, S1, (Fin.bind F1).mono fun vs H2 ⟨ds, st2, m2, _, s2, S2, r2, F2⟩ => F2.ok S2 (.cons (r1.stp s2) r2)⟩⟩
/-- what a def promises: its computation -/
def spOf (W : Wd) (CP : CPt) (g : List Ag → St → R D) (np : Nat) : Sp := fun vs H Q E => ∃ as m st, as.length = np ∧ RepAL W CP m H as vs ∧ RelS W m st H ∧ Fin W (fun cls dd _ H => E cls dd H) [] m H (g as st) (Rep W) Q
/-- a def as it stands for callers -/
structure FnS (W : Wd) (P : Program) (w : World) (mg : Str → Option Value) (base : Heap) (n : Nat) (i : Nat) (g : List Ag → St → R D) (x : Str) (f : Addr) (fd : FuncData) (ps : List Str) : Prop where
  ok : FnOk P w W.K mg base (L2.CX P w) n f fd ps (spOf W (fun _ _ _ => False) g ps.length)
  gl : mg x = some (.ref f)
  kp : PySem.W.keepIn W.K (.ref f) = true
  bi : Binds W.K fd ps []
theorem repAL_dat {m : Mp} {H : Hp} : ∀ {as : List Ag} {vs : List V}, (∀ a ∈ as, ∃ d, a = .dat d) → RepAL W CP m H as vs → RepAL W (fun _ _ _ => False) m H as vs
  | _, _, _, .nil => .nil
  | _, _, h, .cons r t => by
    obtain ⟨d, e⟩ := h _ List.mem_cons_self
    subst e
    exact .cons r (repAL_dat (fun a ha => h a (List.mem_cons_of_mem _ ha)) t)
end
end Kn
set_option Elab.async false
set_option linter.all false
set_option maxHeartbeats 4000000
set_option maxRecDepth 100000
/-! KnEnum: enumerate over a tuple. -/
namespace Kn
open PySem PySem.Spec PyProof.Rows L2
open Sem (wp)
open AutoSeq1 (wpAny_loadPart')

theorem meets_enumT (l : Addr) (items : Array Value) (n : Nat) (dct : Option Addr) (sl : Array (Option Value)) :
    Meets (Builtin.«enumerate.__new__» ⟨[.type "enumerate", .ref l], []⟩) (fun _ R s => s.heap.get? l = some { cls := .type "tuple", dict := dct, data := .seq items n, slots := sl } ∧
      R (.ok (.ret (.ref (s.heap.push { cls := .type "tuple_iterator", data := .fields #[.ref l, .int 0 0] }).objs.size)))
        { s with heap := (s.heap.push { cls := .type "tuple_iterator", data := .fields #[.ref l, .int 0 0] }).push { cls := .type "enumerate", data := .fields #[.none, .bool false, .ref s.heap.objs.size, rawInt 0, .none, .none] } }) :=
  .of_wp fun prog w A R s h => by
    obtain ⟨hp, g, d, tk, os⟩ := s; obtain ⟨hl, h⟩ := h
    have hsub := sub_enumerate
    have hL : Heap.IsTuple (Shared.heap ⟨hp, g, d, tk, os⟩) l items := ⟨_, hl, rfl, n, rfl⟩
    wp_walk using wpAny_loadPart' hl
    refine wpAny_stack_any fun st => wpAny_pure ?_
    split
    · rename_i c _ _ _ _ _
      cases (c == Value.type "enumerate")
      · wp_walk using wpAny_loadPart' hl, wpAny_pyIter_tuple hL
        exact ⟨_, rfl, h⟩
      · wp_walk using wpAny_loadPart' hl, wpAny_pyIter_tuple hL
        exact ⟨_, rfl, h⟩
    · wp_walk using wpAny_loadPart' hl, wpAny_pyIter_tuple hL
      exact ⟨_, rfl, h⟩
section
variable {prog : Program} {w : World} {A : Around} {E : Value → Shared → Prop} {s : Shared}
theorem call_enumT {l : Addr} {items : Array Value} {Q : Value → Shared → Prop} (hL : s.heap.IsTuple l items)
    (h : ∀ h', IsEnum h' (s.heap.objs.size + 1) s.heap.objs.size 0 .none → h'.IsTupleIter s.heap.objs.size l 0 → h'.objs.size = s.heap.objs.size + 2 →
      (∀ b o, s.heap.get? b = some o → h'.get? b = some o) → Q (.ref (s.heap.objs.size + 1)) { s with heap := h' }) :
    wpAny (model prog w) A (call (.type "enumerate") [.ref l]) Q E s := by
  obtain ⟨⟨c, dct, dt, sl⟩, hl, hc, n, hd⟩ := hL
  replace hc : c = .type "tuple" := hc
  replace hd : dt = .seq items n := hd
  subst hc hd
  refine callType_new F.called_enumerate (by decide) (F.typeCall_enumerate_1 _) (F.newCall_enumerate_1 _) (fun obj => F.args_object_init_2 obj _) F.entry_enumerate_new
    (meets_enumT l items n dct sl) ⟨hl, ?_⟩
  have hz : (s.heap.push { cls := .type "tuple_iterator", data := .fields #[.ref l, .int 0 0] }).objs.size = s.heap.objs.size + 1 := Heap.size_push ..
  show _ ∧ _
  rw [hz]
  have he : IsEnum ((s.heap.push { cls := .type "tuple_iterator", data := .fields #[.ref l, .int 0 0] }).push
      { cls := .type "enumerate", data := .fields #[.none, .bool false, .ref s.heap.objs.size, rawInt 0, .none, .none] }) (s.heap.objs.size + 1) s.heap.objs.size 0 .none := by
    have := Heap.get?_push_size (s.heap.push { cls := .type "tuple_iterator", data := .fields #[.ref l, .int 0 0] })
      (o := { cls := .type "enumerate", data := .fields #[.none, .bool false, .ref s.heap.objs.size, rawInt 0, .none, .none] }) rfl
    rw [hz] at this; exact this
  refine ⟨⟨_, he, rfl⟩, h _ he ⟨_, Heap.get?_push_of_some _ (Heap.get?_push_size _ rfl), rfl, rfl⟩ (by rw [Heap.size_push, hz]) fun b o x => Heap.get?_push_of_some _ (Heap.get?_push_of_some _ x)⟩
end
def IteT (K : PySem.W.Frag) (a : Addr) : It :=
  ⟨fun i H => ∃ (xs : List V) (x : V), SqT K H a xs ∧ xs[i]? = some x, fun i H v H' => ∃ T x, v = .ref T ∧ H T = none ∧ H' = upd H T (.tup [.int (i : Nat), x]) ∧ ∀ xs, SqT K H a xs → xs[i]? = some x, fun i H => ∃ xs : List V, SqT K H a xs ∧ xs.length ≤ i⟩
theorem turn_enumT {P : Program} {w : World} {K : PySem.W.Frag} {elts : List Expr} {kk : Nat} {tpos : Pos} (a e it : Addr) (hat : a ≠ it) (hae : e ≠ a) :
    Turn P w K (.Tuple elts kk tpos) (IteT K a) [e, it] e (fun i h => (∃ old, IsEnum h e it ((i : Nat) : Int) old) ∧ h.IsTupleIter it a i ∧ e ≠ it) where
  mem := by simp
  obj := fun i h st b hb => by
    obtain ⟨⟨old, he⟩, ⟨o, ho, hc, hd⟩, _⟩ := st
    have e' : b = e ∨ b = it := by simpa using hb
    rcases e' with z | z
    · rw [z]; exact ⟨_, he, fun v q => nomatch q⟩
    · rw [z]; exact ⟨o, ho, fun v q => by rw [hd] at q; cases q⟩
  keep := fun i h h' st k => let ⟨⟨old, he⟩, hi, hne⟩ := st; ⟨⟨old, k e (by simp) _ he⟩, hi.at fun o q => k it (by simp) o q, hne⟩
  item := by
    intro X hP hw hK hc i pins s σ H E I hf st hg
    subst hP hw hK
    obtain ⟨⟨old, he⟩, hit, hne⟩ := st
    obtain ⟨xs, x, hq, hx⟩ := hg
    obtain ⟨its, rv, p, hz⟩ := I.tuple hq
    obtain ⟨u, hu, ru⟩ := rv.get hx
    have hel : e < s.heap.objs.size := Heap.lt_size he
    have hil : it < s.heap.objs.size := by obtain ⟨_, q, _⟩ := hit; exact Heap.lt_size q
    have hp : s.heap.IsTuple a its.toArray := p
    have hlt : i < its.toArray.size := by
      have := (List.getElem?_eq_some_iff.mp hu).1
      simpa using this
    refine wpAny_pyNext_enum_itemD (Draws.tuple (A := X.A.in1) (by show X.A.in1.handled = none; exact I.ok.hd hc) it a hat its.toArray) he ⟨hit, hp⟩ hlt hne (by simp [hne, hae]) fun x' h' tk hpx ho hst' hT hsz hk => ?_
    have ex : x' = u := by
      have h1 : its.toArray[i]? = some u := by simpa using hu
      rw [h1] at hpx
      exact (Option.some.inj hpx).symm
    subst ex
    refine ⟨_, rfl, wpAny_letOwnedTupleGo_enum (s := { s with heap := h', toks := tk + 1 }) ho fun h'' he' sb => ?_⟩
    have hT2 : h''.get? s.heap.objs.size = some { cls := .type "tuple", data := .seq #[.int i tk, x'] } := (sb.2 _ (Nat.ne_of_gt hel)).trans hT
    have new : ObjOk X.prog X.w (upd H s.heap.objs.size (.tup [.int (i : Nat), x])) h'' s.heap.objs.size (.tup [.int (i : Nat), x]) :=
      ⟨by show 2 ≤ sizeLine; decide, [.int i tk, x'], .cons ⟨_, rfl⟩ (.cons ru .nil), ⟨_, hT2, rfl, _, rfl⟩⟩
    have I1 : Inv X pins σ (upd H s.heap.objs.size (.tup [.int (i : Nat), x])) { s with heap := h'', toks := tk + 1 } :=
      I.turnedNew (ch := [e, it]) (fun b ob hb q => (sb.2 b (fun z => hb (by simp [z]))).trans (hk b ob (fun z => hb (by simp [z])) (fun z => hb (by simp [z])) q)) hf (Nat.le_refl _) new
    refine ⟨.ref s.heap.objs.size, _, I1, rfl, ⟨_, x, rfl, I.hok.fresh (Nat.le_refl _), rfl, fun ys hy => by rw [I.tuple_inj hy hq]; exact hx⟩, ⟨⟨x', ?_⟩, hst'.1.at fun o q => (sb.2 it (Ne.symm hne)).trans q, hne⟩, fun b hb => ?_⟩
    · have e1 : ((i + 1 : Nat) : Int) = (i : Int) + 1 := by omega
      rw [e1]; exact he'
    · have hb' : b < s.heap.objs.size := by
        have e' : b = e ∨ b = it := by simpa using hb
        rcases e' with z | z
        · rw [z]; exact hel
        · rw [z]; exact hil
      rw [upd_ne (Nat.ne_of_lt hb')]
      exact (hf b hb).1
  done := by
    intro X hP hw hK hc i pins s σ H E I hf st hg
    subst hP hw hK
    obtain ⟨⟨old, he⟩, hit, hne⟩ := st
    obtain ⟨xs, hq, hx⟩ := hg
    obtain ⟨its, rv, p, hz⟩ := I.tuple hq
    obtain ⟨f0, f1, f2, f3, f4, f5⟩ := hf it (by simp)
    have hl := rv.length
    have hT : s.TypeIs (.ref e) "enumerate" := ⟨_, he, rfl⟩
    unfold pyNext
    refine wpAny_bind (wpAny_attempt (wpAny_callSpecial?_slot (name := Str.ofString "__next__") hT F.slot_enumerate_next
      (wpAny_call_entry F.slot_enumerate_next hT F.entry_enumerate_next ?_ (F.args_enumerate_next_1 _))))
    show wpAny _ _ (field (.ref e) 2 >>= _) _ _ _
    refine wpAny_bind (wpAny_field he rfl (x := .ref it) rfl ?_)
    have hn : its.toArray[i]? = none := by simp; omega
    refine wpAny_bind (wpAny_nextOf_tuple_end (by show X.A.in1.handled = none; exact I.ok.hd hc) hit p hn fun h' x he' hx' => ?_)
    obtain ⟨o, ho, hc'⟩ := hx'
    refine wpAny_bind (wpAny_isInstance (T := "StopIteration") (b := true) ⟨o, ho, hc'⟩ isSubtype_stop ?_)
    exact wpAny_pure ⟨rfl, I.turned (t' := s.toks) (fun b o hb q => he' b o hb q) f0 f1 f3 f4 f5⟩
  self := fun A i s Q E st h => let ⟨⟨_, he⟩, _⟩ := st; wpAny_pyIter_enum he h
def iEnumA (K : PySem.W.Frag) (ta : TA) : TI := fun σ H R => ta σ H fun vs H1 => ∃ a xs, vs = [.ref a] ∧ ((SqL K H1 a xs ∧ R (Ite K a) H1) ∨ (SqT K H1 a xs ∧ R (IteT K a) H1))
theorem pi_enumA {X : Cx} {e : Expr} {ta : TA} {p pos tpos : Pos} {elts : List Expr} {kk : Nat} (hg : Gl X "enumerate") (hm : X.mg "enumerate" = none) (ha : PA X [e] ta) (hs : starEach [e] X.env = [(false, eval e X.env)] := by rfl) :
    PI X (.Tuple elts kk tpos) (.Call (.Name "enumerate" p) [e] [] pos) (iEnumA X.K ta) := by
  refine ⟨fun pins s σ H R I h => ?_⟩
  refine Call_ (ld_blt I hg hm boot_enumerate (PyProof.Rows.callWith_type1 (thn (ha.run pos pins s σ H _ I h) fun us s1 ⟨vs, H1, I1, r1, q1⟩ => ?_) hs rfl))
  obtain ⟨a, xs, ex, q⟩ := q1
  subst ex
  cases r1 with
  | cons r rr =>
    cases rr
    cases r
    have fp : ∀ b ∈ [s1.heap.objs.size + 1, s1.heap.objs.size], FpOk X pins H1 b := fun b hb => by
      have e' : b = s1.heap.objs.size + 1 ∨ b = s1.heap.objs.size := by simpa using hb
      have hle : s1.heap.objs.size ≤ b := by
        rcases e' with z | z
        · rw [z]; exact Nat.le_add_right _ _
        · rw [z]; exact Nat.le_refl _
      exact I1.fpOk hle (I1.hok.fresh hle)
    rcases q with ⟨hq, q⟩ | ⟨hq, q⟩
    · obtain ⟨its, rv, p', hz⟩ := I1.list hq
      refine call_enumerate_list p'.isList fun h' he hit hsz hk => wpAny_pyIter_enum he ?_
      have I2 : Inv X pins σ H1 { s1 with heap := h' } := I1.kept (t' := s1.toks) hk
      exact ⟨s1.heap.objs.size + 1, [s1.heap.objs.size + 1, s1.heap.objs.size], _, _, H1, rfl, I2, turn_enum a (s1.heap.objs.size + 1) s1.heap.objs.size, ⟨⟨.none, he⟩, hit, Nat.succ_ne_self _⟩, fp, q⟩
    · obtain ⟨its, rv, p', hz⟩ := I1.tuple hq
      have hp : s1.heap.IsTuple a its.toArray := p'
      have hla : a < s1.heap.objs.size := p'.lt
      refine call_enumT hp fun h' he hit hsz hk => wpAny_pyIter_enum he ?_
      have I2 : Inv X pins σ H1 { s1 with heap := h' } := I1.kept (t' := s1.toks) hk
      exact ⟨s1.heap.objs.size + 1, [s1.heap.objs.size + 1, s1.heap.objs.size], _, _, H1, rfl, I2, turn_enumT a (s1.heap.objs.size + 1) s1.heap.objs.size (Nat.ne_of_lt hla) (Nat.ne_of_gt (Nat.lt_succ_of_lt hla)), ⟨⟨.none, he⟩, hit, Nat.succ_ne_self _⟩, fp, q⟩
end Kn
set_option Elab.async false
set_option linter.all false
set_option maxHeartbeats 4000000
/-! KnE4: defs called, targets, what is walked. -/
namespace Kn
open PySem L2 PyProof.Rows RZ
section
variable {W : Wd} {CP : CPt} {Wx : WX} {X : Cx} {cl : Cl} {pos : Pos}
/-! ### a def called -/
def sCallD (i : Nat) (fs : List SE) : SE := fun c e s => (sList fs c e s).bind fun ds s1 => c.fn i (ds.map .dat) s1
theorem Fin.at_ {α β : Type} {σ : L2.St} {m : Mp} {H : Hp} {r : R α} {Rp : Mp → Hp → α → β → Prop} {Q : β → Hp → Prop} (F : Fin W Wx σ m H r Rp Q) : Fin W (fun cls dd _ H => Wx cls dd σ H) [] m H r Rp Q := by
  cases r with
  | ok d s => exact F
  | exc c p s => exact F
  | bad => exact F
theorem repAL_map {m : Mp} {H : Hp} : ∀ {ds : List D} {vs : List V}, RepL W m H ds vs → RepAL W (fun _ _ _ => False) m H (ds.map .dat) vs
  | _, _, .nil => .nil
  | _, _, .cons r t => .cons r (repAL_map t)
theorem e_call {P : Program} {w : World} {mg : Str → Option Value} {base : Heap} {c : Cfg} {n : Nat} (G : Good W P w mg base c n Wx X) {i : Nat} {x : Str} {f : Addr} {fd : FuncData} {ps : List Str} (F : FnS W P w mg base n i (cl.fn i) x f fd ps)
    {es : List Expr} {fs : List SE} {p : Pos} (hg : Gl X x) (hp : Paired (fun e f => noStar e = true ∧ PEi W CP Wx X cl e f) es fs) (hn : es.all noStar = true) (hl : fs.length = ps.length) (hd : (x == ("__debug__" : Str)) = false) :
    PEi W CP Wx X cl (.Call (.Name x p) es [] pos) (sCallD i fs) := by
  have ok : FnOk X.prog X.w X.K X.mg X.base (L2.CX X.prog X.w) n f fd ps (spOf W (fun _ _ _ => False) (cl.fn i) ps.length) := by
    rw [G.hP, G.hw, G.hK, G.hmg, G.hb]
    exact F.ok
  have gl : X.mg x = some (.ref f) := by rw [G.hmg]; exact F.gl
  have kp : PySem.W.keepIn X.K (.ref f) = true := by rw [G.hK]; exact F.kp
  have bi : L2.Binds X.K fd ps [] := by rw [G.hK]; exact F.bi
  have fin : ∀ σ H Q, tI W CP Wx (sCallD i fs cl) σ H Q → tCallS (spOf W (fun _ _ _ => False) (cl.fn i) ps.length) (WE Wx) (tIl W CP Wx (sList fs cl)) σ H Q := fun σ H Q ⟨en, st, m, E, S, F⟩ =>
    ⟨en, st, m, E, S, (Fin.bind F).mono fun vs H1 ⟨ds, st1, m1, e1, s1, S1, r1, F1⟩ => ⟨ds.map .dat, m1, st1, by rw [List.length_map, len_list e1, hl], repAL_map r1, S1, F1.at_⟩⟩
  cases es with
  | nil =>
    have hr : PE X (.Call (.Name x p) [] [] pos) (tCallS (spOf W (fun _ _ _ => False) (cl.fn i) ps.length) (WE Wx) tNil) := by
      refine ⟨fun pins s σ H Q I h => ?_⟩
      refine wpAny_Call_Name_kw (ld_glob I hg gl ?_ hd)
      exact PySem.W.callWith_K0 I.kIn kp (run_fnS (us := []) ok G.room bi (passAt G.tk σ) I .nil h)
    cases hp
    exact pe_imp hr fun σ H Q ⟨en, st, m, E, S, F⟩ => ⟨[], m, st, hl, .nil, S, F.at_⟩
  | cons e es =>
    rw [List.all_cons, Bool.and_eq_true] at hn
    exact pe_imp (pe_callS ok G.room hg gl kp bi (passAt G.tk) (pa_list hp) hd (star_of hn.1) (plain_any hn.2 pos)) fin

/-! ### targets -/
def tGs (W : Wd) (CP : CPt) (Z : L2.St → L2.St → Prop) (g : SG) : TG := fun v σ H Q => ∃ en st m d en1, RelE W CP m en σ H ∧ RelS W m st H ∧ Rep W m H d v ∧ g d en st = some en1 ∧ ∀ σ1 H1 m1, Stp m H m1 H1 → RelE W CP m1 en1 σ1 H1 → RelS W m1 st H1 → Z σ σ1 → Q σ1 H1
def tGa (W : Wd) (CP : CPt) (Z : L2.St → L2.St → Prop) (gs : List SG) : TGs := fun vs σ H Q => ∃ en st m ds en1, RelE W CP m en σ H ∧ RelS W m st H ∧ RepL W m H ds vs ∧ gAll gs ds en st = some en1 ∧ ∀ σ1 H1 m1, Stp m H m1 H1 → RelE W CP m1 en1 σ1 H1 → RelS W m1 st H1 → Z σ σ1 → Q σ1 H1
theorem pg_imp {e : Expr} {t t' : TG} (h : PG X e t) (k : ∀ v σ H Q, t' v σ H Q → t v σ H Q) : PG X e t' := ⟨fun pins s σ H v u Q I r q => h.run pins s σ H v u Q I r (k v σ H Q q)⟩
theorem pgs_imp {e : List Expr} {t t' : TGs} (h : PGs X e t) (k : ∀ v σ H Q, t' v σ H Q → t v σ H Q) : PGs X e t' := ⟨fun pins s σ H v u Q I r q => h.run pins s σ H v u Q I r (k v σ H Q q)⟩
theorem pg_or {e : Expr} {t t' : TG} (h : PG X e t) (h' : PG X e t') : PG X e (fun v σ H Q => t v σ H Q ∨ t' v σ H Q) := ⟨fun pins s σ H v u Q I r q => q.elim (h.run pins s σ H v u Q I r) (h'.run pins s σ H v u Q I r)⟩
/-- a relation between the slots ahead of a store and behind it -/
structure ZOk (Z : L2.St → L2.St → Prop) : Prop where
  refl : ∀ σ, Z σ σ
  trans : ∀ a b c, Z a b → Z b c → Z a c
theorem g_name {Z : L2.St → L2.St → Prop} {i : Nat} {x : Str} (hZ : ∀ σ v, Z σ (σ.set i (some v))) (hN : X.N.Nodup) (hi : X.N[i]? = some x) (hx : Loc X.env.scope x) (hf : X.fn x = true ∨ X.env.scope.names.lookup x = some .local) : PG X (.Name x pos) (tGs W CP Z (gNm i)) :=
  pg_imp (pg_name hN hi hx hf) fun v σ H Q ⟨en, st, m, d, en1, E, S, r, e, k⟩ => by
    cases e
    exact k _ _ _ .refl (E.set (a := .dat d) r) S (hZ _ _)
theorem gall_len : ∀ {gs : List SG} {ds : List D} {en en1 : En} {st : St}, gAll gs ds en st = some en1 → ds.length = gs.length
  | [], [], _, _, _, _ => rfl
  | [], _ :: _, _, _, _, h => by cases h
  | _ :: _, [], _, _, _, h => by cases h
  | g :: gs, d :: ds, en, en1, st, h => by
    have h : (match g d en st with | some e1 => gAll gs ds e1 st | none => none) = some en1 := h
    cases e : g d en st with
    | none => rw [e] at h; cases h
    | some e1 =>
      rw [e] at h
      rw [List.length_cons, List.length_cons, gall_len h]
theorem asgn_of {e : Expr} {es : List Expr} {env : Env} (h : noStar e = true) : assignEach (e :: es) env = (false, assign e env) :: assignEach es env := by
  cases e <;> first | rfl | cases h
theorem g_all {Z : L2.St → L2.St → Prop} (hZ : ZOk Z) : ∀ {es : List Expr} {gs : List SG}, Paired (fun e g => noStar e = true ∧ PG X e (tGs W CP Z g)) es gs → PGs X es (tGa W CP Z gs)
  | _, _, .nil => pgs_imp pgs_nil fun v σ H Q ⟨en, st, m, ds, en1, E, S, r, e, k⟩ => by
    cases ds with
    | cons d ds => cases e
    | nil =>
      cases r
      cases e
      exact ⟨rfl, k _ _ _ .refl E S (hZ.refl _)⟩
  | _, _, .cons (a := a) (b := g) h t => pgs_imp (pgs_cons h.2 (g_all hZ t) (by rw [asgn_of h.1]; rfl)) fun v σ H Q ⟨en, st, m, ds, en1, E, S, r, e, k⟩ => by
    cases ds with
    | nil => cases e
    | cons d ds =>
      cases r with
      | cons r rr =>
        rename_i gs _ _ _
        have e : (match g d en st with | some e1 => gAll gs ds e1 st | none => none) = some en1 := e
        cases e2 : g d en st with
        | none => rw [e2] at e; cases e
        | some e3 =>
          rw [e2] at e
          exact ⟨_, _, rfl, en, st, m, d, e3, E, S, r, e2, fun σ1 H1 m1 s1 E1 S1 z1 => ⟨e3, st, m1, ds, en1, E1, S1, rr.stp s1, e, fun σ2 H2 m2 s2 E2 S2 z2 => k σ2 H2 m2 (s1.trans s2) E2 S2 (hZ.trans _ _ _ z1 z2)⟩⟩
theorem asgn_len {es : List Expr} {env : Env} (h : es.all noStar = true) : (assignEach es env).length = es.length ∧ (assignEach es env).findIdx? (·.1) = none := by
  induction es with
  | nil => exact ⟨rfl, rfl⟩
  | cons e es ih =>
    rw [List.all_cons, Bool.and_eq_true] at h
    obtain ⟨a, b⟩ := ih h.2
    rw [asgn_of h.1]
    refine ⟨by rw [List.length_cons, List.length_cons, a], ?_⟩
    rw [List.findIdx?_cons]
    simp [b]
theorem g_tup {Z : L2.St → L2.St → Prop} (hZ : ZOk Z) {es : List Expr} {gs : List SG} {k : Nat} (hK : X.K = W.K) (hc : X.calm = true) (h : Paired (fun e g => noStar e = true ∧ PG X e (tGs W CP Z g)) es gs) (hn : es.all noStar = true) : PG X (.Tuple es k pos) (tGs W CP Z (gTp gs)) := by
  obtain ⟨a, b⟩ := asgn_len (env := X.env) hn
  refine pg_imp (pg_or (pg_tup hc (g_all hZ h) a b) (pg_lst hc (g_all hZ h) a b)) fun v σ H Q ⟨en, st, m, d, en1, E, S, r, e, kk⟩ => ?_
  have e : (match asT st d with | some ds => gAll gs ds en st | none => none) = some en1 := e
  cases e2 : asT st d with
  | none => rw [e2] at e; cases e
  | some ds =>
    rw [e2] at e
    have hl : ds.length = es.length := by rw [gall_len e, h.length]
    have lists : asL st d = some ds → gLst X.K es.length (tGa W CP Z gs) v σ H Q := fun e3 => by
      obtain ⟨p, vs, rfl, hp, rr⟩ := asL_rep S r e3
      exact ⟨p, vs, rfl, .of hp, by rw [← rr.length, hl], en, st, m, ds, en1, E, S, rr, e, kk⟩
    cases d with
    | tup ds' =>
      cases e2
      obtain ⟨p, vs, rfl, hp, rr⟩ := r.tupE
      exact .inl ⟨p, vs, rfl, hK ▸ hp, by rw [← rr.length, hl], en, st, m, ds, en1, E, S, rr, e, kk⟩
    | _ => exact .inr (lists e2)

/-! ### what is walked -/
theorem upd_key {H : Hp} {p : Addr} {o : HO} (hp : H p = none) {a : Addr} {u : HO} (h : H a = some u) : upd H p o a = some u := by
  rw [upd_ne (ne_of_none h hp)]
  exact h
theorem nx_key {H : Hp} {p : Addr} {l : List Addr} (hp : H p = none) {a : Addr} {u : HO} (h : H a = some u) (n : a ∉ l) : a ∉ p :: l := fun z => by
  rcases List.mem_cons.mp z with z | z
  · exact ne_of_none h hp z
  · exact n z
mutual
theorem Rep.prv {m : Mp} {H : Hp} {p : Addr} {o : HO} (hp : H p = none) : ∀ {d : D} {v : V}, Rep W m H d v → Rep W ⟨m.s, p :: m.x⟩ (upd H p o) d v
  | _, _, .non => .non
  | _, _, .bl b => .bl b
  | _, _, .int i => .int i
  | _, _, .str x h => .str x h
  | _, _, .tup h n r => .tup (upd_key hp h) n (RepL.prv hp r)
  | _, _, .tupK h r z => .tupK h (RepL.prv hp r) z
  | _, _, .lst h n x r => .lst (upd_key hp h) n (nx_key hp h x) (RepL.prv hp r)
  | _, _, .ro (.inl h) n x r => .ro (.inl (upd_key hp h)) n (nx_key hp h x) (RepL.prv hp r)
  | _, _, .ro (.inr ⟨u, h⟩) n x r => .ro (.inr ⟨u, upd_key hp h⟩) n (nx_key hp h x) (RepL.prv hp r)
  | _, _, .roK h r => .roK h (RepL.prv hp r)
  | _, _, .ref h => .ref h
  | _, _, .fn h => .fn h
theorem RepL.prv {m : Mp} {H : Hp} {p : Addr} {o : HO} (hp : H p = none) : ∀ {d : List D} {v : List V}, RepL W m H d v → RepL W ⟨m.s, p :: m.x⟩ (upd H p o) d v
  | _, _, .nil => .nil
  | _, _, .cons r t => .cons (Rep.prv hp r) (RepL.prv hp t)
end
mutual
theorem Rep.pub {s : List Addr} {x y : List Addr} {H : Hp} (h : ∀ a ∈ y, a ∈ x) : ∀ {d : D} {v : V}, Rep W ⟨s, x⟩ H d v → Rep W ⟨s, y⟩ H d v
  | _, _, .non => .non
  | _, _, .bl b => .bl b
  | _, _, .int i => .int i
  | _, _, .str x h => .str x h
  | _, _, .tup q n r => .tup q n (RepL.pub h r)
  | _, _, .tupK q r z => .tupK q (RepL.pub h r) z
  | _, _, .lst q n nx r => .lst q n (fun z => nx (h _ z)) (RepL.pub h r)
  | _, _, .ro q n nx r => .ro q n (fun z => nx (h _ z)) (RepL.pub h r)
  | _, _, .roK q r => .roK q (RepL.pub h r)
  | _, _, .ref q => .ref q
  | _, _, .fn q => .fn q
theorem RepL.pub {s : List Addr} {x y : List Addr} {H : Hp} (h : ∀ a ∈ y, a ∈ x) : ∀ {d : List D} {v : List V}, RepL W ⟨s, x⟩ H d v → RepL W ⟨s, y⟩ H d v
  | _, _, .nil => .nil
  | _, _, .cons r t => .cons (Rep.pub h r) (RepL.pub h t)
end
theorem RepK.map {m m' : Mp} {H H' : Hp} (h : ∀ d v, Rep W m H d v → Rep W m' H' d v) : ∀ {d : List (Ky × D)} {v : List (Key × V)}, RepK W m H d v → RepK W m' H' d v
  | _, _, .nil => .nil
  | _, _, .cons k r t => .cons k (h _ _ r) (RepK.map h t)
theorem RepO.map {m m' : Mp} {H H' : Hp} {a : Addr} {o : Ob} (h : ∀ d v, Rep W m H d v → Rep W m' H' d v) (hl : ∀ d v, RepL W m H d v → RepL W m' H' d v) (hk : ∀ u, H a = some u → H' a = some u) (r : RepO W m H a o) : RepO W m' H' a o := by
  cases o with
  | lst xs => obtain ⟨vs, e, r⟩ := r; exact ⟨vs, hk _ e, hl _ _ r⟩
  | dct lk kvs =>
    cases lk with
    | false => obtain ⟨vs, e, r⟩ := r; exact ⟨vs, hk _ e, r.map h⟩
    | true => obtain ⟨o, vs, e, r⟩ := r; exact ⟨o, vs, hk _ e, r.map h⟩
  | ins c fs => exact r.elim
theorem RelS.prvt {m : Mp} {H : Hp} {st : St} {p : Addr} {o : HO} (hp : H p = none) (S : RelS W m st H) : RelS W ⟨m.s, p :: m.x⟩ st (upd H p o) := by
  refine ⟨S.len, S.nd, fun a h => ?_, fun k u a h1 h2 => RepO.map (fun d v r => r.prv hp) (fun d v r => r.prv hp) (fun w e => by rw [upd_ne (ne_of_none e hp)]; exact e) (S.ob k u a h1 h2)⟩
  rcases List.mem_cons.mp h with z | z
  · exact ⟨o, by rw [z, upd_same]⟩
  · obtain ⟨u, e⟩ := S.prv a z
    exact ⟨u, by rw [upd_ne (ne_of_none e hp)]; exact e⟩
theorem RelS.pub {s x y : List Addr} {H : Hp} {st : St} (h : ∀ a ∈ y, a ∈ x) (S : RelS W ⟨s, x⟩ st H) : RelS W ⟨s, y⟩ st H :=
  ⟨S.len, S.nd, fun a z => S.prv a (h a z), fun k u a h1 h2 => RepO.map (fun d v r => r.pub h) (fun d v r => r.pub h) (fun w e => e) (S.ob k u a h1 h2)⟩
theorem RelE.prv {m : Mp} {H : Hp} {en : En} {σ : L2.St} {p : Addr} {o : HO} (hp : H p = none) (E : RelE W CP m en σ H) : RelE W CP ⟨m.s, p :: m.x⟩ en σ (upd H p o) := ⟨E.len, fun i a h => by
  obtain ⟨v, h1, h2⟩ := E.at_ i a h
  refine ⟨v, h1, ?_⟩
  cases a with
  | dat d => exact Rep.prv hp h2
  | clo _ _ => exact h2⟩
/-- how a walk's source lies in the heap -/
inductive SrcR (W : Wd) : Src → It → Mp → Hp → Prop
  | tup {xs : List D} {a : Addr} {m : Mp} {H : Hp} : Rep W m H (.tup xs) (.ref a) → SrcR W (.fix xs) (Itt W.K a) m H
  | lst {xs : List D} {a : Addr} {m : Mp} {H : Hp} : Rep W m H (.lst xs) (.ref a) → SrcR W (.fix xs) (Itl W.K a) m H
  | ro {xs : List D} {a : Addr} {m : Mp} {H : Hp} : Rep W m H (.ro xs) (.ref a) → SrcR W (.fix xs) (Itl W.K a) m H
  | rl {k : Nat} {a : Addr} {m : Mp} {H : Hp} : m.s[k]? = some a → SrcR W (.rl k) (Itl W.K a) m H
  | dk {k : Nat} {a : Addr} {o : Obj} {kvs : List (Key × V)} {m : Mp} {H : Hp} : m.s[k]? = some a → H a = some (.frz o (.dK kvs)) → SrcR W (.dk k) (Itk a o kvs) m H
  | rng {lo : Int} {n : Nat} {m : Mp} {H : Hp} : SrcR W (.fix (rangeD lo n)) (Itr lo n) m H
  | enT {xs : List D} {a : Addr} {m : Mp} {H : Hp} : Rep W m H (.tup xs) (.ref a) → SrcR W (.fix (enumD 0 xs)) (IteT W.K a) m H
  | enL {xs : List D} {a : Addr} {m : Mp} {H : Hp} : Rep W m H (.lst xs) (.ref a) → SrcR W (.fix (enumD 0 xs)) (Ite W.K a) m H
  | zpT {xs ys : List D} {a b : Addr} {m : Mp} {H : Hp} : Rep W m H (.tup xs) (.ref a) → Rep W m H (.tup ys) (.ref b) → SrcR W (.fix (zipD xs ys)) (ItzT W.K a b) m H
  | zpL {xs ys : List D} {a b : Addr} {m : Mp} {H : Hp} : Rep W m H (.lst xs) (.ref a) → Rep W m H (.lst ys) (.ref b) → SrcR W (.fix (zipD xs ys)) (Itz W.K a b) m H
theorem SrcR.stp {s : Src} {J : It} {m m' : Mp} {H H' : Hp} (t : Stp m H m' H') (h : SrcR W s J m H) : SrcR W s J m' H' := by
  cases h with
  | tup r => exact .tup (r.stp t)
  | lst r => exact .lst (r.stp t)
  | ro r => exact .ro (r.stp t)
  | rl e => exact .rl (t.ix e)
  | dk e q => exact .dk (t.ix e) (t.frz _ _ _ q)
  | rng => exact .rng
  | enT r => exact .enT (r.stp t)
  | enL r => exact .enL (r.stp t)
  | zpT r q => exact .zpT (r.stp t) (q.stp t)
  | zpL r q => exact .zpL (r.stp t) (q.stp t)
theorem SrcR.prv {s : Src} {J : It} {m : Mp} {H : Hp} {p : Addr} {o : HO} (hp : H p = none) (h : SrcR W s J m H) : SrcR W s J ⟨m.s, p :: m.x⟩ (upd H p o) := by
  cases h with
  | tup r => exact .tup (r.prv hp)
  | lst r => exact .lst (r.prv hp)
  | ro r => exact .ro (r.prv hp)
  | rl e => exact .rl e
  | dk e q => exact .dk e (by rw [upd_ne (ne_of_none q hp)]; exact q)
  | rng => exact .rng
  | enT r => exact .enT (r.prv hp)
  | enL r => exact .enL (r.prv hp)
  | zpT r q => exact .zpT (r.prv hp) (q.prv hp)
  | zpL r q => exact .zpL (r.prv hp) (q.prv hp)
theorem enum_get : ∀ (xs : List D) (n i : Nat), (enumD n xs)[i]? = (xs[i]?).map fun d => .tup [.int ((n + i : Nat) : Int), d]
  | [], n, i => by simp [enumD]
  | x :: xs, n, 0 => by simp [enumD]
  | x :: xs, n, i + 1 => by
    show (enumD (n + 1) xs)[i]? = _
    rw [enum_get xs (n + 1) i]
    have e : n + 1 + i = n + (i + 1) := by omega
    rw [e]
    rfl
theorem zip_get : ∀ (xs ys : List D) (i : Nat), (zipD xs ys)[i]? = match xs[i]?, ys[i]? with
    | some x, some y => some (.tup [x, y])
    | _, _ => none
  | [], ys, i => by simp [zipD]
  | x :: xs, [], i => by
    show ([] : List D)[i]? = _
    cases i with
    | zero => rfl
    | succ i => cases h : (x :: xs)[i + 1]? <;> simp
  | x :: xs, y :: ys, 0 => by simp [zipD]
  | x :: xs, y :: ys, i + 1 => by
    show (zipD xs ys)[i]? = _
    rw [zip_get xs ys i]
    rfl
/-- a yield changes nothing, or lays a new tuple -/
def Laid (H H' : Hp) : Prop := H' = H ∨ ∃ T xs, H T = none ∧ H' = upd H T (.tup xs)
theorem Laid.stp {m : Mp} {H H' : Hp} (l : Laid H H') : Stp m H m H' := by
  rcases l with e | ⟨T, xs, hT, e⟩
  · rw [e]; exact .refl
  · rw [e]; exact .put hT
theorem Laid.rel {m : Mp} {H H' : Hp} {st : St} (l : Laid H H') (S : RelS W m st H) : RelS W m st H' := by
  rcases l with e | ⟨T, xs, hT, e⟩
  · rw [e]; exact S
  · rw [e]; exact S.put hT
theorem RepL.none {m : Mp} {H : Hp} {ds : List D} {vs : List V} {i : Nat} (r : RepL W m H ds vs) (h : ds[i]? = none) : vs.length ≤ i := by
  rw [← r.length]
  exact List.getElem?_eq_none_iff.mp h
theorem pairR {m : Mp} {H : Hp} {T : Addr} {x : V} {d : D} {i : Nat} {st : St} (S : RelS W m st H) (hT : H T = none) (r : Rep W m H d x) : Rep W m (upd H T (.tup [.int (i : Nat), x])) (.tup [.int (i : Nat), d]) (.ref T) :=
  .tup upd_same (S.fresh hT) (.cons (.int _) (.cons (r.stp (.put hT)) .nil))
theorem SrcR.stop {s : Src} {J : It} {m : Mp} {H : Hp} {st : St} {i : Nat} (h : SrcR W s J m H) (S : RelS W m st H) (e : s.get i st = some none) : J.stop i H := by
  cases h with
  | tup r =>
    obtain ⟨_, vs, e1, q, rr⟩ := r.tupE
    cases e1
    exact ⟨vs, q, rr.none (Option.some.inj e)⟩
  | lst r =>
    obtain ⟨_, vs, e1, q, _, rr⟩ := r.lstE
    cases e1
    exact ⟨vs, .of q, rr.none (Option.some.inj e)⟩
  | ro r =>
    obtain ⟨_, vs, e1, q, rr⟩ := r.roE
    cases e1
    exact ⟨vs, q, rr.none (Option.some.inj e)⟩
  | @rl k a _ _ hk =>
    have e : (match st[k]? with
      | some (.lst xs) => some xs[i]?
      | _ => none) = some none := e
    cases e2 : st[k]? with
    | none => rw [e2] at e; cases e
    | some o =>
      rw [e2] at e
      cases o with
      | lst xs =>
        obtain ⟨vs, e3, rr⟩ := (S.ob k _ a e2 hk : RepO W m H a (.lst xs))
        exact ⟨vs, .of e3, rr.none (Option.some.inj e)⟩
      | dct _ _ => cases e
      | ins _ _ => cases e
  | @dk k a o kvs _ _ hk q =>
    have e : (match st[k]? with
      | some (.dct true kvs) => some (keysOf kvs)[i]?
      | _ => none) = some none := e
    cases e2 : st[k]? with
    | none => rw [e2] at e; cases e
    | some ob =>
      rw [e2] at e
      cases ob with
      | lst xs => cases e
      | ins _ _ => cases e
      | dct lk ks =>
        cases lk with
        | false => cases e
        | true =>
          obtain ⟨o', vs, e3, rr⟩ := (S.ob k _ a e2 hk : RepO W m H a (.dct true ks))
          rw [q] at e3
          cases e3
          have e4 : (keysOf ks)[i]? = none := Option.some.inj e
          refine ⟨q, ?_⟩
          have e5 := List.getElem?_eq_none_iff.mp e4
          unfold keysOf at e5
          rw [List.length_map, rr.length] at e5
          exact e5
  | @rng lo n _ _ =>
    have e : (rangeD lo n)[i]? = none := Option.some.inj e
    have e5 := List.getElem?_eq_none_iff.mp e
    unfold rangeD at e5
    rw [List.length_map, List.length_range] at e5
    exact e5
  | @enT xs _ _ _ r =>
    obtain ⟨_, vs, e1, q, rr⟩ := r.tupE
    cases e1
    have e : (enumD 0 xs)[i]? = none := Option.some.inj e
    rw [enum_get] at e
    exact ⟨vs, q, rr.none (by simpa using e)⟩
  | @enL xs _ _ _ r =>
    obtain ⟨_, vs, e1, q, _, rr⟩ := r.lstE
    cases e1
    have e : (enumD 0 xs)[i]? = none := Option.some.inj e
    rw [enum_get] at e
    exact ⟨vs, .of q, rr.none (by simpa using e)⟩
  | @zpT xs ys _ _ _ _ r r' =>
    obtain ⟨_, vs, e1, q, rr⟩ := r.tupE
    cases e1
    obtain ⟨_, us, e1, q', rr'⟩ := r'.tupE
    cases e1
    have e : (zipD xs ys)[i]? = none := Option.some.inj e
    rw [zip_get] at e
    refine ⟨vs, us, q, q', ?_⟩
    cases e2 : xs[i]? with
    | none => exact .inl (rr.none e2)
    | some x =>
      cases e3 : ys[i]? with
      | none => exact .inr (rr'.none e3)
      | some y => rw [e2, e3] at e; cases e
  | @zpL xs ys _ _ _ _ r r' =>
    obtain ⟨_, vs, e1, q, _, rr⟩ := r.lstE
    cases e1
    obtain ⟨_, us, e1, q', _, rr'⟩ := r'.lstE
    cases e1
    have e : (zipD xs ys)[i]? = none := Option.some.inj e
    rw [zip_get] at e
    refine ⟨vs, us, .of q, .of q', ?_⟩
    cases e2 : xs[i]? with
    | none => exact .inl (rr.none e2)
    | some x =>
      cases e3 : ys[i]? with
      | none => exact .inr (rr'.none e3)
      | some y => rw [e2, e3] at e; cases e
theorem keys_get {m : Mp} {H : Hp} {d : D} : ∀ {kvs : List (Ky × D)} {vs : List (Key × V)} {i : Nat}, RepK W m H kvs vs → (keysOf kvs)[i]? = some d → ∃ k v, vs[i]? = some (k, v) ∧ Rep W m H d (kV k)
  | _, _, _, .nil, h => by simp [keysOf] at h
  | _, _, 0, .cons (k := k) (v := v) hk r t, h => by
    have h : kyD k = d := by simpa [keysOf] using h
    subst h
    refine ⟨kyV k, v, rfl, ?_⟩
    cases k with
    | i n => exact .int n
    | s x => exact .str x hk
  | _, _, i + 1, .cons hk r t, h => by
    obtain ⟨k, v, e1, e2⟩ := keys_get (i := i) t (by simpa [keysOf] using h)
    exact ⟨k, v, by simpa using e1, e2⟩
theorem SrcR.item {s : Src} {J : It} {m : Mp} {H : Hp} {st : St} {i : Nat} {d : D} (h : SrcR W s J m H) (S : RelS W m st H) (e : s.get i st = some (some d)) : J.go i H ∧ ∀ x H', J.yld i H x H' → Laid H H' ∧ Rep W m H' d x := by
  have lists : ∀ {a : Addr} {xs : List D} {vs : List V}, SqL W.K H a vs → RepL W m H xs vs → xs[i]? = some d → (Itl W.K a).go i H ∧ ∀ x H', (Itl W.K a).yld i H x H' → Laid H H' ∧ Rep W m H' d x := fun {a xs vs} q rr e => by
    obtain ⟨v, h1, h2⟩ := rr.get e
    refine ⟨⟨vs, v, q, h1⟩, fun x H' ⟨e1, y⟩ => ?_⟩
    subst e1
    have e2 := y vs q
    rw [h1] at e2
    cases e2
    exact ⟨.inl rfl, h2⟩
  cases h with
  | tup r =>
    obtain ⟨_, vs, e1, q, rr⟩ := r.tupE
    cases e1
    obtain ⟨v, h1, h2⟩ := rr.get (Option.some.inj e)
    refine ⟨⟨vs, v, q, h1⟩, fun x H' ⟨e1, y⟩ => ?_⟩
    subst e1
    have e2 := y vs q
    rw [h1] at e2
    cases e2
    exact ⟨.inl rfl, h2⟩
  | lst r =>
    obtain ⟨_, vs, e1, q, _, rr⟩ := r.lstE
    cases e1
    exact lists (.of q) rr (Option.some.inj e)
  | ro r =>
    obtain ⟨_, vs, e1, q, rr⟩ := r.roE
    cases e1
    exact lists q rr (Option.some.inj e)
  | @rl k a _ _ hk =>
    have e : (match st[k]? with
      | some (.lst xs) => some xs[i]?
      | _ => none) = some (some d) := e
    cases e2 : st[k]? with
    | none => rw [e2] at e; cases e
    | some o =>
      rw [e2] at e
      cases o with
      | lst xs =>
        obtain ⟨vs, e3, rr⟩ := (S.ob k _ a e2 hk : RepO W m H a (.lst xs))
        exact lists (.of e3) rr (Option.some.inj e)
      | dct _ _ => cases e
      | ins _ _ => cases e
  | @dk k a o kvs _ _ hk q =>
    have e : (match st[k]? with
      | some (.dct true kvs) => some (keysOf kvs)[i]?
      | _ => none) = some (some d) := e
    cases e2 : st[k]? with
    | none => rw [e2] at e; cases e
    | some ob =>
      rw [e2] at e
      cases ob with
      | lst xs => cases e
      | ins _ _ => cases e
      | dct lk ks =>
        cases lk with
        | false => cases e
        | true =>
          obtain ⟨o', vs, e3, rr⟩ := (S.ob k _ a e2 hk : RepO W m H a (.dct true ks))
          rw [q] at e3
          cases e3
          have e4 : (keysOf ks)[i]? = some d := Option.some.inj e
          obtain ⟨k', v, e5, e6⟩ := keys_get rr e4
          refine ⟨⟨q, (List.getElem?_eq_some_iff.mp e5).1⟩, fun x H' ⟨e7, k2, v2, e8, e9⟩ => ?_⟩
          subst e7
          rw [e5] at e8
          cases e8
          rw [e9]
          exact ⟨.inl rfl, e6⟩
  | @rng lo n _ _ =>
    have e : (rangeD lo n)[i]? = some d := Option.some.inj e
    have hi := (List.getElem?_eq_some_iff.mp e).1
    unfold rangeD at hi e
    rw [List.length_map, List.length_range] at hi
    rw [List.getElem?_map, List.getElem?_range hi] at e
    cases e
    refine ⟨hi, fun x H' ⟨e1, e2⟩ => ?_⟩
    subst e1
    rw [e2]
    exact ⟨.inl rfl, .int _⟩
  | @enT xs a _ _ r =>
    obtain ⟨_, vs, e1, q, rr⟩ := r.tupE
    cases e1
    have e : (enumD 0 xs)[i]? = some d := Option.some.inj e
    rw [enum_get] at e
    cases e2 : xs[i]? with
    | none => rw [e2] at e; cases e
    | some d' =>
      rw [e2] at e
      cases e
      obtain ⟨v, h1, h2⟩ := rr.get e2
      refine ⟨⟨vs, v, q, h1⟩, fun x H' ⟨T, y, e3, hT, e4, e5⟩ => ?_⟩
      have e6 := e5 vs q
      rw [h1] at e6
      cases e6
      subst e3 e4
      refine ⟨.inr ⟨T, _, hT, rfl⟩, ?_⟩
      rw [Nat.zero_add]
      exact pairR S hT h2
  | @enL xs a _ _ r =>
    obtain ⟨_, vs, e1, q, _, rr⟩ := r.lstE
    cases e1
    have e : (enumD 0 xs)[i]? = some d := Option.some.inj e
    rw [enum_get] at e
    cases e2 : xs[i]? with
    | none => rw [e2] at e; cases e
    | some d' =>
      rw [e2] at e
      cases e
      obtain ⟨v, h1, h2⟩ := rr.get e2
      refine ⟨⟨vs, v, .of q, h1⟩, fun x H' ⟨T, y, e3, hT, e4, e5⟩ => ?_⟩
      have e6 := e5 vs (.of q)
      rw [h1] at e6
      cases e6
      subst e3 e4
      refine ⟨.inr ⟨T, _, hT, rfl⟩, ?_⟩
      rw [Nat.zero_add]
      exact pairR S hT h2
  | @zpT xs ys _ _ _ _ r r' =>
    obtain ⟨_, vs, e1, q, rr⟩ := r.tupE
    cases e1
    obtain ⟨_, us, e1, q', rr'⟩ := r'.tupE
    cases e1
    have e : (zipD xs ys)[i]? = some d := Option.some.inj e
    rw [zip_get] at e
    cases e2 : xs[i]? with
    | none => rw [e2] at e; cases e
    | some d1 =>
      cases e3 : ys[i]? with
      | none => rw [e2, e3] at e; cases e
      | some d2 =>
        rw [e2, e3] at e
        cases e
        obtain ⟨v, h1, h2⟩ := rr.get e2
        obtain ⟨u, g1, g2⟩ := rr'.get e3
        refine ⟨⟨vs, us, v, u, q, q', h1, g1⟩, fun x H' ⟨T, y, z, e4, hT, e5, e6, e7⟩ => ?_⟩
        have e8 := e6 vs q
        rw [h1] at e8
        cases e8
        have e9 := e7 us q'
        rw [g1] at e9
        cases e9
        subst e4 e5
        exact ⟨.inr ⟨T, _, hT, rfl⟩, .tup upd_same (S.fresh hT) (.cons (h2.stp (.put hT)) (.cons (g2.stp (.put hT)) .nil))⟩
  | @zpL xs ys _ _ _ _ r r' =>
    obtain ⟨_, vs, e1, q, _, rr⟩ := r.lstE
    cases e1
    obtain ⟨_, us, e1, q', _, rr'⟩ := r'.lstE
    cases e1
    have e : (zipD xs ys)[i]? = some d := Option.some.inj e
    rw [zip_get] at e
    cases e2 : xs[i]? with
    | none => rw [e2] at e; cases e
    | some d1 =>
      cases e3 : ys[i]? with
      | none => rw [e2, e3] at e; cases e
      | some d2 =>
        rw [e2, e3] at e
        cases e
        obtain ⟨v, h1, h2⟩ := rr.get e2
        obtain ⟨u, g1, g2⟩ := rr'.get e3
        refine ⟨⟨vs, us, v, u, .of q, .of q', h1, g1⟩, fun x H' ⟨T, y, z, e4, hT, e5, e6, e7⟩ => ?_⟩
        have e8 := e6 vs (.of q)
        rw [h1] at e8
        cases e8
        have e9 := e7 us (.of q')
        rw [g1] at e9
        cases e9
        subst e4 e5
        exact ⟨.inr ⟨T, _, hT, rfl⟩, .tup upd_same (S.fresh hT) (.cons (h2.stp (.put hT)) (.cons (g2.stp (.put hT)) .nil))⟩
end
end Kn
set_option Elab.async false
set_option linter.all false
set_option maxHeartbeats 4000000
/-! KnE5: walks begun, loops, comprehensions. -/
namespace Kn
open PySem L2 PyProof.Rows RZ
section
variable {W : Wd} {CP : CPt} {Wx : WX} {X : Cx} {cl : Cl} {pos : Pos}
theorem pi_imp {tg e : Expr} {t t' : TI} (h : PI X tg e t) (k : ∀ σ H Q, t' σ H Q → t σ H Q) : PI X tg e t' := ⟨fun pins s σ H R I q => h.run pins s σ H R I (k σ H R q)⟩
theorem pi_or {tg e : Expr} {t t' : TI} (h : PI X tg e t) (h' : PI X tg e t') : PI X tg e (fun σ H Q => t σ H Q ∨ t' σ H Q) := ⟨fun pins s σ H R I q => q.elim (h.run pins s σ H R I) (h'.run pins s σ H R I)⟩
/-- how long a thing may be -/
def Short (K : PySem.W.Frag) (v : V) (H : Hp) : Prop := (∀ a xs, v = .ref a → (SqL K H a xs ∨ SqT K H a xs) → xs.length ≤ line) ∧ ∀ a o kvs, v = .ref a → H a = some (.frz o (.dK kvs)) → kvs.length ≤ line
theorem pe_short {e : Expr} {t : TE} (h : PE X e t) : PE X e (fun σ H Q => t σ H fun v H1 => Short X.K v H1 → Q v H1) := ⟨fun pins s σ H Q I q =>
  thn (h.run pins s σ H _ I q) fun v s1 ⟨x, H1, I1, r1, q1⟩ => ⟨x, H1, I1, r1, q1 ⟨fun a xs e z => by
    rw [line_eq]
    rcases z with z | z
    · exact (I1.list z).choose_spec.2.2
    · exact (I1.tuple z).choose_spec.2.2, fun a o kvs e z => by
    obtain ⟨_, x, _⟩ := I1.hok a _ z
    rw [line_eq]
    exact x⟩⟩⟩
abbrev SrcRp (W : Wd) : Mp → Hp → (Src × Nat) → It → Prop := fun m H p J => SrcR W p.1 J m H ∧ p.2 ≤ line
abbrev PIi (W : Wd) (CP : CPt) (Wx : WX) (X : Cx) (cl : Cl) (tg e : Expr) (it : SI) : Prop := PI X tg e (tG W CP Wx (SrcRp W) (it cl))
theorem i_val {tg e : Expr} {f : SE} (hK : X.K = W.K) (h : PEi W CP Wx X cl e f) : PIi W CP Wx X cl tg e (iVal f) := by
  have hl := pe_short h
  rw [hK] at hl
  refine pi_imp (pi_or (pi_tup hl) (pi_or (pi_list hl) (pi_keys hl))) fun σ H Q ⟨en, st, m, E, S, F⟩ => ?_
  have F := Fin.bind (r := f cl en st) (Rp := Rep W) (g := fun d s1 => ofO (srcOf s1 d) s1) F
  cases hr : f cl en st with
  | bad => rw [hr] at F; exact F.elim
  | exc c p s =>
    refine .inl ⟨en, st, m, E, S, F.mono fun v H1 ⟨d, st1, m1, e1, _⟩ => ?_⟩
    rw [hr] at e1; cases e1
  | ok d s =>
    cases d with
    | tup xs =>
      refine .inl ⟨en, st, m, E, S, F.mono fun v H1 ⟨d, st1, m1, e1, s1, S1, r1, F1⟩ hs => ?_⟩
      rw [hr] at e1; cases e1
      obtain ⟨a, vs, rfl, q, rr⟩ := r1.tupE
      exact ⟨a, rfl, ⟨vs, hK ▸ q⟩, hK ▸ Fin.ok F1 S1 ⟨.tup r1, by rw [rr.length]; exact hs.1 a vs rfl (.inr q)⟩⟩
    | lst xs =>
      refine .inr (.inl ⟨en, st, m, E, S, F.mono fun v H1 ⟨d, st1, m1, e1, s1, S1, r1, F1⟩ hs => ?_⟩)
      rw [hr] at e1; cases e1
      obtain ⟨a, vs, rfl, q, _, rr⟩ := r1.lstE
      exact ⟨a, rfl, ⟨vs, .of q⟩, hK ▸ Fin.ok F1 S1 ⟨.lst r1, by rw [rr.length]; exact hs.1 a vs rfl (.inl (.of q))⟩⟩
    | ro xs =>
      refine .inr (.inl ⟨en, st, m, E, S, F.mono fun v H1 ⟨d, st1, m1, e1, s1, S1, r1, F1⟩ hs => ?_⟩)
      rw [hr] at e1; cases e1
      obtain ⟨a, vs, rfl, q, rr⟩ := r1.roE
      exact ⟨a, rfl, ⟨vs, hK ▸ q⟩, hK ▸ Fin.ok F1 S1 ⟨.ro r1, by rw [rr.length]; exact hs.1 a vs rfl (.inl q)⟩⟩
    | ref k =>
      cases hk : s[k]? with
      | none =>
        refine .inl ⟨en, st, m, E, S, F.mono fun v H1 ⟨d, st1, m1, e1, s1, S1, r1, F1⟩ hs => ?_⟩
        rw [hr] at e1; cases e1
        have F1 : Fin W Wx σ m1 H1 (ofO (match s[k]? with
          | some (.lst xs) => some (Src.rl k, xs.length)
          | some (.dct true kvs) => some (Src.dk k, kvs.length)
          | _ => none) s) (SrcRp W) Q := F1
        rw [hk] at F1
        exact F1.elim
      | some ob =>
        cases ob with
        | lst xs =>
          refine .inr (.inl ⟨en, st, m, E, S, F.mono fun v H1 ⟨d, st1, m1, e1, s1, S1, r1, F1⟩ hs => ?_⟩)
          rw [hr] at e1; cases e1
          have F1 : Fin W Wx σ m1 H1 (ofO (match s[k]? with
            | some (.lst xs) => some (Src.rl k, xs.length)
            | some (.dct true kvs) => some (Src.dk k, kvs.length)
            | _ => none) s) (SrcRp W) Q := F1
          rw [hk] at F1
          obtain ⟨a, rfl, e2⟩ := r1.refE
          obtain ⟨vs, e3, rr⟩ := (S1.ob k _ a hk e2 : RepO W m1 H1 a (.lst xs))
          exact ⟨a, rfl, ⟨vs, .of e3⟩, hK ▸ Fin.ok F1 S1 ⟨.rl e2, by rw [rr.length]; exact hs.1 a vs rfl (.inl (.of e3))⟩⟩
        | dct lk kvs =>
          refine .inr (.inr ⟨en, st, m, E, S, F.mono fun v H1 ⟨d, st1, m1, e1, s1, S1, r1, F1⟩ hs => ?_⟩)
          rw [hr] at e1; cases e1
          have F1 : Fin W Wx σ m1 H1 (ofO (match s[k]? with
            | some (.lst xs) => some (Src.rl k, xs.length)
            | some (.dct true kvs) => some (Src.dk k, kvs.length)
            | _ => none) s) (SrcRp W) Q := F1
          rw [hk] at F1
          cases lk with
          | false => exact F1.elim
          | true =>
            obtain ⟨a, rfl, e2⟩ := r1.refE
            obtain ⟨o, vs, e3, rr⟩ := (S1.ob k _ a hk e2 : RepO W m1 H1 a (.dct true kvs))
            exact ⟨a, o, rfl, .inl ⟨vs, e3, Fin.ok F1 S1 ⟨.dk e2 e3, by rw [rr.length]; exact hs.2 a o vs rfl e3⟩⟩⟩
        | ins _ _ =>
          refine .inl ⟨en, st, m, E, S, F.mono fun v H1 ⟨d, st1, m1, e1, s1, S1, r1, F1⟩ hs => ?_⟩
          rw [hr] at e1; cases e1
          have F1 : Fin W Wx σ m1 H1 (ofO (match s[k]? with
            | some (.lst xs) => some (Src.rl k, xs.length)
            | some (.dct true kvs) => some (Src.dk k, kvs.length)
            | _ => none) s) (SrcRp W) Q := F1
          rw [hk] at F1
          exact F1.elim
    | _ =>
      refine .inl ⟨en, st, m, E, S, F.mono fun v H1 ⟨d, st1, m1, e1, s1, S1, r1, F1⟩ hs => ?_⟩
      rw [hr] at e1; cases e1
      exact F1.elim
theorem lim62 : lim ≤ 2 ^ 62 ∧ -(2 ^ 62) ≤ -lim := by decide
theorem i_range1 {tg e : Expr} {f : SE} {x : Str} {p : Pos} (hx : x = "range") (hg : Gl X "range") (hm : X.mg "range" = none) (h : PEi W CP Wx X cl e f) (ne : noStar e = true) : PIi W CP Wx X cl tg (.Call (.Name x p) [e] [] pos) (iRange1 f) := by
  subst hx
  refine pi_imp (pi_range1 hg hm (pa_cons h pa_nil (star_of ne)) (star_of ne)) fun σ H Q ⟨en, st, m, E, S, F⟩ => ⟨en, st, m, E, S, (Fin.bind F).mono fun v H1 ⟨d, st1, m1, e1, s1, S1, r1, F1⟩ => ?_⟩
  cases d with
  | int j =>
    obtain ⟨hz, F1⟩ := fin_if F1
    cases r1
    obtain ⟨l1, l2⟩ := lim62
    have hj : j.toNat ≤ line := by
      have : j < lim := hz.2
      unfold lim at this
      unfold line
      omega
    exact ⟨j, rfl, Int.le_trans l2 hz.1, Int.lt_of_lt_of_le hz.2 l1, Fin.ok F1 S1 ⟨.rng, hj⟩⟩
  | _ => exact (show False from F1).elim
theorem i_range2 {tg e e2 : Expr} {f g : SE} {x : Str} {p : Pos} (hx : x = "range") (hg : Gl X "range") (hm : X.mg "range" = none) (h : PEi W CP Wx X cl e f) (ne : noStar e = true) (h2 : PEi W CP Wx X cl e2 g) (ne2 : noStar e2 = true) : PIi W CP Wx X cl tg (.Call (.Name x p) [e, e2] [] pos) (iRange2 f g) := by
  subst hx
  refine pi_imp (pi_range2 hg hm (pa_cons h (pa_cons h2 pa_nil (star_of ne2)) (star_of ne)) (by rw [star_of ne, star_of ne2]; rfl) (star_of ne2)) fun σ H Q ⟨en, st, m, E, S, F⟩ => ⟨en, st, m, E, S, (Fin.bind F).mono fun v H1 ⟨d, st1, m1, e1, s1, S1, r1, F1⟩ => ⟨en, st1, m1, E.stp s1, S1, (Fin.bind F1).mono fun v2 H2 ⟨d2, st2, m2, e2, s2, S2, r2, F2⟩ => ?_⟩⟩
  cases d with
  | int i =>
    cases d2 with
    | int j =>
      have F2 : Fin W Wx σ m2 H2 (if -lim ≤ i ∧ i < lim ∧ -lim ≤ j ∧ j < lim then .ok (.fix (rangeD i (j - i).toNat), (j - i).toNat) st2 else .bad) (SrcRp W) Q := F2
      obtain ⟨hz, F2⟩ := fin_if F2
      cases r1
      cases r2
      obtain ⟨l1, l2⟩ := lim62
      obtain ⟨z1, z2, z3, z4⟩ := hz
      have hj : (j - i).toNat ≤ line := by
        have : j < lim := z4
        have : -lim ≤ i := z1
        unfold lim at *
        unfold line
        omega
      exact ⟨i, j, rfl, ⟨Int.le_trans l2 z1, Int.lt_of_lt_of_le z2 l1, Int.le_trans l2 z3, Int.lt_of_lt_of_le z4 l1⟩, Fin.ok F2 S2 ⟨.rng, hj⟩⟩
    | _ => exact (show False from F2).elim
  | _ => exact (show False from F2).elim
end
end Kn
set_option Elab.async false
set_option linter.all false
set_option maxHeartbeats 4000000
/-! KnE6: enumerate and zip walked; loops; comprehensions. -/
namespace Kn
open PySem L2 PyProof.Rows RZ
section
variable {W : Wd} {CP : CPt} {Wx : WX} {X : Cx} {cl : Cl} {pos : Pos}
theorem i_enum {e : Expr} {f : SE} {x : Str} {p tpos : Pos} {elts : List Expr} {kk : Nat} (hK : X.K = W.K) (hx : x = "enumerate") (hg : Gl X "enumerate") (hm : X.mg "enumerate" = none) (h : PEi W CP Wx X cl e f) (ne : noStar e = true) :
    PIi W CP Wx X cl (.Tuple elts kk tpos) (.Call (.Name x p) [e] [] pos) (iEnum f) := by
  subst hx
  have hl := pe_short h
  rw [hK] at hl
  have hp : PA X [e] (tCons (fun σ H Q => tI W CP Wx (f cl) σ H fun v H1 => Short W.K v H1 → Q v H1) tNil) := pa_cons hl pa_nil (star_of ne)
  refine pi_imp (pi_enumA hg hm hp (star_of ne)) fun σ H Q ⟨en, st, m, E, S, F⟩ => ⟨en, st, m, E, S, (Fin.bind (r := f cl en st) (Rp := Rep W) F).mono fun v H1 ⟨d, st1, m1, e1, s1, S1, r1, F1⟩ hs => ?_⟩
  cases d with
  | tup xs =>
    obtain ⟨a, vs, rfl, q, rr⟩ := r1.tupE
    exact ⟨a, vs, rfl, .inr ⟨hK ▸ q, hK ▸ Fin.ok F1 S1 ⟨.enT r1, by rw [rr.length]; exact hs.1 a vs rfl (.inr q)⟩⟩⟩
  | lst xs =>
    obtain ⟨a, vs, rfl, q, _, rr⟩ := r1.lstE
    exact ⟨a, vs, rfl, .inl ⟨.of q, hK ▸ Fin.ok F1 S1 ⟨.enL r1, by rw [rr.length]; exact hs.1 a vs rfl (.inl (.of q))⟩⟩⟩
  | _ => exact (show False from F1).elim
theorem i_zip {e e2 : Expr} {f g : SE} {x : Str} {p tpos : Pos} {elts : List Expr} {kk : Nat} (hK : X.K = W.K) (hx : x = "zip") (hg : Gl X "zip") (hm : X.mg "zip" = none) (h : PEi W CP Wx X cl e f) (ne : noStar e = true) (h2 : PEi W CP Wx X cl e2 g) (ne2 : noStar e2 = true) :
    PIi W CP Wx X cl (.Tuple elts kk tpos) (.Call (.Name x p) [e, e2] [] pos) (iZip f g) := by
  subst hx
  have hl := pe_short h
  rw [hK] at hl
  have hp : PA X [e, e2] (tCons (fun σ H Q => tI W CP Wx (f cl) σ H fun v H1 => Short W.K v H1 → Q v H1) (tCons (tI W CP Wx (g cl)) tNil)) := pa_cons hl (pa_cons h2 pa_nil (star_of ne2)) (star_of ne)
  refine pi_imp (pi_zipA hg hm hp (star_of ne) (by rw [star_of ne2]; rfl)) fun σ H Q ⟨en, st, m, E, S, F⟩ => ⟨en, st, m, E, S, (Fin.bind (r := f cl en st) (Rp := Rep W) F).mono fun v H1 ⟨d, st1, m1, e1, s1, S1, r1, F1⟩ hs => ⟨en, st1, m1, E.stp s1, S1, (Fin.bind (r := g cl en st1) (Rp := Rep W) F1).mono fun v2 H2 ⟨d2, st2, m2, e2, s2, S2, r2, F2⟩ => ?_⟩⟩
  cases d with
  | tup xs =>
    cases d2 with
    | tup ys =>
      have hn : xs.length ≤ line := by
        obtain ⟨a, vs, rfl, q, rr⟩ := r1.tupE
        rw [rr.length]; exact hs.1 a vs rfl (.inr q)
      have r1' := r1.stp s2
      obtain ⟨a, vs, rfl, q, rr⟩ := r1'.tupE
      obtain ⟨b, us, rfl, q2, rr2⟩ := r2.tupE
      exact ⟨a, b, vs, us, rfl, .inr ⟨hK ▸ q, hK ▸ q2, hK ▸ Fin.ok F2 S2 ⟨.zpT r1' r2, hn⟩⟩⟩
    | _ => exact (show False from F2).elim
  | lst xs =>
    cases d2 with
    | lst ys =>
      have hn : xs.length ≤ line := by
        obtain ⟨a, vs, rfl, q, _, rr⟩ := r1.lstE
        rw [rr.length]; exact hs.1 a vs rfl (.inl (.of q))
      have r1' := r1.stp s2
      obtain ⟨a, vs, rfl, q, _, rr⟩ := r1'.lstE
      obtain ⟨b, us, rfl, q2, _, rr2⟩ := r2.lstE
      exact ⟨a, b, vs, us, rfl, .inl ⟨.of q, .of q2, hK ▸ Fin.ok F2 S2 ⟨.zpL r1' r2, hn⟩⟩⟩
    | _ => exact (show False from F2).elim
  | _ => exact (show False from F2).elim

/-! ### statements -/
def FinS (W : Wd) (CP : CPt) (Wx : WX) (D : Ends) (m : Mp) (H : Hp) (r : RS) : Prop :=
  match r with
  | .nx e st => ∀ σ' H' m', Stp m H m' H' → RelE W CP m' e σ' H' → RelS W m' st H' → D.nx σ' H'
  | .rt d st => ∀ v H' m', Stp m H m' H' → RelS W m' st H' → Rep W m' H' d v → D.rt v H'
  | .bk e st => ∀ σ' H' m', Stp m H m' H' → RelE W CP m' e σ' H' → RelS W m' st H' → D.bk σ' H'
  | .ct e st => ∀ σ' H' m', Stp m H m' H' → RelE W CP m' e σ' H' → RelS W m' st H' → D.ct σ' H'
  | .exc c p e st => ∀ cls dd σ' H' m', Stp m H m' H' → RelE W CP m' e σ' H' → RelS W m' st H' → ExR W m' H' c p cls dd → Wx cls dd σ' H'
  | .bad => False
theorem FinS.step {D : Ends} {m m' : Mp} {H H' : Hp} {r : RS} (s : Stp m H m' H') (h : FinS W CP Wx D m H r) : FinS W CP Wx D m' H' r := by
  cases r with
  | nx e st => exact fun σ1 H1 m1 a b c => h σ1 H1 m1 (s.trans a) b c
  | rt d st => exact fun v H1 m1 a b c => h v H1 m1 (s.trans a) b c
  | bk e st => exact fun σ1 H1 m1 a b c => h σ1 H1 m1 (s.trans a) b c
  | ct e st => exact fun σ1 H1 m1 a b c => h σ1 H1 m1 (s.trans a) b c
  | exc c p e st => exact fun cls dd σ1 H1 m1 a b c d => h cls dd σ1 H1 m1 (s.trans a) b c d
  | bad => exact h
theorem FinS.out {α β : Type} {D : Ends} {σ : L2.St} {m : Mp} {H : Hp} {e : En} {r : R α} {f : α → St → RS} {Rp : Mp → Hp → α → β → Prop} (E : RelE W CP m e σ H) (h : FinS W CP Wx D m H (r.out e f)) :
    Fin W Wx σ m H r Rp (fun v H1 => ∃ a st1 m1, r = .ok a st1 ∧ Stp m H m1 H1 ∧ RelS W m1 st1 H1 ∧ Rp m1 H1 a v ∧ FinS W CP Wx D m1 H1 (f a st1)) := by
  cases r with
  | ok d st => exact fun v H1 m1 a b c => ⟨d, st, m1, rfl, a, b, c, FinS.step a h⟩
  | exc c p st => exact fun cls dd H1 m1 a b x => h cls dd σ H1 m1 a (E.stp a) b x
  | bad => exact h
def tSS (W : Wd) (CP : CPt) (Wx : WX) (x : En → St → RS) : TS := fun D σ H => ∃ en st m, RelE W CP m en σ H ∧ RelS W m st H ∧ FinS W CP Wx D m H (x en st)
abbrev PSi (W : Wd) (CP : CPt) (Wx : WX) (X : Cx) (cl : Cl) (e : Stmt) (f : SS) : Prop := PS X e (tSS W CP Wx (f cl))
abbrev PSsi (W : Wd) (CP : CPt) (Wx : WX) (X : Cx) (cl : Cl) (e : List Stmt) (f : SS) : Prop := PSs X e (tSS W CP Wx (f cl))
theorem s_seq : ∀ {ss : List Stmt} {xs : List SS}, Paired (fun s x => PSi W CP Wx X cl s x) ss xs → PSsi W CP Wx X cl ss (xSeq xs)
  | _, _, .nil => pss_imp pss_nil fun D σ H ⟨en, st, m, E, S, F⟩ => F σ H m .refl E S
  | _, _, .cons h .nil => pss_imp (pss_one h) fun D σ H ⟨en, st, m, E, S, F⟩ => ⟨en, st, m, E, S, F⟩
  | _, _, .cons (a := a) (b := x) h (.cons (b := y) (l₂ := ys) h2 t) => pss_imp (pss_cons h (s_seq (.cons h2 t))) fun D σ H ⟨en, st, m, E, S, F⟩ => by
    have F : FinS W CP Wx D m H (match x cl en st with
      | .nx e1 s1 => xSeq (y :: ys) cl e1 s1
      | r => r) := F
    refine ⟨en, st, m, E, S, ?_⟩
    cases hx : x cl en st with
    | nx e1 s1 =>
      rw [hx] at F
      exact fun σ1 H1 m1 s1 E1 S1 => ⟨_, _, m1, E1, S1, F.step s1⟩
    | rt d s1 => rw [hx] at F; exact F
    | bk e s1 => rw [hx] at F; exact F
    | ct e s1 => rw [hx] at F; exact F
    | exc c p e s1 => rw [hx] at F; exact F
    | bad => rw [hx] at F; exact F
theorem s_expr {e : Expr} {f : SE} (h : PEi W CP Wx X cl e f) (hs : swapsWith e none pos.line X.env = pure false := by rfl) : PSi W CP Wx X cl (.Expr e pos) (xExpr f) :=
  ps_imp (ps_expr h hs) fun D σ H ⟨en, st, m, E, S, F⟩ => ⟨en, st, m, E, S, (FinS.out E F).mono fun v H1 ⟨d, st1, m1, e1, s1, S1, r1, F1⟩ => F1 _ _ _ .refl (E.stp s1) S1⟩
theorem s_ret {e : Expr} {f : SE} (h : PEi W CP Wx X cl e f) : PSi W CP Wx X cl (.Return (some e) pos) (xRet f) :=
  ps_imp (ps_ret h) fun D σ H ⟨en, st, m, E, S, F⟩ => ⟨en, st, m, E, S, (FinS.out E F).mono fun v H1 ⟨d, st1, m1, e1, s1, S1, r1, F1⟩ => F1 _ _ _ .refl S1 r1⟩
theorem s_retN : PSi W CP Wx X cl (.Return none pos) (xRet (sCst .non)) :=
  ps_imp ps_retN fun D σ H ⟨en, st, m, E, S, F⟩ => F _ _ _ .refl S .non
theorem s_pass : PSi W CP Wx X cl (.Pass pos) xPass :=
  ps_imp ps_pass fun D σ H ⟨en, st, m, E, S, F⟩ => F _ _ _ .refl E S
theorem s_never {s : Stmt} : PSi W CP Wx X cl s xNever := ps_imp ps_never fun D σ H ⟨en, st, m, E, S, F⟩ => F
theorem s_asg {tg e : Expr} {f : SE} {g : SG} {Z : L2.St → L2.St → Prop} (h : PEi W CP Wx X cl e f) (hg : PG X tg (tGs W CP Z g)) (hs : swapsWithSole [tg] e pos.line X.env = pure false) (hw : swappedStores [tg] e X.env = pure none)
    (h1 : (assignEach [tg] X.env).map (·.2) = [assign tg X.env]) : PSi W CP Wx X cl (.Assign [tg] e pos) (xAsg g f) :=
  ps_imp (ps_asg h hg hs hw h1) fun D σ H ⟨en, st, m, E, S, F⟩ => ⟨en, st, m, E, S, (FinS.out E F).mono fun v H1 ⟨d, st1, m1, e1, s1, S1, r1, F1⟩ => by
    cases e2 : g d en st1 with
    | none => rw [e2] at F1; exact F1.elim
    | some en1 =>
      rw [e2] at F1
      exact ⟨en, st1, m1, d, en1, E.stp s1, S1, r1, e2, fun σ1 H2 m2 s2 E2 S2 _ => F1 σ1 H2 m2 s2 E2 S2⟩⟩
theorem s_set {i : Nat} {x : Str} {e : Expr} {f : SE} {p : Pos} (hN : X.N.Nodup) (hi : X.N[i]? = some x) (hx : Loc X.env.scope x) (hf : X.fn x = true ∨ X.env.scope.names.lookup x = some .local) (h : PEi W CP Wx X cl e f) (hs : swapsWith e (some (.Name x p)) pos.line X.env = pure false) :
    PSi W CP Wx X cl (.Assign [.Name x p] e pos) (xAsg (gNm i) f) :=
  ps_imp (ps_set hN hi hx h hs hf) fun D σ H ⟨en, st, m, E, S, F⟩ => ⟨en, st, m, E, S, (FinS.out E F).mono fun v H1 ⟨d, st1, m1, e1, s1, S1, r1, F1⟩ => F1 _ _ _ .refl ((E.stp s1).set (a := .dat d) r1) S1⟩
theorem s_par {i j : Nat} {x y : Str} {a b : Expr} {f g : SE} {px py pt : Pos} {kt k2 pt2} (hc : X.calm = true) (hN : X.N.Nodup) (hi : X.N[i]? = some x) (hj : X.N[j]? = some y) (hij : i ≠ j)
    (hx : X.env.scope.names.lookup x = some .local) (hy : X.env.scope.names.lookup y = some .local) (ha : PEi W CP Wx X cl a f) (hb : PEi W CP Wx X cl b g) (na : noStar a = true) (nb : noStar b = true)
    (hw : swappedStores [.Tuple [.Name x px, .Name y py] kt pt] (.Tuple [a, b] k2 pt2) X.env = pure (some [x, y]))
    (hs : swapsWithSole [.Tuple [.Name x px, .Name y py] kt pt] (.Tuple [a, b] k2 pt2) pos.line X.env = pure false) :
    PSi W CP Wx X cl (.Assign [.Tuple [.Name x px, .Name y py] kt pt] (.Tuple [a, b] k2 pt2) pos) (xPar i j f g) := by
  have pa : PA X [a, b] (tIl W CP Wx (sList [f, g] cl)) := pa_list (.cons ⟨na, ha⟩ (.cons ⟨nb, hb⟩ .nil))
  refine ps_imp (ps_par hc hN hi hj hij hx hy pa hw hs) fun D σ H ⟨en, st, m, E, S, F⟩ => ⟨en, st, m, E, S, (FinS.out E F).mono fun vs H1 ⟨ds, st1, m1, e1, s1, S1, r1, F1⟩ => ?_⟩
  have hlen := len_list e1
  cases r1 with
  | nil => cases hlen
  | cons r t =>
    cases t with
    | nil => cases hlen
    | cons r' t =>
      cases t with
      | cons _ _ => cases hlen
      | nil => exact ⟨_, _, rfl, F1 _ _ _ .refl (((E.stp s1).set (a := .dat _) r).set (a := .dat _) r') S1⟩
theorem s_if {c : Expr} {p q : List Stmt} {t : SE} {a b : SS} (hc : PTi W CP Wx X cl c t) (ha : PSsi W CP Wx X cl p a) (hb : PSsi W CP Wx X cl q b) : PSi W CP Wx X cl (.If c p q pos) (xIf t a b) :=
  ps_imp (ps_if hc ha hb) fun D σ H ⟨en, st, m, E, S, F⟩ => ⟨en, st, m, E, S, (FinS.out E F).mono fun k H1 ⟨d, st1, m1, e1, s1, S1, r1, F1⟩ => by
    have r1 : d = k := r1
    subst r1
    cases d with
    | true => exact ⟨en, st1, m1, E.stp s1, S1, F1⟩
    | false => exact ⟨en, st1, m1, E.stp s1, S1, F1⟩⟩
theorem s_break : PSi W CP Wx X cl (.Break pos) (fun _ e s => .bk e s) := ps_imp ps_break fun D σ H ⟨en, st, m, E, S, F⟩ => F _ _ _ .refl E S
theorem s_cont : PSi W CP Wx X cl (.Continue pos) (fun _ e s => .ct e s) := ps_imp ps_continue fun D σ H ⟨en, st, m, E, S, F⟩ => F _ _ _ .refl E S
theorem s_while {c : Expr} {body : List Stmt} {t : SE} {b : SS} (hp : PassesOwn (model X.prog X.w) X.A X.env X.xe) (hc : PTi W CP Wx X cl c t) (hb : PSsi W CP Wx X cl body b) : PSi W CP Wx X cl (.While c body [] pos) (xWhile t b) := by
  refine ps_imp (ps_while hp hc hb) fun D σ H ⟨en, st, m, E, S, F⟩ => ⟨fun k σ H => ∃ en st m, RelE W CP m en σ H ∧ RelS W m st H ∧ FinS W CP Wx D m H (whileG (sTru t cl) (b cl) k en st), ⟨_, en, st, m, E, S, F⟩, ?_⟩
  rintro k σ H ⟨en, st, m, E, S, F⟩
  cases k with
  | zero => exact F.elim
  | succ k =>
    refine ⟨en, st, m, E, S, (FinS.out E F).mono fun z H1 ⟨d, st1, m1, e1, s1, S1, r1, F1⟩ => ?_⟩
    have r1 : d = z := r1
    subst r1
    cases d with
    | false =>
      rw [if_neg Bool.false_ne_true] at F1 ⊢
      exact F1 _ _ _ .refl (E.stp s1) S1
    | true =>
      rw [if_pos rfl] at F1 ⊢
      refine ⟨_, fun σ' H' z => ⟨k, Nat.lt_succ_self k, z⟩, en, st1, m1, E.stp s1, S1, ?_⟩
      cases hx : b cl en st1 with
      | nx e2 s2 =>
        rw [hx] at F1
        exact fun σ2 H2 m2 t2 E2 S2 => ⟨_, _, m2, E2, S2, F1.step t2⟩
      | ct e2 s2 =>
        rw [hx] at F1
        exact fun σ2 H2 m2 t2 E2 S2 => ⟨_, _, m2, E2, S2, F1.step t2⟩
      | bk e2 s2 => rw [hx] at F1; exact F1
      | rt d s2 => rw [hx] at F1; exact F1
      | exc c p e s2 => rw [hx] at F1; exact F1
      | bad => rw [hx] at F1; exact F1
theorem s_for {tg iter : Expr} {body : List Stmt} {g : SG} {it : SI} {b : SS} {Z : L2.St → L2.St → Prop} (hp : PassesOwn (model X.prog X.w) X.A X.env X.xe) (hc : X.calm = true) (hi : PIi W CP Wx X cl tg iter it) (hg : PG X tg (tGs W CP Z g)) (hb : PSsi W CP Wx X cl body b)
    (hs : ∀ x, foldedSetIterable iter X.env x = pure x) : PSi W CP Wx X cl (.For tg iter body [] pos) (xFor g it b) := by
  refine ps_imp (ps_for hp hc hi hg hb hs) fun D σ H ⟨en, st, m, E, S, F⟩ => ⟨en, st, m, E, S, (FinS.out E F).mono fun J H1 ⟨src, st1, m1, e1, s1, S1, r1, F1⟩ => ?_⟩
  refine ⟨fun i k σ H => ∃ en st m, RelE W CP m en σ H ∧ RelS W m st H ∧ SrcR W src.1 J m H ∧ FinS W CP Wx D m H (forG src.1.get g (b cl) k i en st), ⟨_, en, st1, m1, E.stp s1, S1, r1.1, F1⟩, ?_⟩
  rintro i k σ H ⟨en, st, m, E, S, r, F⟩
  cases k with
  | zero =>
    have F : FinS W CP Wx D m H (match src.1.get i st with
      | some none => .nx en st
      | _ => .bad) := F
    cases hx : src.1.get i st with
    | none => rw [hx] at F; exact F.elim
    | some o =>
      rw [hx] at F
      cases o with
      | some d => exact F.elim
      | none => exact .inl ⟨r.stop S hx, F _ _ _ .refl E S⟩
  | succ k =>
    have F : FinS W CP Wx D m H (match src.1.get i st with
      | none => .bad
      | some none => .nx en st
      | some (some d) => match g d en st with
        | none => .bad
        | some e1 => match b cl e1 st with
          | .nx e2 s2 => forG src.1.get g (b cl) k (i + 1) e2 s2
          | .ct e2 s2 => forG src.1.get g (b cl) k (i + 1) e2 s2
          | .bk e2 s2 => .nx e2 s2
          | r => r) := F
    cases hx : src.1.get i st with
    | none => rw [hx] at F; exact F.elim
    | some o =>
      rw [hx] at F
      cases o with
      | none => exact .inl ⟨r.stop S hx, F _ _ _ .refl E S⟩
      | some d =>
        obtain ⟨go, y⟩ := r.item S hx
        refine .inr ⟨go, _, fun σ' H' z => ⟨k, Nat.lt_succ_self k, z⟩, fun x H' hy => ?_⟩
        obtain ⟨la, rd⟩ := y x H' hy
        have F : FinS W CP Wx D m H (match g d en st with
          | none => .bad
          | some e1 => match b cl e1 st with
            | .nx e2 s2 => forG src.1.get g (b cl) k (i + 1) e2 s2
            | .ct e2 s2 => forG src.1.get g (b cl) k (i + 1) e2 s2
            | .bk e2 s2 => .nx e2 s2
            | r => r) := F
        cases hgd : g d en st with
        | none => rw [hgd] at F; exact F.elim
        | some en1 =>
          rw [hgd] at F
          have F : FinS W CP Wx D m H (match b cl en1 st with
            | .nx e2 s2 => forG src.1.get g (b cl) k (i + 1) e2 s2
            | .ct e2 s2 => forG src.1.get g (b cl) k (i + 1) e2 s2
            | .bk e2 s2 => .nx e2 s2
            | r => r) := F
          refine ⟨en, st, m, d, en1, E.stp la.stp, la.rel S, rd, hgd, fun σ1 H2 m2 s2 E2 S2 _ => ⟨en1, st, m2, E2, S2, ?_⟩⟩
          have F := F.step (la.stp.trans s2)
          have r2 := r.stp (la.stp.trans s2)
          cases hx : b cl en1 st with
          | nx e2 s2 =>
            rw [hx] at F
            exact fun σ3 H3 m3 t3 E3 S3 => ⟨_, _, m3, E3, S3, r2.stp t3, F.step t3⟩
          | ct e2 s2 =>
            rw [hx] at F
            exact fun σ3 H3 m3 t3 E3 S3 => ⟨_, _, m3, E3, S3, r2.stp t3, F.step t3⟩
          | bk e2 s2 => rw [hx] at F; exact F
          | rt d s2 => rw [hx] at F; exact F
          | exc c p e s2 => rw [hx] at F; exact F
          | bad => rw [hx] at F; exact F
end
end Kn
set_option Elab.async false
set_option linter.all false
set_option maxHeartbeats 4000000
/-! KnE7: comprehensions. -/
namespace Kn
open PySem L2 PyProof.Rows RZ
abbrev CP0 : CPt := fun _ _ _ => False
abbrev Wx0 : WX := fun _ _ _ _ => False
abbrev Zw (own : List Nat) : L2.St → L2.St → Prop := fun a b => L2.wipe b own = L2.wipe a own
theorem zw_ok (own : List Nat) : ZOk (Zw own) := ⟨fun _ => rfl, fun _ _ _ h1 h2 => Eq.trans h2 h1⟩
theorem wipe_get (σ : L2.St) (i : Nat) : ∀ own : List Nat, (L2.wipe σ own)[i]? = if i ∈ own ∧ i < σ.length then some none else σ[i]?
  | [] => by simp [L2.wipe]
  | v :: vs => by
    unfold L2.wipe
    by_cases h : v = i
    · subst h
      by_cases hl : v < σ.length
      · rw [List.getElem?_set_self (by rw [wipe_length]; exact hl), if_pos ⟨List.mem_cons_self, hl⟩]
      · rw [if_neg (fun z => hl z.2), List.getElem?_eq_none (by rw [List.length_set, wipe_length]; omega), List.getElem?_eq_none (by omega)]
    · rw [List.getElem?_set_ne h, wipe_get σ i vs]
      by_cases h2 : i ∈ vs
      · by_cases hl : i < σ.length
        · rw [if_pos ⟨h2, hl⟩, if_pos ⟨List.mem_cons_of_mem _ h2, hl⟩]
        · rw [if_neg (fun z => hl z.2), if_neg (fun z => hl z.2)]
      · rw [if_neg (fun z => h2 z.1), if_neg (fun z => h2 ((List.mem_cons.mp z.1).resolve_left (Ne.symm h)))]
theorem wipe_idem (σ : L2.St) (own : List Nat) : L2.wipe (L2.wipe σ own) own = L2.wipe σ own := by
  apply List.ext_getElem?
  intro i
  rw [wipe_get, wipe_get, wipe_length]
  split
  · rfl
  · rfl
theorem zw_set {own : List Nat} {i : Nat} (h : i ∈ own) (σ : L2.St) (v : V) : Zw own σ (σ.set i (some v)) := by
  apply List.ext_getElem?
  intro j
  rw [wipe_get, wipe_get, List.length_set]
  split
  · rfl
  · rename_i hn
    by_cases hj : i = j
    · subst hj
      have hl : ¬ i < σ.length := fun z => hn ⟨h, z⟩
      rw [List.getElem?_eq_none (by rw [List.length_set]; omega), List.getElem?_eq_none (by omega)]
    · rw [List.getElem?_set_ne hj]
theorem wipeI_length (e : En) : ∀ own : List Nat, (wipeI e own).length = e.length
  | [] => rfl
  | v :: vs => by unfold wipeI; rw [List.length_set, wipeI_length e vs]
theorem wipeI_some {e : En} {i : Nat} {a : Ag} : ∀ {own : List Nat}, (wipeI e own)[i]? = some (some a) → e[i]? = some (some a) ∧ i ∉ own
  | [], h => ⟨h, by simp⟩
  | v :: vs, h => by
    unfold wipeI at h
    by_cases hi : v = i
    · subst hi
      by_cases hv : v < (wipeI e vs).length
      · rw [List.getElem?_set_self hv] at h; cases h
      · rw [List.getElem?_eq_none (by simpa using hv)] at h; cases h
    · rw [List.getElem?_set_ne hi] at h
      obtain ⟨h1, h2⟩ := wipeI_some h
      exact ⟨h1, by simp only [List.mem_cons, not_or]; exact ⟨fun e => hi e.symm, h2⟩⟩
theorem bind_assoc {α β γ : Type} (r : R α) (f : α → St → R β) (g : β → St → R γ) : (r.bind f).bind g = r.bind fun a s => (f a s).bind g := by cases r <;> rfl
section
variable {W : Wd} {CP : CPt} {Wx : WX} {X : Cx} {cl : Cl} {pos : Pos}
theorem RelE.wipe {m : Mp} {en : En} {σ : L2.St} {H : Hp} (E : RelE W CP m en σ H) (own : List Nat) : RelE W CP0 m (wipeE own en) (L2.wipe σ own) H := by
  refine ⟨by unfold wipeE; rw [List.length_map, wipeI_length, wipe_length]; exact E.len, fun i a h => ?_⟩
  unfold wipeE at h
  rw [List.getElem?_map] at h
  cases h2 : (wipeI en own)[i]? with
  | none => rw [h2] at h; cases h
  | some o =>
    rw [h2] at h
    have h3 : wipeA o = some a := Option.some.inj h
    cases o with
    | none => cases h3
    | some b =>
      cases b with
      | clo _ _ => cases h3
      | dat d =>
        have h3 : Ag.dat d = a := Option.some.inj h3
        subst h3
        obtain ⟨h4, h5⟩ := wipeI_some h2
        obtain ⟨v, h6, h7⟩ := E.at_ i _ h4
        exact ⟨v, by rw [wipe_get, if_neg (fun z => h5 z.1)]; exact h6, h7⟩
mutual
theorem Rep.hide {s x : List Addr} {H : Hp} {p : Addr} {us ws : List V} (hp : H p = some (.lst us)) : ∀ {d : D} {v : V}, Rep W ⟨s, p :: x⟩ H d v → Rep W ⟨s, p :: x⟩ (upd H p (.lst ws)) d v
  | _, _, .non => .non
  | _, _, .bl b => .bl b
  | _, _, .int i => .int i
  | _, _, .str x h => .str x h
  | _, _, .tup h n r => .tup (by rw [upd_ne (fun z => by rw [z, hp] at h; cases h)]; exact h) n (RepL.hide hp r)
  | _, _, .tupK h r z => .tupK h (RepL.hide hp r) z
  | _, _, .lst h n x r => .lst (by rw [upd_ne (fun z => x (by rw [z]; exact List.mem_cons_self))]; exact h) n x (RepL.hide hp r)
  | _, _, .ro (.inl h) n x r => .ro (.inl (by rw [upd_ne (fun z => x (by rw [z]; exact List.mem_cons_self))]; exact h)) n x (RepL.hide hp r)
  | _, _, .ro (.inr ⟨u, h⟩) n x r => .ro (.inr ⟨u, by rw [upd_ne (fun z => x (by rw [z]; exact List.mem_cons_self))]; exact h⟩) n x (RepL.hide hp r)
  | _, _, .roK h r => .roK h (RepL.hide hp r)
  | _, _, .ref h => .ref h
  | _, _, .fn h => .fn h
theorem RepL.hide {s x : List Addr} {H : Hp} {p : Addr} {us ws : List V} (hp : H p = some (.lst us)) : ∀ {d : List D} {v : List V}, RepL W ⟨s, p :: x⟩ H d v → RepL W ⟨s, p :: x⟩ (upd H p (.lst ws)) d v
  | _, _, .nil => .nil
  | _, _, .cons h r => .cons (Rep.hide hp h) (RepL.hide hp r)
end
theorem RelS.hide {s x : List Addr} {H : Hp} {st : St} {p : Addr} {us ws : List V} (hp : H p = some (.lst us)) (hn : p ∉ s) (S : RelS W ⟨s, p :: x⟩ st H) : RelS W ⟨s, p :: x⟩ st (upd H p (.lst ws)) := by
  refine ⟨S.len, S.nd, fun a h => ?_, fun k u a h1 h2 => ?_⟩
  · by_cases ha : a = p
    · exact ⟨_, by rw [ha, upd_same]⟩
    · obtain ⟨u, e⟩ := S.prv a h
      exact ⟨u, by rw [upd_ne ha]; exact e⟩
  · have ha : a ≠ p := fun z => hn (z ▸ List.mem_of_getElem? h2)
    exact RepO.map (fun d v r => r.hide hp) (fun d v r => r.hide hp) (fun w e => by rw [upd_ne ha]; exact e) (S.ob k u a h1 h2)
theorem RelE.hide {s x : List Addr} {H : Hp} {en : En} {σ : L2.St} {p : Addr} {us ws : List V} (hp : H p = some (.lst us)) (E : RelE W CP ⟨s, p :: x⟩ en σ H) : RelE W CP ⟨s, p :: x⟩ en σ (upd H p (.lst ws)) := ⟨E.len, fun i a h => by
  obtain ⟨v, h1, h2⟩ := E.at_ i a h
  refine ⟨v, h1, ?_⟩
  cases a with
  | dat d => exact Rep.hide hp h2
  | clo _ _ => exact h2⟩
theorem SrcR.hide {q : Src} {J : It} {s x : List Addr} {H : Hp} {p : Addr} {us ws : List V} (hp : H p = some (.lst us)) (h : SrcR W q J ⟨s, p :: x⟩ H) : SrcR W q J ⟨s, p :: x⟩ (upd H p (.lst ws)) := by
  cases h with
  | tup r => exact .tup (r.hide hp)
  | lst r => exact .lst (r.hide hp)
  | ro r => exact .ro (r.hide hp)
  | rl e => exact .rl e
  | dk e q => exact .dk e (by rw [upd_ne (fun z => by rw [z, hp] at q; cases q)]; exact q)
  | rng => exact .rng
  | enT r => exact .enT (r.hide hp)
  | enL r => exact .enL (r.hide hp)
  | zpT r q => exact .zpT (r.hide hp) (q.hide hp)
  | zpL r q => exact .zpL (r.hide hp) (q.hide hp)
theorem Stp.pub {s s' x y : List Addr} {H H' : Hp} (h : Stp ⟨s, x⟩ H ⟨s', x⟩ H') : Stp ⟨s, y⟩ H ⟨s', y⟩ H' := ⟨h.pre, rfl, h.new, h.kep, h.frz⟩
theorem Stp.upd {m m' : Mp} {H H' : Hp} {p : Addr} {o : HO} (h : Stp m H m' H') (hp : H p = none) : Stp m H m' (L2.upd H' p o) := ⟨h.pre, h.prv, h.new, fun b u e n => by
  rw [upd_ne (ne_of_none e hp)]
  exact h.kep b u e n, fun b u w e => by
  rw [upd_ne (ne_of_none e hp)]
  exact h.frz b u w e⟩
def ttOf (W : Wd) (cl : Cl) (t : Option SE) : TT := match t with
  | none => tYes
  | some t => tIb W CP0 Wx0 (sTru t cl)
theorem lc_sem {own : List Nat} {g : SG} {t : Option SE} {f : SE} {it : SI} {σ : L2.St} {H : Hp} {Q : VK} (h : tI W CP Wx (sLc own g t f it cl) σ H Q) :
    tLc (tG W CP Wx (SrcRp W) (it cl)) (tGs W CP0 (Zw own) g) (ttOf W cl t) (tI W CP0 Wx0 (f cl)) own σ H Q := by
  obtain ⟨en, st, m, E, S, F⟩ := h
  have F : Fin W Wx σ m H ((it cl en st).bind fun src s1 => (lcG src.1.get (lcTurn own g t f cl en) src.2 0 [] s1).bind fun ds s1 => .ok (.lst ds) s1) (Rep W) Q := by
    rw [← bind_assoc]
    exact F
  refine ⟨en, st, m, E, S, (Fin.bind F).mono fun J H1 ⟨src, st1, m1, e1, s1, S1, ⟨r1, hz⟩, F1⟩ D hD => ?_⟩
  refine ⟨fun i k H' => ∃ st' s' acc us, Stp m1 H1 ⟨s', m1.x⟩ H' ∧ RelE W CP ⟨s', D :: m1.x⟩ en σ H' ∧ RelS W ⟨s', D :: m1.x⟩ st' H' ∧ SrcR W src.1 J ⟨s', D :: m1.x⟩ H' ∧ H' D = some (.lst us) ∧ D ∉ s' ∧ RepL W ⟨s', D :: m1.x⟩ H' acc us ∧ acc.length ≤ i ∧ i + k ≤ line ∧
    Fin W Wx σ m1 H1 ((lcG src.1.get (lcTurn own g t f cl en) k i acc st').bind fun ds s => .ok (.lst ds) s) (Rep W) Q,
    ⟨_, st1, m1.s, [], [], Stp.put hD, (E.stp s1).prv hD, S1.prvt hD, r1.prv hD, upd_same, S1.fresh hD, .nil, Nat.le_refl _, by rw [Nat.zero_add]; exact hz, F1⟩, ?_⟩
  rintro i k H' ⟨st', s', acc, us, sp, E', S', r', hD', nD, ra, hl, hk, F'⟩
  have hDx : D ∉ m1.x := S1.freshx hD
  have stop : Fin W Wx σ m1 H1 (.ok (.lst acc) st') (Rep W) Q → Q (.ref D) H' := fun F => F (.ref D) H' ⟨s', m1.x⟩ sp (S'.pub fun a h => List.mem_cons_of_mem _ h) (.lst hD' nD hDx (ra.pub fun a h => List.mem_cons_of_mem _ h))
  cases k with
  | zero =>
    have F' : Fin W Wx σ m1 H1 (R.bind (match src.1.get i st' with
      | some none => .ok acc st'
      | _ => .bad) fun ds s => .ok (.lst ds) s) (Rep W) Q := F'
    cases hx : src.1.get i st' with
    | none => rw [hx] at F'; exact F'.elim
    | some o =>
      rw [hx] at F'
      cases o with
      | some d => exact F'.elim
      | none => exact .inl ⟨r'.stop S' hx, stop F'⟩
  | succ k =>
    have F' : Fin W Wx σ m1 H1 (R.bind (match src.1.get i st' with
      | none => .bad
      | some none => .ok acc st'
      | some (some d) => match lcTurn own g t f cl en d st' with
        | .ok (some x) s1 => lcG src.1.get (lcTurn own g t f cl en) k (i + 1) (acc ++ [x]) s1
        | .ok none s1 => lcG src.1.get (lcTurn own g t f cl en) k (i + 1) acc s1
        | _ => .bad) fun ds s => .ok (.lst ds) s) (Rep W) Q := F'
    cases hx : src.1.get i st' with
    | none => rw [hx] at F'; exact F'.elim
    | some o =>
      rw [hx] at F'
      cases o with
      | none => exact .inl ⟨r'.stop S' hx, stop F'⟩
      | some d =>
        obtain ⟨go, y⟩ := r'.item S' hx
        have none4 : ∀ s4 H4 st4, Stp ⟨s', D :: m1.x⟩ H' ⟨s4, D :: m1.x⟩ H4 → RelS W ⟨s4, D :: m1.x⟩ st4 H4 → Fin W Wx σ m1 H1 ((lcG src.1.get (lcTurn own g t f cl en) k (i + 1) acc st4).bind fun ds s => .ok (.lst ds) s) (Rep W) Q →
            ∃ st' s' acc us, Stp m1 H1 ⟨s', m1.x⟩ H4 ∧ RelE W CP ⟨s', D :: m1.x⟩ en σ H4 ∧ RelS W ⟨s', D :: m1.x⟩ st' H4 ∧ SrcR W src.1 J ⟨s', D :: m1.x⟩ H4 ∧ H4 D = some (.lst us) ∧ D ∉ s' ∧ RepL W ⟨s', D :: m1.x⟩ H4 acc us ∧ acc.length ≤ i + 1 ∧ i + 1 + k ≤ line ∧
              Fin W Wx σ m1 H1 ((lcG src.1.get (lcTurn own g t f cl en) k (i + 1) acc st').bind fun ds s => .ok (.lst ds) s) (Rep W) Q := fun s4 H4 st4 t4 S4 F4 =>
          ⟨st4, s4, acc, us, sp.trans t4.pub, E'.stp t4, S4, r'.stp t4, t4.kep _ _ hD' nD, t4.not hD' nD, ra.stp t4, Nat.le_succ_of_le hl, by omega, F4⟩
        have some4 : ∀ s4 H4 st4 x v, Stp ⟨s', D :: m1.x⟩ H' ⟨s4, D :: m1.x⟩ H4 → RelS W ⟨s4, D :: m1.x⟩ st4 H4 → Rep W ⟨s4, D :: m1.x⟩ H4 x v → Fin W Wx σ m1 H1 ((lcG src.1.get (lcTurn own g t f cl en) k (i + 1) (acc ++ [x]) st4).bind fun ds s => .ok (.lst ds) s) (Rep W) Q →
            ∃ ws, H4 D = some (.lst ws) ∧ ws.length < sizeLine ∧ ∃ st' s' acc us, Stp m1 H1 ⟨s', m1.x⟩ (upd H4 D (.lst (ws ++ [v]))) ∧ RelE W CP ⟨s', D :: m1.x⟩ en σ (upd H4 D (.lst (ws ++ [v]))) ∧ RelS W ⟨s', D :: m1.x⟩ st' (upd H4 D (.lst (ws ++ [v]))) ∧ SrcR W src.1 J ⟨s', D :: m1.x⟩ (upd H4 D (.lst (ws ++ [v]))) ∧ (upd H4 D (.lst (ws ++ [v]))) D = some (.lst us) ∧ D ∉ s' ∧ RepL W ⟨s', D :: m1.x⟩ (upd H4 D (.lst (ws ++ [v]))) acc us ∧ acc.length ≤ i + 1 ∧ i + 1 + k ≤ line ∧
              Fin W Wx σ m1 H1 ((lcG src.1.get (lcTurn own g t f cl en) k (i + 1) acc st').bind fun ds s => .ok (.lst ds) s) (Rep W) Q := fun s4 H4 st4 x v t4 S4 rx F4 => by
          have h4 : H4 D = some (.lst us) := t4.kep _ _ hD' nD
          have n4 : D ∉ s4 := t4.not hD' nD
          refine ⟨us, h4, ?_, st4, s4, acc ++ [x], us ++ [v], (sp.trans t4.pub).upd hD, (E'.stp t4).hide h4, S4.hide h4 n4, (r'.stp t4).hide h4, upd_same, n4, ((ra.stp t4).append (.cons rx .nil)).hide h4, ?_, by omega, F4⟩
          · rw [← line_eq, ← ra.length]; omega
          · rw [List.length_append, List.length_singleton]; omega
        refine .inr ⟨go, _, fun H'' z => ⟨k, Nat.lt_succ_self k, z⟩, fun x H2 hy => ?_⟩
        obtain ⟨la, rd⟩ := y x H2 hy
        have F' : Fin W Wx σ m1 H1 (R.bind (match lcTurn own g t f cl en d st' with
          | .ok (some x) s1 => lcG src.1.get (lcTurn own g t f cl en) k (i + 1) (acc ++ [x]) s1
          | .ok none s1 => lcG src.1.get (lcTurn own g t f cl en) k (i + 1) acc s1
          | _ => .bad) fun ds s => .ok (.lst ds) s) (Rep W) Q := F'
        cases hgd : g d (wipeE own en) st' with
        | none =>
          have e : lcTurn own g t f cl en d st' = .bad := by
            unfold lcTurn
            rw [hgd]
          rw [e] at F'
          exact F'.elim
        | some en1 =>
          refine ⟨wipeE own en, st', ⟨s', D :: m1.x⟩, d, en1, (E'.stp la.stp).wipe own, la.rel S', rd, hgd, fun σ1 H3 m3 s3 E3 S3 z3 => ⟨by rw [z3, wipe_idem], ?_⟩⟩
          obtain ⟨sa, xa⟩ := m3
          have hxa : xa = D :: m1.x := s3.prv
          subst hxa
          have t3 : Stp ⟨s', D :: m1.x⟩ H' ⟨sa, D :: m1.x⟩ H3 := la.stp.trans s3
          have eltgo : ∀ (Rx : R Kn.D) (st5 : St) (s5 : List Addr) (H5 : Hp), Stp ⟨s', D :: m1.x⟩ H' ⟨s5, D :: m1.x⟩ H5 → RelS W ⟨s5, D :: m1.x⟩ st5 H5 → f cl en1 st5 = Rx →
              Fin W Wx σ m1 H1 (R.bind (match (Rx.bind fun x s1 => R.ok (some x) s1) with
                | .ok (some x) s1 => lcG src.1.get (lcTurn own g t f cl en) k (i + 1) (acc ++ [x]) s1
                | .ok none s1 => lcG src.1.get (lcTurn own g t f cl en) k (i + 1) acc s1
                | _ => .bad) fun ds s => .ok (.lst ds) s) (Rep W) Q → RelE W CP0 ⟨s5, D :: m1.x⟩ en1 σ1 H5 →
              tI W CP0 Wx0 (f cl) σ1 H5 fun y H4 => ∃ ws, H4 D = some (.lst ws) ∧ ws.length < sizeLine ∧ ∃ st' s' acc us, Stp m1 H1 ⟨s', m1.x⟩ (upd H4 D (.lst (ws ++ [y]))) ∧ RelE W CP ⟨s', D :: m1.x⟩ en σ (upd H4 D (.lst (ws ++ [y]))) ∧ RelS W ⟨s', D :: m1.x⟩ st' (upd H4 D (.lst (ws ++ [y]))) ∧ SrcR W src.1 J ⟨s', D :: m1.x⟩ (upd H4 D (.lst (ws ++ [y]))) ∧ (upd H4 D (.lst (ws ++ [y]))) D = some (.lst us) ∧ D ∉ s' ∧ RepL W ⟨s', D :: m1.x⟩ (upd H4 D (.lst (ws ++ [y]))) acc us ∧ acc.length ≤ i + 1 ∧ i + 1 + k ≤ line ∧
              Fin W Wx σ m1 H1 ((lcG src.1.get (lcTurn own g t f cl en) k (i + 1) acc st').bind fun ds s => .ok (.lst ds) s) (Rep W) Q := fun Rx st5 s5 H5 t5 S5 ex F5 E5 => by
            refine ⟨en1, st5, ⟨s5, D :: m1.x⟩, E5, S5, ?_⟩
            rw [ex]
            cases Rx with
            | bad => exact F5.elim
            | exc c p s6 => exact F5.elim
            | ok z s6 =>
              intro v H6 m6 t6 S6 r6
              obtain ⟨sb, xb⟩ := m6
              have hxb : xb = D :: m1.x := t6.prv
              subst hxb
              exact some4 sb H6 s6 z v (t5.trans t6) S6 r6 F5
          cases t with
          | none =>
            have e : lcTurn own g none f cl en d st' = (f cl en1 st').bind fun x s1 => .ok (some x) s1 := by
              unfold lcTurn
              rw [hgd]
            rw [e] at F'
            have z := eltgo _ st' sa H3 t3 S3 rfl F' E3
            have tt : ∀ Q : Bool → Hp → Prop, Q true H3 → ttOf W cl none σ1 H3 Q := fun _ q => q
            refine tt _ ?_
            show (if true = true then _ else _ : Prop)
            rw [if_pos rfl]
            exact z
          | some t =>
            have e : lcTurn own g (some t) f cl en d st' = (sTru t cl en1 st').bind fun b s1 => if b then (f cl en1 s1).bind fun x s2 => .ok (some x) s2 else .ok none s1 := by
              unfold lcTurn
              rw [hgd]
            rw [e] at F'
            refine ⟨en1, st', ⟨sa, D :: m1.x⟩, E3, S3, ?_⟩
            cases hb : sTru t cl en1 st' with
            | bad => rw [hb] at F'; exact F'.elim
            | exc c p s6 => rw [hb] at F'; exact F'.elim
            | ok b s6 =>
              rw [hb] at F'
              intro b' H6 m6 t6 S6 r6
              have r6 : b = b' := r6
              subst r6
              obtain ⟨sb, xb⟩ := m6
              have hxb : xb = D :: m1.x := t6.prv
              subst hxb
              cases b with
              | true =>
                rw [if_pos rfl]
                exact eltgo _ s6 sb H6 (t3.trans t6) S6 rfl F' (E3.stp t6)
              | false =>
                rw [if_neg Bool.false_ne_true]
                exact none4 sb H6 s6 (t3.trans t6) S6 F'
end
end Kn
set_option Elab.async false
set_option linter.all false
set_option maxHeartbeats 4000000
/-! KnE8: comprehensions as expressions, stored; items stored. -/
namespace Kn
open PySem L2 PyProof.Rows RZ
section
variable {W : Wd} {CP : CPt} {Wx : WX} {X : Cx} {cl : Cl} {pos : Pos} {P : Program} {w : World} {mg : Str → Option Value} {base : Heap} {c : Cfg} {n : Nat}
def Cfg.blk (c : Cfg) (scope : Scope) : Cfg := ⟨c.N, relS scope c.sc, false, c.mu⟩
theorem Good.blk (G : Good W P w mg base c n Wx X) (scope : Scope) (s : Shared) (H : Hp) (C : Addr) (cs : List (Str × Addr)) (fp : List Addr) : Good W P w mg base (c.blk scope) n Wx0 (X.blk s H scope (compEnvC scope cs C X.env) fp) where
  hK := G.hK
  hmg := G.hmg
  hP := G.hP
  hw := G.hw
  hb := G.hb
  room := G.room
  sc := by
    show relS scope X.env.scope = relS scope c.sc
    rw [G.sc]
  N := G.N
  nd := G.nd
  calm := G.calm
  tk := fun u s' ⟨_, _, _, _, _, _, _, _, _, _, _, _, _, _, _, _, h⟩ => h.elim
  fn := fun h => nomatch h
  po := fun h => nomatch h
/-- the tests of a comprehension -/
def TestS (ifs : List Expr) (t : Option SE) (p : Expr → SE → Prop) : Prop := match t with
  | none => ifs = []
  | some t => ∃ e, ifs = [e] ∧ p e t
structure LcOk (W : Wd) (CP : CPt) (Wx : WX) (X : Cx) (cl : Cl) (elt tg iter : Expr) (ifs : List Expr) (scope : Scope) (own : List (Str × Nat)) (g : SG) (t : Option SE) (f : SE) (it : SI) : Prop where
  hc : X.calm = true
  hN : X.N.Nodup
  hi : PIi W CP Wx X cl tg iter it
  ok : BlkOk X.N X.env.scope scope own
  hg : ∀ (s : Shared) (H : Hp) (C : Addr) (cs : List (Str × Addr)) (fp : List Addr), PG (X.blk s H scope (compEnvC scope cs C X.env) fp) tg (tGs W CP0 (Zw (own.map (·.2))) g)
  ht : ∀ (s : Shared) (H : Hp) (C : Addr) (cs : List (Str × Addr)) (fp : List Addr), TestS ifs t fun e f => PTi W CP0 Wx0 (X.blk s H scope (compEnvC scope cs C X.env) fp) cl e f
  he : ∀ (s : Shared) (H : Hp) (C : Addr) (cs : List (Str × Addr)) (fp : List Addr), PEi W CP0 Wx0 (X.blk s H scope (compEnvC scope cs C X.env) fp) cl elt f
  hs : ∀ x, foldedSetIterable iter X.env x = pure x
theorem pts_of {Y : Cx} {ifs : List Expr} {t : Option SE} (h : TestS ifs t fun e f => PTi W CP0 Wx0 Y cl e f) : PTs Y ifs (ttOf W cl t) := by
  cases t with
  | none =>
    have e : ifs = [] := h
    subst e
    exact pts_nil
  | some t =>
    obtain ⟨e, h1, h2⟩ := h
    subst h1
    exact pts_one h2
section
variable {elt tg iter : Expr} {ifs : List Expr} {scope : Scope} {own : List (Str × Nat)} {g : SG} {t : Option SE} {f : SE} {it : SI}
theorem e_lc0 (L : LcOk W CP Wx X cl elt tg iter ifs scope own g t f it) : PE X (.ListComp elt [⟨tg, iter, ifs, 0⟩] scope pos) (tLc (tG W CP Wx (SrcRp W) (it cl)) (tGs W CP0 (Zw (own.map (·.2))) g) (ttOf W cl t) (tI W CP0 Wx0 (f cl)) (own.map (·.2))) :=
  pe_lc L.hc L.hN L.hi L.ok L.hg (fun s H C cs fp => pts_of (L.ht s H C cs fp)) L.he L.hs
theorem e_lc (L : LcOk W CP Wx X cl elt tg iter ifs scope own g t f it) : PEi W CP Wx X cl (.ListComp elt [⟨tg, iter, ifs, 0⟩] scope pos) (sLc (own.map (·.2)) g t f it) :=
  pe_imp (e_lc0 L) fun σ H Q h => lc_sem h
theorem s_setLc {i : Nat} {y : Str} {py spos : Pos} (L : LcOk W CP Wx X cl elt tg iter ifs scope own g t f it) (hy : X.N[i]? = some y) (hyl : X.env.scope.names.lookup y = some .local)
    (hsw : swapsWith (.ListComp elt [⟨tg, iter, ifs, 0⟩] scope pos) (some (.Name y py)) spos.line X.env = pure true) : PSi W CP Wx X cl (.Assign [.Name y py] (.ListComp elt [⟨tg, iter, ifs, 0⟩] scope pos) spos) (xAsg (gNm i) (sLc (own.map (·.2)) g t f it)) :=
  ps_imp (ps_setLc L.hc L.hN hy hyl hsw L.hi L.ok L.hg (fun s H C cs fp => pts_of (L.ht s H C cs fp)) L.he L.hs) fun D σ H ⟨en, st, m, E, S, F⟩ =>
    lc_sem (Q := fun x H1 => gName i x σ H1 D.nx) ⟨en, st, m, E, S, (FinS.out E F).mono fun v H1 ⟨d, st1, m1, e1, s1, S1, r1, F1⟩ => F1 _ _ _ .refl ((E.stp s1).set (a := .dat d) r1) S1⟩

/-! ### over a locked dict -/
mutual
theorem Rep.kept {m : Mp} {H H' : Hp} (k : ∀ b u, b ∉ m.s → H b = some u → H' b = some u) : ∀ {d : D} {v : V}, Rep W m H d v → Rep W m H' d v
  | _, _, .non => .non
  | _, _, .bl b => .bl b
  | _, _, .int i => .int i
  | _, _, .str x h => .str x h
  | _, _, .tup h n r => .tup (k _ _ n h) n (RepL.kept k r)
  | _, _, .tupK h r z => .tupK h (RepL.kept k r) z
  | _, _, .lst h n x r => .lst (k _ _ n h) n x (RepL.kept k r)
  | _, _, .ro (.inl h) n x r => .ro (.inl (k _ _ n h)) n x (RepL.kept k r)
  | _, _, .ro (.inr ⟨u, h⟩) n x r => .ro (.inr ⟨u, k _ _ n h⟩) n x (RepL.kept k r)
  | _, _, .roK h r => .roK h (RepL.kept k r)
  | _, _, .ref h => .ref h
  | _, _, .fn h => .fn h
theorem RepL.kept {m : Mp} {H H' : Hp} (k : ∀ b u, b ∉ m.s → H b = some u → H' b = some u) : ∀ {d : List D} {v : List V}, RepL W m H d v → RepL W m H' d v
  | _, _, .nil => .nil
  | _, _, .cons h r => .cons (Rep.kept k h) (RepL.kept k r)
end
theorem RepK.kept {m : Mp} {H H' : Hp} (k : ∀ b u, b ∉ m.s → H b = some u → H' b = some u) : ∀ {d : List (Ky × D)} {v : List (Key × V)}, RepK W m H d v → RepK W m H' d v
  | _, _, .nil => .nil
  | _, _, .cons h q r => .cons h (q.kept k) (RepK.kept k r)
theorem upd_out {H : Hp} {a b : Addr} {l : List Addr} {o u : HO} (h : a ∈ l) (n : b ∉ l) (e : H b = some u) : upd H a o b = some u := by
  rw [upd_ne (by rintro rfl; exact n h)]
  exact e
theorem RelS.put_at {m : Mp} {H : Hp} {st : St} {k : Nat} {p : Addr} {o : HO} {ob : Ob} (S : RelS W m st H) (hk : m.s[k]? = some p) (new : RepO W m (upd H p o) p ob) : RelS W m (st.set k ob) (upd H p o) := by
  have kp : ∀ b u, b ∉ m.s → H b = some u → upd H p o b = some u := fun b u n e => upd_out (List.mem_of_getElem? hk) n e
  refine ⟨by rw [List.length_set]; exact S.len, S.nd, fun a h => ?_, fun j u a h1 h2 => ?_⟩
  · obtain ⟨u, e⟩ := S.prv a h
    by_cases ha : a = p
    · exact ⟨o, by rw [ha, upd_same]⟩
    · exact ⟨u, by rw [upd_ne ha]; exact e⟩
  by_cases hj : j = k
  · subst hj
    rw [hk] at h2
    cases h2
    have hl : j < st.length := by rw [← S.len]; exact (List.getElem?_eq_some_iff.mp hk).1
    rw [List.getElem?_set_self hl] at h1
    cases h1
    exact new
  · rw [List.getElem?_set_ne (Ne.symm hj)] at h1
    have hne : a ≠ p := fun z => hj (by
      obtain ⟨l1, e1⟩ := List.getElem?_eq_some_iff.mp h2
      obtain ⟨l2, e2⟩ := List.getElem?_eq_some_iff.mp hk
      exact (List.getElem_inj S.nd).mp (by rw [e1, e2, z]))
    exact RepO.map (fun d v r => r.kept kp) (fun d v r => r.kept kp) (fun w e => by rw [upd_ne hne]; exact e) (S.ob j u a h1 h2)
theorem pe_or {e : Expr} {t t' : TE} (h : PE X e t) (h' : PE X e t') : PE X e (fun σ H Q => t σ H Q ∨ t' σ H Q) := ⟨fun pins s σ H Q I q => q.elim (h.run pins s σ H Q I) (h'.run pins s σ H Q I)⟩
theorem e_lcD {ff : SE} (L : LcOk W CP Wx X cl elt tg iter ifs scope own g t f (iVal ff)) : PEi W CP Wx X cl (.ListComp elt [⟨tg, iter, ifs, 0⟩] scope pos) (sLcD (own.map (·.2)) g t f ff) := by
  refine pe_imp (pe_or (e_lc0 L) (pe_lock (e_lc0 L))) fun σ H Q ⟨en, st, m, E, S, F⟩ => ?_
  have plain : sLcD (own.map (·.2)) g t f ff cl en st = sLc (own.map (·.2)) g t f (iVal ff) cl en st → tI W CP Wx (sLc (own.map (·.2)) g t f (iVal ff) cl) σ H Q := fun e => ⟨en, st, m, E, S, by rw [← e]; exact F⟩
  cases hr : ff cl en st with
  | bad => exact .inl (lc_sem (plain (by unfold sLcD; rw [hr])))
  | exc c p s => exact .inl (lc_sem (plain (by unfold sLcD; rw [hr])))
  | ok d s =>
    cases d with
    | ref k =>
      cases hk : st[k]? with
      | none => exact .inl (lc_sem (plain (by unfold sLcD; rw [hr]; simp only [hk])))
      | some ob =>
        cases ob with
        | lst xs => exact .inl (lc_sem (plain (by unfold sLcD; rw [hr]; simp only [hk])))
        | ins _ _ => exact .inl (lc_sem (plain (by unfold sLcD; rw [hr]; simp only [hk])))
        | dct lk kvs =>
          cases lk with
          | true => exact .inl (lc_sem (plain (by unfold sLcD; rw [hr]; simp only [hk])))
          | false =>
            have F : Fin W Wx σ m H ((lcI (own.map (·.2)) g t f (iVal ff) cl en (st.set k (.dct true kvs))).bind fun ds s1 => match s1[k]? with
              | some (.dct true kvs') => .ok (.lst ds) (s1.set k (.dct false kvs'))
              | _ => .bad) (Rep W) Q := by
              have e : sLcD (own.map (·.2)) g t f ff cl en st = ((lcI (own.map (·.2)) g t f (iVal ff) cl en (st.set k (.dct true kvs))).bind fun ds s1 => match s1[k]? with
                | some (.dct true kvs') => .ok (.lst ds) (s1.set k (.dct false kvs'))
                | _ => .bad) := by
                unfold sLcD
                rw [hr]
                simp only [hk]
                all_goals rfl
              rw [← e]
              exact F
            obtain ⟨a, ha, vs, hv, rr⟩ := S.addr hk
            have hm := List.mem_of_getElem? ha
            have hf : ∀ q u, H a ≠ some (.frz q u) := fun _ _ z => by rw [hv] at z; cases z
            refine .inr ⟨a, .dK vs, hv, trivial, fun od => ?_⟩
            have t0 : Stp m H m (upd H a (.frz od (.dK vs))) := Stp.set hm hf
            have S0 : RelS W m (st.set k (.dct true kvs)) (upd H a (.frz od (.dK vs))) := S.set ha hf ⟨od, vs, upd_same, rr.stp t0⟩
            refine lc_sem ⟨en, st.set k (.dct true kvs), m, E.stp t0, S0, ?_⟩
            show Fin W Wx σ m _ ((lcI (own.map (·.2)) g t f (iVal ff) cl en (st.set k (.dct true kvs))).bind fun ds s1 => .ok (.lst ds) s1) (Rep W) _
            cases hc : lcI (own.map (·.2)) g t f (iVal ff) cl en (st.set k (.dct true kvs)) with
            | bad => rw [hc] at F; exact F.elim
            | exc c p s => rw [hc] at F; exact Fin.step (r := (.exc c p s : R D)) (Q := Q) t0 F
            | ok ds s1 =>
              rw [hc] at F
              intro v H1 m1 t1 S1 r1
              have h1 : H1 a = some (.frz od (.dK vs)) := t1.frz a od _ upd_same
              refine ⟨h1, ?_⟩
              have F : Fin W Wx σ m H (match s1[k]? with
                | some (.dct true kvs') => .ok (.lst ds) (s1.set k (.dct false kvs'))
                | _ => .bad) (Rep W) Q := F
              cases hk1 : s1[k]? with
              | none => rw [hk1] at F; exact F.elim
              | some ob =>
                rw [hk1] at F
                cases ob with
                | lst _ => exact F.elim
                | ins _ _ => exact F.elim
                | dct lk kvs' =>
                  cases lk with
                  | false => exact F.elim
                  | true =>
                    have ha1 := t1.ix ha
                    obtain ⟨o', vs', e3, rr'⟩ := (S1.ob k _ a hk1 ha1 : RepO W m1 H1 a (.dct true kvs'))
                    rw [h1] at e3
                    cases e3
                    have hm1 := List.mem_of_getElem? ha1
                    have kp : ∀ b u, b ∉ m1.s → H1 b = some u → upd H1 a (.dK vs) b = some u := fun b u n e => upd_out hm1 n e
                    have t2 := t0.trans t1
                    refine (show Fin W Wx σ m H (.ok (.lst ds) (s1.set k (.dct false kvs'))) (Rep W) Q from F) v _ m1 ⟨t2.pre, t2.prv, t2.new, fun b u e n => upd_out hm n (t2.kep b u e n), fun b q u e => ?_⟩ (S1.put_at ha1 ⟨vs, upd_same, rr'.kept kp⟩) (r1.kept kp)
                    rw [upd_ne (by rintro rfl; exact hf _ _ e)]
                    exact t2.frz b q u e
    | _ => exact .inl (lc_sem (plain (by unfold sLcD; rw [hr])))
end
end
end Kn
set_option Elab.async false
set_option linter.all false
set_option maxHeartbeats 4000000
set_option maxRecDepth 100000
/-! KnE9: reversed slices, items stored, dict displays, three names at once. -/
namespace Kn
open PySem PySem.Spec PyProof.Rows L2
/-! ### t[::-1] of a tuple -/
theorem adjust_rev (n : Nat) : Builtin.Slice.sliceAdjust none none (-1) (n : Int) = ((n : Int) - 1, -1) := by
  unfold Builtin.Slice.sliceAdjust
  have h1 : ((-1 : Int) < 0) := by omega
  simp only [h1, if_true]
theorem places_rev (n : Nat) : Builtin.Slice.slicePlaces ((n : Int) - 1) (-1) (-1) = n := by
  unfold Builtin.Slice.slicePlaces
  have h1 : ¬ ((-1 : Int) > 0) := by omega
  simp only [h1, if_false]
  split
  · rw [show (-(-1) : Int) = 1 by omega, Int.ediv_one]; omega
  · omega
theorem pick_rev {α : Type} (xs : Array α) : ((List.range xs.size).filterMap fun (k : Nat) => xs[((xs.size : Int) - 1 + (k : Int) * (-1)).toNat]?).toArray = xs.toList.reverse.toArray := by
  have e : (fun (k : Nat) => xs[((xs.size : Int) - 1 + (k : Int) * (-1)).toNat]?) = fun k => xs[xs.size - 1 - k]? := by
    funext k
    by_cases h : k < xs.size
    · have : ((xs.size : Int) - 1 + (k : Int) * (-1)).toNat = xs.size - 1 - k := by omega
      rw [this]
    · have : ((xs.size : Int) - 1 + (k : Int) * (-1)).toNat = xs.size - 1 - k := by omega
      rw [this]
  rw [e]
  congr 1
  have h2 := PySem.W.krv_all xs
  have h3 : ((List.range xs.size).map fun k => xs.size - 1 - k).filterMap (fun i => xs[i]?) = xs.toList.reverse := by
    rw [PySem.W.krv_range, List.filterMap_reverse]
    exact congrArg List.reverse h2
  rw [List.filterMap_map] at h3
  exact h3
section
variable {prog : Program} {w : World} {A : Around} {E : Value → Shared → Prop} {s : Shared}
theorem getItem_tuple_rev {t sl : Addr} {items : Array Value} {u : Tok} {Q : Value → Shared → Prop} (ht : IsTup s.heap t items) (hs : s.heap.IsSliceOf sl .none .none (.int (-1) u))
    (h : Q (.ref s.heap.objs.size) { s with heap := s.heap.push { cls := .type "tuple", data := .seq items.toList.reverse.toArray } })
    (hsz : items.size ≤ sizeLine) : wpAny (model prog w) A (getItem (.ref t) (.ref sl)) Q E s := by
  have htake : sizeOk (.seq items.toList.reverse.toArray) := by
    show items.toList.reverse.toArray.size ≤ sizeLine
    rw [List.size_toArray, List.length_reverse, Array.length_toList]
    exact hsz
  obtain ⟨os, hos, hcs, hds⟩ := id hs
  have hTs : s.TypeIs (.ref sl) "slice" := ⟨os, hos, hcs⟩
  have app : ∀ (A : Around) (E : Value → Shared → Prop) (Q : Int × Int × Nat → Shared → Prop), Q ((items.size : Int) - 1, -1, items.size) s → wpAny (model prog w) A (Builtin.Slice.sliceApplied (.ref sl) (pure (items.size : Int))) Q E s := by
    intro A E Q h
    unfold Builtin.Slice.sliceApplied Builtin.Slice.sliceFields
    refine wpAny_bind (wpAny_bind (wpAny_field hos hds (x := .none) rfl (wpAny_bind (wpAny_field hos hds (x := .none) rfl (wpAny_bind (wpAny_field hos hds (x := .int (-1) u) rfl (wpAny_pure ?_)))))))
    refine wpAny_bind (slicePart_int ?_)
    show wpAny _ _ (if ((-1 : Int) == 0) = true then _ else _) _ _ s
    rw [if_neg (by decide)]
    refine wpAny_bind (slicePart_none (wpAny_bind (slicePart_none (wpAny_bind (wpAny_pure ?_)))))
    show wpAny _ _ (match Builtin.Slice.sliceAdjust none none (-1) (items.size : Int) with | (lo, hi) => pure (lo, (-1 : Int), Builtin.Slice.slicePlaces lo hi (-1))) _ _ s
    rw [adjust_rev]
    show wpAny _ _ (pure ((items.size : Int) - 1, (-1 : Int), Builtin.Slice.slicePlaces ((items.size : Int) - 1) (-1) (-1))) _ _ s
    rw [places_rev]
    exact wpAny_pure h
  unfold getItem
  try with_reducible refine wpAny_holding ?_
  first | refine wpAny_bind (wpAny_pure ?_) | skip
  refine wpAny_bind (wpAny_sequenceKey ht.typeIs (by decide) ?_)
  refine wpAny_bind (wpAny_callSpecial?_slot (name := Str.ofString "__getitem__") ht.typeIs PyProof.Rows.slot_tuple_getitem
    (wpAny_call_entry PyProof.Rows.slot_tuple_getitem ht.typeIs entry_tuple_getitem ?_ (args_tuple_getitem _ _)))
  show wpAny _ _ (Builtin.Tuple.tupleItemsOf (.ref t) >>= _) _ _ s
  refine wpAny_bind (tupleItemsOf_ ht ?_)
  refine wpAny_bind (wpAny_typeOf hTs ?_)
  rw [if_pos (by decide)]
  refine wpAny_bind (app _ _ _ ?_)
  have hno : ¬ ((((items.size : Int) - 1) == 0 && (-1 : Int) == 1 && items.size == items.size) = true) := by
    intro q
    rw [Bool.and_eq_true, Bool.and_eq_true] at q
    exact absurd q.1.2 (by decide)
  show wpAny _ _ (if (((items.size : Int) - 1) == 0 && (-1 : Int) == 1 && items.size == items.size) = true then _ else _) _ _ s
  rw [if_neg hno, pick_rev]
  first
    | exact wpAny_bind (m := Builtin.Tuple.tupleExact _) (wpAny_newObj_type (wpAny_pure ⟨_, rfl, wpAny_pure h⟩) htake)
    | exact wpAny_bind (m := Builtin.Tuple.tupleExact _) (wpAny_newObj_type (wpAny_bind (wpAny_pure (wpAny_pure ⟨_, rfl, wpAny_pure h⟩))) htake)
    | exact wpAny_bind (wpAny_bind (m := Builtin.Tuple.tupleExact _) (wpAny_newObj_type (wpAny_pure (wpAny_pure ⟨_, rfl, wpAny_pure h⟩)) htake))
    | exact wpAny_bind (wpAny_bind (m := Builtin.Tuple.tupleExact _) (wpAny_newObj_type (wpAny_pure ⟨_, rfl, wpAny_pure h⟩) htake))
end
section
variable {X : Cx}
def tRevT (K : PySem.W.Frag) (te : TE) : TE := fun σ H Q => te σ H fun x H1 => ∃ a xs, x = .ref a ∧ SqT K H1 a xs ∧ ∀ p, H1 p = none → Q (.ref p) (upd H1 p (.tup xs.reverse))
theorem pe_revT {e : Expr} {te : TE} {k : Nat} {p1 p2 p3 pos : Pos} (he : PE X e te) : PE X (.Subscript e (.Slice none none (some (.UnaryOp .USub (.Constant (.int 1) k p1) p2)) p3) pos) (tRevT X.K te) := by
  refine ⟨fun pins s σ H Q I h => ?_⟩
  refine Subscript_ (thn (he.run pins s σ H _ I h) fun v s1 ⟨x, H1, I1, r1, q1⟩ => ?_)
  obtain ⟨a, xs, ex, hx, q⟩ := q1
  subst ex
  cases r1
  have hst : PO X (some (.UnaryOp .USub (.Constant (.int 1) k p1) p2)) (tPart (tUn (rU fun i => .int (-i)) (tC (.int 1)))) := po_some (pe_un un_neg pe_int)
  refine wpAny_Slice (thn (po_none.run pins s1 σ H1 (fun o H2 => o = none ∧ H2 = H1) I1 ⟨rfl, rfl⟩) fun vl s2 ⟨l, H2, I2, pl, el, e2⟩ => ?_)
  subst el e2
  cases pl
  refine thn (po_none.run pins s2 σ H2 (fun o H3 => o = none ∧ H3 = H2) I2 ⟨rfl, rfl⟩) fun vu s3 ⟨u, H3, I3, pu, eu, e3⟩ => ?_
  subst eu e3
  cases pu
  refine thn (hst.run pins s3 σ H3 (fun o H4 => o = some (-1) ∧ H4 = H3) I3 ⟨1, rfl, -1, rfl, rfl, rfl⟩) fun vs s4 ⟨o, H4, I4, ps, eo, e4⟩ => ?_
  subst eo e4
  obtain ⟨tk, rfl⟩ : ∃ t, vs = .int (-1) t := by cases ps; exact ⟨_, rfl⟩
  have I5 : Inv X pins σ H4 { s4 with heap := s4.heap.push { cls := .type "slice", data := .fields #[.none, .none, .int (-1) tk] } } := I4.kept (t' := s4.toks) fun b ob q => Heap.get?_push_of_some _ q
  obtain ⟨its, r, ht, hz⟩ := I5.tuple hx
  have hlen := r.length
  show wpAny (model X.prog X.w) X.A (subscriptTail e (.Slice none none (some (.UnaryOp .USub (.Constant (.int 1) k p1) p2)) p3) (.ref a) (.ref s4.heap.objs.size)) (EP X pins σ Q) X.xe { s4 with heap := s4.heap.push { cls := .type "slice", data := .fields #[.none, .none, .int (-1) tk] } }
  refine tail_any (ops := [.ref a, .ref s4.heap.objs.size]) ht.typeIs (PyProof.Rows.slot_tuple_getitem.lookup) ?_ (by with_unfolding_all rfl)
  refine getItem_tuple_rev (u := tk) ht (Heap.IsSliceOf.new _ _ _ _) ?_ (by rw [List.size_toArray]; omega)
  refine ⟨.ref _, _, I5.laid (t' := s4.toks) (o := .tup xs.reverse) (fun b ob q => Heap.get?_push_of_some _ q) (Nat.le_refl _) ?_, rfl, q _ (I5.hok.fresh (Nat.le_refl _))⟩
  exact ⟨by rw [List.length_reverse]; exact hz, _, r.reverse, IsTup.new _ _⟩
end
theorem RepL.reverse {W : Wd} {m : Mp} {H : Hp} : ∀ {ds : List D} {vs : List V}, RepL W m H ds vs → RepL W m H ds.reverse vs.reverse
  | _, _, .nil => .nil
  | _, _, .cons r t => by
    rw [List.reverse_cons, List.reverse_cons]
    exact (RepL.reverse t).append (.cons r .nil)
def revD (s : St) : D → R D
  | .tup xs => .ok (.tup xs.reverse) s
  | x => match asL s x with
    | some xs => .ok (.lst xs.reverse) s
    | none => .bad
def sRev (f : SE) : SE := fun c e s => (f c e s).bind fun d s1 => revD s1 d
section
variable {W : Wd} {CP : CPt} {Wx : WX} {X : Cx} {cl : Cl} {pos : Pos}
theorem e_rev {e : Expr} {f : SE} {k : Nat} {p1 p2 p3 : Pos} (hK : X.K = W.K) (h : PEi W CP Wx X cl e f) : PEi W CP Wx X cl (.Subscript e (.Slice none none (some (.UnaryOp .USub (.Constant (.int 1) k p1) p2)) p3) pos) (sRev f) := by
  refine pe_imp (pe_or (pe_revT h) (pe_revL h)) fun σ H Q ⟨en, st, m, E, S, F⟩ => ?_
  have F := Fin.bind (r := f cl en st) (Rp := Rep W) (g := fun d s1 => revD s1 d) F
  have lists : ∀ {d : D} {st1 : St}, f cl en st = .ok d st1 → (∀ xs, d ≠ .tup xs) → tRevL X.K (tI W CP Wx (f cl)) σ H Q := fun {d st1} hr hd => ⟨en, st, m, E, S, F.mono fun v H1 ⟨d', st1', m1, e1, s1, S1, r1, F1⟩ => by
    rw [hr] at e1; cases e1
    have F1 : Fin W Wx σ m1 H1 (match asL st1 d with
      | some xs => .ok (.lst xs.reverse) st1
      | none => .bad) (Rep W) Q := by
      cases d with
      | tup xs => exact absurd rfl (hd xs)
      | _ => exact F1
    cases e2 : asL st1 d with
    | none => rw [e2] at F1; exact F1.elim
    | some xs =>
      rw [e2] at F1
      obtain ⟨a, vs, rfl, q, rr⟩ := asL_rep S1 r1 e2
      exact ⟨a, vs, rfl, .of q, fun p hp => F1 _ _ m1 (Stp.put hp) (S1.put hp) (.lst upd_same (S1.fresh hp) (S1.freshx hp) (rr.reverse.stp (.put hp)))⟩⟩
  cases hr : f cl en st with
  | bad => rw [hr] at F; exact F.elim
  | exc c p s =>
    refine .inl ⟨en, st, m, E, S, F.mono fun v H1 ⟨d, st1, m1, e1, _⟩ => ?_⟩
    rw [hr] at e1; cases e1
  | ok d s =>
    cases d with
    | tup xs =>
      refine .inl ⟨en, st, m, E, S, F.mono fun v H1 ⟨d, st1, m1, e1, s1, S1, r1, F1⟩ => ?_⟩
      rw [hr] at e1; cases e1
      obtain ⟨a, vs, rfl, q, rr⟩ := r1.tupE
      exact ⟨a, vs, rfl, hK ▸ q, fun p hp => (show Fin W Wx σ m1 H1 (.ok (.tup xs.reverse) s) (Rep W) Q from F1) _ _ m1 (Stp.put hp) (S1.put hp) (.tup upd_same (S1.fresh hp) (rr.reverse.stp (.put hp)))⟩
    | _ => exact .inr (lists hr (fun xs z => by cases z))

/-! ### items stored -/
def rSetA : TSet := fun o i v H Q => rSetL o i v H Q ∨ ∃ a H4, o = .ref a ∧ DPut H a i v H4 ∧ Q H4
theorem set_any (hu : X.A.units + 1 < cLine) : PSet X rSetA := by
  intro pins s σ H o i v ov iv u Q I ro ri rv h
  rcases h with h | ⟨a, H4, rfl, g, q⟩
  · exact set_list pins s σ H o i v ov iv u Q I ro ri rv h
  · cases ro
    exact d_setItem hu I g ri rv fun s4 I4 => ⟨H4, I4, q⟩
theorem s_sub {o i e : Expr} {fo fi fv : SE} {tpos : Pos} (hK : X.K = W.K) (hu : X.A.units + 1 < cLine) (he : PEi W CP Wx X cl e fv) (ho : PEi W CP Wx X cl o fo) (hi : PEi W CP Wx X cl i fi)
    (hs : swapsWithSole [.Subscript o i tpos] e pos.line X.env = pure false) (hw : swappedStores [.Subscript o i tpos] e X.env = pure none)
    (ha : ∀ v, assign (.Subscript o i tpos) X.env v = (do
      let ov ← holding [v] (eval o X.env)
      let iv ← holding [v, ov] (eval i X.env)
      standAt tpos
      holding [v, ov, iv] (setItem ov iv v)
      release [v, ov, iv] [])) : PSi W CP Wx X cl (.Assign [.Subscript o i tpos] e pos) (xSet fo fi fv) := by
  refine ps_imp (ps_asg he (pg_sub ho hi (set_any hu) ha) hs hw) fun D σ H ⟨en, st, m, E, S, F⟩ => ⟨en, st, m, E, S, (FinS.out E F).mono fun v H1 ⟨d, st1, m1, e1, s1, S1, r1, F1⟩ => ⟨en, st1, m1, E.stp s1, S1, (FinS.out (E.stp s1) F1).mono fun x H2 ⟨dx, st2, m2, e2, s2, S2, r2, F2⟩ =>
    ⟨en, st2, m2, (E.stp s1).stp s2, S2, (FinS.out ((E.stp s1).stp s2) F2).mono fun y H3 ⟨dy, st3, m3, e3, s3, S3, r3, F3⟩ => ?_⟩⟩⟩
  have E3 := ((E.stp s1).stp s2).stp s3
  have rd := (r1.stp s2).stp s3
  have rx := r2.stp s3
  have F3 : FinS W CP Wx D m3 H3 (match setD st3 dx dy d with
    | some s4 => .nx en s4
    | none => .bad) := F3
  cases dx with
  | ref k =>
    obtain ⟨a, rfl, ha⟩ := rx.refE
    have hm := List.mem_of_getElem? ha
    cases hk : st3[k]? with
    | none =>
      have e : setD st3 (.ref k) dy d = none := by simp only [setD, hk]
      rw [e] at F3
      exact F3.elim
    | some ob =>
      cases ob with
      | ins _ _ =>
        have e : setD st3 (.ref k) dy d = none := by simp only [setD, hk]
        rw [e] at F3
        exact F3.elim
      | lst xs =>
        cases dy with
        | int j =>
          cases hj : ixN xs.length j with
          | none =>
            have e : setD st3 (.ref k) (.int j) d = none := by simp only [setD, hk, hj]
            rw [e] at F3
            exact F3.elim
          | some n =>
            have e : setD st3 (.ref k) (.int j) d = some (st3.set k (.lst (xs.set n d))) := by simp only [setD, hk, hj]
            rw [e] at F3
            cases r3
            obtain ⟨us, hv, rr⟩ := (S3.ob k _ a hk ha : RepO W m3 H3 a (.lst xs))
            have hf : ∀ q u, H3 a ≠ some (.frz q u) := fun _ _ z => by rw [hv] at z; cases z
            have t4 : Stp m3 H3 m3 (upd H3 a (.lst (us.set n v))) := Stp.set hm hf
            have rset : ∀ {ds : List Kn.D} {vs : List V} (i : Nat), RepL W m3 H3 ds vs → RepL W m3 H3 (ds.set i d) (vs.set i v) := by
              intro ds vs i h
              induction ds generalizing vs i with
              | nil => cases h; exact .nil
              | cons x ds ih =>
                cases h with
                | cons r t =>
                  cases i with
                  | zero => exact .cons rd t
                  | succ i => exact .cons r (ih i t)
            exact .inl ⟨a, us, j, n, rfl, rfl, hv, by rw [← rr.length]; exact hj, F3 σ _ m3 t4 (E3.stp t4) (S3.set ha hf ⟨us.set n v, upd_same, (rset n rr).stp t4⟩)⟩
        | _ =>
          simp only [setD, hk] at F3
          exact F3.elim
      | dct lk kvs =>
        cases lk with
        | true =>
          have e : setD st3 (.ref k) dy d = none := by simp only [setD, hk]
          rw [e] at F3
          exact F3.elim
        | false =>
          cases hq : kyOf dy with
          | none =>
            have e : setD st3 (.ref k) dy d = none := by simp only [setD, hk, hq]
            rw [e] at F3
            exact F3.elim
          | some q =>
            by_cases hl : kvs.length < line
            · have e : setD st3 (.ref k) dy d = some (st3.set k (.dct false (Kn.putK kvs q d))) := by simp only [setD, hk, hq, if_pos hl]
              rw [e] at F3
              obtain ⟨us, hv, rr⟩ := (S3.ob k _ a hk ha : RepO W m3 H3 a (.dct false kvs))
              obtain ⟨rfl, hko⟩ := kyOf_rep hq r3
              have hf : ∀ q u, H3 a ≠ some (.frz q u) := fun _ _ z => by rw [hv] at z; cases z
              have t4 : Stp m3 H3 m3 (upd H3 a (.dK (L2.putK us (kyV q) v))) := Stp.set hm hf
              exact .inr ⟨a, _, rfl, DPut.k hv (by rw [← rr.length, ← line_eq]; exact hl), F3 σ _ m3 t4 (E3.stp t4) (S3.set ha hf ⟨_, upd_same, (rr.put hko rd).stp t4⟩)⟩
            · have e : setD st3 (.ref k) dy d = none := by simp only [setD, hk, hq, if_neg hl]
              rw [e] at F3
              exact F3.elim
  | _ => exact (show False from F3).elim

/-! ### dict displays -/
def KeyEx (k : Option Expr) (q : Ky) : Prop := match q with
  | .i _ => False
  | .s x => ∃ (s : Str) (j : Nat) (p : Pos), k = some (.Constant (.str s) j p) ∧ strB s = true ∧ x = s.cps.toList
def trsOf (W : Wd) (CP : CPt) (Wx : WX) (cl : Cl) : List (Ky × SE) → List (TE × TE)
  | [] => []
  | (q, f) :: r => (tC (kV (kyV q)), tI W CP Wx (f cl)) :: trsOf W CP Wx cl r
theorem pps_of : ∀ {keys : List (Option Expr)} {es : List Expr} {qs : List Ky} {fs : List SE}, Paired KeyEx keys qs → Paired (fun e f => PEi W CP Wx X cl e f) es fs → keys.length = es.length → PPs X pos keys es (trsOf W CP Wx cl (qs.zip fs))
  | _, _, _, _, .nil, .nil, _ => pps_nil
  | _, _, _, _, .nil, .cons _ _, h => by cases h
  | _, _, _, _, .cons _ _, .nil, h => by cases h
  | _, _, _, _, .cons (a := k) (b := q) hk t, .cons he t2, h => by
    cases q with
    | i n => exact hk.elim
    | s x =>
      obtain ⟨s, j, p, rfl, h1, rfl⟩ := hk
      have e : (⟨s.cps.toList.toArray⟩ : Str) = s := (strB_ok h1).2
      have ek : kV (kyV (.s s.cps.toList)) = .str s := by
        show V.str (⟨s.cps.toList.toArray⟩ : Str) = .str s
        rw [e]
      have pk : PE X (.Constant (.str s) j p) (tC (kV (kyV (.s s.cps.toList)))) := by rw [ek]; exact pe_str
      exact pps_cons pk he (pps_of t t2 (Nat.succ.inj h))
theorem trs_sem {σ : L2.St} {Qf : List (V × V) → Hp → Prop} : ∀ {qs : List Ky} {fs : List SE} {H : Hp}, qs.length = fs.length → tIl W CP Wx (sList fs cl) σ H (fun vs H1 => Qf ((qs.zip vs).map fun p => (kV (kyV p.1), p.2)) H1) → tPairs (trsOf W CP Wx cl (qs.zip fs)) σ H Qf
  | [], [], H, _, ⟨en, st, m, E, S, F⟩ => F [] H m .refl S .nil
  | [], _ :: _, _, h, _ => by cases h
  | _ :: _, [], _, h, _ => by cases h
  | q :: qs, f :: fs, H, h, ⟨en, st, m, E, S, F⟩ => ⟨en, st, m, E, S, (Fin.bind (r := f cl en st) (Rp := Rep W) F).mono fun v H1 ⟨d, st1, m1, e1, s1, S1, r1, F1⟩ => by
    refine trs_sem (qs := qs) (fs := fs) (Qf := fun ps H3 => Qf ((kV (kyV q), v) :: ps) H3) (Nat.succ.inj h) ⟨en, st1, m1, E.stp s1, S1, (Fin.bind (r := sList fs cl en st1) (Rp := RepL W) F1).mono fun vs H2 ⟨ds, st2, m2, e2, s2, S2, r2, F2⟩ => ?_⟩
    exact Fin.ok (d := d :: ds) (v := v :: vs) F2 S2 (RepL.cons (r1.stp s2) r2)⟩
theorem merge_nodup : ∀ (kvs acc : List (Key × V)), ((acc ++ kvs).map (·.1)).Nodup → kvs.foldl (fun acc kv => L2.putK acc kv.1 kv.2) acc = acc ++ kvs
  | [], acc, _ => by simp
  | (k, v) :: kvs, acc, h => by
    rw [List.foldl_cons]
    have hk : (acc.any fun kv => decide (kv.1 = k)) = false := by
      rw [List.any_eq_false]
      rintro ⟨k', v'⟩ hm hc
      have hc : k' = k := of_decide_eq_true hc
      subst hc
      rw [List.map_append, List.nodup_append] at h
      exact h.2.2 k' (List.mem_map.mpr ⟨_, hm, rfl⟩) k' (by simp) rfl
    have e : L2.putK acc k v = acc ++ [(k, v)] := by
      unfold L2.putK
      rw [hk]
      rfl
    show List.foldl _ (L2.putK acc k v) kvs = _
    rw [e, merge_nodup kvs (acc ++ [(k, v)]) (by rw [List.append_assoc]; exact h), List.append_assoc]
    rfl
theorem repk_zip {m : Mp} {H : Hp} : ∀ {qs : List Ky} {ds : List D} {vs : List V}, (∀ q ∈ qs, kyOk q) → RepL W m H ds vs → RepK W m H (qs.zip ds) ((qs.zip vs).map fun p => (kyV p.1, p.2))
  | [], _, _, _, _ => by simpa using RepK.nil
  | q :: qs, _, _, _, .nil => by simpa using RepK.nil
  | q :: qs, _, _, h, .cons r t => RepK.cons (h q List.mem_cons_self) r (repk_zip (fun q hq => h q (List.mem_cons_of_mem _ hq)) t)
theorem e_dict {keys : List (Option Expr)} {es : List Expr} {qs : List Ky} {fs : List SE} (hk : Paired KeyEx keys qs) (he : Paired (fun e f => PEi W CP Wx X cl e f) es fs) (hl : keys.length = es.length) (h0 : keys ≠ []) (h15 : keys.length ≤ 15) (nd : (qs.map kyV).Nodup) : PEi W CP Wx X cl (.Dict keys es pos) (sDict qs fs) := by
  have hall : keys.all (·.isSome) = true := by
    have : ∀ {keys : List (Option Expr)} {qs : List Ky}, Paired KeyEx keys qs → keys.all (·.isSome) = true := by
      intro keys qs h
      induction h with
      | nil => rfl
      | @cons a b as bs h t ih =>
        rw [List.all_cons, ih]
        cases b with
        | i n => exact h.elim
        | s x =>
          obtain ⟨s, j, p, rfl, _⟩ := h
          rfl
    exact this hk
  have hko : ∀ {keys : List (Option Expr)} {qs : List Ky}, Paired KeyEx keys qs → ∀ q ∈ qs, kyOk q := by
    intro keys qs h
    induction h with
    | nil => intro q hq; cases hq
    | @cons a b as bs h t ih =>
      intro q hq
      rcases List.mem_cons.mp hq with z | z
      · subst z
        cases q with
        | i n => exact h.elim
        | s x =>
          obtain ⟨s, j, p, _, h1, rfl⟩ := h
          exact (strB_ok h1).1
      · exact ih q z
  have hq : qs.length = fs.length := by
    have h1 := hk.length
    have h2 := he.length
    omega
  refine pe_imp (pe_disp (pps_of hk he hl) hall hl h0 h15) fun σ H Q ⟨en, st, m, E, S, F⟩ p hp => ?_
  have new : RepO W ⟨m.s ++ [p], m.x⟩ (upd H p (.dK [])) p (.dct false []) := ⟨[], upd_same, .nil⟩
  have t0 : Stp m H ⟨m.s ++ [p], m.x⟩ (upd H p (.dK [])) := Stp.add hp
  refine trs_sem hq ⟨en, st ++ [.dct false []], ⟨m.s ++ [p], m.x⟩, E.stp t0, S.add hp new, (Fin.bind (r := sList fs cl en (st ++ [.dct false []])) (Rp := RepL W) (F.step t0)).mono fun vs H1 ⟨ds, st1, m1, e1, s1, S1, r1, F1⟩ => ?_⟩
  have hix : m1.s[st.length]? = some p := s1.ix (by
    show (m.s ++ [p])[st.length]? = some p
    rw [← S.len, List.getElem?_append_right (Nat.le_refl _), Nat.sub_self]
    rfl)
  have F1 : Fin W Wx σ m1 H1 (match st1[st.length]? with
    | some (.dct false []) => .ok (.ref st.length) (st1.set st.length (.dct false (qs.zip ds)))
    | _ => .bad) (Rep W) Q := F1
  cases hk1 : st1[st.length]? with
  | none => rw [hk1] at F1; exact F1.elim
  | some ob =>
    rw [hk1] at F1
    cases ob with
    | lst _ => exact F1.elim
    | ins _ _ => exact F1.elim
    | dct lk kvs =>
      cases lk with
      | true => exact F1.elim
      | false =>
        cases kvs with
        | cons _ _ => exact F1.elim
        | nil =>
          obtain ⟨us, hv, rr⟩ := (S1.ob _ _ p hk1 hix : RepO W m1 H1 p (.dct false []))
          cases rr
          have hm := List.mem_of_getElem? hix
          have hf : ∀ q u, H1 p ≠ some (.frz q u) := fun _ _ z => by rw [hv] at z; cases z
          refine ⟨hv, (qs.zip vs).map (fun p => (kyV p.1, p.2)), by rw [List.map_map]; rfl, ?_, ?_⟩
          · rw [List.length_map, List.length_zip]
            have h1 := hk.length
            omega
          · have lvs : vs.length = fs.length := by rw [← r1.length, len_list e1]
            have e2 : mergeK [] ((qs.zip vs).map fun p => (kyV p.1, p.2)) = (qs.zip vs).map fun p => (kyV p.1, p.2) := by
              unfold mergeK
              rw [merge_nodup]
              · rfl
              · rw [List.nil_append, List.map_map]
                have e3 : (qs.zip vs).map ((fun x => x.1) ∘ fun p => (kyV p.1, p.2)) = qs.map kyV := by
                  have : ∀ (qs : List Ky) (vs : List V), qs.length = vs.length → (qs.zip vs).map ((fun x : Key × V => x.1) ∘ fun p => (kyV p.1, p.2)) = qs.map kyV := by
                    intro qs
                    induction qs with
                    | nil => intro vs _; rfl
                    | cons q qs ih =>
                      intro vs h
                      cases vs with
                      | nil => cases h
                      | cons v vs =>
                        rw [List.zip_cons_cons, List.map_cons, List.map_cons, ih vs (Nat.succ.inj h)]
                        rfl
                  exact this qs vs (by omega)
                rw [e3]
                exact nd
            rw [e2]
            have t1 : Stp m1 H1 m1 (upd H1 p (.dK ((qs.zip vs).map fun p => (kyV p.1, p.2)))) := Stp.set hm hf
            exact F1 _ _ m1 t1 (S1.set hix hf ⟨_, upd_same, (repk_zip (hko hk) r1).stp t1⟩) (.ref hix)
end
end Kn
set_option Elab.async false
set_option linter.all false
set_option maxHeartbeats 4000000
set_option maxRecDepth 100000
/-! KnC: the text made into functions, soundly. -/
namespace Kn
open PySem PyProof.Rows L2
inductive GE where
  | blt | fn (i np : Nat) | val (d : D)
structure CE where
  gt : List (Str × GE)
  mt : List Str
  dn : List Str
  mr : Bool
def look {α : Type} : List (Str × α) → Str → Option α
  | [], _ => none
  | (y, a) :: r, x => if y = x then some a else look r x
theorem look_mem {α : Type} : ∀ {l : List (Str × α)} {x : Str} {a : α}, look l x = some a → (x, a) ∈ l
  | (y, b) :: r, x, a, h => by
    unfold look at h
    split at h
    · rename_i e
      cases h
      rw [e]
      exact List.mem_cons_self
    · exact List.mem_cons_of_mem _ (look_mem h)
def idx : List Str → Str → Option Nat
  | [], _ => none
  | y :: r, x => if y = x then some 0 else (idx r x).map (· + 1)
theorem idx_ok : ∀ {N : List Str} {x : Str} {i : Nat}, idx N x = some i → N[i]? = some x
  | y :: r, x, i, h => by
    unfold idx at h
    split at h
    · rename_i e
      cases h
      rw [e]
      rfl
    · obtain ⟨j, h1, h2⟩ := Option.map_eq_some_iff.mp h
      subst h2
      simpa using idx_ok h1
def isK (sc : Scope) (x : Str) (k : NameKind) : Bool := decide (sc.names.lookup x = some k)
def visB (sc : Scope) (x : Str) : Bool := isK sc x .local || isK sc x .cell || isK sc x .free
def locB (sc : Scope) (x : Str) : Bool := isK sc x .local || isK sc x .cell
def glB (sc : Scope) (x : Str) : Bool := isK sc x .globalImplicit
def okN (x : Str) : Bool := !(x == ("__debug__" : Str)) && !(x == ("__classdict__" : Str))
theorem okN1 {x : Str} (h : okN x = true) : (x == ("__debug__" : Str)) = false ∧ (x == ("__classdict__" : Str)) = false := by
  unfold okN at h
  rw [Bool.and_eq_true] at h
  exact ⟨by simpa using h.1, by simpa using h.2⟩
theorem visB_ok {sc : Scope} {x : Str} (h : visB sc x = true) : Vis sc x := by
  unfold visB isK at h
  simp only [Bool.or_eq_true, decide_eq_true_eq] at h
  rcases h with (h | h) | h
  · exact .inl h
  · exact .inr (.inl h)
  · exact .inr (.inr h)
theorem locB_ok {sc : Scope} {x : Str} (h : locB sc x = true) : Loc sc x := by
  unfold locB isK at h
  simp only [Bool.or_eq_true, decide_eq_true_eq] at h
  exact h
def boO : Operator → Option Bo
  | .Add => some .add
  | .Sub => some .sub
  | .Mult => some .mul
  | .FloorDiv => some .div
  | .Mod => some .mod
  | .Pow => some .pow
  | _ => none
theorem boO_ok {o : Operator} {b : Bo} (h : boO o = some b) : o = boOp b := by
  cases o <;> cases h <;> rfl
def coO : CmpOp → Option Co
  | .Eq => some .eq
  | .NotEq => some .ne
  | .Lt => some .lt
  | .LtE => some .le
  | .Gt => some .gt
  | .GtE => some .ge
  | .In => some .inn
  | .NotIn => some .nin
  | _ => none
theorem coO_ok {o : CmpOp} {b : Co} (h : coO o = some b) : o = coOp b := by
  cases o <;> cases h <;> rfl
def notSet : Expr → Bool
  | .Set .. => false
  | _ => true
theorem notSet_ok {e : Expr} (h : notSet e = true) : ∀ es k p, e ≠ .Set es k p := fun es k p z => by subst z; cases h
theorem fold_ok {e : Expr} {env : Env} (h : notSet e = true) : ∀ x, foldedSetIterable e env x = pure x := fun x => by cases e <;> first | rfl | cases h
def notSlice : Expr → Bool
  | .Slice .. => false
  | _ => true
theorem notSlice_ok {e : Expr} (h : notSlice e = true) : ∀ l u s p, e ≠ .Slice l u s p := fun l u s p z => by subst z; cases h
def bfO (x : Str) : Option Bf := if x = "len" then some .len else if x = "abs" then some .abs else if x = "int" then some .int else if x = "bool" then some .bool else if x = "tuple" then some .tuple else if x = "list" then some .list
  else if x = "min" then some .min else if x = "max" then some .max else if x = "sum" then some .sum else if x = "all" then some .all else if x = "any" then some .any else if x = "sorted" then some .sorted else none
theorem bfO_ok {x : Str} {b : Bf} (h : bfO x = some b) : x = bfName b ∧ b ≠ .str := by
  unfold bfO at h
  repeat' split at h
  all_goals first | (cases h; rename_i e; exact ⟨e, fun z => by cases z⟩) | cases h
def tyO (x : Str) : Option Ty := if x = "int" then some .int else if x = "bool" then some .bool else if x = "str" then some .str else if x = "tuple" then some .tuple else if x = "list" then some .list else none
theorem tyO_ok {x : Str} {t : Ty} (h : tyO x = some t) : x = Str.ofString (tyName t) ∧ ∀ i, t ≠ .cls i := by
  unfold tyO at h
  repeat' split at h
  all_goals first | (cases h; rename_i e; exact ⟨e, fun i z => by cases z⟩) | cases h

abbrev Rc := Expr → Option SE
def isNoneC : Expr → Bool
  | .Constant .none _ _ => true
  | _ => false
def compB (r : Rc) (gt : List (Str × GE)) (sc : Scope) (x : Str) (es : List Expr) : Option SE :=
  if x = "isinstance" then match es with
    | [a, .Name y _] => if noStar a && glB sc y then match look gt y with
      | some .blt => match tyO y with
        | some t => (r a).map fun f => sIsi f t
        | none => none
      | _ => none
      else none
    | _ => none
  else match bfO x with
    | some b => match es with
      | [] => none
      | _ :: _ => if es.all noStar then (mapO r es).map (sBf b) else none
    | none => none
def compM (r : Rc) (o : Expr) (m : Str) (ap : Pos) (es : List Expr) (pos : Pos) : Option SE := match es with
  | [e] => if noStar e && noSup o && (ap.endLine == pos.line) then match r o, r e with
    | some f, some g => if m = "append" then some (sMt .append f [g]) else if m = "pop" then some (sMt .pop1 f [g]) else if m = "index" then some (sMt .index f [g]) else none
    | _, _ => none
    else none
  | _ => none
def compC (r : Rc) (a : Expr) (ops : List CmpOp) (bs : List Expr) : Option SE := match ops, bs with
  | [o], [b] => match o with
    | .Is => if isNoneC b then (r a).map (sIsN false) else none
    | .IsNot => if isNoneC b then (r a).map (sIsN true) else none
    | o => match coO o with
      | some c => if notSet b then match r a, r b with
        | some f, some g => some (sCmp c f g)
        | _, _ => none
        else none
      | none => none
  | [o, p], [b, d] => match coO o, coO p with
    | some c, some c2 => if notSet d then match r a, r b, r d with
      | some f, some g, some h => some (sCmp2 c c2 f g h)
      | _, _, _ => none
      else none
    | _, _ => none
  | _, _ => none
def compO (r : Rc) : Option Expr → Option (Option SE)
  | none => some none
  | some e => (r e).map some
def isMinus1 : Expr → Bool
  | .UnaryOp .USub (.Constant (.int 1) _ _) _ => true
  | _ => false
def compX (r : Rc) (a b : Expr) : Option SE := match b with
  | .Slice lo hi none _ => match r a, compO r lo, compO r hi with
    | some f, some l, some h => some (sSlice f l h)
    | _, _, _ => none
  | .Slice none none (some s) _ => if isMinus1 s then (r a).map sRev else none
  | .Slice .. => none
  | b => match r a, r b with
    | some f, some g => some (sItem f g)
    | _, _ => none
def keyO : Option Expr → Option Ky
  | some (.Constant (.str s) _ _) => if strB s then some (.s s.cps.toList) else none
  | _ => none
def compD (r : Rc) (ks : List (Option Expr)) (es : List Expr) : Option SE := match ks with
  | [] => match es with
    | [] => some sDict0
    | _ => none
  | _ :: _ => match mapO keyO ks, mapO r es with
    | some qs, some fs => if ks.length = es.length ∧ ks.length ≤ 15 ∧ (qs.map kyV).Nodup then some (sDict qs fs) else none
    | _, _ => none
def inOwn (own : Option (List Nat)) (i : Nat) : Bool := match own with
  | none => true
  | some l => decide (i ∈ l)
def compTg : Nat → Cfg → Option (List Nat) → Expr → Option SG
  | 0, _, _, _ => none
  | k + 1, c, own, e => match e with
    | .Name x _ => match idx c.N x with
      | some i => if locB c.sc x && (c.dfn || isK c.sc x .local) && inOwn own i then some (gNm i) else none
      | none => none
    | .Tuple es _ _ => if es.all noStar then (mapO (compTg k c own) es).map gTp else none
    | _ => none
def isTup : Expr → Bool
  | .Tuple .. => true
  | _ => false
def compI (r : Rc) (gt : List (Str × GE)) (sc : Scope) (tg iter : Expr) : Option SI := match iter with
  | .Call (.Name x p) es [] pos => if decide (x = "range") || decide (x = "enumerate") || decide (x = "zip") then
      if glB sc x then match look gt x with
        | some .blt => match es with
          | [a] => if noStar a then if x = "range" then (r a).map iRange1 else if x = "enumerate" then if isTup tg then (r a).map iEnum else none else none else none
          | [a, b] => if noStar a && noStar b then match r a, r b with
            | some f, some g => if x = "range" then some (iRange2 f g) else if x = "zip" then if isTup tg then some (iZip f g) else none else none
            | _, _ => none
            else none
          | _ => none
        | _ => none
      else none
    else (r iter).map iVal
  | _ => (r iter).map iVal
def ownOf (N : List Str) (sc : Scope) : List (Str × Nat) := sc.names.filterMap fun y => match y.2 with
  | .local => (idx N y.1).map fun i => (y.1, i)
  | .cell => (idx N y.1).map fun i => (y.1, i)
  | _ => none
def compT (r : Rc) : List Expr → Option (Option SE)
  | [] => some none
  | [e] => (r e).map some
  | _ => none
structure LcP where
  own : List Nat
  g : SG
  t : Option SE
  f : SE
def compL (rb : Rc) (c : Cfg) (tg elt : Expr) (ifs : List Expr) (scope : Scope) : Option LcP :=
  if blkC c.N c.sc scope (ownOf c.N scope) then match compTg 8 (c.blk scope) (some ((ownOf c.N scope).map (·.2))) tg, compT rb ifs, rb elt with
    | some g, some t, some f => some ⟨(ownOf c.N scope).map (·.2), g, t, f⟩
    | _, _, _ => none
  else none
def isDn (dn : List Str) : Expr → Bool
  | .Name x _ => decide (x ∈ dn)
  | _ => false
def compE : Nat → CE → Cfg → Expr → Option SE
  | 0, _, _, _ => none
  | k + 1, ce, c, e => match e with
    | .Name x _ => match idx c.N x with
      | some i => if visB c.sc x && okN x then some (sVar i) else none
      | none => match look ce.gt x with
        | some (.val d) => if glB c.sc x && okN x then some (sCst d) else none
        | _ => none
    | .Constant v _ _ => match v with
      | .int i => some (sCst (.int i))
      | .bool b => some (sCst (.bl b))
      | .none => some (sCst .non)
      | .str s => if strB s then some (sCst (.str s.cps.toList)) else none
      | _ => none
    | .Tuple es _ _ => if es.all noStar ∧ es.length ≤ 1000 then (mapO (compE k ce c) es).map sTup else none
    | .List es _ => if es.all noStar ∧ es.length ≤ 1000 then (mapO (compE k ce c) es).map (sLst c.mu) else none
    | .BinOp a o b _ => match boO o, compE k ce c a, compE k ce c b with
      | some p, some f, some g => some (sBin p f g)
      | _, _, _ => none
    | .UnaryOp .USub a _ => (compE k ce c a).map sNeg
    | .UnaryOp .Not a _ => (compE k ce c a).map sNot
    | .BoolOp .And es _ => if es.length ≠ 0 then (mapO (compE k ce c) es).map sAnd else none
    | .BoolOp .Or es _ => if es.length ≠ 0 then (mapO (compE k ce c) es).map sOr else none
    | .Compare a ops bs _ => compC (compE k ce c) a ops bs
    | .IfExp t a b _ => match compE k ce c t, compE k ce c a, compE k ce c b with
      | some f, some g, some h => some (sIf f g h)
      | _, _, _ => none
    | .Subscript a b _ => compX (compE k ce c) a b
    | .Call (.Name x _) es [] _ => if glB c.sc x && okN x then match look ce.gt x with
        | some (.fn i np) => if es.all noStar ∧ es.length = np then (mapO (compE k ce c) es).map (sCallD i) else none
        | some .blt => compB (compE k ce c) ce.gt c.sc x es
        | _ => none
      else none
    | .Call (.Attribute o m ap) es [] pos => compM (compE k ce c) o m ap es pos
    | .Dict ks es _ => compD (compE k ce c) ks es
    | .ListComp elt [⟨tg, iter, ifs, 0⟩] scope _ => if notSet iter then match compL (compE k ce (c.blk scope)) c tg elt ifs scope, compI (compE k ce c) ce.gt c.sc tg iter with
        | some l, some it => if isDn ce.dn iter then (compE k ce c iter).map fun ff => sLcD l.own l.g l.t l.f ff else some (sLc l.own l.g l.t l.f it)
        | _, _ => none
      else none
    | _ => none

/-! ### soundness -/
section
variable {W : Wd} {P : Program} {w : World} {mg : Str → Option Value} {base : Heap} {n : Nat} {cl : Cl}
def GkOk (W : Wd) (P : Program) (w : World) (mg : Str → Option Value) (base : Heap) (n : Nat) (cl : Cl) (gt : List (Str × GE)) : Prop := ∀ x g, (x, g) ∈ gt → match g with
  | .blt => mg x = none
  | .fn i np => ∃ f fd ps, FnS W P w mg base n i (cl.fn i) x f fd ps ∧ ps.length = np
  | .val d => ∃ u v, mg x = some u ∧ RelV v u ∧ ∀ m H, Rep W m H d v
theorem mapO_ok {α β : Type} {f : α → Option β} {p : α → β → Prop} (h : ∀ a b, f a = some b → p a b) : ∀ {xs : List α} {ys : List β}, mapO f xs = some ys → Paired p xs ys := fun {xs ys} e => by
  have z := mapO_some e
  induction z with
  | nil => exact .nil
  | cons e1 t ih =>
    refine .cons (h _ _ e1) (ih ?_)
    have : ∀ {xs : List α} {ys : List β}, Paired (fun a b => f a = some b) xs ys → mapO f xs = some ys := by
      intro xs ys z
      induction z with
      | nil => rfl
      | cons e t ih =>
        unfold mapO
        rw [e]
        simp only [ih]
    exact this t
theorem paired_star {p : Expr → SE → Prop} : ∀ {es : List Expr} {fs : List SE}, es.all noStar = true → Paired p es fs → Paired (fun e f => noStar e = true ∧ p e f) es fs
  | _, _, _, .nil => .nil
  | _, _, h, .cons a t => by
    rw [List.all_cons, Bool.and_eq_true] at h
    exact .cons ⟨h.1, a⟩ (paired_star h.2 t)
variable {CP : CPt} {Wx : WX} {X : Cx} {c : Cfg}
/-- what each piece must be, at a context -/
def RcOk (W : Wd) (CP : CPt) (Wx : WX) (X : Cx) (cl : Cl) (r : Rc) : Prop := ∀ e f, r e = some f → Ex W CP Wx X cl e f
theorem gl_of (G : Good W P w mg base c n Wx X) {x : Str} (h : glB c.sc x = true) : Gl X x := by
  unfold Gl
  show X.env.scope.names.lookup x = some .globalImplicit
  rw [G.sc]
  exact of_decide_eq_true h
theorem mg_of (G : Good W P w mg base c n Wx X) {gt : List (Str × GE)} (K : GkOk W P w mg base n cl gt) {x : Str} (h : look gt x = some .blt) : X.mg x = none := by
  rw [G.hmg]
  exact K x .blt (look_mem h)
theorem units_of (G : Good W P w mg base c n Wx X) : X.A.units + 65 < cLine := by
  have := G.room.un
  omega
theorem isT_plain {e : Expr} {env : Env} (h : match e with
  | .Name .. => True
  | .Constant .. => True
  | .Tuple .. => True
  | .List .. => True
  | .BinOp .. => True
  | .Subscript .. => True
  | .Call .. => True
  | .Dict .. => True
  | .ListComp .. => True
  | _ => False) : ∀ whole, isTrue e env whole = (do let v ← whole; standAt e.pos; holding [v] (truthy v)) := by
  intro whole
  cases e <;> first | rfl | exact h.elim
theorem e_ifT {a b t : Expr} {f g h : SE} {pos : Pos} (hK : X.K = W.K) (ht : PTi W CP Wx X cl t f) (ha : Ex W CP Wx X cl a g) (hb : Ex W CP Wx X cl b h) : Ex W CP Wx X cl (.IfExp t a b pos) (sIf f g h) := by
  refine ⟨e_ife ht ha.1 hb.1, ⟨fun pins s σ H Q I ⟨en, st, m, E, S, F⟩ => ?_⟩⟩
  have F : Fin W Wx σ m H ((sTru f cl en st).bind fun k s1 => (if k then g cl en s1 else h cl en s1).bind fun x s2 => ofO (truD s2 x) s2) bRp Q := by
    rw [← bind_assoc]
    exact F
  refine isTrue_IfExp (thn (ht.run pins s σ H _ I ⟨en, st, m, E, S, Fin.bind F⟩) fun k s1 ⟨H1, I1, k', st1, m1, _, t1, S1, r1, F1⟩ => ?_)
  have r1 : k' = k := r1
  subst r1
  cases k' with
  | true => exact ha.2.run pins s1 σ H1 Q I1 ⟨en, st1, m1, E.stp t1, S1, F1⟩
  | false => exact hb.2.run pins s1 σ H1 Q I1 ⟨en, st1, m1, E.stp t1, S1, F1⟩
theorem compB_ok (G : Good W P w mg base c n Wx X) {gt : List (Str × GE)} (K : GkOk W P w mg base n cl gt) {r : Rc} (R : RcOk W CP Wx X cl r) {x : Str} {es : List Expr} {f : SE} {p pos : Pos}
    (hx : glB c.sc x = true) (hb : look gt x = some .blt) (h : compB r gt c.sc x es = some f) : PEi W CP Wx X cl (.Call (.Name x p) es [] pos) f := by
  unfold compB at h
  split at h
  · rename_i ei
    split at h
    · rename_i a y p2
      split at h
      · rename_i hs
        rw [Bool.and_eq_true] at hs
        split at h
        · rename_i hy
          split at h
          · rename_i t ht
            obtain ⟨g, hg, rfl⟩ := Option.map_eq_some_iff.mp h
            obtain ⟨e1, e2⟩ := tyO_ok ht
            have gi : Gl X "isinstance" := ei ▸ gl_of G hx
            have mi : X.mg "isinstance" = none := ei ▸ mg_of G K hb
            exact e_isi G.hK e2 (R _ _ hg).1 hs.1 gi mi ei e1 (gl_of G hs.2) (mg_of G K hy)
          · cases h
        · cases h
      · cases h
    · cases h
  · split at h
    · rename_i b hbf
      obtain ⟨e1, e2⟩ := bfO_ok hbf
      split at h
      · cases h
      · rename_i e es
        split at h
        · rename_i hs
          obtain ⟨fs, hf, rfl⟩ := Option.map_eq_some_iff.mp h
          exact e_bf (bf_ok G.hK G.calm b e2) e1 (gl_of G hx) (mg_of G K hb) (paired_star hs (mapO_ok (fun e f z => (R e f z).1) hf)) hs
        · cases h
    · cases h
theorem compM_ok (G : Good W P w mg base c n Wx X) {r : Rc} (R : RcOk W CP Wx X cl r) {o : Expr} {m : Str} {ap pos : Pos} {es : List Expr} {f : SE} (h : compM r o m ap es pos = some f) : PEi W CP Wx X cl (.Call (.Attribute o m ap) es [] pos) f := by
  unfold compM at h
  split at h
  · rename_i e
    split at h
    · rename_i hs
      rw [Bool.and_eq_true, Bool.and_eq_true] at hs
      split at h
      · rename_i f1 g1 hf hg
        split at h
        · rename_i e1; cases h; subst e1; exact e_append (R _ _ hf).1 (R _ _ hg).1 hs.1.1 hs.1.2 hs.2
        · split at h
          · rename_i e1; cases h; subst e1; exact e_pop1 (R _ _ hf).1 (R _ _ hg).1 hs.1.1 hs.1.2 hs.2
          · split at h
            · rename_i e1; cases h; subst e1; exact e_index G.hK (R _ _ hf).1 (R _ _ hg).1 hs.1.1 hs.1.2 hs.2
            · cases h
      · cases h
    · cases h
  · cases h
theorem isNoneC_ok {b : Expr} (h : isNoneC b = true) : ∃ j p, b = .Constant .none j p := by
  unfold isNoneC at h
  split at h
  · exact ⟨_, _, rfl⟩
  · cases h
theorem compC_ok (G : Good W P w mg base c n Wx X) {r : Rc} (R : RcOk W CP Wx X cl r) {a : Expr} {ops : List CmpOp} {bs : List Expr} {f : SE} {pos : Pos} (h : compC r a ops bs = some f) : Ex W CP Wx X cl (.Compare a ops bs pos) f := by
  have cok := fun o => co_ok (X := X) G.hK (units_of G) o
  unfold compC at h
  split at h
  · split at h
    · split at h
      · rename_i hb
        obtain ⟨g, hg, rfl⟩ := Option.map_eq_some_iff.mp h
        obtain ⟨j, p, rfl⟩ := isNoneC_ok hb
        exact e_isN false (R _ _ hg).1
      · cases h
    · split at h
      · rename_i hb
        obtain ⟨g, hg, rfl⟩ := Option.map_eq_some_iff.mp h
        obtain ⟨j, p, rfl⟩ := isNoneC_ok hb
        exact e_isN true (R _ _ hg).1
      · cases h
    · split at h
      · rename_i co hco
        have e := coO_ok hco
        subst e
        split at h
        · rename_i hs
          split at h
          · rename_i f1 g1 hf hg
            cases h
            exact e_cmp G.hK (cok co) (R _ _ hf).1 (R _ _ hg).1 (notSet_ok hs)
          · cases h
        · cases h
      · cases h
  · split at h
    · rename_i c1 c2 h1 h2
      have e := coO_ok h1
      subst e
      have e := coO_ok h2
      subst e
      split at h
      · rename_i hs
        split at h
        · rename_i f1 g1 d1 hf hg hd
          cases h
          exact e_cmp2 G.hK (cok c1) (cok c2) (R _ _ hf).1 (R _ _ hg).1 (R _ _ hd).1 (notSet_ok hs)
        · cases h
      · cases h
    · cases h
  · cases h
theorem compO_ok {r : Rc} (R : RcOk W CP Wx X cl r) {o : Option Expr} {q : Option SE} (h : compO r o = some q) : PO X o (tIo W CP Wx (sPart q cl)) := by
  cases o with
  | none => cases h; exact o_none
  | some e =>
    obtain ⟨g, hg, rfl⟩ := Option.map_eq_some_iff.mp h
    exact o_some (R _ _ hg).1
theorem isMinus1_ok {b : Expr} (h : isMinus1 b = true) : ∃ k p q, b = .UnaryOp .USub (.Constant (.int 1) k p) q := by
  unfold isMinus1 at h
  split at h
  · exact ⟨_, _, _, rfl⟩
  · cases h
theorem compX_ok (G : Good W P w mg base c n Wx X) {r : Rc} (R : RcOk W CP Wx X cl r) {a b : Expr} {f : SE} {pos : Pos} (h : compX r a b = some f) : PEi W CP Wx X cl (.Subscript a b pos) f := by
  unfold compX at h
  split at h
  · split at h
    · rename_i f1 l1 h1 hf hl hh
      cases h
      exact e_slice G.hK (R _ _ hf).1 (compO_ok R hl) (compO_ok R hh)
    · cases h
  · split at h
    · rename_i hs
      obtain ⟨g, hg, rfl⟩ := Option.map_eq_some_iff.mp h
      obtain ⟨k, p, q, rfl⟩ := isMinus1_ok hs
      exact e_rev G.hK (R _ _ hg).1
    · cases h
  · cases h
  · rename_i n1 n2 n3
    split at h
    · rename_i f1 g1 hf hg
      cases h
      refine e_item (item_ok G.hK (by have := units_of G; omega)) (R _ _ hf).1 (R _ _ hg).1 (fun l u s p z => ?_)
      exact n3 l u s p z
    · cases h
theorem keyO_ok : ∀ {ks : List (Option Expr)} {qs : List Ky}, mapO keyO ks = some qs → Paired KeyEx ks qs := fun {ks qs} h => mapO_ok (fun a b e => by
  unfold keyO at e
  split at e
  · split at e
    · rename_i hs
      cases e
      exact ⟨_, _, _, rfl, hs, rfl⟩
    · cases e
  · cases e) h
theorem compD_ok (G : Good W P w mg base c n Wx X) {r : Rc} (R : RcOk W CP Wx X cl r) {ks : List (Option Expr)} {es : List Expr} {f : SE} {pos : Pos} (h : compD r ks es = some f) : PEi W CP Wx X cl (.Dict ks es pos) f := by
  unfold compD at h
  split at h
  · split at h
    · cases h; exact e_dict0
    · cases h
  · split at h
    · rename_i qs fs hq hf
      split at h
      · rename_i hc
        cases h
        exact e_dict (keyO_ok hq) (mapO_ok (fun e f z => (R e f z).1) hf) hc.1 (by simp) hc.2.1 hc.2.2
      · cases h
    · cases h
def ZOf (own : Option (List Nat)) : L2.St → L2.St → Prop := match own with
  | none => fun _ _ => True
  | some l => Zw l
theorem zof_ok (own : Option (List Nat)) : ZOk (ZOf own) := by
  cases own with
  | none => exact ⟨fun _ => trivial, fun _ _ _ _ _ => trivial⟩
  | some l => exact zw_ok l
theorem compTg_ok (G : Good W P w mg base c n Wx X) (hf : ∀ x, c.sc.names.lookup x = some .local ∨ X.fn x = true ∨ c.dfn = false) (own : Option (List Nat)) : ∀ (k : Nat) {e : Expr} {g : SG}, compTg k c own e = some g → PG X e (tGs W CP (ZOf own) g) ∧ noStar e = true := by
  intro k
  induction k with
  | zero => intro e g h; cases h
  | succ k ih =>
    intro e g h
    unfold compTg at h
    split at h
    · rename_i x p
      split at h
      · rename_i i hi
        split at h
        · rename_i hc
          cases h
          rw [Bool.and_eq_true, Bool.and_eq_true] at hc
          obtain ⟨⟨h1, h2⟩, h3⟩ := hc
          have hN : X.N[i]? = some x := by rw [G.N]; exact idx_ok hi
          have hnd : X.N.Nodup := by rw [G.N]; exact G.nd
          have hl : Loc X.env.scope x := by rw [G.sc]; exact locB_ok h1
          have hfn : X.fn x = true ∨ X.env.scope.names.lookup x = some .local := by
            rw [G.sc]
            rw [Bool.or_eq_true] at h2
            rcases h2 with h2 | h2
            · rw [G.fn h2]; exact .inl rfl
            · exact .inr (of_decide_eq_true h2)
          refine ⟨g_name (fun σ v => ?_) hnd hN hl hfn, rfl⟩
          cases own with
          | none => trivial
          | some l => exact zw_set (of_decide_eq_true h3) σ v
        · cases h
      · cases h
    · split at h
      · rename_i hs
        obtain ⟨gs, hg, rfl⟩ := Option.map_eq_some_iff.mp h
        refine ⟨g_tup (zof_ok own) G.hK G.calm (mapO_ok (fun e g z => ?_) hg) hs, rfl⟩
        obtain ⟨z1, z2⟩ := ih z
        exact ⟨z2, z1⟩
      · cases h
    · cases h
theorem isTup_ok {b : Expr} (h : isTup b = true) : ∃ es k p, b = .Tuple es k p := by
  unfold isTup at h
  split at h
  · exact ⟨_, _, _, rfl⟩
  · cases h
theorem compI_ok (G : Good W P w mg base c n Wx X) {gt : List (Str × GE)} (K : GkOk W P w mg base n cl gt) {r : Rc} (R : RcOk W CP Wx X cl r) {tg iter : Expr} {it : SI} (h : compI r gt c.sc tg iter = some it) : PIi W CP Wx X cl tg iter it := by
  unfold compI at h
  split at h
  · rename_i x p es pos
    split at h
    · split at h
      · rename_i hx
        have gx := gl_of G hx
        split at h
        · rename_i hb
          have mx := mg_of G K hb
          split at h
          · split at h
            · rename_i ns
              split at h
              · rename_i e1
                subst e1
                obtain ⟨g, hg, rfl⟩ := Option.map_eq_some_iff.mp h
                exact i_range1 rfl gx mx (R _ _ hg).1 ns
              · split at h
                · rename_i e1
                  subst e1
                  split at h
                  · rename_i ht
                    obtain ⟨es, k, p, rfl⟩ := isTup_ok ht
                    obtain ⟨g, hg, rfl⟩ := Option.map_eq_some_iff.mp h
                    exact i_enum G.hK rfl gx mx (R _ _ hg).1 ns
                  · cases h
                · cases h
            · cases h
          · split at h
            · rename_i ns
              rw [Bool.and_eq_true] at ns
              split at h
              · rename_i f1 g1 hf hg
                split at h
                · rename_i e1
                  subst e1
                  cases h
                  exact i_range2 rfl gx mx (R _ _ hf).1 ns.1 (R _ _ hg).1 ns.2
                · split at h
                  · rename_i e1
                    subst e1
                    split at h
                    · rename_i ht
                      obtain ⟨es, k, p, rfl⟩ := isTup_ok ht
                      cases h
                      exact i_zip G.hK rfl gx mx (R _ _ hf).1 ns.1 (R _ _ hg).1 ns.2
                    · cases h
                  · cases h
              · cases h
            · cases h
          · cases h
        · cases h
      · cases h
    · obtain ⟨g, hg, rfl⟩ := Option.map_eq_some_iff.mp h
      exact i_val G.hK (R _ _ hg).1
  · obtain ⟨g, hg, rfl⟩ := Option.map_eq_some_iff.mp h
    exact i_val G.hK (R _ _ hg).1
theorem compL_ok (G : Good W P w mg base c n Wx X) {rb : Rc} {tg elt iter : Expr} {ifs : List Expr} {scope : Scope} {l : LcP} {it : SI} (h : compL rb c tg elt ifs scope = some l) (hI : PIi W CP Wx X cl tg iter it) (hs : notSet iter = true)
    (R : ∀ (s : Shared) (H : Hp) (C : Addr) (cs : List (Str × Addr)) (fp : List Addr), RcOk W CP0 Wx0 (X.blk s H scope (compEnvC scope cs C X.env) fp) cl rb) : l.own = (ownOf c.N scope).map (·.2) ∧ LcOk W CP Wx X cl elt tg iter ifs scope (ownOf c.N scope) l.g l.t l.f it := by
  unfold compL at h
  split at h
  · rename_i hb
    split at h
    · rename_i g t f hg ht hf
      cases h
      refine ⟨rfl, G.calm, by rw [G.N]; exact G.nd, hI, ?_, fun s H C cs fp => ?_, fun s H C cs fp => ?_, fun s H C cs fp => (R s H C cs fp _ _ hf).1, fold_ok hs⟩
      · rw [G.N, G.sc]
        exact blkOk_by hb
      · exact (compTg_ok (G.blk scope s H C cs fp) (fun x => .inr (.inr rfl)) (some _) 8 hg).1
      · unfold compT at ht
        split at ht
        · cases ht; exact rfl
        · obtain ⟨g, hg, rfl⟩ := Option.map_eq_some_iff.mp ht
          exact ⟨_, rfl, (R s H C cs fp _ _ hg).2⟩
        · cases ht
    · cases h
  · cases h
theorem compE_ok : ∀ (k : Nat) {ce : CE} {c : Cfg} {e : Expr} {f : SE}, compE k ce c e = some f → GkOk W P w mg base n cl ce.gt → ∀ {CP : CPt} {Wx : WX} {X : Cx}, Good W P w mg base c n Wx X → Ex W CP Wx X cl e f := by
  intro k
  induction k with
  | zero => intro ce c e f h; cases h
  | succ k ih =>
    intro ce c e f h K CP Wx X G
    have R : RcOk W CP Wx X cl (compE k ce c) := fun e f z => ih z K G
    have mk : ∀ {e : Expr} {f : SE}, (match e with
      | .Name .. => True
      | .Constant .. => True
      | .Tuple .. => True
      | .List .. => True
      | .BinOp .. => True
      | .Subscript .. => True
      | .Call .. => True
      | .Dict .. => True
      | .ListComp .. => True
      | _ => False) → PEi W CP Wx X cl e f → Ex W CP Wx X cl e f := fun hp h => ex_of G.hK h (isT_plain hp)
    unfold compE at h
    split at h
    · -- names
      refine mk trivial ?_
      rename_i x p
      split at h
      · rename_i i hi
        split at h
        · rename_i hc
          cases h
          rw [Bool.and_eq_true] at hc
          obtain ⟨d1, d2⟩ := okN1 hc.2
          exact e_var (by rw [G.N]; exact idx_ok hi) (by rw [G.sc]; exact visB_ok hc.1) d1 d2
        · cases h
      · split at h
        · rename_i d hd
          split at h
          · rename_i hc
            cases h
            rw [Bool.and_eq_true] at hc
            obtain ⟨u, v, h1, h2, h3⟩ := K x _ (look_mem hd)
            exact e_glob (gl_of G hc.1) (by rw [G.hmg]; exact h1) h2 h3 (okN1 hc.2).1
          · cases h
        · cases h
    · -- constants
      refine mk trivial ?_
      split at h
      · cases h; exact e_int
      · cases h; exact e_bl
      · cases h; exact e_non
      · split at h
        · rename_i hs; cases h; exact e_str hs
        · cases h
      · cases h
    · -- tuples
      refine mk trivial ?_
      split at h
      · rename_i hc
        obtain ⟨fs, hf, rfl⟩ := Option.map_eq_some_iff.mp h
        have hp := paired_star hc.1 (mapO_ok (fun e f z => (R e f z).1) hf)
        exact e_tup (pa_list hp) hc.2 hp
      · cases h
    · -- lists
      refine mk trivial ?_
      split at h
      · rename_i hc
        obtain ⟨fs, hf, rfl⟩ := Option.map_eq_some_iff.mp h
        have hp := paired_star hc.1 (mapO_ok (fun e f z => (R e f z).1) hf)
        exact e_lst (pa_list hp) hc.2 hp
      · cases h
    · -- operators
      refine mk trivial ?_
      split at h
      · rename_i q f1 g1 hq hf hg
        cases h
        have e := boO_ok hq
        subst e
        exact e_bin (bo_ok G.hK q) (R _ _ hf).1 (R _ _ hg).1
      · cases h
    · obtain ⟨g, hg, rfl⟩ := Option.map_eq_some_iff.mp h
      refine ex_of G.hK (e_neg (R _ _ hg).1) fun _ => rfl
    · obtain ⟨g, hg, rfl⟩ := Option.map_eq_some_iff.mp h
      exact e_not G.hK (R _ _ hg)
    · split at h
      · rename_i hc
        obtain ⟨fs, hf, rfl⟩ := Option.map_eq_some_iff.mp h
        obtain ⟨z1, z2⟩ := e_and (pos := ‹Pos›) G.hK (by intro z; subst z; exact hc rfl) (mapO_ok (fun e f z => R e f z) hf)
        exact ⟨z1, z2.pt⟩
      · cases h
    · split at h
      · rename_i hc
        obtain ⟨fs, hf, rfl⟩ := Option.map_eq_some_iff.mp h
        obtain ⟨z1, z2⟩ := e_or (pos := ‹Pos›) G.hK (by intro z; subst z; exact hc rfl) (mapO_ok (fun e f z => R e f z) hf)
        exact ⟨z1, z2.pt⟩
      · cases h
    · exact compC_ok G R h
    · split at h
      · rename_i f1 g1 h1 hf hg hh
        cases h
        exact e_ifT G.hK (R _ _ hf).2 (R _ _ hg) (R _ _ hh)
      · cases h
    · exact mk trivial (compX_ok G R h)
    · refine mk trivial ?_
      rename_i x p es pos
      split at h
      · rename_i hc
        rw [Bool.and_eq_true] at hc
        split at h
        · rename_i i np hi
          split at h
          · rename_i hn
            obtain ⟨fs, hf, rfl⟩ := Option.map_eq_some_iff.mp h
            obtain ⟨fa, fd, ps, h1, h2⟩ := K x _ (look_mem hi)
            have hp := mapO_ok (fun e f z => (R e f z).1) hf
            exact e_call G h1 (gl_of G hc.1) (paired_star hn.1 hp) hn.1 (by rw [← hp.length, hn.2, h2]) (okN1 hc.2).1
          · cases h
        · rename_i hb
          exact compB_ok G K R hc.1 hb h
        · cases h
      · cases h
    · exact mk trivial (compM_ok G R h)
    · exact mk trivial (compD_ok G R h)
    · refine mk trivial ?_
      rename_i elt tg iter ifs scope pos
      split at h
      · rename_i hs
        split at h
        · rename_i l it hl hi
          have Rb : ∀ (s : Shared) (H : Hp) (C : Addr) (cs : List (Str × Addr)) (fp : List Addr), RcOk W CP0 Wx0 (X.blk s H scope (compEnvC scope cs C X.env) fp) cl (compE k ce (c.blk scope)) := fun s H C cs fp e f z => ih z K (G.blk scope s H C cs fp)
          split at h
          · obtain ⟨ff, hf, rfl⟩ := Option.map_eq_some_iff.mp h
            obtain ⟨z1, z2⟩ := compL_ok G hl (i_val G.hK (R _ _ hf).1) hs Rb
            rw [z1]
            exact e_lcD z2
          · cases h
            obtain ⟨z1, z2⟩ := compL_ok G hl (compI_ok G K R hi) hs Rb
            rw [z1]
            exact e_lc z2
        · cases h
      · cases h
    · cases h
end
end Kn
set_option Elab.async false
set_option linter.all false
set_option maxHeartbeats 4000000
set_option maxRecDepth 100000
/-! KnS: statements made into functions, soundly; defs; tables of defs. -/
namespace Kn
open PySem PyProof.Rows L2
def notComp : Expr → Bool
  | .ListComp .. => false
  | .SetComp .. => false
  | .DictComp .. => false
  | _ => true
theorem sw_plain {e : Expr} {t : Option Expr} {l : Nat} {env : Env} (h : notComp e = true) : swapsWith e t l env = pure false := by
  cases e <;> first | rfl | cases h
theorem sw_tup {e : Expr} {ts : List Expr} {k : Nat} {p : Pos} {l : Nat} {env : Env} : swapsWithSole [.Tuple ts k p] e l env = pure false := by
  show swapsWith e (some (.Tuple ts k p)) l env = pure false
  cases e <;> rfl
theorem sw_sub {e o i : Expr} {p : Pos} {l : Nat} {env : Env} : swapsWithSole [.Subscript o i p] e l env = pure false := by
  show swapsWith e (some (.Subscript o i p)) l env = pure false
  cases e <;> rfl
theorem asg_sub {o i : Expr} {p : Pos} {env : Env} (h : notSlice i = true) : ∀ v, assign (.Subscript o i p) env v = (do
      let ov ← holding [v] (eval o env)
      let iv ← holding [v, ov] (eval i env)
      standAt p
      holding [v, ov, iv] (setItem ov iv v)
      release [v, ov, iv] []) := fun v => by
  cases i <;> first | rfl | cases h
def isList : Expr → Bool
  | .List .. => true
  | _ => false
def blkF (sc : Scope) : Bool := match sc.kind with
  | .function => true
  | _ => false
theorem blkF_ok {sc : Scope} (h : blkF sc = true) : sc.kind = .function := by
  unfold blkF at h
  split at h
  · assumption
  · cases h
theorem blk_env {env : Env} (h : env.scope.kind = .function) : env.blockKind = .function := by
  unfold Env.blockKind
  rw [h]
  rfl
/-- the stores of a, b = x, y: in one sweep, from the right? -/
def swD (sc : Scope) (ts vs : List Expr) : Option (Option (List Str)) :=
  if !(ts.length == 2 || ts.length == 3) || vs.length != ts.length then some none
  else if vs.any (fun | .Starred .. => true | _ => false) then some none
  else
    let line := (ts.head?.map (·.pos.line)).getD 0
    let names := ts.filterMap fun
      | .Name id pos => if sc.names.lookup id == some .local && pos.line == line then some id else none
      | _ => none
    if names.length != ts.length || names.eraseDups.length != names.length then some none
    else if vs.all (foldedForSure 8) then some none
    else if vs.all (constantsAlone 8) then none
    else some (some names)
theorem swD_ok {ts vs : List Expr} {k k2 : Nat} {p p2 : Pos} {env : Env} {r : Option (List Str)} (hk : env.scope.kind = .function) (h : swD env.scope ts vs = some r) : swappedStores [.Tuple ts k p] (.Tuple vs k2 p2) env = pure r := by
  have hb := blk_env hk
  unfold swD at h
  unfold swappedStores
  simp only [hb]
  by_cases c1 : (!(ts.length == 2 || ts.length == 3) || vs.length != ts.length) = true
  · rw [if_pos c1] at h
    cases h
    have : (!(ts.length == 2 || ts.length == 3) || vs.length != ts.length || (ScopeKind.function != ScopeKind.function)) = true := by rw [c1]; rfl
    rw [if_pos this]
  · rw [if_neg c1] at h
    have : ¬ (!(ts.length == 2 || ts.length == 3) || vs.length != ts.length || (ScopeKind.function != ScopeKind.function)) = true := by
      intro z
      rw [Bool.or_eq_true] at z
      rcases z with z | z
      · exact c1 z
      · cases z
    rw [if_neg this]
    split at h
    · rename_i c2
      cases h
      exact if_pos c2
    · rename_i c2
      refine (if_neg c2).trans ?_
      simp only [] at h
      split at h
      · rename_i c3
        cases h
        exact if_pos c3
      · rename_i c3
        split at h
        · rename_i c4
          cases h
          exact (if_neg c3).trans (if_pos c4)
        · rename_i c4
          split at h
          · cases h
          · rename_i c5
            cases h
            exact (if_neg c3).trans ((if_neg c4).trans (if_neg c5))
def isTupE : Expr → Bool
  | .Tuple .. => true
  | _ => false
theorem sw_none {ts : List Expr} {k : Nat} {p : Pos} {e : Expr} {env : Env} (h : isTupE e = false) : swappedStores [.Tuple ts k p] e env = pure none := by
  cases e <;> first | rfl | cases h
def ownClash (scope : Scope) (y : Str) : Bool := scope.names.any fun (n, k) => n == y && (k == .local || k == .cell)
def Cfg.m (c : Cfg) (b : Bool) : Cfg := ⟨c.N, c.sc, c.dfn, b⟩
/-- one place stored -/
def compA (r : Bool → Rc) (rb : Scope → Rc) (ce : CE) (c : Cfg) (tg e : Expr) (pos : Pos) : Option SS := match tg with
  | .Name x p => match idx c.N x with
    | some i => if locB c.sc x && (c.dfn || isK c.sc x .local) then
        if notComp e then (r (isList e && decide (x ∈ ce.mt)) e).map (xAsg (gNm i))
        else match e with
          | .ListComp elt [⟨tg2, iter, ifs, 0⟩] scope lp =>
            if p.line == lp.line then
              if isK c.sc x .local && !ownClash scope x && blkF c.sc && notSet iter && !isDn ce.dn iter then match compL (rb scope) c tg2 elt ifs scope, compI (r false) ce.gt c.sc tg2 iter with
                | some l, some it => some (xAsg (gNm i) (sLc l.own l.g l.t l.f it))
                | _, _ => none
              else none
            else (r false e).map (xAsg (gNm i))
          | _ => none
      else none
    | none => none
  | .Tuple ts k p => match e with
    | .Tuple vs _ _ => if blkF c.sc then match swD c.sc ts vs with
      | some none => match compTg 8 c none tg, r false e with
        | some g, some f => some (xAsg g f)
        | _, _ => none
      | some (some ns) => match ts, vs with
        | [.Name x _, .Name y _], [a, b] => match idx c.N x, idx c.N y with
          | some i, some j => if decide (ns = [x, y]) && isK c.sc x .local && isK c.sc y .local && noStar a && noStar b && decide (i ≠ j) then match r (isList a && decide (x ∈ ce.mt)) a, r (isList b && decide (y ∈ ce.mt)) b with
            | some f, some g => some (xPar i j f g)
            | _, _ => none
            else none
          | _, _ => none
        | _, _ => none
      | none => none
      else none
    | _ => match compTg 8 c none tg, r false e with
      | some g, some f => if isTupE e then none else some (xAsg g f)
      | _, _ => none
  | .Subscript o i _ => match r false o, r false i, r false e with
    | some fo, some fi, some fv => if notSlice i then some (xSet fo fi fv) else none
    | _, _, _ => none
  | _ => none
def compS : Nat → CE → Cfg → Stmt → Option SS
  | 0, _, _, _ => none
  | k + 1, ce, c, s => match s with
    | .Expr e _ => if notComp e then (compE 24 ce (c.m false) e).map xExpr else none
    | .Return (some e) _ => (compE 24 ce (c.m (isList e && ce.mr)) e).map xRet
    | .Return none _ => some (xRet (sCst .non))
    | .Pass _ => some xPass
    | .Break _ => some fun _ e s => .bk e s
    | .Continue _ => some fun _ e s => .ct e s
    | .Raise .. => some xNever
    | .If t a b _ => match compE 24 ce (c.m false) t, mapO (compS k ce c) a, mapO (compS k ce c) b with
      | some f, some x, some y => some (xIf f (xSeq x) (xSeq y))
      | _, _, _ => none
    | .While t a [] _ => match compE 24 ce (c.m false) t, mapO (compS k ce c) a with
      | some f, some x => if c.dfn then some (xWhile f (xSeq x)) else none
      | _, _ => none
    | .For tg iter a [] _ => match compTg 8 c none tg, compI (compE 24 ce (c.m false)) ce.gt c.sc tg iter, mapO (compS k ce c) a with
      | some g, some it, some x => if c.dfn && notSet iter then some (xFor g it (xSeq x)) else none
      | _, _, _ => none
    | .Assign [tg] e pos => compA (fun b => compE 24 ce (c.m b)) (fun scope => compE 24 ce ((c.m false).blk scope)) ce c tg e pos
    | _ => none
section
variable {W : Wd} {P : Program} {w : World} {mg : Str → Option Value} {base : Heap} {n : Nat} {cl : Cl} {CP : CPt} {Wx : WX} {X : Cx} {c : Cfg}
theorem Good.m (G : Good W P w mg base c n Wx X) (b : Bool) : Good W P w mg base (c.m b) n Wx X := ⟨G.hK, G.hmg, G.hP, G.hw, G.hb, G.room, G.sc, G.N, G.nd, G.calm, G.tk, G.fn, G.po⟩
theorem slot_of (G : Good W P w mg base c n Wx X) {x : Str} {i : Nat} (hi : idx c.N x = some i) (h : (locB c.sc x && (c.dfn || isK c.sc x .local)) = true) : X.N[i]? = some x ∧ X.N.Nodup ∧ Loc X.env.scope x ∧ (X.fn x = true ∨ X.env.scope.names.lookup x = some .local) := by
  rw [Bool.and_eq_true, Bool.or_eq_true] at h
  refine ⟨by rw [G.N]; exact idx_ok hi, by rw [G.N]; exact G.nd, by rw [G.sc]; exact locB_ok h.1, ?_⟩
  rw [G.sc]
  rcases h.2 with h2 | h2
  · rw [G.fn h2]; exact .inl rfl
  · exact .inr (of_decide_eq_true h2)
theorem compA_ok (G : Good W P w mg base c n Wx X) {ce : CE} (K : GkOk W P w mg base n cl ce.gt) {r : Bool → Rc} {rb : Scope → Rc} (R : ∀ b, RcOk W CP Wx X cl (r b))
    (Rb : ∀ (scope : Scope) (s : Shared) (H : Hp) (C : Addr) (cs : List (Str × Addr)) (fp : List Addr), RcOk W CP0 Wx0 (X.blk s H scope (compEnvC scope cs C X.env) fp) cl (rb scope)) {tg e : Expr} {pos : Pos} {f : SS} (h : compA r rb ce c tg e pos = some f) : PSi W CP Wx X cl (.Assign [tg] e pos) f := by
  unfold compA at h
  split at h
  · rename_i x p
    split at h
    · rename_i i hi
      split at h
      · rename_i hc
        obtain ⟨h1, h2, h3, h4⟩ := slot_of G hi hc
        split at h
        · rename_i hn
          obtain ⟨g, hg, rfl⟩ := Option.map_eq_some_iff.mp h
          exact s_set h2 h1 h3 h4 (R _ _ _ hg).1 (sw_plain hn)
        · split at h
          · rename_i elt tg2 iter ifs scope lp hnc
            split at h
            · rename_i hl
              split at h
              · rename_i hc2
                simp only [Bool.and_eq_true, Bool.not_eq_true'] at hc2
                obtain ⟨⟨⟨⟨k1, k2⟩, k3⟩, k4⟩, k5⟩ := hc2
                split at h
                · rename_i l it hl1 hit
                  cases h
                  have hI := compI_ok G K (R false) hit
                  obtain ⟨z1, z2⟩ := compL_ok G hl1 hI k4 (Rb scope)
                  rw [z1]
                  have ky : X.env.scope.names.lookup x = some .local := by rw [G.sc]; exact of_decide_eq_true k1
                  exact s_setLc z2 h1 ky (sw_true (by rw [G.sc]; exact blkF_ok k3) ky hl k2)
                · cases h
              · cases h
            · rename_i hl
              obtain ⟨g, hg, rfl⟩ := Option.map_eq_some_iff.mp h
              refine s_set h2 h1 h3 h4 (R _ _ _ hg).1 ?_
              have e : (p.line == lp.line) = false := by simpa using hl
              show (pure (X.env.blockKind == .function && X.env.kindOf x == some .local && p.line == lp.line && !(scope.names.any fun (n, k) => n == x && (k == .local || k == .cell))) : Sem Bool) = pure false
              rw [e, Bool.and_false, Bool.false_and]
          · cases h
      · cases h
    · cases h
  · rename_i ts k p
    split at h
    · rename_i vs k2 p2
      split at h
      · rename_i hb
        have hk : X.env.scope.kind = .function := by rw [G.sc]; exact blkF_ok hb
        split at h
        · rename_i hs
          split at h
          · rename_i g f1 hg hf
            cases h
            exact s_asg (R _ _ _ hf).1 (compTg_ok G (fun x => .inr (by cases hd : c.dfn with | true => left; rw [G.fn hd] | false => right; rfl)) none 8 hg).1 sw_tup (swD_ok hk (by rw [G.sc]; exact hs)) rfl
          · cases h
        · rename_i ns hs
          split at h
          · rename_i x px y py a b
            split at h
            · rename_i i j hi hj
              split at h
              · rename_i hc
                simp only [Bool.and_eq_true, decide_eq_true_eq] at hc
                obtain ⟨⟨⟨⟨⟨k1, k2⟩, k3⟩, k4⟩, k5⟩, k6⟩ := hc
                subst k1
                split at h
                · rename_i f1 g1 hf hg
                  cases h
                  exact s_par G.calm (by rw [G.N]; exact G.nd) (by rw [G.N]; exact idx_ok hi) (by rw [G.N]; exact idx_ok hj) k6 (by rw [G.sc]; exact of_decide_eq_true k2) (by rw [G.sc]; exact of_decide_eq_true k3) (R _ _ _ hf).1 (R _ _ _ hg).1 k4 k5
                    (swD_ok hk (by rw [G.sc]; exact hs)) sw_tup
                · cases h
              · cases h
            · cases h
          · cases h
        · cases h
      · cases h
    · split at h
      · rename_i g f1 hg hf
        split at h
        · cases h
        · rename_i ht
          cases h
          exact s_asg (R _ _ _ hf).1 (compTg_ok G (fun x => .inr (by cases hd : c.dfn with | true => left; rw [G.fn hd] | false => right; rfl)) none 8 hg).1 sw_tup (sw_none (by simpa using ht)) rfl
      · cases h
  · split at h
    · rename_i fo fi fv ho hi hv
      split at h
      · rename_i hs
        cases h
        exact s_sub G.hK (by have := units_of G; omega) (R _ _ _ hv).1 (R _ _ _ ho).1 (R _ _ _ hi).1 sw_sub rfl (asg_sub hs)
      · cases h
    · cases h
  · cases h
theorem compS_ok : ∀ (k : Nat) {ce : CE} {c : Cfg} {s : Stmt} {f : SS}, compS k ce c s = some f → GkOk W P w mg base n cl ce.gt → ∀ {CP : CPt} {Wx : WX} {X : Cx}, Good W P w mg base c n Wx X → PSi W CP Wx X cl s f := by
  intro k
  induction k with
  | zero => intro ce c s f h; cases h
  | succ k ih =>
    intro ce c s f h K CP Wx X G
    have R : ∀ b, RcOk W CP Wx X cl (compE 24 ce (c.m b)) := fun b e f z => compE_ok 24 z K (G.m b)
    have SS' : ∀ {ss : List Stmt} {xs : List SS}, mapO (compS k ce c) ss = some xs → PSsi W CP Wx X cl ss (xSeq xs) := fun z => s_seq (mapO_ok (fun s f z => ih z K G) z)
    unfold compS at h
    split at h
    · split at h
      · rename_i hn
        obtain ⟨g, hg, rfl⟩ := Option.map_eq_some_iff.mp h
        exact s_expr (R _ _ _ hg).1 (sw_plain hn)
      · cases h
    · obtain ⟨g, hg, rfl⟩ := Option.map_eq_some_iff.mp h
      exact s_ret (R _ _ _ hg).1
    · cases h; exact s_retN
    · cases h; exact s_pass
    · cases h; exact s_break
    · cases h; exact s_cont
    · cases h; exact s_never
    · split at h
      · rename_i f1 x y hf hx hy
        cases h
        exact s_if (R _ _ _ hf).2 (SS' hx) (SS' hy)
      · cases h
    · split at h
      · rename_i f1 x hf hx
        split at h
        · rename_i hd
          cases h
          exact s_while (G.po hd) (R _ _ _ hf).2 (SS' hx)
        · cases h
      · cases h
    · split at h
      · rename_i g it x hg hi hx
        split at h
        · rename_i hd
          rw [Bool.and_eq_true] at hd
          cases h
          exact s_for (G.po hd.1) G.calm (compI_ok G K (R false) hi) (compTg_ok G (fun x => .inr (.inl (by rw [G.fn hd.1]))) none 8 hg).1 (SS' hx) (fold_ok hd.2)
        · cases h
      · cases h
    · exact compA_ok G K R (fun scope s H C cs fp e f z => compE_ok 24 z K ((G.m false).blk scope s H C cs fp)) h
    · cases h
end
end Kn
set_option Elab.async false
set_option linter.all false
set_option maxHeartbeats 4000000
set_option maxRecDepth 100000
/-! KnT: tables of defs; a law's end. -/
namespace Kn
open PySem PyProof.Rows L2
structure Ent where
  i : Nat
  x : Str
  st : Stmt
  N : List Str
  ps : List Str
  ce : CE
/-- an entry's body as functions -/
def Ent.fd (e : Ent) : Option FD := (mapO (compS 24 e.ce ⟨e.N, defScope e.st, true, false⟩) (defBody e.st)).map fun xs => ⟨e.ps.length, e.N.length, xSeq xs⟩
def fnScopeB (N ps : List Str) (sc : Scope) : Bool := blkF sc && !sc.isCoroutine && !sc.isGenerator && decide N.Nodup && decide (N.take ps.length = ps) && (ps.all fun x => locB sc x) && sc.names.all fun y => !(decide (y.2 = .free))
theorem fnScopeB_ok {N ps : List Str} {sc : Scope} (h : fnScopeB N ps sc = true) : FnScope N ps sc := by
  unfold fnScopeB at h
  simp only [Bool.and_eq_true, Bool.not_eq_true', List.all_eq_true, decide_eq_true_eq, decide_eq_false_iff_not] at h
  obtain ⟨⟨⟨⟨⟨⟨h1, h2⟩, h3⟩, h4⟩, h5⟩, h6⟩, h7⟩ := h
  exact ⟨blkF_ok h1, h2, h3, h4, h5, fun x hx => locB_ok (h6 x hx), fun y hy => h7 y hy⟩
structure EntOk (W : Wd) (mg : Str → Option Value) (T : Nat → Option FD) (e : Ent) (f : Addr) (fd : FuncData) : Prop where
  fn : L2.Fun W.K e.x e.x e.st f fd
  bi : Binds W.K fd e.ps []
  gl : mg e.x = some (.ref f)
  sc : fnScopeB e.N e.ps (defScope e.st) = true
  ne : e.fd ≠ none
  tb : e.fd = T e.i
def GtOk (W : Wd) (mg : Str → Option Value) (es : List Ent) (gt : List (Str × GE)) : Prop := ∀ x g, (x, g) ∈ gt → match g with
  | .blt => mg x = none
  | .fn i np => ∃ e ∈ es, e.i = i ∧ e.x = x ∧ e.ps.length = np
  | .val d => ∃ u v, mg x = some u ∧ RelV v u ∧ ∀ m H, Rep W m H d v
section
variable {W : Wd} {P : Program} {w : World} {mg : Str → Option Value} {base : Heap} {T : Nat → Option FD} {es : List Ent} {fuel : Nat}
theorem rel_start {m : Mp} {H : Hp} {N : List Str} : ∀ {as : List Ag} {vs : List V}, RepAL W CP0 m H as vs → RelE W CP0 m (as.map some ++ List.replicate (N.length - as.length) none) (L2.start N vs) H := by
  intro as vs r
  unfold L2.start
  rw [r.length]
  refine ⟨?_, ?_⟩
  · simp [r.length]
  · generalize N.length - vs.length = j
    induction r with
    | nil =>
      intro i a h
      have h : (List.replicate j (none : Option Ag))[i]? = some (some a) := h
      rw [List.getElem?_replicate] at h
      split at h <;> cases h
    | @cons d ds v vs r t ih =>
      intro i a h
      cases i with
      | zero =>
        have h : some (some d) = some (some a) := h
        cases h
        exact ⟨v, rfl, r⟩
      | succ i => exact ih i a h
theorem tab_ok {fA : Ent → Addr} {fD : Ent → FuncData} (hE : ∀ e ∈ es, EntOk W mg T e (fA e) (fD e)) (hG : ∀ e ∈ es, GtOk W mg es e.ce.gt) : ∀ (n : Nat), ∀ e ∈ es, FnS W P w mg base n e.i (run T fuel n e.i) e.x (fA e) (fD e) e.ps := by
  intro n
  induction n with
  | zero =>
    intro e he
    have h := hE e he
    have no : ∀ vs H Q E, ¬ spOf W CP0 (run T fuel 0 e.i) e.ps.length vs H Q E := fun vs H Q E ⟨as, m, st, _, _, _, z⟩ => z
    exact ⟨⟨fun vs H Q E h => absurd h (no vs H Q E), fun _ _ _ _ _ _ _ _ _ _ _ _ _ h => absurd h (no _ _ _ _)⟩, h.gl, h.fn.kp, h.bi⟩
  | succ k ih =>
    intro e he
    have h := hE e he
    refine ⟨?_, h.gl, h.fn.kp, h.bi⟩
    have S := fnScopeB_ok h.sc
    obtain ⟨F, hF⟩ := Option.ne_none_iff_exists'.mp h.ne
    have hT : T e.i = some F := by rw [← h.tb, hF]
    unfold Ent.fd at hF
    obtain ⟨xs, hx, rfl⟩ := Option.map_eq_some_iff.mp hF
    have K : GkOk W P w mg base k ⟨fuel, run T fuel k, fun _ _ _ _ => .bad⟩ e.ce.gt := fun x g hm => by
      have z := hG e he x g hm
      cases g with
      | blt => exact z
      | val d => exact z
      | fn i np =>
        obtain ⟨e', he', rfl, rfl, rfl⟩ := z
        exact ⟨fA e', fD e', e'.ps, ih e' he', rfl⟩
    refine h.fn.okX S (fun vs H Q E ⟨as, m, st, h1, h2, _⟩ => by rw [← h2.length, h1]) (fun cdv A outer s H vs Q E hr ⟨as, m, st, h1, h2, h3, h4⟩ => ?_)
    have G : Good W P w mg base ⟨e.N, defScope e.st, true, false⟩ k (fun cls dd _ H => E cls dd H) (cxOf (L2.CX P w) P w W.K mg base e.N e.x (defScope e.st) (fA e) cdv A outer s H E) :=
      ⟨rfl, rfl, rfl, rfl, rfl, hr, rfl, rfl, S.nd, rfl, takes_of rfl rfl rfl rfl, fun _ => rfl, fun _ => passes_of rfl⟩
    refine ⟨_, s_seq (CP := CP0) (mapO_ok (fun s f z => compS_ok 24 z K G) hx), _, st, m, rel_start h2, h3, ?_⟩
    have h4 : Fin W (fun cls dd _ H => E cls dd H) [] m H (run T fuel (k + 1) e.i as st) (Rep W) Q := h4
    have e1 : run T fuel (k + 1) e.i as st = runFD ⟨e.ps.length, e.N.length, xSeq xs⟩ ⟨fuel, run T fuel k, fun _ _ _ _ => .bad⟩ as st := by
      show (match T e.i with
        | some fd => runFD fd ⟨fuel, run T fuel k, fun _ _ _ _ => .bad⟩ as st
        | none => .bad) = _
      rw [hT]
    rw [e1] at h4
    unfold runFD at h4
    rw [if_pos h1] at h4
    have h4 : Fin W (fun cls dd _ H => E cls dd H) [] m H (match xSeq xs ⟨fuel, run T fuel k, fun _ _ _ _ => .bad⟩ (as.map some ++ List.replicate (e.N.length - as.length) none) st with
      | .nx _ s1 => .ok .non s1
      | .rt d s1 => .ok d s1
      | .exc c p _ s1 => .exc c p s1
      | _ => .bad) (Rep W) Q := h4
    generalize xSeq xs ⟨fuel, run T fuel k, fun _ _ _ _ => .bad⟩ (as.map some ++ List.replicate (e.N.length - as.length) none) st = r at h4 ⊢
    cases r with
    | nx e s1 => exact fun σ' H' m' a b c => h4 _ H' m' a c .non
    | rt d s1 => exact fun v H' m' a b c => h4 v H' m' a b c
    | bk e s1 => exact h4.elim
    | ct e s1 => exact h4.elim
    | exc c p e s1 => exact fun cls dd σ' H' m' a b c d => h4 cls dd H' m' a c d
    | bad => exact h4.elim
/-- the law itself -/
def spEnd (K : PySem.W.Frag) : Sp := fun vs H Q _ => ∃ (a : Addr) (ns : List Int), vs = [.ref a] ∧ SqL K H a (ns.map V.int) ∧ ns.length ≤ 63 ∧ ∀ H', Q (.bl true) H'
theorem repI {m : Mp} {H : Hp} : ∀ ns : List Int, RepL W m H (ns.map .int) (ns.map V.int)
  | [] => .nil
  | n :: ns => .cons (.int n) (repI ns)
theorem law_end {k i : Nat} {x : Str} {f : Addr} {fd : FuncData} {p : Str} (F : FnS W P w mg base k i (run T fuel k i) x f fd [p]) (hm : ∀ ns : List Int, ns.length ≤ 63 → ∃ st, run T fuel k i [.dat (.ro (ns.map .int))] [] = .ok (.bl true) st) :
    FnOk P w W.K mg base (L2.CX P w) k f fd [p] (spEnd W.K) := by
  refine F.ok.imp fun vs H Q E ⟨a, ns, e, hS, hl, q⟩ => ?_
  subst e
  obtain ⟨st, hst⟩ := hm ns hl
  have S0 : RelS W ⟨[], []⟩ [] H := ⟨rfl, List.nodup_nil, fun a h => absurd h (by simp), fun k o a h => by simp at h⟩
  have r0 : Rep W ⟨[], []⟩ H (.ro (ns.map .int)) (.ref a) := by
    rcases hS with h | h
    · exact .ro h (by simp) (by simp) (repI ns)
    · exact .roK h (repI ns)
  refine ⟨[.dat (.ro (ns.map .int))], ⟨[], []⟩, [], rfl, .cons r0 .nil, S0, ?_⟩
  rw [hst]
  intro v H' m' _ _ r
  cases r
  exact q H'
end
end Kn
set_option Elab.async false
set_option linter.all false
/-! KnP: the defs, as functions (printed by genall.py). -/
namespace Kn
abbrev i_is_number : Nat := 0
abbrev i_is_tuple : Nat := 1
abbrev i_is_word : Nat := 2
abbrev i_is_spot : Nat := 3
abbrev i_is_deed_of : Nat := 4
abbrev i_is_good_plan : Nat := 5
abbrev i_need_plan : Nat := 6
abbrev i_need_n : Nat := 7
abbrev i_less : Nat := 8
abbrev i_worth : Nat := 9
abbrev i_whole : Nat := 10
abbrev i_spot_form : Nat := 11
abbrev i_is_plan : Nat := 12
abbrev i_is_deed : Nat := 13
abbrev i_seat_of : Nat := 14
abbrev i_added : Nat := 15
abbrev i_sign_of : Nat := 16
abbrev i_begun : Nat := 17
abbrev i_asks : Nat := 18
abbrev i_with_item : Nat := 19
abbrev i_people_beside : Nat := 20
abbrev i_ways : Nat := 21
abbrev i_way_by : Nat := 22
abbrev i_came : Nat := 23
abbrev i_went : Nat := 24
abbrev i_is_open : Nat := 25
abbrev i_moved : Nat := 26
abbrev i_between : Nat := 27
abbrev i_next_gap : Nat := 28
abbrev i_handed : Nat := 29
abbrev i_do : Nat := 30
abbrev i_last_of : Nat := 31
abbrev i_done : Nat := 32
abbrev i_stood : Nat := 33
abbrev i_steps : Nat := 34
abbrev i_step_forms : Nat := 35
abbrev i_need_index : Nat := 36
abbrev i_same_to : Nat := 37
abbrev i_until : Nat := 38
abbrev i_joined : Nat := 39
abbrev i_one_list : Nat := 40
abbrev i_rows_by : Nat := 41
abbrev i_by_last : Nat := 42
abbrev i_seen_last : Nat := 43
abbrev i_total_form : Nat := 44
abbrev i_need_both : Nat := 45
abbrev i_done_rows : Nat := 46
abbrev i_stood_rows : Nat := 47
abbrev i_step_rows : Nat := 48
abbrev i_total_rows : Nat := 49
abbrev i_need_person : Nat := 50
abbrev i_need_one : Nat := 51
abbrev i_are_beside : Nat := 52
abbrev i_pairs_in : Nat := 53
abbrev i_pairs_told : Nat := 54
abbrev i_sits : Nat := 55
abbrev i_sit_rows : Nat := 56
abbrev i_neighbours : Nat := 57
abbrev i_neighbour_rows : Nat := 58
abbrev i_times_of : Nat := 59
abbrev i_all_times : Nat := 60
abbrev i_most_times : Nat := 61
abbrev i_standings : Nat := 62
abbrev i_standing_rows : Nat := 63
abbrev i_most_standing : Nat := 64
abbrev i_least_with : Nat := 65
abbrev i_same_seats : Nat := 66
abbrev i_like_told : Nat := 67
abbrev i_parting_number : Nat := 68
abbrev i_need_two : Nat := 69
abbrev i_alike : Nat := 70
abbrev i_parting : Nat := 71
abbrev i_without : Nat := 72
abbrev i_exchanged : Nat := 73
abbrev i_idle_deeds : Nat := 74
abbrev i_exchangeable : Nat := 75
abbrev i_only_comes : Nat := 76
abbrev i_need_coming : Nat := 77
abbrev i_all_orders : Nat := 78
abbrev i_all_sides : Nat := 79
abbrev i_ordered : Nat := 80
abbrev i_sided : Nat := 81
abbrev i_all_standings : Nat := 82
abbrev i_best_told : Nat := 83
abbrev i_rows_of_orders : Nat := 84
abbrev i_best_orders : Nat := 85
abbrev i_worst_orders : Nat := 86
abbrev i_best_sides : Nat := 87
abbrev i_is_fact : Nat := 88
abbrev i_need_seen : Nat := 89
abbrev i_fact_form : Nat := 90
abbrev i_is_so : Nat := 91
abbrev i_numbers_told : Nat := 92
abbrev i_is_seen : Nat := 93
abbrev i_words_of : Nat := 94
abbrev i_lines_of : Nat := 95
abbrev i_part_in : Nat := 96
abbrev i_line_in : Nat := 97
abbrev i_plan_in : Nat := 98
abbrev i_good_plan : Nat := 99
abbrev i_fewer : Nat := 100
abbrev i_changed : Nat := 101
abbrev i_turned_spot : Nat := 102
abbrev i_turned_deed : Nat := 103
abbrev i_plan_text : Nat := 104
abbrev i_read_plan : Nat := 105
abbrev i__wall : Nat := 106
abbrev i_spot_seat : Nat := 107
abbrev i_sitter : Nat := 108
abbrev i_left_way : Nat := 109
abbrev i_right_way : Nat := 110
abbrev i_way_now : Nat := 111
abbrev i_with_seat : Nat := 112
abbrev i_can_come : Nat := 113
abbrev i_can_move : Nat := 114
abbrev i_hands_of : Nat := 115
abbrev i_come_now : Nat := 116
abbrev i_done_now : Nat := 117
abbrev i_law_source : Nat := 118
abbrev i_law_draw : Nat := 119
abbrev i_law_of : Nat := 120
abbrev i_law_spot : Nat := 121
abbrev i_law_side : Nat := 122
abbrev i_law_deed : Nat := 123
abbrev i_law_plan : Nat := 124
abbrev i_law_n : Nat := 125
abbrev i_law_value : Nat := 126
abbrev i_law_form : Nat := 127
abbrev i_law_is_int : Nat := 128
abbrev i_law_is_side : Nat := 129
abbrev i_law_is_spot : Nat := 130
abbrev i_law_is_deed : Nat := 131
abbrev i_law_is_plan : Nat := 132
abbrev i_law_odd : Nat := 133
abbrev i_law_spoilt_k01 : Nat := 134
abbrev i_law_spoilt_k12 : Nat := 135
abbrev i_law_k01 : Nat := 136
abbrev i_law_k02 : Nat := 137
abbrev i_law_k03 : Nat := 138
abbrev i_law_k04 : Nat := 139
abbrev i_law_k05 : Nat := 140
abbrev i_law_k06 : Nat := 141
abbrev i_law_k07 : Nat := 142
abbrev i_law_k08 : Nat := 143
abbrev i_law_k09 : Nat := 144
abbrev i_law_k10 : Nat := 145
abbrev i_law_k11 : Nat := 146
abbrev i_law_k12 : Nat := 147
abbrev i_law_k13 : Nat := 148
abbrev i_law_k14 : Nat := 149
abbrev i_law_k15 : Nat := 150
abbrev i_law_k16 : Nat := 151
abbrev i_law_k17 : Nat := 152
abbrev i_law_k18 : Nat := 153
abbrev i_law_k19 : Nat := 154
abbrev i_law_k20 : Nat := 155
abbrev i_law_k21 : Nat := 156
abbrev i_law_way : Nat := 157
abbrev i_law_hands : Nat := 158
abbrev i_law_taken : Nat := 159
abbrev i_law_can_move : Nat := 160
abbrev i_law_step : Nat := 161
abbrev i_law_run : Nat := 162
abbrev i_law_known : Nat := 163
abbrev i_law_right_k02 : Nat := 164
abbrev i_law_right_k03 : Nat := 165
abbrev i_law_right_k04 : Nat := 166
abbrev i_law_right_k06 : Nat := 167
abbrev i_law_right_k08 : Nat := 168
abbrev i_law_right_k10 : Nat := 169
abbrev i_law_right_k12 : Nat := 170
abbrev i_law_right_k13 : Nat := 171
abbrev i_law_spots : Nat := 172
abbrev i_law_told_at : Nat := 173
abbrev i_law_are_rows : Nat := 174
abbrev i_law_due : Nat := 175
abbrev i_law_seats : Nat := 176
abbrev i_law_pairs : Nat := 177
abbrev i_law_counts : Nat := 178
abbrev i_law_most_right : Nat := 179
abbrev i_law_near : Nat := 180
abbrev i_law_same : Nat := 181
abbrev i_law_alike : Nat := 182
abbrev i_law_comers : Nat := 183
abbrev i_law_word_k08 : Nat := 184
abbrev i_law_word_k09 : Nat := 185
abbrev i_law_word_k15 : Nat := 186
abbrev i_law_every : Nat := 187
abbrev i_law_total : Nat := 188
abbrev i_law_orders : Nat := 189
abbrev i_law_sides : Nat := 190
abbrev i_law_with : Nat := 191
abbrev i_law_amount : Nat := 192
abbrev i_law_drawn_k09 : Nat := 193
abbrev i_law_drawn_k14 : Nat := 194
abbrev i_law_so : Nat := 195
abbrev i_law_find : Nat := 196
abbrev i_law_aisle : Nat := 197
abbrev i_law_spot_seat : Nat := 198
abbrev i_law_walked : Nat := 199
abbrev i_law_handed : Nat := 200
abbrev i_law_deed_done : Nat := 201
abbrev i_law_back_right : Nat := 202
abbrev i_law_as_value : Nat := 203
abbrev i_law_deeds_right : Nat := 204
abbrev i_law_people_right : Nat := 205
abbrev i_law_value_right : Nat := 206
abbrev i_law_orders_right : Nat := 207
abbrev i_law_text : Nat := 208
abbrev i_law_read : Nat := 209
abbrev i_law_small : Nat := 210
abbrev i_law_good_come : Nat := 211
abbrev i_law_sort : Nat := 212
abbrev i_law_turned : Nat := 213
abbrev i_law_tried_k13 : Nat := 214
abbrev i_law_tried_k14 : Nat := 215
abbrev i_law_tried_k15 : Nat := 216
abbrev i_law_added_k13 : Nat := 217
abbrev i_law_added_k18 : Nat := 218
abbrev i_law_fewer_k13 : Nat := 219
abbrev i_law_fewer_k18 : Nat := 220
abbrev i_law_fits : Nat := 221
abbrev i_law_others_right : Nat := 222
abbrev i_law_written_right : Nat := 223
abbrev i_law_led : Nat := 224
abbrev i_law_shows : Nat := 225
abbrev i_law_grown : Nat := 226
abbrev i_law_call : Nat := 227
abbrev i_law_is_call : Nat := 228
abbrev i_law_single : Nat := 229
abbrev i_law_many_deeds : Nat := 230
abbrev i_law_turn : Nat := 231
abbrev i_law_deeds : Nat := 232
abbrev i_law_fails : Nat := 233
abbrev i_law_later : Nat := 234
abbrev i_law_led_right_k16 : Nat := 235
abbrev i_law_led_right_k19 : Nat := 236
abbrev i_law_error : Nat := 237
abbrev i_law_plan_calls : Nat := 238
abbrev i_law_other_calls : Nat := 239
abbrev i_law_calls_of : Nat := 240
abbrev i_law_full_right : Nat := 241
abbrev i_law_great : Nat := 242
abbrev i_law_even_right : Nat := 243
abbrev i_law_odd_right : Nat := 244
abbrev i_law_rows_right : Nat := 245
abbrev i_law_middle_right : Nat := 246
abbrev i_law_arms_right : Nat := 247
abbrev i_law_way_right : Nat := 248
abbrev i_law_same_right : Nat := 249
abbrev i_law_first_right : Nat := 250
abbrev i_law_second_right : Nat := 251
abbrev i_law_third_right : Nat := 252
abbrev i_law_fourth_right : Nat := 253
abbrev i_law_fifth_right : Nat := 254
abbrev w__10_go_32_0_32_few : List Nat := [10, 103, 111, 32, 48, 32, 102, 101, 119]
abbrev w_asked : List Nat := [97, 115, 107, 101, 100]
abbrev w_call : List Nat := [99, 97, 108, 108]
abbrev w_come : List Nat := [99, 111, 109, 101]
abbrev w_did : List Nat := [100, 105, 100]
abbrev w_empty : List Nat := []
abbrev w_far : List Nat := [102, 97, 114]
abbrev w_few : List Nat := [102, 101, 119]
abbrev w_folk : List Nat := [102, 111, 108, 107]
abbrev w_folk_32_1 : List Nat := [102, 111, 108, 107, 32, 49]
abbrev w_folk_32_1_10_ : List Nat := [102, 111, 108, 107, 32, 49, 10]
abbrev w_folk_32_1_10_come_32_0_32_l_32__45_1_32_left : List Nat := [102, 111, 108, 107, 32, 49, 10, 99, 111, 109, 101, 32, 48, 32, 108, 32, 45, 49, 32, 108, 101, 102, 116]
abbrev w_folk_32_1_10_come_32_0_32_m_32__45_0_32_left : List Nat := [102, 111, 108, 107, 32, 49, 10, 99, 111, 109, 101, 32, 48, 32, 109, 32, 45, 48, 32, 108, 101, 102, 116]
abbrev w_folk_32_1_10_folk_32_1 : List Nat := [102, 111, 108, 107, 32, 49, 10, 102, 111, 108, 107, 32, 49]
abbrev w_folk_32_1_10_go_32_0_32_far_10_x : List Nat := [102, 111, 108, 107, 32, 49, 10, 103, 111, 32, 48, 32, 102, 97, 114, 10, 120]
abbrev w_folk_32_1_10_go_32_1_32_left : List Nat := [102, 111, 108, 107, 32, 49, 10, 103, 111, 32, 49, 32, 108, 101, 102, 116]
abbrev w_folk_32_2_10_come_32_1_32_m_32__45_5_32_few_10_move_32_0_32__45_9 : List Nat := [102, 111, 108, 107, 32, 50, 10, 99, 111, 109, 101, 32, 49, 32, 109, 32, 45, 53, 32, 102, 101, 119, 10, 109, 111, 118, 101, 32, 48, 32, 45, 57]
abbrev w_folk_32_2_10_hand_32_0_32_0 : List Nat := [102, 111, 108, 107, 32, 50, 10, 104, 97, 110, 100, 32, 48, 32, 48]
abbrev w_folk_32_2_10_move_32_0_32_0 : List Nat := [102, 111, 108, 107, 32, 50, 10, 109, 111, 118, 101, 32, 48, 32, 48]
abbrev w_folk_32_2_10_move_32_0_32__43_2 : List Nat := [102, 111, 108, 107, 32, 50, 10, 109, 111, 118, 101, 32, 48, 32, 43, 50]
abbrev w_folk_32_6 : List Nat := [102, 111, 108, 107, 32, 54]
abbrev w_folk_32__32_1 : List Nat := [102, 111, 108, 107, 32, 32, 49]
abbrev w_gap : List Nat := [103, 97, 112]
abbrev w_go : List Nat := [103, 111]
abbrev w_go_32_0_32_left : List Nat := [103, 111, 32, 48, 32, 108, 101, 102, 116]
abbrev w_hand : List Nat := [104, 97, 110, 100]
abbrev w_l : List Nat := [108]
abbrev w_left : List Nat := [108, 101, 102, 116]
abbrev w_m : List Nat := [109]
abbrev w_move : List Nat := [109, 111, 118, 101]
abbrev w_near : List Nat := [110, 101, 97, 114]
abbrev w_person : List Nat := [112, 101, 114, 115, 111, 110]
abbrev w_r : List Nat := [114]
abbrev w_right : List Nat := [114, 105, 103, 104, 116]
abbrev w_seats : List Nat := [115, 101, 97, 116, 115]
abbrev w_steps : List Nat := [115, 116, 101, 112, 115]
abbrev w_stood : List Nat := [115, 116, 111, 111, 100]
abbrev g_LEAST : D := .int 12
abbrev g_MOST : D := .int (10 ^ 30)
abbrev g_SIDES : D := .tup [.str w_left, .str w_right, .str w_near, .str w_few]
def fd_is_number : FD := ⟨3, 3, xSeq [xRet (sAnd [sIsi (sVar 0) .int, sNot (sIsi (sVar 0) .bool), sCmp2 .le .le (sVar 1) (sVar 0) (sVar 2)])]⟩
def fd_is_tuple : FD := ⟨3, 3, xSeq [xRet (sAnd [sIsi (sVar 0) .tuple, sCmp2 .le .le (sVar 1) (sBf .len [sVar 0]) (sVar 2)])]⟩
def fd_is_word : FD := ⟨2, 2, xSeq [xRet (sAnd [sIsi (sVar 0) .str, sCmp .inn (sVar 0) (sVar 1)])]⟩
def fd_is_spot : FD := ⟨1, 1, xSeq [xIf (sOr [sNot (sCallD i_is_tuple [sVar 0, sCst (.int 2), sCst (.int 2)]), sNot (sCallD i_is_word [sItem (sVar 0) (sCst (.int 0)), sTup [sCst (.str w_l), sCst (.str w_r), sCst (.str w_m)]])]) (xSeq [xRet (sCst (.bl false))]) (xSeq []),
    xRet (sCallD i_is_number [sItem (sVar 0) (sCst (.int 1)), sIf (sCmp .eq (sItem (sVar 0) (sCst (.int 0))) (sCst (.str w_m))) (sNeg (sCst (.int 5))) (sCst (.int 0)), sCst (.int 5)])]⟩
def fd_is_deed_of : FD := ⟨2, 2, xSeq [xIf (sOr [sNot (sCallD i_is_tuple [sVar 1, sCst (.int 3), sCst (.int 4)]), sNot (sCallD i_is_number [sItem (sVar 1) (sCst (.int 1)), sCst (.int 0), sBin .sub (sVar 0) (sCst (.int 1))])]) (xSeq [xRet (sCst (.bl false))]) (xSeq []),
    xIf (sCallD i_is_word [sItem (sVar 1) (sCst (.int 0)), sTup [sCst (.str w_come)]]) (xSeq [xRet (sAnd [sCmp .eq (sBf .len [sVar 1]) (sCst (.int 4)), sCallD i_is_spot [sItem (sVar 1) (sCst (.int 2))], sCallD i_is_word [sItem (sVar 1) (sCst (.int 3)), sCst g_SIDES]])]) (xSeq []),
    xIf (sCmp .eq (sBf .len [sVar 1]) (sCst (.int 4))) (xSeq [xRet (sCst (.bl false))]) (xSeq []),
    xIf (sCallD i_is_word [sItem (sVar 1) (sCst (.int 0)), sTup [sCst (.str w_go)]]) (xSeq [xRet (sCallD i_is_word [sItem (sVar 1) (sCst (.int 2)), sCst g_SIDES])]) (xSeq []),
    xIf (sCallD i_is_word [sItem (sVar 1) (sCst (.int 0)), sTup [sCst (.str w_move)]]) (xSeq [xRet (sAnd [sCallD i_is_number [sItem (sVar 1) (sCst (.int 2)), sNeg (sCst (.int 9)), sCst (.int 9)], sCmp .ne (sItem (sVar 1) (sCst (.int 2))) (sCst (.int 0))])]) (xSeq []),
    xRet (sAnd [sCallD i_is_word [sItem (sVar 1) (sCst (.int 0)), sTup [sCst (.str w_hand)]], sCallD i_is_number [sItem (sVar 1) (sCst (.int 2)), sCst (.int 0), sBin .sub (sVar 0) (sCst (.int 1))], sCmp .ne (sItem (sVar 1) (sCst (.int 1))) (sItem (sVar 1) (sCst (.int 2)))])]⟩
def fd_is_good_plan : FD := ⟨1, 2, xSeq [xIf (sOr [sNot (sCallD i_is_tuple [sVar 0, sCst (.int 2), sCst (.int 2)]), sNot (sCallD i_is_number [sItem (sVar 0) (sCst (.int 0)), sCst (.int 1), sCst (.int 5)]), sNot (sCallD i_is_tuple [sItem (sVar 0) (sCst (.int 1)), sCst (.int 0), sCst (.int 8)])]) (xSeq [xRet (sCst (.bl false))]) (xSeq []),
    xRet (sBf .all [sLc [1] (gNm 1) none (sCallD i_is_deed_of [sItem (sVar 0) (sCst (.int 0)), sVar 1]) (iVal (sItem (sVar 0) (sCst (.int 1))))])]⟩
def fd_need_plan : FD := ⟨1, 1, xSeq [xIf (sNot (sCallD i_is_good_plan [sVar 0])) (xSeq [xNever]) (xSeq [])]⟩
def fd_need_n : FD := ⟨1, 1, xSeq [xIf (sNot (sCallD i_is_number [sVar 0, sCst g_LEAST, sCst g_MOST])) (xSeq [xNever]) (xSeq [])]⟩
def fd_less : FD := ⟨2, 2, xSeq [xRet (sTup [sBin .sub (sItem (sVar 0) (sCst (.int 0))) (sItem (sVar 1) (sCst (.int 0))), sBin .sub (sItem (sVar 0) (sCst (.int 1))) (sItem (sVar 1) (sCst (.int 1)))])]⟩
def fd_worth : FD := ⟨2, 2, xSeq [xRet (sBin .add (sBin .mul (sItem (sVar 0) (sCst (.int 0))) (sBin .div (sVar 1) (sCst (.int 2)))) (sItem (sVar 0) (sCst (.int 1))))]⟩
def fd_whole : FD := ⟨1, 1, xSeq [xRet (sTup [sCst (.int 2), sBin .mod (sVar 0) (sCst (.int 2))])]⟩
def fd_spot_form : FD := ⟨2, 2, xSeq [xIf (sCmp .eq (sItem (sVar 0) (sCst (.int 0))) (sCst (.str w_l))) (xSeq [xRet (sTup [sCst (.int 0), sItem (sVar 0) (sCst (.int 1))])]) (xSeq []),
    xRet (sIf (sCmp .eq (sItem (sVar 0) (sCst (.int 0))) (sCst (.str w_m))) (sTup [sCst (.int 1), sItem (sVar 0) (sCst (.int 1))]) (sCallD i_less [sCallD i_whole [sVar 1], sTup [sCst (.int 0), sBin .add (sItem (sVar 0) (sCst (.int 1))) (sCst (.int 1))]]))]⟩
def fd_is_plan : FD := ⟨1, 1, xSeq [xRet (sCallD i_is_good_plan [sVar 0])]⟩
def fd_is_deed : FD := ⟨2, 2, xSeq [xExpr (sCallD i_need_plan [sVar 0]),
    xRet (sCallD i_is_deed_of [sItem (sVar 0) (sCst (.int 0)), sVar 1])]⟩
def fd_seat_of : FD := ⟨2, 2, xSeq [xIf (sNot (sCallD i_is_spot [sVar 0])) (xSeq [xNever]) (xSeq []),
    xExpr (sCallD i_need_n [sVar 1]),
    xRet (sCallD i_worth [sCallD i_spot_form [sVar 0, sVar 1], sVar 1])]⟩
def fd_added : FD := ⟨2, 2, xSeq [xRet (sTup [sBin .add (sItem (sVar 0) (sCst (.int 0))) (sItem (sVar 1) (sCst (.int 0))), sBin .add (sItem (sVar 0) (sCst (.int 1))) (sItem (sVar 1) (sCst (.int 1)))])]⟩
def fd_sign_of : FD := ⟨2, 3, xSeq [xAsg (gNm 2) (sCallD i_worth [sVar 0, sVar 1]),
    xRet (sIf (sCmp .gt (sVar 2) (sCst (.int 0))) (sCst (.int 1)) (sIf (sCmp .lt (sVar 2) (sCst (.int 0))) (sNeg (sCst (.int 1))) (sCst (.int 0))))]⟩
def fd_begun : FD := ⟨1, 3, xSeq [xAsg (gNm 1) (sBf .tuple [sLc [2] (gNm 2) none (sCst .non) (iRange1 (sVar 0))]),
    xRet (sDict [.s w_seats, .s w_did, .s w_stood, .s w_steps, .s w_asked] [sVar 1, sTup [], sTup [], sTup [], sTup []])]⟩
def fd_asks : FD := ⟨3, 3, xSeq [xSet (sVar 0) (sCst (.str w_asked)) (sBin .add (sItem (sVar 0) (sCst (.str w_asked))) (sTup [sVar 1])),
    xRet (sCallD i_sign_of [sVar 1, sVar 2])]⟩
def fd_with_item : FD := ⟨3, 3, xSeq [xRet (sBin .add (sBin .add (sSlice (sVar 0) none (some (sVar 1))) (sTup [sVar 2])) (sSlice (sVar 0) (some (sBin .add (sVar 1) (sCst (.int 1)))) none))]⟩
def fd_people_beside : FD := ⟨4, 7, xSeq [xAsg (gNm 4) (sTup []),
    xFor (gTp [gNm 5, gNm 6]) (iEnum (sItem (sVar 0) (sCst (.str w_seats)))) (xSeq [xIf (sAnd [sIsN true (sVar 6), sCmp .eq (sCallD i_asks [sVar 0, sCallD i_less [sVar 6, sVar 1], sVar 3]) (sVar 2)]) (xSeq [xAsg (gNm 4) (sBin .add (sVar 4) (sTup [sVar 5]))]) (xSeq [])]),
    xRet (sVar 4)]⟩
def fd_ways : FD := ⟨3, 4, xSeq [xAsg (gNm 3) (sTup [sCallD i_added [sVar 1, sTup [sCst (.int 0), sCst (.int 1)]], sCallD i_people_beside [sVar 0, sVar 1, sNeg (sCst (.int 1)), sVar 2]]),
    xRet (sTup [sVar 3, sTup [sCallD i_less [sCallD i_whole [sVar 2], sVar 1], sCallD i_people_beside [sVar 0, sVar 1, sCst (.int 1), sVar 2]]])]⟩
def fd_way_by : FD := ⟨4, 6, xSeq [xAsg (gTp [gNm 4, gNm 5]) (sCallD i_ways [sVar 0, sVar 1, sVar 3]),
    xIf (sOr [sCmp .eq (sVar 2) (sCst (.str w_left)), sCmp .eq (sVar 2) (sCst (.str w_right))]) (xSeq [xRet (sIf (sCmp .eq (sVar 2) (sCst (.str w_left))) (sVar 4) (sVar 5))]) (xSeq []),
    xIf (sAnd [sCmp .eq (sVar 2) (sCst (.str w_few)), sCmp .ne (sBf .len [sItem (sVar 4) (sCst (.int 1))]) (sBf .len [sItem (sVar 5) (sCst (.int 1))])]) (xSeq [xRet (sIf (sCmp .lt (sBf .len [sItem (sVar 4) (sCst (.int 1))]) (sBf .len [sItem (sVar 5) (sCst (.int 1))])) (sVar 4) (sVar 5))]) (xSeq []),
    xRet (sIf (sCmp .gt (sCallD i_asks [sVar 0, sCallD i_less [sItem (sVar 4) (sCst (.int 0)), sItem (sVar 5) (sCst (.int 0))], sVar 3]) (sCst (.int 0))) (sVar 5) (sVar 4))]⟩
def fd_came : FD := ⟨5, 7, xSeq [xAsg (gNm 5) (sCallD i_spot_form [sVar 2, sVar 4]),
    xIf (sOr [sIsN true (sItem (sItem (sVar 0) (sCst (.str w_seats))) (sVar 1)), sCmp .ne (sCallD i_people_beside [sVar 0, sVar 5, sCst (.int 0), sVar 4]) (sTup [])]) (xSeq [xRet (sCst .non)]) (xSeq []),
    xAsg (gNm 6) (sCallD i_way_by [sVar 0, sVar 5, sVar 3, sVar 4]),
    xSet (sVar 0) (sCst (.str w_seats)) (sCallD i_with_item [sItem (sVar 0) (sCst (.str w_seats)), sVar 1, sVar 5]),
    xRet (sVar 6)]⟩
def fd_went : FD := ⟨4, 6, xSeq [xAsg (gNm 4) (sItem (sItem (sVar 0) (sCst (.str w_seats))) (sVar 1)),
    xIf (sIsN false (sVar 4)) (xSeq [xRet (sCst .non)]) (xSeq []),
    xAsg (gNm 5) (sCallD i_way_by [sVar 0, sVar 4, sVar 2, sVar 3]),
    xSet (sVar 0) (sCst (.str w_seats)) (sCallD i_with_item [sItem (sVar 0) (sCst (.str w_seats)), sVar 1, sCst .non]),
    xRet (sVar 5)]⟩
def fd_is_open : FD := ⟨4, 7, xSeq [xAsg (gNm 4) (sCallD i_added [sVar 1, sTup [sCst (.int 0), sVar 2]]),
    xIf (sOr [sCmp .lt (sCallD i_asks [sVar 0, sVar 4, sVar 3]) (sCst (.int 0)), sCmp .le (sCallD i_asks [sVar 0, sCallD i_less [sCallD i_whole [sVar 3], sVar 4], sVar 3]) (sCst (.int 0))]) (xSeq [xRet (sCst (.bl false))]) (xSeq []),
    xAsg (gNm 5) (sIf (sCmp .gt (sVar 2) (sCst (.int 0))) (sCst (.int 1)) (sNeg (sCst (.int 1)))),
    xFor (gNm 6) (iRange2 (sCst (.int 1)) (sBin .add (sBf .abs [sVar 2]) (sCst (.int 1)))) (xSeq [xIf (sCmp .ne (sCallD i_people_beside [sVar 0, sCallD i_added [sVar 1, sTup [sCst (.int 0), sBin .mul (sVar 5) (sVar 6)]], sCst (.int 0), sVar 3]) (sTup [])) (xSeq [xRet (sCst (.bl false))]) (xSeq [])]),
    xRet (sCst (.bl true))]⟩
def fd_moved : FD := ⟨4, 5, xSeq [xAsg (gNm 4) (sItem (sItem (sVar 0) (sCst (.str w_seats))) (sVar 1)),
    xIf (sOr [sIsN false (sVar 4), sNot (sCallD i_is_open [sVar 0, sVar 4, sVar 2, sVar 3])]) (xSeq [xRet (sCst .non)]) (xSeq []),
    xSet (sVar 0) (sCst (.str w_seats)) (sCallD i_with_item [sItem (sVar 0) (sCst (.str w_seats)), sVar 1, sCallD i_added [sVar 4, sTup [sCst (.int 0), sVar 2]]]),
    xRet (sTup [sTup [sCst (.int 0), sBf .abs [sVar 2]], sTup []])]⟩
def fd_between : FD := ⟨4, 6, xSeq [xAsg (gNm 4) (sLst true []),
    xFor (gNm 5) (iVal (sItem (sVar 0) (sCst (.str w_seats)))) (xSeq [xIf (sAnd [sIsN true (sVar 5), sCmp .le (sBin .mul (sCallD i_asks [sVar 0, sCallD i_less [sVar 5, sVar 1], sVar 3]) (sCallD i_asks [sVar 0, sCallD i_less [sVar 5, sVar 2], sVar 3])) (sCst (.int 0))]) (xSeq [xExpr (sMt .append (sVar 4) [sVar 5])]) (xSeq [])]),
    xRet (sVar 4)]⟩
def fd_next_gap : FD := ⟨4, 7, xSeq [xAsg (gNm 4) (sCst .non),
    xFor (gNm 5) (iVal (sVar 1)) (xSeq [xAsg (gNm 6) (sCallD i_less [sVar 5, sVar 2]),
    xIf (sAnd [sCmp .gt (sCallD i_asks [sVar 0, sVar 6, sVar 3]) (sCst (.int 0)), sOr [sIsN false (sVar 4), sCmp .lt (sCallD i_asks [sVar 0, sCallD i_less [sVar 6, sVar 4], sVar 3]) (sCst (.int 0))]]) (xSeq [xAsg (gNm 4) (sVar 6)]) (xSeq [])]),
    xRet (sVar 4)]⟩
def fd_handed : FD := ⟨4, 9, xSeq [xPar 4 5 (sItem (sItem (sVar 0) (sCst (.str w_seats))) (sVar 1)) (sItem (sItem (sVar 0) (sCst (.str w_seats))) (sVar 2)),
    xIf (sOr [sIsN false (sVar 4), sIsN false (sVar 5)]) (xSeq [xRet (sCst .non)]) (xSeq []),
    xAsg (gNm 6) (sCallD i_between [sVar 0, sVar 4, sVar 5, sVar 3]),
    xFor (gNm 7) (iVal (sVar 6)) (xSeq [xAsg (gNm 8) (sCallD i_next_gap [sVar 0, sVar 6, sVar 7, sVar 3]),
    xIf (sAnd [sIsN true (sVar 8), sCmp .gt (sCallD i_asks [sVar 0, sCallD i_added [sVar 8, sTup [sCst (.int 0), sNeg (sCst (.int 3))]], sVar 3]) (sCst (.int 0))]) (xSeq [xRet (sCst .non)]) (xSeq [])]),
    xRet (sTup [sTup [sCst (.int 0), sCst (.int 0)], sTup []])]⟩
def fd_do : FD := ⟨3, 3, xSeq [xIf (sCmp .eq (sItem (sVar 1) (sCst (.int 0))) (sCst (.str w_come))) (xSeq [xRet (sCallD i_came [sVar 0, sItem (sVar 1) (sCst (.int 1)), sItem (sVar 1) (sCst (.int 2)), sItem (sVar 1) (sCst (.int 3)), sVar 2])]) (xSeq []),
    xIf (sCmp .eq (sItem (sVar 1) (sCst (.int 0))) (sCst (.str w_go))) (xSeq [xRet (sCallD i_went [sVar 0, sItem (sVar 1) (sCst (.int 1)), sItem (sVar 1) (sCst (.int 2)), sVar 2])]) (xSeq []),
    xRet (sIf (sCmp .eq (sItem (sVar 1) (sCst (.int 0))) (sCst (.str w_move))) (sCallD i_moved [sVar 0, sItem (sVar 1) (sCst (.int 1)), sItem (sVar 1) (sCst (.int 2)), sVar 2]) (sCallD i_handed [sVar 0, sItem (sVar 1) (sCst (.int 1)), sItem (sVar 1) (sCst (.int 2)), sVar 2]))]⟩
def fd_last_of : FD := ⟨2, 7, xSeq [xAsg (gNm 2) (sCallD i_begun [sItem (sVar 0) (sCst (.int 0))]),
    xFor (gNm 3) (iVal (sItem (sVar 0) (sCst (.int 1)))) (xSeq [xAsg (gNm 4) (sCallD i_do [sVar 2, sVar 3, sVar 1]),
    xAsg (gTp [gNm 5, gNm 6]) (sIf (sIsN false (sVar 4)) (sTup [sTup [sCst (.int 0), sCst (.int 0)], sTup []]) (sVar 4)),
    xSet (sVar 2) (sCst (.str w_did)) (sBin .add (sItem (sVar 2) (sCst (.str w_did))) (sTup [sIsN true (sVar 4)])),
    xSet (sVar 2) (sCst (.str w_steps)) (sBin .add (sItem (sVar 2) (sCst (.str w_steps))) (sTup [sVar 5])),
    xSet (sVar 2) (sCst (.str w_stood)) (sBin .add (sItem (sVar 2) (sCst (.str w_stood))) (sTup [sVar 6]))]),
    xRet (sVar 2)]⟩
def fd_done : FD := ⟨2, 2, xSeq [xExpr (sCallD i_need_plan [sVar 0]),
    xExpr (sCallD i_need_n [sVar 1]),
    xRet (sItem (sCallD i_last_of [sVar 0, sVar 1]) (sCst (.str w_did)))]⟩
def fd_stood : FD := ⟨2, 2, xSeq [xExpr (sCallD i_need_plan [sVar 0]),
    xExpr (sCallD i_need_n [sVar 1]),
    xRet (sItem (sCallD i_last_of [sVar 0, sVar 1]) (sCst (.str w_stood)))]⟩
def fd_steps : FD := ⟨2, 3, xSeq [xExpr (sCallD i_need_plan [sVar 0]),
    xExpr (sCallD i_need_n [sVar 1]),
    xRet (sBf .tuple [sLc [2] (gNm 2) none (sCallD i_worth [sVar 2, sVar 1]) (iVal (sItem (sCallD i_last_of [sVar 0, sVar 1]) (sCst (.str w_steps))))])]⟩
def fd_step_forms : FD := ⟨2, 2, xSeq [xExpr (sCallD i_need_plan [sVar 0]),
    xExpr (sCallD i_need_n [sVar 1]),
    xRet (sItem (sCallD i_last_of [sVar 0, sVar 1]) (sCst (.str w_steps)))]⟩
def fd_need_index : FD := ⟨2, 2, xSeq [xIf (sNot (sCallD i_is_number [sVar 1, sCst (.int 0), sBin .sub (sBf .len [sItem (sVar 0) (sCst (.int 1))]) (sCst (.int 1))])) (xSeq [xNever]) (xSeq [])]⟩
def fd_same_to : FD := ⟨2, 5, xSeq [xAsg (gTp [gNm 2, gTp [gNm 3, gNm 4]]) (sTup [sBin .add (sBin .mul (sItem (sVar 0) (sCst (.int 0))) (sVar 1)) (sItem (sVar 0) (sCst (.int 1))), sVar 0]),
    xIf (sOr [sCmp .eq (sVar 3) (sCst (.int 0)), sCmp .gt (sBin .mul (sVar 2) (sVar 3)) (sCst (.int 0))]) (xSeq [xRet (sCst .non)]) (xSeq []),
    xIf (sCmp .eq (sVar 2) (sCst (.int 0))) (xSeq [xRet (sVar 1)]) (xSeq []),
    xRet (sBin .div (sBin .sub (sBf .abs [sVar 4]) (sCst (.int 1))) (sBf .abs [sVar 3]))]⟩
def fd_until : FD := ⟨2, 5, xSeq [xAsg (gNm 2) (sLc [3] (gNm 3) none (sCallD i_same_to [sVar 3, sBin .div (sVar 1) (sCst (.int 2))]) (iVal (sVar 0))),
    xAsg (gNm 2) (sLc [4] (gNm 4) (some (sIsN true (sVar 4))) (sBf .int [sVar 4]) (iVal (sVar 2))),
    xRet (sIf (sCmp .ne (sVar 2) (sLst false [])) (sBin .add (sBin .mul (sCst (.int 2)) (sBf .min [sVar 2])) (sBin .mod (sVar 1) (sCst (.int 2)))) (sCst .non))]⟩
def fd_joined : FD := ⟨1, 5, xSeq [xAsg (gNm 1) (sLst false []),
    xFor (gTp [gNm 2, gNm 3, gNm 4]) (iVal (sVar 0)) (xSeq [xIf (sAnd [sCmp .ne (sVar 1) (sLst false []), sCmp .eq (sItem (sItem (sVar 1) (sNeg (sCst (.int 1)))) (sCst (.int 2))) (sVar 4)]) (xSeq [xAsg (gNm 1) (sBin .add (sSlice (sVar 1) none (some (sNeg (sCst (.int 1))))) (sLst false [sTup [sItem (sItem (sVar 1) (sNeg (sCst (.int 1)))) (sCst (.int 0)), sVar 3, sVar 4]]))]) (xSeq [xAsg (gNm 1) (sBin .add (sVar 1) (sLst false [sTup [sVar 2, sVar 3, sVar 4]]))])]),
    xRet (sVar 1)]⟩
def fd_rows_by : FD := ⟨1, 1, xSeq [xRet (sTup [sCallD i_one_list [sVar 0, sCst g_LEAST], sCallD i_one_list [sVar 0, sBin .add (sCst g_LEAST) (sCst (.int 1))]])]⟩
def fd_total_form : FD := ⟨1, 3, xSeq [xAsg (gNm 1) (sTup [sCst (.int 0), sCst (.int 0)]),
    xFor (gNm 2) (iVal (sItem (sVar 0) (sCst (.str w_steps)))) (xSeq [xAsg (gNm 1) (sCallD i_added [sVar 1, sVar 2])]),
    xRet (sVar 1)]⟩
def fd_need_both : FD := ⟨2, 2, xSeq [xExpr (sCallD i_need_plan [sVar 0]),
    xExpr (sCallD i_need_index [sVar 0, sVar 1])]⟩
def fd_need_person : FD := ⟨2, 2, xSeq [xIf (sNot (sCallD i_is_number [sVar 1, sCst (.int 0), sBin .sub (sItem (sVar 0) (sCst (.int 0))) (sCst (.int 1))])) (xSeq [xNever]) (xSeq [])]⟩
def fd_need_one : FD := ⟨2, 2, xSeq [xExpr (sCallD i_need_plan [sVar 0]),
    xExpr (sCallD i_need_person [sVar 0, sVar 1])]⟩
def fd_are_beside : FD := ⟨4, 7, xSeq [xPar 4 5 (sItem (sItem (sVar 0) (sCst (.str w_seats))) (sVar 1)) (sItem (sItem (sVar 0) (sCst (.str w_seats))) (sVar 2)),
    xIf (sOr [sIsN false (sVar 4), sIsN false (sVar 5)]) (xSeq [xRet (sCst (.bl false))]) (xSeq []),
    xAsg (gNm 6) (sCallD i_less [sVar 4, sVar 5]),
    xRet (sOr [sCmp .eq (sCallD i_asks [sVar 0, sCallD i_added [sVar 6, sTup [sCst (.int 0), sCst (.int 1)]], sVar 3]) (sCst (.int 0)), sCmp .eq (sCallD i_asks [sVar 0, sCallD i_added [sVar 6, sTup [sCst (.int 0), sNeg (sCst (.int 1))]], sVar 3]) (sCst (.int 0))])]⟩
def fd_pairs_in : FD := ⟨2, 6, xSeq [xPar 2 3 (sTup []) (sBf .len [sItem (sVar 0) (sCst (.str w_seats))]),
    xFor (gNm 4) (iRange1 (sVar 3)) (xSeq [xFor (gNm 5) (iRange2 (sBin .add (sVar 4) (sCst (.int 1))) (sVar 3)) (xSeq [xIf (sCallD i_are_beside [sVar 0, sVar 4, sVar 5, sVar 1]) (xSeq [xAsg (gNm 2) (sBin .add (sVar 2) (sTup [sTup [sVar 4, sVar 5]]))]) (xSeq [])])]),
    xRet (sVar 2)]⟩
def fd_pairs_told : FD := ⟨2, 4, xSeq [xAsg (gNm 2) (sCallD i_last_of [sVar 0, sVar 1]),
    xAsg (gNm 3) (sCallD i_pairs_in [sVar 2, sVar 1]),
    xRet (sTup [sVar 3, sItem (sVar 2) (sCst (.str w_asked))])]⟩
def fd_sits : FD := ⟨2, 3, xSeq [xExpr (sCallD i_need_plan [sVar 0]),
    xExpr (sCallD i_need_n [sVar 1]),
    xRet (sBf .tuple [sLc [2] (gNm 2) none (sIf (sIsN false (sVar 2)) (sCst .non) (sCallD i_worth [sVar 2, sVar 1])) (iVal (sItem (sCallD i_last_of [sVar 0, sVar 1]) (sCst (.str w_seats))))])]⟩
def fd_neighbours : FD := ⟨2, 2, xSeq [xExpr (sCallD i_need_plan [sVar 0]),
    xExpr (sCallD i_need_n [sVar 1]),
    xRet (sBf .list [sCallD i_pairs_in [sCallD i_last_of [sVar 0, sVar 1], sVar 1]])]⟩
def fd_times_of : FD := ⟨2, 3, xSeq [xRet (sBf .len [sLc [2] (gNm 2) (some (sCmp .inn (sVar 1) (sVar 2))) (sVar 2) (iVal (sItem (sVar 0) (sCst (.str w_stood))))])]⟩
def fd_all_times : FD := ⟨1, 2, xSeq [xRet (sBf .tuple [sLc [1] (gNm 1) none (sCallD i_times_of [sVar 0, sVar 1]) (iRange1 (sBf .len [sItem (sVar 0) (sCst (.str w_seats))]))])]⟩
def fd_most_times : FD := ⟨1, 2, xSeq [xRet (sBf .max [sLc [1] (gNm 1) none (sBf .int [sVar 1]) (iVal (sCallD i_all_times [sVar 0]))])]⟩
def fd_standings : FD := ⟨2, 2, xSeq [xExpr (sCallD i_need_plan [sVar 0]),
    xExpr (sCallD i_need_n [sVar 1]),
    xRet (sCallD i_all_times [sCallD i_last_of [sVar 0, sVar 1]])]⟩
def fd_least_with : FD := ⟨2, 6, xSeq [xAsg (gNm 2) (sLc [3, 4, 5] (gTp [gNm 3, gNm 4, gNm 5]) (some (sCmp .eq (sVar 5) (sVar 1))) (sVar 3) (iVal (sBin .add (sItem (sVar 0) (sCst (.int 0))) (sItem (sVar 0) (sCst (.int 1)))))),
    xRet (sIf (sCmp .ne (sVar 2) (sLst false [])) (sBf .min [sVar 2]) (sCst .non))]⟩
def fd_same_seats : FD := ⟨3, 4, xSeq [xIf (sOr [sIsN false (sVar 0), sIsN false (sVar 1)]) (xSeq [xRet (sTup [sAnd [sIsN false (sVar 0), sIsN false (sVar 1)], sTup []])]) (xSeq []),
    xAsg (gNm 3) (sCallD i_less [sVar 0, sVar 1]),
    xRet (sTup [sCmp .eq (sCallD i_sign_of [sVar 3, sVar 2]) (sCst (.int 0)), sTup [sVar 3]])]⟩
def fd_like_told : FD := ⟨3, 11, xSeq [xPar 3 4 (sCallD i_last_of [sVar 0, sVar 2]) (sCallD i_last_of [sVar 1, sVar 2]),
    xPar 5 6 (sCmp .eq (sCallD i_all_times [sVar 3]) (sCallD i_all_times [sVar 4])) (sBin .add (sItem (sVar 3) (sCst (.str w_asked))) (sItem (sVar 4) (sCst (.str w_asked)))),
    xFor (gTp [gNm 7, gNm 8]) (iZip (sItem (sVar 3) (sCst (.str w_seats))) (sItem (sVar 4) (sCst (.str w_seats)))) (xSeq [xAsg (gTp [gNm 9, gNm 10]) (sCallD i_same_seats [sVar 7, sVar 8, sVar 2]),
    xPar 5 6 (sAnd [sVar 5, sVar 9]) (sBin .add (sVar 6) (sVar 10))]),
    xRet (sTup [sVar 5, sVar 6])]⟩
def fd_need_two : FD := ⟨2, 2, xSeq [xExpr (sCallD i_need_plan [sVar 0]),
    xExpr (sCallD i_need_plan [sVar 1])]⟩
def fd_alike : FD := ⟨2, 2, xSeq [xExpr (sCallD i_need_two [sVar 0, sVar 1]),
    xRet (sIsN false (sCallD i_parting_number [sVar 0, sVar 1]))]⟩
def fd_parting : FD := ⟨2, 2, xSeq [xExpr (sCallD i_need_two [sVar 0, sVar 1]),
    xRet (sCallD i_parting_number [sVar 0, sVar 1])]⟩
def fd_without : FD := ⟨2, 2, xSeq [xRet (sTup [sItem (sVar 0) (sCst (.int 0)), sBin .add (sSlice (sItem (sVar 0) (sCst (.int 1))) none (some (sVar 1))) (sSlice (sItem (sVar 0) (sCst (.int 1))) (some (sBin .add (sVar 1) (sCst (.int 1)))) none)])]⟩
def fd_exchanged : FD := ⟨2, 3, xSeq [xAsg (gNm 2) (sItem (sVar 0) (sCst (.int 1))),
    xRet (sTup [sItem (sVar 0) (sCst (.int 0)), sBin .add (sBin .add (sSlice (sVar 2) none (some (sVar 1))) (sTup [sItem (sVar 2) (sBin .add (sVar 1) (sCst (.int 1))), sItem (sVar 2) (sVar 1)])) (sSlice (sVar 2) (some (sBin .add (sVar 1) (sCst (.int 2)))) none)])]⟩
def fd_idle_deeds : FD := ⟨1, 2, xSeq [xExpr (sCallD i_need_plan [sVar 0]),
    xRet (sLc [1] (gNm 1) (some (sIsN false (sCallD i_parting_number [sVar 0, sCallD i_without [sVar 0, sVar 1]]))) (sVar 1) (iRange1 (sBf .len [sItem (sVar 0) (sCst (.int 1))])))]⟩
def fd_exchangeable : FD := ⟨1, 2, xSeq [xExpr (sCallD i_need_plan [sVar 0]),
    xRet (sLc [1] (gNm 1) (some (sIsN false (sCallD i_parting_number [sVar 0, sCallD i_exchanged [sVar 0, sVar 1]]))) (sVar 1) (iRange1 (sBin .sub (sBf .len [sItem (sVar 0) (sCst (.int 1))]) (sCst (.int 1)))))]⟩
def fd_need_coming : FD := ⟨1, 1, xSeq [xExpr (sCallD i_need_plan [sVar 0]),
    xIf (sNot (sCallD i_only_comes [sVar 0])) (xSeq [xNever]) (xSeq [])]⟩
def fd_all_orders : FD := ⟨1, 6, xSeq [xAsg (gNm 1) (sLst false [sTup []]),
    xFor (gNm 2) (iRange1 (sVar 0)) (xSeq [xAsg (gNm 3) (sLst false []),
    xFor (gNm 4) (iVal (sVar 1)) (xSeq [xAsg (gNm 3) (sBin .add (sVar 3) (sLc [5] (gNm 5) (some (sCmp .nin (sVar 5) (sVar 4))) (sBin .add (sVar 4) (sTup [sVar 5])) (iRange1 (sVar 0))))]),
    xAsg (gNm 1) (sVar 3)]),
    xRet (sVar 1)]⟩
def fd_all_sides : FD := ⟨1, 6, xSeq [xAsg (gNm 1) (sLst false [sTup []]),
    xFor (gNm 2) (iRange1 (sVar 0)) (xSeq [xAsg (gNm 3) (sLst false []),
    xFor (gNm 4) (iVal (sVar 1)) (xSeq [xAsg (gNm 3) (sBin .add (sVar 3) (sLc [5] (gNm 5) none (sBin .add (sVar 4) (sTup [sVar 5])) (iVal (sTup [sCst (.str w_left), sCst (.str w_right)]))))]),
    xAsg (gNm 1) (sVar 3)]),
    xRet (sVar 1)]⟩
def fd_ordered : FD := ⟨2, 3, xSeq [xRet (sTup [sItem (sVar 0) (sCst (.int 0)), sBf .tuple [sLc [2] (gNm 2) none (sItem (sItem (sVar 0) (sCst (.int 1))) (sVar 2)) (iVal (sVar 1))]])]⟩
def fd_sided : FD := ⟨2, 4, xSeq [xRet (sTup [sItem (sVar 0) (sCst (.int 0)), sBf .tuple [sLc [2, 3] (gTp [gNm 2, gNm 3]) none (sBin .add (sSlice (sVar 2) none (some (sCst (.int 3)))) (sTup [sVar 3])) (iZip (sItem (sVar 0) (sCst (.int 1))) (sVar 1))]])]⟩
def fd_all_standings : FD := ⟨1, 2, xSeq [xRet (sBf .sum [sLc [1] (gNm 1) none (sBf .len [sVar 1]) (iVal (sItem (sVar 0) (sCst (.str w_stood))))])]⟩
def fd_best_told : FD := ⟨4, 12, xSeq [xPar 4 5 (sLst false []) (sTup []),
    xFor (gNm 6) (iVal (sVar 1)) (xSeq [xAsg (gNm 7) (sCallD i_last_of [sVar 6, sVar 3]),
    xPar 4 5 (sBin .add (sVar 4) (sLst false [sBin .mul (sVar 2) (sCallD i_all_standings [sVar 7])])) (sBin .add (sVar 5) (sItem (sVar 7) (sCst (.str w_asked))))]),
    xAsg (gNm 8) (sBf .min [sLc [10] (gNm 10) none (sBf .int [sVar 10]) (iVal (sVar 4))]),
    xAsg (gNm 9) (sBf .tuple [sLc [11, 10] (gTp [gNm 11, gNm 10]) (some (sCmp .eq (sVar 10) (sVar 8))) (sVar 11) (iZip (sVar 0) (sVar 4))]),
    xRet (sTup [sTup [sBin .mul (sVar 2) (sVar 8), sVar 9], sVar 5])]⟩
def fd_best_orders : FD := ⟨1, 1, xSeq [xExpr (sCallD i_need_coming [sVar 0]),
    xRet (sCallD i_rows_of_orders [sVar 0, sCst (.int 1)])]⟩
def fd_worst_orders : FD := ⟨1, 1, xSeq [xExpr (sCallD i_need_coming [sVar 0]),
    xRet (sCallD i_rows_of_orders [sVar 0, sNeg (sCst (.int 1))])]⟩
def fd_need_seen : FD := ⟨2, 3, xSeq [xIf (sOr [sNot (sCallD i_is_tuple [sVar 1, sCst (.int 1), sCst (.int 4)]), sNot (sBf .all [sLc [2] (gNm 2) none (sCallD i_is_fact [sVar 0, sVar 2]) (iVal (sVar 1))])]) (xSeq [xNever]) (xSeq [])]⟩
def fd_fact_form : FD := ⟨2, 5, xSeq [xAsg (gTp [gNm 2, gNm 3, gNm 4]) (sVar 1),
    xIf (sCmp .eq (sVar 3) (sCst (.str w_steps))) (xSeq [xRet (sCallD i_added [sItem (sItem (sVar 0) (sCst (.str w_steps))) (sVar 2), sTup [sCst (.int 0), sNeg (sVar 4)]])]) (xSeq []),
    xRet (sTup [sCst (.int 0), sBin .sub (sBf .len [sItem (sItem (sVar 0) (sCst (.str w_stood))) (sVar 2)]) (sVar 4)])]⟩
def fd_is_so : FD := ⟨3, 7, xSeq [xAsg (gNm 3) (sCallD i_last_of [sVar 0, sVar 2]),
    xAsg (gNm 4) (sBf .tuple [sLc [5] (gNm 5) none (sCallD i_fact_form [sVar 3, sVar 5]) (iVal (sVar 1))]),
    xRet (sTup [sBf .all [sLc [6] (gNm 6) none (sCmp .eq (sCallD i_sign_of [sVar 6, sVar 2]) (sCst (.int 0))) (iVal (sVar 4))], sBin .add (sItem (sVar 3) (sCst (.str w_asked))) (sVar 4)])]⟩
def fd_is_seen : FD := ⟨3, 3, xSeq [xExpr (sCallD i_need_plan [sVar 0]),
    xExpr (sCallD i_need_n [sVar 1]),
    xExpr (sCallD i_need_seen [sVar 0, sVar 2]),
    xRet (sItem (sCallD i_is_so [sVar 0, sVar 2, sVar 1]) (sCst (.int 0)))]⟩
def fd_good_plan : FD := ⟨1, 1, xSeq [xExpr (sCallD i_need_plan [sVar 0]),
    xRet (sVar 0)]⟩
def fd_fewer : FD := ⟨2, 2, xSeq [xExpr (sCallD i_need_index [sVar 0, sVar 1]),
    xRet (sCallD i_good_plan [sCallD i_without [sVar 0, sVar 1]])]⟩
def fd_changed : FD := ⟨2, 4, xSeq [xIf (sNot (sCallD i_is_tuple [sVar 1, sCst (.int 2), sCst (.int 2)])) (xSeq [xNever]) (xSeq []),
    xAsg (gTp [gNm 2, gNm 3]) (sVar 1),
    xExpr (sCallD i_need_index [sVar 0, sVar 2]),
    xRet (sCallD i_good_plan [sTup [sItem (sVar 0) (sCst (.int 0)), sBin .add (sBin .add (sSlice (sItem (sVar 0) (sCst (.int 1))) none (some (sVar 2))) (sTup [sVar 3])) (sSlice (sItem (sVar 0) (sCst (.int 1))) (some (sBin .add (sVar 2) (sCst (.int 1)))) none)]])]⟩
def fd_turned_spot : FD := ⟨1, 1, xSeq [xIf (sCmp .eq (sItem (sVar 0) (sCst (.int 0))) (sCst (.str w_m))) (xSeq [xRet (sTup [sCst (.str w_m), sNeg (sItem (sVar 0) (sCst (.int 1)))])]) (xSeq []),
    xRet (sTup [sItem (sDict [.s w_l, .s w_r] [sCst (.str w_r), sCst (.str w_l)]) (sItem (sVar 0) (sCst (.int 0))), sItem (sVar 0) (sCst (.int 1))])]⟩
def fd_read_plan : FD := ⟨1, 1, xSeq [xRet (sCallD i_plan_in [sVar 0])]⟩
def fd__wall : FD := ⟨1, 1, xSeq [xWhile (sCst (.bl true)) (xSeq [xPass])]⟩
def fd_spot_seat : FD := ⟨2, 2, xSeq [xIf (sCmp .eq (sItem (sVar 0) (sCst (.int 0))) (sCst (.str w_l))) (xSeq [xRet (sItem (sVar 0) (sCst (.int 1)))]) (xSeq []),
    xRet (sIf (sCmp .eq (sItem (sVar 0) (sCst (.int 0))) (sCst (.str w_m))) (sBin .add (sBin .div (sVar 1) (sCst (.int 2))) (sItem (sVar 0) (sCst (.int 1)))) (sBin .sub (sBin .sub (sVar 1) (sCst (.int 1))) (sItem (sVar 0) (sCst (.int 1)))))]⟩
def fd_sitter : FD := ⟨2, 5, xSeq [xAsg (gNm 2) (sLc [3, 4] (gTp [gNm 3, gNm 4]) (some (sCmp .eq (sVar 4) (sVar 1))) (sVar 3) (iEnum (sItem (sVar 0) (sCst (.int 0))))),
    xRet (sIf (sCmp .ne (sVar 2) (sLst false [])) (sItem (sVar 2) (sCst (.int 0))) (sCst .non))]⟩
def fd_left_way : FD := ⟨2, 4, xSeq [xRet (sTup [sBin .add (sVar 1) (sCst (.int 1)), sBf .tuple [sLc [2, 3] (gTp [gNm 2, gNm 3]) (some (sAnd [sIsN true (sVar 3), sCmp .lt (sVar 3) (sVar 1)])) (sVar 2) (iEnum (sItem (sVar 0) (sCst (.int 0))))]])]⟩
def fd_right_way : FD := ⟨3, 5, xSeq [xRet (sTup [sBin .sub (sVar 0) (sVar 2), sBf .tuple [sLc [3, 4] (gTp [gNm 3, gNm 4]) (some (sAnd [sIsN true (sVar 4), sCmp .gt (sVar 4) (sVar 2)])) (sVar 3) (iEnum (sItem (sVar 1) (sCst (.int 0))))]])]⟩
def fd_way_now : FD := ⟨4, 6, xSeq [xPar 4 5 (sCallD i_left_way [sVar 1, sVar 2]) (sCallD i_right_way [sVar 0, sVar 1, sVar 2]),
    xIf (sOr [sCmp .eq (sVar 3) (sCst (.str w_left)), sCmp .eq (sVar 3) (sCst (.str w_right))]) (xSeq [xRet (sIf (sCmp .eq (sVar 3) (sCst (.str w_left))) (sVar 4) (sVar 5))]) (xSeq []),
    xIf (sAnd [sCmp .eq (sVar 3) (sCst (.str w_few)), sCmp .ne (sBf .len [sItem (sVar 4) (sCst (.int 1))]) (sBf .len [sItem (sVar 5) (sCst (.int 1))])]) (xSeq [xRet (sIf (sCmp .lt (sBf .len [sItem (sVar 4) (sCst (.int 1))]) (sBf .len [sItem (sVar 5) (sCst (.int 1))])) (sVar 4) (sVar 5))]) (xSeq []),
    xRet (sIf (sCmp .lt (sItem (sVar 5) (sCst (.int 0))) (sItem (sVar 4) (sCst (.int 0)))) (sVar 5) (sVar 4))]⟩
def fd_with_seat : FD := ⟨4, 7, xSeq [xAsg (gNm 4) (sBin .add (sBin .add (sSlice (sItem (sVar 0) (sCst (.int 0))) none (some (sVar 1))) (sTup [sVar 2])) (sSlice (sItem (sVar 0) (sCst (.int 0))) (some (sBin .add (sVar 1) (sCst (.int 1)))) none)),
    xRet (sTup [sVar 4, sBf .tuple [sLc [5, 6] (gTp [gNm 5, gNm 6]) none (sBin .add (sVar 6) (sIf (sCmp .inn (sVar 5) (sVar 3)) (sCst (.int 1)) (sCst (.int 0)))) (iEnum (sItem (sVar 0) (sCst (.int 1))))]])]⟩
def fd_can_come : FD := ⟨3, 3, xSeq [xRet (sAnd [sIsN false (sItem (sItem (sVar 0) (sCst (.int 0))) (sVar 1)), sIsN false (sCallD i_sitter [sVar 0, sVar 2])])]⟩
def fd_can_move : FD := ⟨4, 9, xSeq [xIf (sIsN false (sItem (sItem (sVar 1) (sCst (.int 0))) (sVar 2))) (xSeq [xRet (sCst (.bl false))]) (xSeq []),
    xPar 4 5 (sItem (sItem (sVar 1) (sCst (.int 0))) (sVar 2)) (sIf (sCmp .gt (sVar 3) (sCst (.int 0))) (sCst (.int 1)) (sNeg (sCst (.int 1)))),
    xAsg (gNm 6) (sLc [7] (gNm 7) none (sBin .add (sVar 4) (sBin .mul (sVar 5) (sVar 7))) (iRange2 (sCst (.int 1)) (sBin .add (sBf .abs [sVar 3]) (sCst (.int 1))))),
    xRet (sAnd [sCmp2 .le .lt (sCst (.int 0)) (sBin .add (sVar 4) (sVar 3)) (sVar 0), sBf .all [sLc [8] (gNm 8) none (sIsN false (sCallD i_sitter [sVar 1, sVar 8])) (iVal (sVar 6))]])]⟩
def fd_hands_of : FD := ⟨3, 13, xSeq [xIf (sOr [sIsN false (sItem (sItem (sVar 0) (sCst (.int 0))) (sVar 1)), sIsN false (sItem (sItem (sVar 0) (sCst (.int 0))) (sVar 2))]) (xSeq [xRet (sCst .non)]) (xSeq []),
    xAsg (gTp [gNm 3, gNm 4]) (sBf .sorted [sLst false [sBf .int [sItem (sItem (sVar 0) (sCst (.int 0))) (sVar 1)], sBf .int [sItem (sItem (sVar 0) (sCst (.int 0))) (sVar 2)]]]),
    xAsg (gNm 5) (sLc [8, 9] (gTp [gNm 8, gNm 9]) (some (sIsN true (sVar 9))) (sTup [sBf .int [sVar 9], sBf .int [sVar 8]]) (iEnum (sItem (sVar 0) (sCst (.int 0))))),
    xAsg (gNm 6) (sBf .sorted [sLc [10] (gNm 10) (some (sCmp2 .le .le (sVar 3) (sItem (sVar 10) (sCst (.int 0))) (sVar 4))) (sVar 10) (iVal (sVar 5))]),
    xIf (sNot (sBf .all [sLc [11, 12] (gTp [gNm 11, gNm 12]) none (sCmp .le (sBin .sub (sItem (sVar 12) (sCst (.int 0))) (sItem (sVar 11) (sCst (.int 0)))) (sCst (.int 3))) (iZip (sVar 6) (sSlice (sVar 6) (some (sCst (.int 1))) none))])) (xSeq [xRet (sCst .non)]) (xSeq []),
    xAsg (gNm 7) (sBf .tuple [sLc [9, 8] (gTp [gNm 9, gNm 8]) none (sVar 8) (iVal (sVar 6))]),
    xRet (sIf (sCmp .eq (sItem (sVar 7) (sCst (.int 0))) (sVar 1)) (sVar 7) (sRev (sVar 7)))]⟩
def fd_come_now : FD := ⟨3, 4, xSeq [xAsg (gNm 3) (sCallD i_spot_seat [sItem (sVar 2) (sCst (.int 2)), sVar 0]),
    xIf (sNot (sCallD i_can_come [sVar 1, sItem (sVar 2) (sCst (.int 1)), sVar 3])) (xSeq [xRet (sVar 1)]) (xSeq []),
    xRet (sCallD i_with_seat [sVar 1, sItem (sVar 2) (sCst (.int 1)), sVar 3, sItem (sCallD i_way_now [sVar 0, sVar 1, sVar 3, sItem (sVar 2) (sCst (.int 3))]) (sCst (.int 1))])]⟩
def fd_done_now : FD := ⟨3, 4, xSeq [xIf (sCmp .eq (sItem (sVar 2) (sCst (.int 0))) (sCst (.str w_come))) (xSeq [xRet (sCallD i_come_now [sVar 0, sVar 1, sVar 2])]) (xSeq []),
    xAsg (gNm 3) (sItem (sItem (sVar 1) (sCst (.int 0))) (sItem (sVar 2) (sCst (.int 1)))),
    xIf (sOr [sIsN false (sVar 3), sCmp .eq (sItem (sVar 2) (sCst (.int 0))) (sCst (.str w_hand))]) (xSeq [xRet (sVar 1)]) (xSeq []),
    xIf (sCmp .eq (sItem (sVar 2) (sCst (.int 0))) (sCst (.str w_go))) (xSeq [xRet (sCallD i_with_seat [sVar 1, sItem (sVar 2) (sCst (.int 1)), sCst .non, sItem (sCallD i_way_now [sVar 0, sVar 1, sVar 3, sItem (sVar 2) (sCst (.int 2))]) (sCst (.int 1))])]) (xSeq []),
    xRet (sIf (sCallD i_can_move [sVar 0, sVar 1, sItem (sVar 2) (sCst (.int 1)), sItem (sVar 2) (sCst (.int 2))]) (sCallD i_with_seat [sVar 1, sItem (sVar 2) (sCst (.int 1)), sBin .add (sVar 3) (sItem (sVar 2) (sCst (.int 2))), sTup []]) (sVar 1))]⟩
def fd_law_source : FD := ⟨2, 3, xSeq [xAsg (gNm 2) (sCst (.int 0)),
    xIf (sCmp .lt (sVar 1) (sBf .len [sVar 0])) (xSeq [xAsg (gNm 2) (sBf .abs [sBf .int [sItem (sVar 0) (sVar 1)]])]) (xSeq []),
    xIf (sCmp .lt (sVar 2) (sBin .pow (sCst (.int 10)) (sCst (.int 18)))) (xSeq [xRet (sLst true [sCst (.int 0), sBin .add (sCst (.int 1)) (sBin .mod (sBf .int [sBin .add (sBin .mul (sVar 2) (sCst (.int 7919))) (sBin .mul (sCst (.int 104729)) (sVar 1))]) (sCst (.int 2147483646)))])]) (xSeq []),
    xRet (sLst true [sVar 2, sBin .add (sCst (.int 1)) (sBin .mod (sBf .int [sBin .add (sVar 2) (sVar 1)]) (sCst (.int 2147483646)))])]⟩
def fd_law_draw : FD := ⟨2, 3, xSeq [xIf (sCmp .gt (sItem (sVar 0) (sCst (.int 0))) (sCst (.int 0))) (xSeq [xAsg (gNm 2) (sBin .mod (sBf .int [sItem (sVar 0) (sCst (.int 0))]) (sVar 1)),
    xSet (sVar 0) (sCst (.int 0)) (sBin .div (sItem (sVar 0) (sCst (.int 0))) (sVar 1)),
    xRet (sVar 2)]) (xSeq []),
    xSet (sVar 0) (sCst (.int 1)) (sBin .mod (sBf .int [sBin .mul (sItem (sVar 0) (sCst (.int 1))) (sCst (.int 48271))]) (sCst (.int 2147483647))),
    xRet (sBin .mod (sBf .int [sBin .div (sBin .mod (sBf .int [sBin .mul (sItem (sVar 0) (sCst (.int 1))) (sItem (sVar 0) (sCst (.int 1)))]) (sCst (.int 2147483629))) (sCst (.int 64))]) (sVar 1))]⟩
def fd_law_of : FD := ⟨2, 2, xSeq [xRet (sItem (sVar 1) (sCallD i_law_draw [sVar 0, sBf .len [sVar 1]]))]⟩
def fd_law_spot : FD := ⟨1, 2, xSeq [xAsg (gNm 1) (sCallD i_law_of [sVar 0, sLst false [sCst (.str w_l), sCst (.str w_l), sCst (.str w_r), sCst (.str w_r), sCst (.str w_m)]]),
    xRet (sTup [sVar 1, sIf (sCmp .eq (sVar 1) (sCst (.str w_m))) (sBin .sub (sCallD i_law_draw [sVar 0, sCst (.int 11)]) (sCst (.int 5))) (sCallD i_law_draw [sVar 0, sCst (.int 6)])])]⟩
def fd_law_side : FD := ⟨1, 1, xSeq [xRet (sCallD i_law_of [sVar 0, sLst false [sCst (.str w_left), sCst (.str w_right), sCst (.str w_near), sCst (.str w_few)]])]⟩
def fd_law_deed : FD := ⟨2, 5, xSeq [xAsg (gNm 2) (sCallD i_law_of [sVar 0, sLst false [sCst (.str w_come), sCst (.str w_come), sCst (.str w_come), sCst (.str w_go), sCst (.str w_move), sCst (.str w_move), sCst (.str w_hand)]]),
    xAsg (gNm 3) (sCallD i_law_draw [sVar 0, sVar 1]),
    xIf (sCmp .eq (sVar 2) (sCst (.str w_come))) (xSeq [xRet (sTup [sVar 2, sVar 3, sCallD i_law_spot [sVar 0], sCallD i_law_side [sVar 0]])]) (xSeq []),
    xIf (sCmp .eq (sVar 2) (sCst (.str w_move))) (xSeq [xAsg (gNm 4) (sBin .add (sCst (.int 1)) (sCallD i_law_draw [sVar 0, sCst (.int 9)])),
    xRet (sTup [sVar 2, sVar 3, sIf (sCmp .eq (sCallD i_law_draw [sVar 0, sCst (.int 2)]) (sCst (.int 0))) (sVar 4) (sNeg (sVar 4))])]) (xSeq []),
    xIf (sAnd [sCmp .eq (sVar 2) (sCst (.str w_hand)), sCmp .gt (sVar 1) (sCst (.int 1))]) (xSeq [xRet (sTup [sVar 2, sVar 3, sBin .mod (sBin .add (sBin .add (sVar 3) (sCst (.int 1))) (sCallD i_law_draw [sVar 0, sBin .sub (sVar 1) (sCst (.int 1))])) (sVar 1)])]) (xSeq []),
    xRet (sTup [sCst (.str w_go), sVar 3, sCallD i_law_side [sVar 0]])]⟩
def fd_law_plan : FD := ⟨2, 6, xSeq [xPar 2 3 (sBin .add (sCst (.int 1)) (sCallD i_law_draw [sVar 0, sCst (.int 5)])) (sTup []),
    xFor (gNm 4) (iRange1 (sCallD i_law_draw [sVar 0, sBin .add (sVar 1) (sCst (.int 1))])) (xSeq [xAsg (gNm 5) (sCallD i_law_deed [sVar 0, sVar 2]),
    xIf (sAnd [sCmp .lt (sVar 4) (sVar 2), sCmp .gt (sCallD i_law_draw [sVar 0, sCst (.int 4)]) (sCst (.int 0))]) (xSeq [xAsg (gNm 5) (sTup [sCst (.str w_come), sVar 4, sCallD i_law_spot [sVar 0], sCallD i_law_side [sVar 0]])]) (xSeq []),
    xAsg (gNm 3) (sBin .add (sVar 3) (sTup [sVar 5]))]),
    xRet (sTup [sVar 2, sVar 3])]⟩
def fd_law_n : FD := ⟨1, 3, xSeq [xPar 1 2 (sBin .add (sCst (.int 12)) (sCallD i_law_draw [sVar 0, sCst (.int 9)])) (sBin .add (sBin .pow (sCst (.int 10)) (sCst (.int 9))) (sCallD i_law_draw [sVar 0, sBin .pow (sCst (.int 10)) (sCst (.int 9))])),
    xRet (sCallD i_law_of [sVar 0, sLst false [sCst (.int 12), sVar 1, sBin .add (sVar 1) (sCallD i_law_draw [sVar 0, sCst (.int 60)]), sVar 2, sBin .pow (sCst (.int 10)) (sCst (.int 30))]])]⟩
def fd_law_value : FD := ⟨2, 2, xSeq [xRet (sBin .add (sBin .mul (sItem (sVar 0) (sCst (.int 0))) (sBin .div (sVar 1) (sCst (.int 2)))) (sItem (sVar 0) (sCst (.int 1))))]⟩
def fd_law_form : FD := ⟨2, 2, xSeq [xIf (sCmp .eq (sItem (sVar 0) (sCst (.int 0))) (sCst (.str w_l))) (xSeq [xRet (sTup [sCst (.int 0), sItem (sVar 0) (sCst (.int 1))])]) (xSeq []),
    xRet (sIf (sCmp .eq (sItem (sVar 0) (sCst (.int 0))) (sCst (.str w_m))) (sTup [sCst (.int 1), sItem (sVar 0) (sCst (.int 1))]) (sTup [sCst (.int 2), sBin .sub (sBin .sub (sBin .mod (sVar 1) (sCst (.int 2))) (sCst (.int 1))) (sItem (sVar 0) (sCst (.int 1)))]))]⟩
def fd_law_is_int : FD := ⟨3, 3, xSeq [xRet (sAnd [sIsi (sVar 0) .int, sNot (sIsi (sVar 0) .bool), sCmp2 .le .le (sVar 1) (sVar 0) (sVar 2)])]⟩
def fd_law_is_side : FD := ⟨1, 1, xSeq [xRet (sAnd [sIsi (sVar 0) .str, sCmp .inn (sVar 0) (sTup [sCst (.str w_left), sCst (.str w_right), sCst (.str w_near), sCst (.str w_few)])])]⟩
def fd_law_is_spot : FD := ⟨1, 1, xSeq [xIf (sOr [sNot (sIsi (sVar 0) .tuple), sCmp .ne (sBf .len [sVar 0]) (sCst (.int 2)), sNot (sIsi (sItem (sVar 0) (sCst (.int 0))) .str)]) (xSeq [xRet (sCst (.bl false))]) (xSeq []),
    xIf (sCmp .eq (sItem (sVar 0) (sCst (.int 0))) (sCst (.str w_m))) (xSeq [xRet (sCallD i_law_is_int [sItem (sVar 0) (sCst (.int 1)), sNeg (sCst (.int 5)), sCst (.int 5)])]) (xSeq []),
    xRet (sAnd [sCmp .inn (sItem (sVar 0) (sCst (.int 0))) (sTup [sCst (.str w_l), sCst (.str w_r)]), sCallD i_law_is_int [sItem (sVar 0) (sCst (.int 1)), sCst (.int 0), sCst (.int 5)]])]⟩
def fd_law_is_deed : FD := ⟨2, 3, xSeq [xIf (sOr [sNot (sIsi (sVar 1) .tuple), sCmp .nin (sBf .len [sVar 1]) (sTup [sCst (.int 3), sCst (.int 4)]), sNot (sIsi (sItem (sVar 1) (sCst (.int 0))) .str)]) (xSeq [xRet (sCst (.bl false))]) (xSeq []),
    xIf (sNot (sCallD i_law_is_int [sItem (sVar 1) (sCst (.int 1)), sCst (.int 0), sBin .sub (sVar 0) (sCst (.int 1))])) (xSeq [xRet (sCst (.bl false))]) (xSeq []),
    xIf (sCmp .eq (sItem (sVar 1) (sCst (.int 0))) (sCst (.str w_come))) (xSeq [xRet (sAnd [sCmp .eq (sBf .len [sVar 1]) (sCst (.int 4)), sCallD i_law_is_spot [sItem (sVar 1) (sCst (.int 2))], sCallD i_law_is_side [sItem (sVar 1) (sCst (.int 3))]])]) (xSeq []),
    xIf (sAnd [sCmp .eq (sItem (sVar 1) (sCst (.int 0))) (sCst (.str w_go)), sCmp .eq (sBf .len [sVar 1]) (sCst (.int 3))]) (xSeq [xRet (sCallD i_law_is_side [sItem (sVar 1) (sCst (.int 2))])]) (xSeq []),
    xIf (sAnd [sCmp .eq (sItem (sVar 1) (sCst (.int 0))) (sCst (.str w_move)), sCmp .eq (sBf .len [sVar 1]) (sCst (.int 3))]) (xSeq [xRet (sAnd [sCallD i_law_is_int [sItem (sVar 1) (sCst (.int 2)), sNeg (sCst (.int 9)), sCst (.int 9)], sCmp .ne (sItem (sVar 1) (sCst (.int 2))) (sCst (.int 0))])]) (xSeq []),
    xAsg (gNm 2) (sAnd [sCmp .eq (sItem (sVar 1) (sCst (.int 0))) (sCst (.str w_hand)), sCmp .eq (sBf .len [sVar 1]) (sCst (.int 3))]),
    xRet (sAnd [sVar 2, sCallD i_law_is_int [sItem (sVar 1) (sCst (.int 2)), sCst (.int 0), sBin .sub (sVar 0) (sCst (.int 1))], sCmp .ne (sItem (sVar 1) (sCst (.int 1))) (sItem (sVar 1) (sCst (.int 2)))])]⟩
def fd_law_is_plan : FD := ⟨1, 2, xSeq [xIf (sOr [sNot (sIsi (sVar 0) .tuple), sCmp .ne (sBf .len [sVar 0]) (sCst (.int 2)), sNot (sCallD i_law_is_int [sItem (sVar 0) (sCst (.int 0)), sCst (.int 1), sCst (.int 5)])]) (xSeq [xRet (sCst (.bl false))]) (xSeq []),
    xIf (sOr [sNot (sIsi (sItem (sVar 0) (sCst (.int 1))) .tuple), sCmp .gt (sBf .len [sItem (sVar 0) (sCst (.int 1))]) (sCst (.int 8))]) (xSeq [xRet (sCst (.bl false))]) (xSeq []),
    xRet (sCmp .eq (sLc [1] (gNm 1) (some (sNot (sCallD i_law_is_deed [sItem (sVar 0) (sCst (.int 0)), sVar 1]))) (sVar 1) (iVal (sItem (sVar 0) (sCst (.int 1))))) (sLst false []))]⟩
def fd_law_odd : FD := ⟨1, 2, xSeq [xAsg (gNm 1) (sLst false [sCst .non, sCst (.bl true), sCst (.bl false), sCst (.int 0), sCst (.int 1), sCst (.int 4), sCst (.int 5), sCst (.int 6), sCst (.int 9), sCst (.int 10), sNeg (sCst (.int 1)), sNeg (sCst (.int 5)), sNeg (sCst (.int 6)), sNeg (sCst (.int 9)), sNeg (sCst (.int 10)), sCst (.str w_empty), sCst (.str w_l), sCst (.str w_m), sCst (.str w_near), sCst (.str w_go), sCst (.str w_hand), sTup []]),
    xRet (sCallD i_law_of [sVar 0, sBin .add (sVar 1) (sLst false [sLst false [], sTup [sCst (.str w_l), sCst (.int 5)], sTup [sCst (.str w_m), sNeg (sCst (.int 5))], sTup [sCst (.str w_r), sNeg (sCst (.int 1))], sTup [sCst (.str w_go), sCst (.int 0), sCst (.str w_few)], sLst false [sCst (.str w_l), sCst (.int 1)]])])]⟩
def fd_law_spoilt_k01 : FD := ⟨2, 4, xSeq [xIf (sOr [sNot (sIsi (sVar 1) .tuple), sCmp .eq (sVar 1) (sTup []), sCmp .eq (sCallD i_law_draw [sVar 0, sCst (.int 6)]) (sCst (.int 0))]) (xSeq [xRet (sCallD i_law_odd [sVar 0])]) (xSeq []),
    xPar 2 3 (sCallD i_law_draw [sVar 0, sBf .len [sVar 1]]) (sCallD i_law_draw [sVar 0, sCst (.int 9)]),
    xIf (sCmp .eq (sVar 3) (sCst (.int 0))) (xSeq [xRet (sBin .add (sSlice (sVar 1) none (some (sVar 2))) (sSlice (sVar 1) (some (sBin .add (sVar 2) (sCst (.int 1)))) none))]) (xSeq []),
    xIf (sCmp .eq (sVar 3) (sCst (.int 1))) (xSeq [xRet (sBin .add (sSlice (sVar 1) none (some (sBin .add (sVar 2) (sCst (.int 1))))) (sSlice (sVar 1) (some (sVar 2)) none))]) (xSeq []),
    xIf (sCmp .eq (sVar 3) (sCst (.int 2))) (xSeq [xRet (sBin .add (sBin .add (sSlice (sVar 1) none (some (sVar 2))) (sTup [sCallD i_law_odd [sVar 0]])) (sSlice (sVar 1) (some (sVar 2)) none))]) (xSeq []),
    xIf (sCmp .eq (sVar 3) (sCst (.int 3))) (xSeq [xRet (sBf .list [sVar 1])]) (xSeq []),
    xIf (sAnd [sIsi (sItem (sVar 1) (sVar 2)) .int, sCmp .lt (sVar 3) (sCst (.int 6))]) (xSeq [xRet (sBin .add (sBin .add (sSlice (sVar 1) none (some (sVar 2))) (sTup [sBin .sub (sBin .add (sItem (sVar 1) (sVar 2)) (sCallD i_law_draw [sVar 0, sCst (.int 3)])) (sCst (.int 1))])) (sSlice (sVar 1) (some (sBin .add (sVar 2) (sCst (.int 1)))) none))]) (xSeq []),
    xRet (sBin .add (sBin .add (sSlice (sVar 1) none (some (sVar 2))) (sTup [sCallD i_law_spoilt_k01 [sVar 0, sItem (sVar 1) (sVar 2)]])) (sSlice (sVar 1) (some (sBin .add (sVar 2) (sCst (.int 1)))) none))]⟩
def fd_law_k01 : FD := ⟨1, 11, xSeq [xAsg (gNm 1) (sTup [sCst (.int 5), sBin .mul (sTup [sTup [sCst (.str w_come), sCst (.int 4), sTup [sCst (.str w_m), sNeg (sCst (.int 5))], sCst (.str w_few)]]) (sCst (.int 8))]),
    xFor (gNm 2) (iRange1 (sBin .add (sCst (.int 1)) (sBf .min [sBf .len [sVar 0], sCst (.int 10)]))) (xSeq [xAsg (gNm 3) (sCallD i_law_source [sVar 0, sVar 2]),
    xAsg (gNm 4) (sCallD i_law_plan [sVar 3, sCst (.int 8)]),
    xFor (gNm 5) (iVal (sLst false [sVar 4, sVar 4, sCallD i_law_deed [sVar 3, sItem (sVar 4) (sCst (.int 0))], sVar 1])) (xSeq [xFor (gNm 6) (iRange1 (sCst (.int 5))) (xSeq [xIf (sCmp .ne (sCallD i_is_plan [sVar 5]) (sCallD i_law_is_plan [sVar 5])) (xSeq [xRet (sCst (.bl false))]) (xSeq []),
    xIf (sCmp .ne (sCallD i_is_deed [sVar 4, sVar 5]) (sCallD i_law_is_deed [sItem (sVar 4) (sCst (.int 0)), sVar 5])) (xSeq [xRet (sCst (.bl false))]) (xSeq []),
    xAsg (gNm 5) (sCallD i_law_spoilt_k01 [sVar 3, sVar 5])])]),
    xPar 7 8 (sCallD i_law_spot [sVar 3]) (sCallD i_law_n [sVar 3]),
    xIf (sCmp .ne (sCallD i_seat_of [sVar 7, sVar 8]) (sCallD i_law_value [sCallD i_law_form [sVar 7, sVar 8], sVar 8])) (xSeq [xRet (sCst (.bl false))]) (xSeq [])]),
    xPar 9 10 (sTup [sCst (.int 2), sTup []]) (sBin .pow (sCst (.int 10)) (sCst (.int 30))),
    xIf (sOr [sCallD i_is_plan [sTup [sCst (.int 0), sTup []]], sCallD i_is_plan [sTup [sCst (.int 6), sTup []]], sCallD i_is_plan [sTup [sCst (.int 1), sBin .mul (sTup [sTup [sCst (.str w_go), sCst (.int 0), sCst (.str w_left)]]) (sCst (.int 9))]]]) (xSeq [xRet (sCst (.bl false))]) (xSeq []),
    xIf (sOr [sCallD i_is_deed [sVar 9, sTup [sCst (.str w_hand), sCst (.int 1), sCst (.int 1)]], sCallD i_is_deed [sVar 9, sTup [sCst (.str w_move), sCst (.int 0), sCst (.int 0)]], sCallD i_is_deed [sVar 9, sTup [sCst (.str w_move), sCst (.int 0), sCst (.int 10)]]]) (xSeq [xRet (sCst (.bl false))]) (xSeq []),
    xIf (sOr [sCallD i_is_deed [sVar 9, sTup [sCst (.str w_come), sCst (.int 0), sTup [sCst (.str w_l), sCst (.int 6)], sCst (.str w_left)]], sCallD i_is_deed [sVar 9, sTup [sCst (.str w_come), sCst (.int 0), sTup [sCst (.str w_m), sNeg (sCst (.int 6))], sCst (.str w_left)]]]) (xSeq [xRet (sCst (.bl false))]) (xSeq []),
    xIf (sOr [sCallD i_is_deed [sVar 9, sTup [sCst (.str w_go), sCst (.int 0), sCst (.str w_far)]], sCallD i_is_deed [sVar 9, sTup [sCst (.str w_go), sCst (.int 2), sCst (.str w_few)]]]) (xSeq [xRet (sCst (.bl false))]) (xSeq []),
    xIf (sNot (sCallD i_is_deed [sVar 9, sTup [sCst (.str w_hand), sCst (.int 0), sCst (.int 1)]])) (xSeq [xRet (sCst (.bl false))]) (xSeq []),
    xIf (sCmp .ne (sLst false [sCallD i_seat_of [sTup [sCst (.str w_r), sCst (.int 5)], sCst (.int 12)], sCallD i_seat_of [sTup [sCst (.str w_m), sNeg (sCst (.int 5))], sCst (.int 13)], sCallD i_seat_of [sTup [sCst (.str w_l), sCst (.int 0)], sVar 10]]) (sLst false [sCst (.int 6), sCst (.int 1), sCst (.int 0)])) (xSeq [xRet (sCst (.bl false))]) (xSeq []),
    xRet (sAnd [sCallD i_is_plan [sVar 1], sCmp .eq (sCallD i_seat_of [sTup [sCst (.str w_r), sCst (.int 0)], sVar 10]) (sBin .sub (sVar 10) (sCst (.int 1))), sCmp .eq (sCallD i_seat_of [sTup [sCst (.str w_m), sCst (.int 5)], sCst (.int 12)]) (sCst (.int 11))])]⟩
def fd_law_k02 : FD := ⟨1, 11, xSeq [xFor (gNm 1) (iRange1 (sBin .add (sCst (.int 1)) (sBf .min [sBf .len [sVar 0], sCst (.int 10)]))) (xSeq [xAsg (gNm 2) (sCallD i_law_source [sVar 0, sVar 1]),
    xFor (gNm 3) (iRange1 (sCst (.int 4))) (xSeq [xAsg (gNm 4) (sCallD i_law_plan [sVar 2, sCst (.int 8)]),
    xFor (gNm 5) (iRange1 (sCst (.int 4))) (xSeq [xIf (sNot (sCallD i_law_right_k02 [sVar 4, sCallD i_law_n [sVar 2]])) (xSeq [xRet (sCst (.bl false))]) (xSeq [])])])]),
    xAsg (gTp [gNm 6, gNm 7, gNm 8]) (sCallD i_law_known []),
    xIf (sOr [sCmp .ne (sCallD i_done [sVar 6, sCst (.int 12)]) (sBin .mul (sTup [sCst (.bl true)]) (sCst (.int 4))), sCmp .ne (sCallD i_stood [sVar 6, sCst (.int 12)]) (sTup [sTup [], sTup [sCst (.int 0)], sTup [], sTup [sCst (.int 1), sCst (.int 2)]])]) (xSeq [xRet (sCst (.bl false))]) (xSeq []),
    xIf (sOr [sCmp .ne (sCallD i_steps [sVar 6, sCst (.int 12)]) (sTup [sCst (.int 3), sCst (.int 5), sCst (.int 6), sCst (.int 10)]), sCmp .ne (sCallD i_steps [sVar 6, sCst (.int 13)]) (sTup [sCst (.int 3), sCst (.int 5), sCst (.int 7), sCst (.int 11)])]) (xSeq [xRet (sCst (.bl false))]) (xSeq []),
    xIf (sCmp .ne (sCallD i_step_forms [sVar 6, sCst (.int 13)]) (sTup [sTup [sCst (.int 0), sCst (.int 3)], sTup [sCst (.int 0), sCst (.int 5)], sTup [sCst (.int 1), sCst (.int 1)], sTup [sCst (.int 2), sNeg (sCst (.int 1))]])) (xSeq [xRet (sCst (.bl false))]) (xSeq []),
    xIf (sOr [sCmp .ne (sCallD i_done [sVar 7, sCst (.int 12)]) (sBin .mul (sTup [sCst (.bl true)]) (sCst (.int 4))), sCmp .ne (sCallD i_done [sVar 7, sCst (.int 13)]) (sTup [sCst (.bl true), sCst (.bl true), sCst (.bl false), sCst (.bl true)])]) (xSeq [xRet (sCst (.bl false))]) (xSeq []),
    xIf (sOr [sCmp .ne (sCallD i_stood [sVar 7, sCst (.int 12)]) (sTup [sTup [], sTup [sCst (.int 0)], sTup [], sTup []]), sCmp .ne (sItem (sCallD i_steps [sVar 7, sBin .pow (sCst (.int 10)) (sCst (.int 30))]) (sCst (.int 1))) (sBin .sub (sBin .pow (sCst (.int 10)) (sCst (.int 30))) (sCst (.int 3)))]) (xSeq [xRet (sCst (.bl false))]) (xSeq []),
    xIf (sOr [sCmp .ne (sCallD i_done [sVar 8, sCst (.int 12)]) (sTup [sCst (.bl true), sCst (.bl false)]), sCmp .ne (sCallD i_steps [sVar 8, sCst (.int 12)]) (sTup [sCst (.int 6), sCst (.int 0)])]) (xSeq [xRet (sCst (.bl false))]) (xSeq []),
    xIf (sOr [sCmp .ne (sCallD i_stood [sVar 8, sCst (.int 14)]) (sTup [sTup [], sTup [sCst (.int 0)]]), sCmp .ne (sCallD i_stood [sVar 8, sCst (.int 13)]) (sTup [sTup [], sTup []])]) (xSeq [xRet (sCst (.bl false))]) (xSeq []),
    xAsg (gNm 9) (sTup [sTup [sCst (.str w_come), sCst (.int 0), sTup [sCst (.str w_l), sCst (.int 0)], sCst (.str w_right)], sTup [sCst (.str w_move), sCst (.int 0), sNeg (sCst (.int 1))], sTup [sCst (.str w_move), sCst (.int 0), sCst (.int 9)], sTup [sCst (.str w_come), sCst (.int 1), sTup [sCst (.str w_l), sCst (.int 4)], sCst (.str w_left)]]),
    xAsg (gNm 10) (sTup [sCst (.int 2), sBin .add (sVar 9) (sTup [sTup [sCst (.str w_move), sCst (.int 0), sNeg (sCst (.int 9))], sTup [sCst (.str w_move), sCst (.int 1), sCst (.int 4)], sTup [sCst (.str w_hand), sCst (.int 1), sCst (.int 0)], sTup [sCst (.str w_go), sCst (.int 1), sCst (.str w_few)]])]),
    xIf (sCmp .ne (sCallD i_done [sVar 10, sCst (.int 12)]) (sTup [sCst (.bl true), sCst (.bl false), sCst (.bl true), sCst (.bl true), sCst (.bl false), sCst (.bl true), sCst (.bl true), sCst (.bl true)])) (xSeq [xRet (sCst (.bl false))]) (xSeq []),
    xRet (sAnd [sCmp .eq (sCallD i_steps [sVar 10, sCst (.int 12)]) (sTup [sCst (.int 12), sCst (.int 0), sCst (.int 9), sCst (.int 5), sCst (.int 0), sCst (.int 4), sCst (.int 0), sCst (.int 9)]), sCmp .eq (sItem (sCallD i_stood [sVar 10, sCst (.int 12)]) (sCst (.int 7))) (sTup [])])]⟩
def fd_law_k03 : FD := ⟨1, 10, xSeq [xFor (gNm 1) (iRange1 (sBin .add (sCst (.int 1)) (sBf .min [sBf .len [sVar 0], sCst (.int 6)]))) (xSeq [xAsg (gNm 2) (sCallD i_law_source [sVar 0, sVar 1]),
    xFor (gNm 3) (iRange1 (sCst (.int 3))) (xSeq [xIf (sNot (sCallD i_law_right_k03 [sVar 2, sCallD i_law_plan [sVar 2, sCst (.int 8)]])) (xSeq [xRet (sCst (.bl false))]) (xSeq [])])]),
    xAsg (gTp [gNm 4, gNm 5, gNm 6]) (sCallD i_law_known []),
    xAsg (gNm 7) (sTup [sCst (.bl true), sCst (.bl true), sCst (.bl false), sCst (.bl true)]),
    xIf (sCmp .ne (sCallD i_done_rows [sVar 5]) (sTup [sLst false [sTup [sCst (.int 12), sCst (.int 12), sBin .mul (sTup [sCst (.bl true)]) (sCst (.int 4))], sTup [sCst (.int 14), sCst .non, sVar 7]], sLst false [sTup [sCst (.int 13), sCst .non, sVar 7]]])) (xSeq [xRet (sCst (.bl false))]) (xSeq []),
    xIf (sCmp .ne (sCallD i_stood_rows [sVar 6, sCst (.int 1)]) (sTup [sLst false [sTup [sCst (.int 12), sCst (.int 12), sTup []], sTup [sCst (.int 14), sCst .non, sTup [sCst (.int 0)]]], sLst false [sTup [sCst (.int 13), sCst .non, sTup []]]])) (xSeq [xRet (sCst (.bl false))]) (xSeq []),
    xIf (sCmp .ne (sCallD i_step_rows [sVar 4, sCst (.int 2)]) (sTup [sLst false [sTup [sCst (.int 12), sCst .non, sTup [sCst (.int 1), sCst (.int 0)]]], sLst false [sTup [sCst (.int 13), sCst .non, sTup [sCst (.int 1), sCst (.int 1)]]]])) (xSeq [xRet (sCst (.bl false))]) (xSeq []),
    xIf (sCmp .ne (sCallD i_total_rows [sVar 4]) (sTup [sLst false [sTup [sCst (.int 12), sCst .non, sTup [sCst (.int 3), sCst (.int 6)]]], sLst false [sTup [sCst (.int 13), sCst .non, sTup [sCst (.int 3), sCst (.int 8)]]]])) (xSeq [xRet (sCst (.bl false))]) (xSeq []),
    xAsg (gNm 8) (sTup [sCst (.int 1), sTup [sTup [sCst (.str w_come), sCst (.int 0), sTup [sCst (.str w_l), sCst (.int 5)], sCst (.str w_left)], sTup [sCst (.str w_move), sCst (.int 0), sCst (.int 9)]]]),
    xAsg (gNm 9) (sLst false [sTup [sCst (.int 12), sCst (.int 14), sTup [sCst (.bl true), sCst (.bl false)]], sTup [sCst (.int 16), sCst .non, sTup [sCst (.bl true), sCst (.bl true)]]]),
    xIf (sCmp .ne (sCallD i_done_rows [sVar 8]) (sTup [sVar 9, sLst false [sTup [sCst (.int 13), sCst (.int 13), sTup [sCst (.bl true), sCst (.bl false)]], sTup [sCst (.int 15), sCst .non, sTup [sCst (.bl true), sCst (.bl true)]]]])) (xSeq [xRet (sCst (.bl false))]) (xSeq []),
    xRet (sCmp .eq (sCallD i_total_rows [sTup [sCst (.int 1), sTup []]]) (sTup [sLst false [sTup [sCst (.int 12), sCst .non, sTup [sCst (.int 0), sCst (.int 0)]]], sLst false [sTup [sCst (.int 13), sCst .non, sTup [sCst (.int 0), sCst (.int 0)]]]]))]⟩
def fd_law_k04 : FD := ⟨1, 9, xSeq [xFor (gNm 1) (iRange1 (sBin .add (sCst (.int 1)) (sBf .min [sBf .len [sVar 0], sCst (.int 6)]))) (xSeq [xAsg (gNm 2) (sCallD i_law_source [sVar 0, sVar 1]),
    xFor (gNm 3) (iRange1 (sCst (.int 2))) (xSeq [xAsg (gNm 4) (sCallD i_law_plan [sVar 2, sCst (.int 8)]),
    xFor (gNm 5) (iVal (sLst false [sCst (.int 12), sCst (.int 13), sCallD i_law_n [sVar 2], sCallD i_law_n [sVar 2]])) (xSeq [xIf (sCmp .ne (sCallD i_sits [sVar 4, sVar 5]) (sCallD i_law_seats [sVar 4, sVar 5])) (xSeq [xRet (sCst (.bl false))]) (xSeq []),
    xIf (sCmp .ne (sCallD i_neighbours [sVar 4, sVar 5]) (sCallD i_law_pairs [sVar 4, sVar 5])) (xSeq [xRet (sCst (.bl false))]) (xSeq [])]),
    xIf (sNot (sCallD i_law_right_k04 [sVar 2, sVar 4])) (xSeq [xRet (sCst (.bl false))]) (xSeq [])])]),
    xAsg (gTp [gNm 6, gNm 7, gNm 8]) (sCallD i_law_known []),
    xIf (sOr [sCmp .ne (sCallD i_sits [sVar 6, sCst (.int 12)]) (sTup [sCst .non, sCst (.int 4), sCst (.int 6)]), sCmp .ne (sCallD i_sits [sVar 8, sCst (.int 12)]) (sTup [sCst (.int 6), sCst .non])]) (xSeq [xRet (sCst (.bl false))]) (xSeq []),
    xIf (sCmp .ne (sCallD i_sit_rows [sVar 7, sCst (.int 1)]) (sTup [sLst false [sTup [sCst (.int 12), sCst .non, sTup [sCst (.int 2), sNeg (sCst (.int 6))]]], sLst false [sTup [sCst (.int 13), sCst .non, sTup [sCst (.int 2), sNeg (sCst (.int 5))]]]])) (xSeq [xRet (sCst (.bl false))]) (xSeq []),
    xIf (sCmp .ne (sItem (sCallD i_sit_rows [sVar 8, sCst (.int 1)]) (sCst (.int 0))) (sLst false [sTup [sCst (.int 12), sCst (.int 12), sCst .non], sTup [sCst (.int 14), sCst .non, sTup [sCst (.int 1), sCst (.int 0)]]])) (xSeq [xRet (sCst (.bl false))]) (xSeq []),
    xIf (sOr [sCmp .ne (sCallD i_neighbours [sVar 7, sCst (.int 12)]) (sLst false [sTup [sCst (.int 0), sCst (.int 1)]]), sCmp .ne (sCallD i_neighbours [sVar 8, sCst (.int 14)]) (sLst false [sTup [sCst (.int 0), sCst (.int 1)]])]) (xSeq [xRet (sCst (.bl false))]) (xSeq []),
    xRet (sCmp .eq (sCallD i_neighbour_rows [sVar 7]) (sTup [sLst false [sTup [sCst (.int 12), sCst (.int 12), sTup [sTup [sCst (.int 0), sCst (.int 1)]]], sTup [sCst (.int 14), sCst .non, sTup []]], sLst false [sTup [sCst (.int 13), sCst .non, sTup []]]]))]⟩
def fd_law_k05 : FD := ⟨1, 13, xSeq [xFor (gNm 1) (iRange1 (sBin .add (sCst (.int 1)) (sBf .min [sBf .len [sVar 0], sCst (.int 6)]))) (xSeq [xAsg (gNm 2) (sCallD i_law_source [sVar 0, sVar 1]),
    xFor (gNm 3) (iRange1 (sCst (.int 2))) (xSeq [xAsg (gNm 4) (sCallD i_law_plan [sVar 2, sCst (.int 8)]),
    xIf (sNot (sCallD i_law_most_right [sVar 4])) (xSeq [xRet (sCst (.bl false))]) (xSeq []),
    xFor (gNm 5) (iRange1 (sItem (sVar 4) (sCst (.int 0)))) (xSeq [xAsg (gNm 6) (sCallD i_standing_rows [sVar 4, sVar 5]),
    xIf (sNot (sCallD i_law_are_rows [sVar 6])) (xSeq [xRet (sCst (.bl false))]) (xSeq []),
    xFor (gNm 7) (iVal (sCallD i_law_spots [sVar 2, sVar 6])) (xSeq [xAsg (gNm 8) (sCallD i_law_counts [sVar 4, sVar 7]),
    xIf (sCmp .ne (sCallD i_law_told_at [sVar 6, sVar 7]) (sItem (sVar 8) (sVar 5))) (xSeq [xRet (sCst (.bl false))]) (xSeq []),
    xIf (sAnd [sCmp .le (sVar 7) (sBin .pow (sCst (.int 10)) (sCst (.int 30))), sCmp .ne (sCallD i_standings [sVar 4, sVar 7]) (sVar 8)]) (xSeq [xRet (sCst (.bl false))]) (xSeq [])])])])]),
    xAsg (gTp [gNm 9, gNm 10, gNm 11]) (sCallD i_law_known []),
    xIf (sOr [sCmp .ne (sCallD i_standings [sVar 9, sCst (.int 12)]) (sTup [sCst (.int 1), sCst (.int 1), sCst (.int 1)]), sCmp .ne (sCallD i_standings [sVar 11, sCst (.int 14)]) (sTup [sCst (.int 1), sCst (.int 0)])]) (xSeq [xRet (sCst (.bl false))]) (xSeq []),
    xIf (sCmp .ne (sCallD i_standing_rows [sVar 11, sCst (.int 0)]) (sTup [sLst false [sTup [sCst (.int 12), sCst (.int 12), sCst (.int 0)], sTup [sCst (.int 14), sCst .non, sCst (.int 1)]], sLst false [sTup [sCst (.int 13), sCst .non, sCst (.int 0)]]])) (xSeq [xRet (sCst (.bl false))]) (xSeq []),
    xIf (sOr [sCmp .ne (sCallD i_most_standing [sVar 9]) (sTup [sCst (.int 1), sCst (.int 12)]), sCmp .ne (sCallD i_most_standing [sVar 11]) (sTup [sCst (.int 1), sCst (.int 14)])]) (xSeq [xRet (sCst (.bl false))]) (xSeq []),
    xAsg (gNm 12) (sTup [sCst (.int 2), sTup [sTup [sCst (.str w_come), sCst (.int 0), sTup [sCst (.str w_l), sCst (.int 0)], sCst (.str w_left)], sTup [sCst (.str w_come), sCst (.int 1), sTup [sCst (.str w_l), sCst (.int 1)], sCst (.str w_left)], sTup [sCst (.str w_go), sCst (.int 1), sCst (.str w_left)]]]),
    xRet (sAnd [sCmp .eq (sCallD i_most_standing [sTup [sCst (.int 1), sTup []]]) (sTup [sCst (.int 0), sCst (.int 12)]), sCmp .eq (sCallD i_most_standing [sVar 12]) (sTup [sCst (.int 2), sCst (.int 12)])])]⟩
def fd_law_k06 : FD := ⟨1, 14, xSeq [xFor (gNm 1) (iRange1 (sBin .add (sCst (.int 1)) (sBf .min [sBf .len [sVar 0], sCst (.int 5)]))) (xSeq [xAsg (gNm 2) (sCallD i_law_source [sVar 0, sVar 1]),
    xFor (gNm 3) (iRange1 (sCst (.int 3))) (xSeq [xAsg (gNm 4) (sCallD i_law_plan [sVar 2, sCst (.int 8)]),
    xAsg (gNm 5) (sCallD i_law_near [sVar 2, sVar 4]),
    xFor (gNm 6) (iVal (sLst false [sVar 5, sCallD i_law_near [sVar 2, sVar 4], sVar 4, sCallD i_law_plan [sVar 2, sCst (.int 3)]])) (xSeq [xIf (sNot (sCallD i_law_right_k06 [sVar 2, sVar 4, sVar 6])) (xSeq [xRet (sCst (.bl false))]) (xSeq [])])])]),
    xAsg (gTp [gNm 7, gNm 8, gNm 9]) (sCallD i_law_known []),
    xIf (sOr [sNot (sCallD i_alike [sVar 7, sVar 7]), sCallD i_alike [sVar 8, sVar 9], sCmp .ne (sCallD i_parting [sVar 8, sVar 9]) (sCst (.int 12))]) (xSeq [xRet (sCst (.bl false))]) (xSeq []),
    xIf (sOr [sCmp .ne (sCallD i_parting [sVar 7, sVar 8]) (sCst (.int 12)), sCmp .ne (sCallD i_parting [sVar 8, sTup [sCst (.int 2), sSlice (sItem (sVar 8) (sCst (.int 1))) none (some (sCst (.int 2)))]]) (sCst (.int 12))]) (xSeq [xRet (sCst (.bl false))]) (xSeq []),
    xIf (sOr [sCmp .ne (sCallD i_parting [sTup [sCst (.int 1), sTup []], sTup [sCst (.int 2), sTup []]]) (sCst (.int 12)), sIsN true (sCallD i_parting [sTup [sCst (.int 2), sTup []], sTup [sCst (.int 2), sTup [sTup [sCst (.str w_hand), sCst (.int 0), sCst (.int 1)]]]])]) (xSeq [xRet (sCst (.bl false))]) (xSeq []),
    xAsg (gTp [gNm 5, gNm 10]) (sTup [sTup [sTup [sCst (.str w_come), sCst (.int 0), sTup [sCst (.str w_l), sCst (.int 5)], sCst (.str w_near)]], sTup [sTup [sCst (.str w_come), sCst (.int 0), sTup [sCst (.str w_l), sCst (.int 5)], sCst (.str w_left)]]]),
    xAsg (gNm 11) (sTup [sTup [sCst (.str w_come), sCst (.int 1), sTup [sCst (.str w_l), sCst (.int 3)], sCst (.str w_left)]]),
    xIf (sIsN true (sCallD i_parting [sTup [sCst (.int 2), sBin .add (sVar 11) (sVar 5)], sTup [sCst (.int 2), sBin .add (sVar 11) (sVar 10)]])) (xSeq [xRet (sCst (.bl false))]) (xSeq []),
    xAsg (gNm 12) (sTup [sTup [sCst (.str w_come), sCst (.int 0), sTup [sCst (.str w_l), sCst (.int 2)], sCst (.str w_left)]]),
    xPar 7 8 (sBin .add (sVar 12) (sTup [sTup [sCst (.str w_come), sCst (.int 1), sTup [sCst (.str w_m), sCst (.int 0)], sCst (.str w_near)]])) (sBin .add (sVar 12) (sTup [sTup [sCst (.str w_come), sCst (.int 1), sTup [sCst (.str w_m), sCst (.int 0)], sCst (.str w_few)]])),
    xIf (sCmp .ne (sCallD i_parting [sTup [sCst (.int 2), sVar 7], sTup [sCst (.int 2), sVar 8]]) (sCst (.int 13))) (xSeq [xRet (sCst (.bl false))]) (xSeq []),
    xAsg (gNm 13) (sTup [sTup [sCst (.str w_come), sCst (.int 0), sTup [sCst (.str w_l), sCst (.int 0)], sCst (.str w_left)], sTup [sCst (.str w_move), sCst (.int 0), sCst (.int 9)], sTup [sCst (.str w_move), sCst (.int 0), sCst (.int 9)]]),
    xRet (sCmp .eq (sCallD i_parting [sTup [sCst (.int 1), sVar 13], sTup [sCst (.int 1), sBin .add (sVar 13) (sTup [sTup [sCst (.str w_move), sCst (.int 0), sCst (.int 9)]])]]) (sCst (.int 28)))]⟩
def fd_law_k07 : FD := ⟨1, 14, xSeq [xFor (gNm 1) (iRange1 (sBin .add (sCst (.int 1)) (sBf .min [sBf .len [sVar 0], sCst (.int 3)]))) (xSeq [xAsg (gNm 2) (sCallD i_law_source [sVar 0, sVar 1]),
    xAsg (gTp [gNm 3, gNm 4]) (sCallD i_law_plan [sVar 2, sCst (.int 7)]),
    xPar 5 6 (sLst true []) (sTup [sVar 3, sVar 4]),
    xFor (gNm 7) (iRange1 (sBf .len [sVar 4])) (xSeq [xIf (sCallD i_law_alike [sVar 2, sVar 6, sTup [sVar 3, sBin .add (sSlice (sVar 4) none (some (sVar 7))) (sSlice (sVar 4) (some (sBin .add (sVar 7) (sCst (.int 1)))) none)]]) (xSeq [xExpr (sMt .append (sVar 5) [sVar 7])]) (xSeq [])]),
    xIf (sCmp .ne (sCallD i_idle_deeds [sVar 6]) (sVar 5)) (xSeq [xRet (sCst (.bl false))]) (xSeq []),
    xAsg (gNm 5) (sLst true []),
    xFor (gNm 7) (iRange1 (sBin .sub (sBf .len [sVar 4]) (sCst (.int 1)))) (xSeq [xPar 8 9 (sItem (sVar 4) (sVar 7)) (sItem (sVar 4) (sBin .add (sVar 7) (sCst (.int 1)))),
    xAsg (gNm 10) (sBin .add (sBin .add (sSlice (sVar 4) none (some (sVar 7))) (sTup [sVar 9, sVar 8])) (sSlice (sVar 4) (some (sBin .add (sVar 7) (sCst (.int 2)))) none)),
    xIf (sCallD i_law_alike [sVar 2, sVar 6, sTup [sVar 3, sVar 10]]) (xSeq [xExpr (sMt .append (sVar 5) [sVar 7])]) (xSeq [])]),
    xIf (sCmp .ne (sCallD i_exchangeable [sVar 6]) (sVar 5)) (xSeq [xRet (sCst (.bl false))]) (xSeq [])]),
    xAsg (gTp [gNm 11, gNm 12, gNm 13]) (sCallD i_law_known []),
    xIf (sOr [sCmp .ne (sCallD i_idle_deeds [sVar 11]) (sLst false []), sCmp .ne (sCallD i_idle_deeds [sVar 12]) (sLst false [sCst (.int 2)])]) (xSeq [xRet (sCst (.bl false))]) (xSeq []),
    xIf (sOr [sCmp .ne (sCallD i_exchangeable [sVar 11]) (sLst false [sCst (.int 1)]), sCmp .ne (sCallD i_exchangeable [sVar 12]) (sLst false [sCst (.int 1), sCst (.int 2)])]) (xSeq [xRet (sCst (.bl false))]) (xSeq []),
    xRet (sAnd [sCmp .eq (sCallD i_idle_deeds [sTup [sCst (.int 1), sTup [sTup [sCst (.str w_go), sCst (.int 0), sCst (.str w_left)], sTup [sCst (.str w_move), sCst (.int 0), sCst (.int 1)]]]]) (sLst false [sCst (.int 0), sCst (.int 1)]), sCmp .eq (sCallD i_exchangeable [sTup [sCst (.int 1), sTup []]]) (sLst false [])])]⟩
def fd_law_k10 : FD := ⟨1, 9, xSeq [xFor (gNm 1) (iRange1 (sBin .add (sCst (.int 1)) (sBf .min [sBf .len [sVar 0], sCst (.int 6)]))) (xSeq [xAsg (gNm 2) (sCallD i_law_source [sVar 0, sVar 1]),
    xFor (gNm 3) (iRange1 (sCst (.int 3))) (xSeq [xAsg (gNm 4) (sCallD i_law_plan [sVar 2, sCst (.int 8)]),
    xFor (gNm 5) (iVal (sLst false [sCst (.int 12), sCst (.int 13), sBin .add (sCst (.int 14)) (sCallD i_law_draw [sVar 2, sCst (.int 30)])])) (xSeq [xIf (sNot (sCallD i_law_right_k10 [sVar 4, sVar 5])) (xSeq [xRet (sCst (.bl false))]) (xSeq []),
    xIf (sAnd [sCmp .lt (sItem (sVar 4) (sCst (.int 0))) (sCst (.int 5)), sNot (sCallD i_law_back_right [sVar 2, sVar 4, sVar 5])]) (xSeq [xRet (sCst (.bl false))]) (xSeq [])])])]),
    xAsg (gNm 6) (sTup [sCst (.str w_come), sCst (.int 0), sTup [sCst (.str w_l), sCst (.int 0)], sCst (.str w_left)]),
    xAsg (gNm 7) (sTup [sCst (.int 2), sTup [sVar 6, sTup [sCst (.str w_come), sCst (.int 1), sTup [sCst (.str w_l), sCst (.int 2)], sCst (.str w_right)], sTup [sCst (.str w_move), sCst (.int 0), sCst (.int 5)]]]),
    xAsg (gNm 8) (sTup [sCst (.int 2), sTup [sVar 6, sTup [sCst (.str w_come), sCst (.int 1), sTup [sCst (.str w_l), sCst (.int 3)], sCst (.str w_few)]]]),
    xFor (gNm 4) (iVal (sBin .add (sLst false [sVar 7, sVar 8]) (sBf .list [sCallD i_law_known []]))) (xSeq [xIf (sOr [sNot (sCallD i_law_right_k10 [sVar 4, sCst (.int 12)]), sNot (sCallD i_law_right_k10 [sVar 4, sCst (.int 14)]), sNot (sCallD i_law_right_k10 [sVar 4, sCst (.int 29)])]) (xSeq [xRet (sCst (.bl false))]) (xSeq [])]),
    xRet (sCst (.bl true))]⟩
def fd_law_k11 : FD := ⟨1, 7, xSeq [xFor (gNm 1) (iRange1 (sBin .add (sCst (.int 1)) (sBf .min [sBf .len [sVar 0], sCst (.int 4)]))) (xSeq [xAsg (gNm 2) (sCallD i_law_source [sVar 0, sVar 1]),
    xPar 3 4 (sCallD i_law_plan [sVar 2, sCst (.int 6)]) (sCallD i_law_comers [sVar 2]),
    xAsg (gNm 5) (sCallD i_law_near [sVar 2, sVar 3]),
    xFor (gNm 6) (iVal (sLst false [sCst (.int 12), sCst (.int 13), sCallD i_law_n [sVar 2], sBin .add (sCst (.int 12)) (sCallD i_law_draw [sVar 2, sCst (.int 90)])])) (xSeq [xIf (sOr [sNot (sCallD i_law_deeds_right [sVar 3, sVar 6]), sNot (sCallD i_law_people_right [sVar 3, sVar 6])]) (xSeq [xRet (sCst (.bl false))]) (xSeq []),
    xIf (sOr [sNot (sCallD i_law_value_right [sVar 3, sVar 5, sVar 6]), sNot (sCallD i_law_orders_right [sVar 4, sVar 6])]) (xSeq [xRet (sCst (.bl false))]) (xSeq [])])]),
    xRet (sCst (.bl true))]⟩
def fd_law_k12 : FD := ⟨1, 9, xSeq [xFor (gNm 1) (iRange1 (sBin .add (sCst (.int 1)) (sBf .min [sBf .len [sVar 0], sCst (.int 10)]))) (xSeq [xAsg (gNm 2) (sCallD i_law_source [sVar 0, sVar 1]),
    xAsg (gNm 3) (sCallD i_law_plan [sVar 2, sCst (.int 8)]),
    xAsg (gNm 4) (sCallD i_law_text [sVar 3]),
    xIf (sCmp .ne (sCallD i_plan_text [sVar 3]) (sVar 4)) (xSeq [xRet (sCst (.bl false))]) (xSeq []),
    xFor (gNm 5) (iRange1 (sCst (.int 7))) (xSeq [xAsg (gTp [gNm 6, gNm 7]) (sCallD i_law_read [sVar 4]),
    xIf (sOr [sNot (sCallD i_law_right_k12 [sVar 4, sVar 6, sVar 7]), sAnd [sCmp .eq (sVar 5) (sCst (.int 0)), sCmp .ne (sVar 6) (sVar 3)]]) (xSeq [xRet (sCst (.bl false))]) (xSeq []),
    xAsg (gNm 4) (sSlice (sCallD i_law_spoilt_k12 [sVar 2, sVar 4]) none (some (sCst (.int 900))))]),
    xIf (sCmp .ne (sCallD i_law_read [sCallD i_law_of [sVar 2, sLst false [sCst .non, sCst (.int 5), sCst (.bl true), sLst false [], sTup [sCst (.str w_go)], sVar 3]]]) (sTup [sCst .non, sCst (.int 0)])) (xSeq [xRet (sCst (.bl false))]) (xSeq [])]),
    xAsg (gNm 3) (sTup [sCst (.int 2), sTup [sTup [sCst (.str w_come), sCst (.int 1), sTup [sCst (.str w_m), sNeg (sCst (.int 5))], sCst (.str w_few)], sTup [sCst (.str w_move), sCst (.int 0), sNeg (sCst (.int 9))]]]),
    xIf (sCmp .ne (sCallD i_law_read [sCst (.str w_folk_32_2_10_come_32_1_32_m_32__45_5_32_few_10_move_32_0_32__45_9)]) (sTup [sVar 3, sCst .non])) (xSeq [xRet (sCst (.bl false))]) (xSeq []),
    xIf (sCmp .ne (sCallD i_plan_text [sVar 3]) (sCst (.str w_folk_32_2_10_come_32_1_32_m_32__45_5_32_few_10_move_32_0_32__45_9))) (xSeq [xRet (sCst (.bl false))]) (xSeq []),
    xAsg (gNm 8) (sLst false [sCst (.str w_empty), sCst (.str w_folk_32_1_10_), sCst (.str w_folk), sCst (.str w_folk_32_6), sCst (.str w_folk_32_1_10_go_32_0_32_far_10_x), sCst (.str w_go_32_0_32_left), sCst (.str w_folk_32_1_10_go_32_1_32_left)]),
    xAsg (gNm 8) (sBin .add (sVar 8) (sLst false [sCst (.str w_folk_32_2_10_hand_32_0_32_0), sCst (.str w_folk_32_2_10_move_32_0_32__43_2), sCst (.str w_folk_32_2_10_move_32_0_32_0), sCst (.str w_folk_32_1_10_folk_32_1)])),
    xAsg (gNm 8) (sBin .add (sVar 8) (sLst false [sBin .add (sCst (.str w_folk_32_1)) (sBin .mul (sCst (.str w__10_go_32_0_32_few)) (sCst (.int 9))), sCst (.str w_folk_32_1_10_come_32_0_32_l_32__45_1_32_left)])),
    xAsg (gNm 8) (sBin .add (sVar 8) (sLst false [sCst (.str w_folk_32__32_1), sCst (.str w_folk_32_1_10_come_32_0_32_m_32__45_0_32_left)])),
    xRet (sCmp .eq (sLc [4] (gNm 4) none (sItem (sCallD i_law_read [sVar 4]) (sCst (.int 1))) (iVal (sVar 8))) (sLst false [sCst (.int 1), sCst (.int 2), sCst (.int 1), sCst (.int 1), sCst (.int 2), sCst (.int 2), sCst (.int 3), sCst (.int 2), sCst (.int 2), sCst (.int 2), sCst (.int 3), sCst (.int 11), sCst (.int 2), sCst (.int 1), sCst (.int 2)]))]⟩
def fd_law_k19 : FD := ⟨1, 4, xSeq [xFor (gNm 1) (iRange1 (sBin .add (sCst (.int 1)) (sBf .min [sBf .len [sVar 0], sCst (.int 2)]))) (xSeq [xAsg (gNm 2) (sCallD i_law_source [sVar 0, sVar 1]),
    xAsg (gNm 3) (sCallD i_law_of [sVar 2, sLst false [sBin .pow (sCst (.int 10)) (sCst (.int 30)), sBin .pow (sCst (.int 10)) (sCst (.int 30)), sBin .add (sBin .pow (sCst (.int 10)) (sCst (.int 6))) (sBin .mul (sCst (.int 2)) (sCallD i_law_draw [sVar 2, sBin .pow (sCst (.int 10)) (sCst (.int 9))]))]]),
    xIf (sOr [sCmp .inn (sCst (.bl false)) (sCallD i_law_even_right [sVar 3]), sCmp .inn (sCst (.bl false)) (sCallD i_law_odd_right [sBin .sub (sVar 3) (sCst (.int 1))])]) (xSeq [xRet (sCst (.bl false))]) (xSeq []),
    xIf (sCmp .inn (sCst (.bl false)) (sCallD i_law_led_right_k19 [sVar 3])) (xSeq [xRet (sCst (.bl false))]) (xSeq []),
    xIf (sAnd [sCmp .eq (sVar 1) (sCst (.int 0)), sCmp .inn (sCst (.bl false)) (sCallD i_law_rows_right [])]) (xSeq [xRet (sCst (.bl false))]) (xSeq [])]),
    xRet (sCst (.bl true))]⟩
def fd_law_k20 : FD := ⟨1, 3, xSeq [xFor (gNm 1) (iRange1 (sBin .add (sCst (.int 1)) (sBf .min [sBf .len [sVar 0], sCst (.int 8)]))) (xSeq [xAsg (gNm 2) (sCallD i_law_source [sVar 0, sVar 1]),
    xIf (sCmp .inn (sCst (.bl false)) (sCallD i_law_middle_right [sCallD i_law_draw [sVar 2, sCst (.int 6)]])) (xSeq [xRet (sCst (.bl false))]) (xSeq []),
    xIf (sCmp .inn (sCst (.bl false)) (sCallD i_law_arms_right [sBin .add (sCst (.int 1)) (sCallD i_law_draw [sVar 2, sCst (.int 9)])])) (xSeq [xRet (sCst (.bl false))]) (xSeq []),
    xIf (sCmp .inn (sCst (.bl false)) (sCallD i_law_way_right [sBin .add (sCst (.int 1)) (sCallD i_law_draw [sVar 2, sCst (.int 9)])])) (xSeq [xRet (sCst (.bl false))]) (xSeq [])]),
    xRet (sCmp .nin (sCst (.bl false)) (sBin .add (sBin .add (sBin .add (sCallD i_law_same_right []) (sCallD i_law_arms_right [sCst (.int 3)])) (sCallD i_law_arms_right [sCst (.int 4)])) (sCallD i_law_way_right [sCst (.int 5)])))]⟩
def fd_law_k21 : FD := ⟨1, 3, xSeq [xFor (gNm 1) (iRange1 (sBin .add (sCst (.int 1)) (sBf .min [sBf .len [sVar 0], sCst (.int 3)]))) (xSeq [xAsg (gNm 2) (sCallD i_law_source [sVar 0, sVar 1]),
    xIf (sAnd [sCmp .eq (sCallD i_law_draw [sVar 2, sCst (.int 2)]) (sCst (.int 0)), sCmp .inn (sCst (.bl false)) (sCallD i_law_fifth_right [])]) (xSeq [xRet (sCst (.bl false))]) (xSeq []),
    xIf (sOr [sCmp .inn (sCst (.bl false)) (sCallD i_law_first_right []), sCmp .inn (sCst (.bl false)) (sCallD i_law_second_right [])]) (xSeq [xRet (sCst (.bl false))]) (xSeq []),
    xIf (sAnd [sCmp .eq (sVar 1) (sCst (.int 0)), sCmp .inn (sCst (.bl false)) (sBin .add (sBin .add (sCallD i_law_third_right []) (sCallD i_law_fourth_right [])) (sCallD i_law_fifth_right []))]) (xSeq [xRet (sCst (.bl false))]) (xSeq [])]),
    xRet (sCst (.bl true))]⟩
def fd_law_way : FD := ⟨4, 10, xSeq [xAsg (gNm 4) (sCallD i_law_value [sVar 1, sVar 3]),
    xPar 5 6 (sLst true []) (sLst true []),
    xFor (gNm 7) (iVal (sBf .sorted [sVar 0])) (xSeq [xIf (sCmp .lt (sCallD i_law_value [sItem (sVar 0) (sVar 7), sVar 3]) (sVar 4)) (xSeq [xExpr (sMt .append (sVar 5) [sVar 7])]) (xSeq []),
    xIf (sCmp .gt (sCallD i_law_value [sItem (sVar 0) (sVar 7), sVar 3]) (sVar 4)) (xSeq [xExpr (sMt .append (sVar 6) [sVar 7])]) (xSeq [])]),
    xAsg (gNm 8) (sTup [sTup [sItem (sVar 1) (sCst (.int 0)), sBin .add (sItem (sVar 1) (sCst (.int 1))) (sCst (.int 1))], sBf .tuple [sVar 5]]),
    xAsg (gNm 9) (sTup [sTup [sBin .sub (sCst (.int 2)) (sItem (sVar 1) (sCst (.int 0))), sBin .sub (sBin .mod (sVar 3) (sCst (.int 2))) (sItem (sVar 1) (sCst (.int 1)))], sBf .tuple [sVar 6]]),
    xIf (sAnd [sCmp .eq (sVar 2) (sCst (.str w_few)), sCmp .ne (sBf .len [sVar 5]) (sBf .len [sVar 6])]) (xSeq [xRet (sIf (sCmp .lt (sBf .len [sVar 5]) (sBf .len [sVar 6])) (sVar 8) (sVar 9))]) (xSeq []),
    xIf (sOr [sCmp .eq (sVar 2) (sCst (.str w_near)), sCmp .eq (sVar 2) (sCst (.str w_few))]) (xSeq [xRet (sIf (sCmp .le (sBin .add (sVar 4) (sCst (.int 1))) (sBin .sub (sVar 3) (sVar 4))) (sVar 8) (sVar 9))]) (xSeq []),
    xRet (sIf (sCmp .eq (sVar 2) (sCst (.str w_left))) (sVar 8) (sVar 9))]⟩
def fd_law_hands : FD := ⟨4, 13, xSeq [xIf (sOr [sCmp .nin (sVar 1) (sVar 0), sCmp .nin (sVar 2) (sVar 0)]) (xSeq [xRet (sCst .non)]) (xSeq []),
    xAsg (gNm 4) (sBf .sorted [sLcD [12] (gNm 12) none (sTup [sCallD i_law_value [sItem (sVar 0) (sVar 12), sVar 3], sVar 12]) (sVar 0)]),
    xAsg (gNm 5) (sLc [11, 12] (gTp [gNm 11, gNm 12]) none (sVar 12) (iVal (sVar 4))),
    xAsg (gTp [gNm 6, gNm 7]) (sBf .sorted [sLst false [sMt .index (sVar 5) [sVar 1], sMt .index (sVar 5) [sVar 2]]]),
    xFor (gTp [gNm 8, gNm 9]) (iZip (sSlice (sVar 4) (some (sVar 6)) (some (sVar 7))) (sSlice (sVar 4) (some (sBin .add (sVar 6) (sCst (.int 1)))) (some (sBin .add (sVar 7) (sCst (.int 1)))))) (xSeq [xIf (sCmp .gt (sBin .sub (sItem (sVar 9) (sCst (.int 0))) (sItem (sVar 8) (sCst (.int 0)))) (sCst (.int 3))) (xSeq [xRet (sCst .non)]) (xSeq [])]),
    xAsg (gNm 10) (sBf .tuple [sSlice (sVar 5) (some (sVar 6)) (some (sBin .add (sVar 7) (sCst (.int 1))))]),
    xRet (sIf (sCmp .eq (sItem (sVar 10) (sCst (.int 0))) (sVar 1)) (sVar 10) (sRev (sVar 10)))]⟩
def fd_law_taken : FD := ⟨2, 3, xSeq [xRet (sLcD [2] (gNm 2) none (sCallD i_law_value [sItem (sVar 0) (sVar 2), sVar 1]) (sVar 0))]⟩
def fd_law_can_move : FD := ⟨4, 7, xSeq [xIf (sCmp .nin (sVar 1) (sVar 0)) (xSeq [xRet (sCst (.bl false))]) (xSeq []),
    xPar 4 5 (sCallD i_law_value [sItem (sVar 0) (sVar 1), sVar 3]) (sCallD i_law_taken [sVar 0, sVar 3]),
    xFor (gNm 6) (iRange2 (sCst (.int 1)) (sBin .add (sBf .abs [sVar 2]) (sCst (.int 1)))) (xSeq [xIf (sCmp .inn (sBin .add (sVar 4) (sIf (sCmp .gt (sVar 2) (sCst (.int 0))) (sVar 6) (sNeg (sVar 6)))) (sVar 5)) (xSeq [xRet (sCst (.bl false))]) (xSeq [])]),
    xRet (sCmp2 .le .le (sCst (.int 0)) (sBin .add (sVar 4) (sVar 2)) (sBin .sub (sVar 3) (sCst (.int 1))))]⟩
def fd_law_step : FD := ⟨3, 7, xSeq [xPar 3 4 (sItem (sVar 1) (sCst (.int 0))) (sItem (sVar 1) (sCst (.int 1))),
    xIf (sCmp .eq (sVar 3) (sCst (.str w_hand))) (xSeq [xRet (sIf (sIsN false (sCallD i_law_hands [sVar 0, sVar 4, sItem (sVar 1) (sCst (.int 2)), sVar 2])) (sCst .non) (sTup [sTup [sCst (.int 0), sCst (.int 0)], sTup []]))]) (xSeq []),
    xIf (sCmp .eq (sVar 3) (sCst (.str w_move))) (xSeq [xIf (sNot (sCallD i_law_can_move [sVar 0, sVar 4, sItem (sVar 1) (sCst (.int 2)), sVar 2])) (xSeq [xRet (sCst .non)]) (xSeq []),
    xSet (sVar 0) (sVar 4) (sTup [sItem (sItem (sVar 0) (sVar 4)) (sCst (.int 0)), sBin .add (sItem (sItem (sVar 0) (sVar 4)) (sCst (.int 1))) (sItem (sVar 1) (sCst (.int 2)))]),
    xRet (sTup [sTup [sCst (.int 0), sBf .abs [sItem (sVar 1) (sCst (.int 2))]], sTup []])]) (xSeq []),
    xIf (sCmp .eq (sVar 3) (sCst (.str w_go))) (xSeq [xIf (sCmp .nin (sVar 4) (sVar 0)) (xSeq [xRet (sCst .non)]) (xSeq []),
    xAsg (gNm 5) (sMt .pop1 (sVar 0) [sVar 4]),
    xRet (sCallD i_law_way [sVar 0, sVar 5, sItem (sVar 1) (sCst (.int 2)), sVar 2])]) (xSeq []),
    xAsg (gNm 5) (sCallD i_law_form [sItem (sVar 1) (sCst (.int 2)), sVar 2]),
    xIf (sOr [sCmp .inn (sVar 4) (sVar 0), sCmp .inn (sCallD i_law_value [sVar 5, sVar 2]) (sCallD i_law_taken [sVar 0, sVar 2])]) (xSeq [xRet (sCst .non)]) (xSeq []),
    xAsg (gNm 6) (sCallD i_law_way [sVar 0, sVar 5, sItem (sVar 1) (sCst (.int 3)), sVar 2]),
    xSet (sVar 0) (sVar 4) (sVar 5),
    xRet (sVar 6)]⟩
def fd_law_run : FD := ⟨2, 6, xSeq [xPar 2 3 (sDict0) (sLst true []),
    xFor (gNm 4) (iVal (sItem (sVar 0) (sCst (.int 1)))) (xSeq [xAsg (gNm 5) (sCallD i_law_step [sVar 2, sVar 4, sVar 1]),
    xExpr (sMt .append (sVar 3) [sIf (sIsN false (sVar 5)) (sTup [sCst (.bl false), sTup [sCst (.int 0), sCst (.int 0)], sTup []]) (sBin .add (sTup [sCst (.bl true)]) (sVar 5))])]),
    xRet (sTup [sVar 3, sVar 2])]⟩
def fd_law_known : FD := ⟨0, 4, xSeq [xAsg (gNm 0) (sTup [sTup [sCst (.str w_come), sCst (.int 0), sTup [sCst (.str w_l), sCst (.int 2)], sCst (.str w_left)], sTup [sCst (.str w_come), sCst (.int 1), sTup [sCst (.str w_l), sCst (.int 4)], sCst (.str w_near)]]),
    xAsg (gNm 1) (sTup [sTup [sCst (.str w_come), sCst (.int 0), sTup [sCst (.str w_l), sCst (.int 5)], sCst (.str w_left)], sTup [sCst (.str w_come), sCst (.int 1), sTup [sCst (.str w_r), sCst (.int 3)], sCst (.str w_left)]]),
    xAsg (gNm 2) (sTup [sCst (.int 3), sBin .add (sVar 0) (sTup [sTup [sCst (.str w_come), sCst (.int 2), sTup [sCst (.str w_m), sCst (.int 0)], sCst (.str w_few)], sTup [sCst (.str w_go), sCst (.int 0), sCst (.str w_right)]])]),
    xAsg (gNm 3) (sTup [sCst (.int 2), sBin .add (sVar 1) (sTup [sTup [sCst (.str w_hand), sCst (.int 0), sCst (.int 1)], sTup [sCst (.str w_move), sCst (.int 1), sNeg (sCst (.int 2))]])]),
    xRet (sTup [sVar 2, sVar 3, sTup [sCst (.int 2), sTup [sTup [sCst (.str w_come), sCst (.int 0), sTup [sCst (.str w_r), sCst (.int 5)], sCst (.str w_near)], sTup [sCst (.str w_come), sCst (.int 1), sTup [sCst (.str w_m), sCst (.int 0)], sCst (.str w_near)]]]])]⟩
def fd_law_right_k02 : FD := ⟨2, 4, xSeq [xAsg (gNm 2) (sItem (sCallD i_law_run [sVar 0, sVar 1]) (sCst (.int 0))),
    xIf (sCmp .ne (sCallD i_done [sVar 0, sVar 1]) (sBf .tuple [sLc [3] (gNm 3) none (sItem (sVar 3) (sCst (.int 0))) (iVal (sVar 2))])) (xSeq [xRet (sCst (.bl false))]) (xSeq []),
    xIf (sCmp .ne (sCallD i_stood [sVar 0, sVar 1]) (sBf .tuple [sLc [3] (gNm 3) none (sItem (sVar 3) (sCst (.int 2))) (iVal (sVar 2))])) (xSeq [xRet (sCst (.bl false))]) (xSeq []),
    xIf (sCmp .ne (sCallD i_steps [sVar 0, sVar 1]) (sBf .tuple [sLc [3] (gNm 3) none (sCallD i_law_value [sItem (sVar 3) (sCst (.int 1)), sVar 1]) (iVal (sVar 2))])) (xSeq [xRet (sCst (.bl false))]) (xSeq []),
    xRet (sCmp .eq (sCallD i_step_forms [sVar 0, sVar 1]) (sBf .tuple [sLc [3] (gNm 3) none (sItem (sVar 3) (sCst (.int 1))) (iVal (sVar 2))]))]⟩
def fd_law_right_k03 : FD := ⟨2, 7, xSeq [xAsg (gNm 2) (sLst false [sCallD i_done_rows [sVar 1], sCallD i_total_rows [sVar 1]]),
    xFor (gNm 3) (iRange1 (sBf .len [sItem (sVar 1) (sCst (.int 1))])) (xSeq [xAsg (gNm 2) (sBin .add (sVar 2) (sLst false [sCallD i_stood_rows [sVar 1, sVar 3], sCallD i_step_rows [sVar 1, sVar 3]]))]),
    xAsg (gNm 4) (sTup [sLst false [], sLst false []]),
    xFor (gNm 5) (iVal (sVar 2)) (xSeq [xIf (sNot (sCallD i_law_are_rows [sVar 5])) (xSeq [xRet (sCst (.bl false))]) (xSeq []),
    xAsg (gNm 4) (sTup [sBin .add (sItem (sVar 4) (sCst (.int 0))) (sItem (sVar 5) (sCst (.int 0))), sBin .add (sItem (sVar 4) (sCst (.int 1))) (sItem (sVar 5) (sCst (.int 1)))])]),
    xFor (gNm 6) (iVal (sCallD i_law_spots [sVar 0, sVar 4])) (xSeq [xIf (sCmp .ne (sLc [5] (gNm 5) none (sCallD i_law_told_at [sVar 5, sVar 6]) (iVal (sVar 2))) (sCallD i_law_due [sVar 1, sVar 6])) (xSeq [xRet (sCst (.bl false))]) (xSeq [])]),
    xRet (sCst (.bl true))]⟩
def fd_law_right_k08 : FD := ⟨2, 13, xSeq [xAsg (gNm 2) (sLst false [sCallD i_best_orders [sVar 1], sCallD i_worst_orders [sVar 1], sCallD i_best_sides [sVar 1]]),
    xAsg (gNm 3) (sTup [sLst false [], sLst false []]),
    xFor (gNm 4) (iVal (sVar 2)) (xSeq [xIf (sNot (sCallD i_law_are_rows [sVar 4])) (xSeq [xRet (sCst (.bl false))]) (xSeq []),
    xAsg (gNm 3) (sTup [sBin .add (sItem (sVar 3) (sCst (.int 0))) (sItem (sVar 4) (sCst (.int 0))), sBin .add (sItem (sVar 3) (sCst (.int 1))) (sItem (sVar 4) (sCst (.int 1)))])]),
    xFor (gNm 5) (iVal (sSlice (sCallD i_law_spots [sVar 0, sVar 3]) none (some (sCst (.int 24))))) (xSeq [xPar 6 7 (sCallD i_law_orders [sVar 1, sVar 5]) (sCallD i_law_sides [sVar 1, sVar 5]),
    xAsg (gNm 8) (sLc [10, 11] (gTp [gNm 10, gNm 11]) none (sVar 11) (iVal (sVar 6))),
    xAsg (gNm 9) (sLst true [sCallD i_law_with [sVar 6, sBf .min [sVar 8]], sCallD i_law_with [sVar 6, sBf .max [sVar 8]]]),
    xExpr (sMt .append (sVar 9) [sCallD i_law_with [sVar 7, sBf .min [sLc [12, 11] (gTp [gNm 12, gNm 11]) none (sVar 11) (iVal (sVar 7))]]]),
    xIf (sCmp .ne (sLc [4] (gNm 4) none (sCallD i_law_told_at [sVar 4, sVar 5]) (iVal (sVar 2))) (sVar 9)) (xSeq [xRet (sCst (.bl false))]) (xSeq [])]),
    xRet (sCst (.bl true))]⟩
def fd_law_spots : FD := ⟨2, 6, xSeq [xAsg (gNm 2) (sLst false [sCst (.int 12), sCst (.int 13), sCst (.int 14), sCst (.int 15), sBin .pow (sCst (.int 10)) (sCst (.int 30)), sBin .sub (sBin .pow (sCst (.int 10)) (sCst (.int 30))) (sCst (.int 1)), sBin .add (sCst (.int 12)) (sCallD i_law_draw [sVar 0, sCst (.int 70)])]),
    xFor (gTp [gNm 3, gNm 4, gNm 5]) (iVal (sSlice (sBin .add (sItem (sVar 1) (sCst (.int 0))) (sItem (sVar 1) (sCst (.int 1)))) none (some (sCst (.int 40))))) (xSeq [xAsg (gNm 2) (sBin .add (sVar 2) (sLst false [sVar 3, sBin .add (sVar 3) (sCst (.int 2))])),
    xAsg (gNm 2) (sBin .add (sVar 2) (sIf (sIsN true (sVar 4)) (sLst false [sVar 4, sBin .add (sVar 4) (sCst (.int 2))]) (sLst false [])))]),
    xRet (sVar 2)]⟩
def fd_law_told_at : FD := ⟨2, 5, xSeq [xFor (gTp [gNm 2, gNm 3, gNm 4]) (iVal (sItem (sVar 0) (sBin .mod (sVar 1) (sCst (.int 2))))) (xSeq [xIf (sAnd [sCmp .le (sVar 2) (sVar 1), sOr [sIsN false (sVar 3), sCmp .le (sVar 1) (sVar 3)]]) (xSeq [xRet (sVar 4)]) (xSeq [])]),
    xRet (sCst (.str w_gap))]⟩
def fd_law_are_rows : FD := ⟨1, 5, xSeq [xIf (sOr [sNot (sIsi (sVar 0) .tuple), sCmp .ne (sBf .len [sVar 0]) (sCst (.int 2))]) (xSeq [xRet (sCst (.bl false))]) (xSeq []),
    xFor (gTp [gNm 1, gNm 2]) (iZip (sTup [sCst (.int 12), sCst (.int 13)]) (sVar 0)) (xSeq [xIf (sOr [sNot (sIsi (sVar 2) .list), sCmp .eq (sVar 2) (sLst false [])]) (xSeq [xRet (sCst (.bl false))]) (xSeq []),
    xIf (sOr [sCmp .ne (sItem (sItem (sVar 2) (sCst (.int 0))) (sCst (.int 0))) (sVar 1), sIsN true (sItem (sItem (sVar 2) (sNeg (sCst (.int 1)))) (sCst (.int 1)))]) (xSeq [xRet (sCst (.bl false))]) (xSeq []),
    xFor (gTp [gNm 3, gNm 4]) (iZip (sVar 2) (sSlice (sVar 2) (some (sCst (.int 1))) none)) (xSeq [xIf (sOr [sIsN false (sItem (sVar 3) (sCst (.int 1))), sCmp .lt (sItem (sVar 3) (sCst (.int 1))) (sItem (sVar 3) (sCst (.int 0)))]) (xSeq [xRet (sCst (.bl false))]) (xSeq []),
    xIf (sOr [sCmp .ne (sItem (sVar 4) (sCst (.int 0))) (sBin .add (sItem (sVar 3) (sCst (.int 1))) (sCst (.int 2))), sCmp .eq (sItem (sVar 3) (sCst (.int 2))) (sItem (sVar 4) (sCst (.int 2)))]) (xSeq [xRet (sCst (.bl false))]) (xSeq [])])]),
    xRet (sCst (.bl true))]⟩
def fd_law_due : FD := ⟨2, 6, xSeq [xPar 2 3 (sItem (sCallD i_law_run [sVar 0, sVar 1]) (sCst (.int 0))) (sTup [sCst (.int 0), sCst (.int 0)]),
    xFor (gNm 4) (iVal (sVar 2)) (xSeq [xAsg (gNm 3) (sTup [sBin .add (sItem (sVar 3) (sCst (.int 0))) (sItem (sItem (sVar 4) (sCst (.int 1))) (sCst (.int 0))), sBin .add (sItem (sVar 3) (sCst (.int 1))) (sItem (sItem (sVar 4) (sCst (.int 1))) (sCst (.int 1)))])]),
    xAsg (gNm 5) (sLst false [sBf .tuple [sLc [4] (gNm 4) none (sItem (sVar 4) (sCst (.int 0))) (iVal (sVar 2))], sVar 3]),
    xFor (gNm 4) (iVal (sVar 2)) (xSeq [xAsg (gNm 5) (sBin .add (sVar 5) (sLst false [sItem (sVar 4) (sCst (.int 2)), sItem (sVar 4) (sCst (.int 1))]))]),
    xRet (sVar 5)]⟩
def fd_law_seats : FD := ⟨2, 6, xSeq [xPar 2 3 (sItem (sCallD i_law_run [sVar 0, sVar 1]) (sCst (.int 1))) (sTup []),
    xFor (gNm 4) (iRange1 (sItem (sVar 0) (sCst (.int 0)))) (xSeq [xAsg (gNm 5) (sIf (sCmp .inn (sVar 4) (sVar 2)) (sCallD i_law_value [sItem (sVar 2) (sVar 4), sVar 1]) (sCst .non)),
    xAsg (gNm 3) (sBin .add (sVar 3) (sTup [sVar 5]))]),
    xRet (sVar 3)]⟩
def fd_law_pairs : FD := ⟨2, 6, xSeq [xPar 2 3 (sCallD i_law_seats [sVar 0, sVar 1]) (sLst true []),
    xFor (gNm 4) (iRange1 (sItem (sVar 0) (sCst (.int 0)))) (xSeq [xFor (gNm 5) (iRange2 (sBin .add (sVar 4) (sCst (.int 1))) (sItem (sVar 0) (sCst (.int 0)))) (xSeq [xIf (sAnd [sIsN true (sItem (sVar 2) (sVar 4)), sIsN true (sItem (sVar 2) (sVar 5))]) (xSeq [xIf (sCmp .inn (sBin .sub (sItem (sVar 2) (sVar 4)) (sItem (sVar 2) (sVar 5))) (sTup [sCst (.int 1), sNeg (sCst (.int 1))])) (xSeq [xExpr (sMt .append (sVar 3) [sTup [sVar 4, sVar 5]])]) (xSeq [])]) (xSeq [])])]),
    xRet (sVar 3)]⟩
def fd_law_counts : FD := ⟨2, 6, xSeq [xPar 2 3 (sItem (sCallD i_law_run [sVar 0, sVar 1]) (sCst (.int 0))) (sTup []),
    xFor (gNm 4) (iRange1 (sItem (sVar 0) (sCst (.int 0)))) (xSeq [xAsg (gNm 3) (sBin .add (sVar 3) (sTup [sBf .len [sLc [5] (gNm 5) (some (sCmp .inn (sVar 4) (sItem (sVar 5) (sCst (.int 2))))) (sCst (.int 1)) (iVal (sVar 2))]]))]),
    xRet (sVar 3)]⟩
def fd_law_near : FD := ⟨2, 9, xSeq [xAsg (gTp [gNm 2, gTp [gNm 3, gNm 4]]) (sTup [sCallD i_law_draw [sVar 0, sCst (.int 4)], sVar 1]),
    xIf (sCmp .eq (sVar 4) (sTup [])) (xSeq [xRet (sTup [sVar 3, sTup [sTup [sCst (.str w_come), sCst (.int 0), sTup [sCst (.str w_l), sCst (.int 0)], sCst (.str w_left)]]])]) (xSeq []),
    xAsg (gNm 5) (sCallD i_law_draw [sVar 0, sBf .len [sVar 4]]),
    xIf (sCmp .eq (sVar 2) (sCst (.int 0))) (xSeq [xRet (sTup [sVar 3, sBin .add (sSlice (sVar 4) none (some (sVar 5))) (sSlice (sVar 4) (some (sBin .add (sVar 5) (sCst (.int 1)))) none)])]) (xSeq []),
    xIf (sAnd [sCmp .eq (sVar 2) (sCst (.int 1)), sCmp .lt (sBin .add (sVar 5) (sCst (.int 1))) (sBf .len [sVar 4])]) (xSeq [xPar 6 7 (sItem (sVar 4) (sVar 5)) (sItem (sVar 4) (sBin .add (sVar 5) (sCst (.int 1)))),
    xRet (sTup [sVar 3, sBin .add (sBin .add (sSlice (sVar 4) none (some (sVar 5))) (sTup [sVar 7, sVar 6])) (sSlice (sVar 4) (some (sBin .add (sVar 5) (sCst (.int 2)))) none)])]) (xSeq []),
    xAsg (gNm 8) (sCallD i_law_deed [sVar 0, sVar 3]),
    xRet (sTup [sVar 3, sBin .add (sBin .add (sSlice (sVar 4) none (some (sVar 5))) (sTup [sVar 8])) (sSlice (sVar 4) (some (sBin .add (sVar 5) (sCst (.int 1)))) none)])]⟩
def fd_law_same : FD := ⟨3, 3, xSeq [xIf (sCmp .ne (sCallD i_law_seats [sVar 0, sVar 2]) (sCallD i_law_seats [sVar 1, sVar 2])) (xSeq [xRet (sCst (.bl false))]) (xSeq []),
    xRet (sCmp .eq (sCallD i_law_counts [sVar 0, sVar 2]) (sCallD i_law_counts [sVar 1, sVar 2]))]⟩
def fd_law_comers : FD := ⟨1, 4, xSeq [xPar 1 2 (sBin .add (sCst (.int 2)) (sCallD i_law_draw [sVar 0, sCst (.int 3)])) (sTup []),
    xFor (gNm 3) (iRange1 (sBin .add (sCst (.int 1)) (sCallD i_law_draw [sVar 0, sVar 1]))) (xSeq [xAsg (gNm 2) (sBin .add (sVar 2) (sTup [sTup [sCst (.str w_come), sVar 3, sCallD i_law_spot [sVar 0], sCallD i_law_side [sVar 0]]]))]),
    xRet (sTup [sVar 1, sVar 2])]⟩
def fd_law_every : FD := ⟨3, 9, xSeq [xAsg (gNm 3) (sLst false [sTup []]),
    xFor (gNm 4) (iRange1 (sVar 1)) (xSeq [xAsg (gNm 5) (sLst false []),
    xFor (gNm 6) (iVal (sVar 3)) (xSeq [xAsg (gNm 7) (sLc [8] (gNm 8) (some (sOr [sVar 2, sCmp .nin (sVar 8) (sVar 6)])) (sVar 8) (iVal (sVar 0))),
    xAsg (gNm 5) (sBin .add (sVar 5) (sLc [8] (gNm 8) none (sBin .add (sVar 6) (sTup [sVar 8])) (iVal (sVar 7))))]),
    xAsg (gNm 3) (sVar 5)]),
    xRet (sVar 3)]⟩
def fd_law_total : FD := ⟨2, 2, xSeq [xRet (sBf .sum [sCallD i_law_counts [sVar 0, sVar 1]])]⟩
def fd_law_sides : FD := ⟨2, 7, xSeq [xAsg (gNm 2) (sLst true []),
    xFor (gNm 3) (iVal (sCallD i_law_every [sLst false [sCst (.str w_left), sCst (.str w_right)], sBf .len [sItem (sVar 0) (sCst (.int 1))], sCst (.bl true)])) (xSeq [xAsg (gNm 4) (sTup []),
    xFor (gTp [gNm 5, gNm 6]) (iZip (sItem (sVar 0) (sCst (.int 1))) (sVar 3)) (xSeq [xAsg (gNm 4) (sBin .add (sVar 4) (sTup [sBin .add (sSlice (sVar 5) none (some (sCst (.int 3)))) (sTup [sVar 6])]))]),
    xExpr (sMt .append (sVar 2) [sTup [sVar 3, sCallD i_law_total [sTup [sItem (sVar 0) (sCst (.int 0)), sVar 4], sVar 1]]])]),
    xRet (sVar 2)]⟩
def fd_law_with : FD := ⟨2, 4, xSeq [xRet (sTup [sVar 1, sBf .tuple [sLc [2, 3] (gTp [gNm 2, gNm 3]) (some (sCmp .eq (sVar 3) (sVar 1))) (sVar 2) (iVal (sVar 0))]])]⟩
def fd_law_amount : FD := ⟨3, 4, xSeq [xAsg (gNm 3) (sItem (sVar 0) (sItem (sVar 1) (sCst (.int 0)))),
    xRet (sIf (sCmp .eq (sItem (sVar 1) (sCst (.int 1))) (sCst (.str w_stood))) (sBf .len [sItem (sVar 3) (sCst (.int 2))]) (sCallD i_law_value [sItem (sVar 3) (sCst (.int 1)), sVar 2]))]⟩
def fd_law_drawn_k09 : FD := ⟨3, 8, xSeq [xPar 3 4 (sItem (sCallD i_law_run [sVar 1, sVar 2]) (sCst (.int 0))) (sTup []),
    xFor (gNm 5) (iRange1 (sBin .add (sCst (.int 1)) (sCallD i_law_draw [sVar 0, sCst (.int 3)]))) (xSeq [xAsg (gNm 6) (sTup [sCallD i_law_draw [sVar 0, sBf .len [sVar 3]], sCallD i_law_of [sVar 0, sLst false [sCst (.str w_steps), sCst (.str w_steps), sCst (.str w_stood)]], sCst (.int 0)]),
    xAsg (gNm 7) (sBin .add (sCallD i_law_amount [sVar 3, sVar 6, sVar 2]) (sCallD i_law_of [sVar 0, sBin .add (sBin .mul (sLst false [sCst (.int 0)]) (sCst (.int 9))) (sLst false [sCst (.int 1)])])),
    xAsg (gNm 4) (sBin .add (sVar 4) (sTup [sBin .add (sSlice (sVar 6) none (some (sCst (.int 2)))) (sTup [sVar 7])]))]),
    xRet (sVar 4)]⟩
def fd_law_drawn_k14 : FD := ⟨4, 9, xSeq [xAsg (gNm 4) (sCallD i_law_of [sVar 0, sLst false [sCst (.str w_come), sCst (.str w_come), sCst (.str w_go), sCst (.str w_move), sCst (.str w_hand)]]),
    xAsg (gNm 5) (sCallD i_law_draw [sVar 0, sBin .add (sVar 2) (sCst (.int 1))]),
    xIf (sCmp .eq (sVar 4) (sCst (.str w_come))) (xSeq [xAsg (gNm 6) (sLc [8] (gNm 8) none (sBin .add (sItem (sItem (sVar 3) (sCst (.int 0))) (sVar 8)) (sCst (.int 1))) (iVal (sItem (sVar 3) (sCst (.int 0))))),
    xAsg (gNm 6) (sBin .add (sVar 6) (sLst false [sCallD i_law_draw [sVar 0, sBin .add (sVar 1) (sCst (.int 1))], sCallD i_law_draw [sVar 0, sCst (.int 6)]])),
    xAsg (gNm 7) (sCallD i_law_of [sVar 0, sLst false [sCst (.str w_left), sCst (.str w_right), sCst (.str w_near), sCst (.str w_few), sCst (.str w_far)]]),
    xRet (sTup [sVar 4, sVar 5, sCallD i_law_of [sVar 0, sVar 6], sVar 7])]) (xSeq []),
    xIf (sCmp .eq (sVar 4) (sCst (.str w_go))) (xSeq [xRet (sTup [sVar 4, sVar 5, sCallD i_law_of [sVar 0, sLst false [sCst (.str w_left), sCst (.str w_near), sCst (.str w_few), sCst (.str w_right), sCst (.str w_empty)]]])]) (xSeq []),
    xIf (sCmp .eq (sVar 4) (sCst (.str w_move))) (xSeq [xRet (sTup [sVar 4, sVar 5, sBin .sub (sCallD i_law_draw [sVar 0, sCst (.int 21)]) (sCst (.int 10))])]) (xSeq []),
    xRet (sTup [sVar 4, sVar 5, sCallD i_law_draw [sVar 0, sBin .add (sVar 2) (sCst (.int 1))]])]⟩
def fd_law_so : FD := ⟨3, 5, xSeq [xAsg (gNm 3) (sItem (sCallD i_law_run [sVar 0, sVar 1]) (sCst (.int 0))),
    xRet (sCmp .eq (sLc [4] (gNm 4) (some (sCmp .ne (sCallD i_law_amount [sVar 3, sVar 4, sVar 1]) (sItem (sVar 4) (sCst (.int 2))))) (sCst (.int 1)) (iVal (sVar 2))) (sLst false []))]⟩
def fd_law_find : FD := ⟨2, 2, xSeq [xRet (sIf (sCmp .inn (sVar 1) (sVar 0)) (sMt .index (sVar 0) [sVar 1]) (sCst .non))]⟩
def fd_law_aisle : FD := ⟨3, 8, xSeq [xAsg (gNm 3) (sLc [7] (gNm 7) (some (sIsN true (sVar 7))) (sVar 7) (iVal (sSlice (sVar 0) none (some (sVar 1))))),
    xAsg (gNm 4) (sLc [7] (gNm 7) (some (sIsN true (sVar 7))) (sVar 7) (iVal (sSlice (sVar 0) (some (sBin .add (sVar 1) (sCst (.int 1)))) none))),
    xPar 5 6 (sBin .add (sVar 1) (sCst (.int 1))) (sBin .sub (sBf .len [sVar 0]) (sVar 1)),
    xIf (sAnd [sCmp .eq (sVar 2) (sCst (.str w_few)), sCmp .ne (sBf .len [sVar 3]) (sBf .len [sVar 4])]) (xSeq [xAsg (gNm 2) (sIf (sCmp .lt (sBf .len [sVar 3]) (sBf .len [sVar 4])) (sCst (.str w_left)) (sCst (.str w_right)))]) (xSeq []),
    xIf (sCmp .inn (sVar 2) (sTup [sCst (.str w_near), sCst (.str w_few)])) (xSeq [xAsg (gNm 2) (sIf (sCmp .lt (sVar 6) (sVar 5)) (sCst (.str w_right)) (sCst (.str w_left)))]) (xSeq []),
    xRet (sIf (sCmp .eq (sVar 2) (sCst (.str w_left))) (sTup [sVar 5, sBf .sorted [sVar 3]]) (sTup [sVar 6, sBf .sorted [sVar 4]]))]⟩
def fd_law_spot_seat : FD := ⟨2, 2, xSeq [xRet (sItem (sDict [.s w_l, .s w_m, .s w_r] [sItem (sVar 0) (sCst (.int 1)), sBin .add (sBin .div (sVar 1) (sCst (.int 2))) (sItem (sVar 0) (sCst (.int 1))), sBin .sub (sBin .sub (sVar 1) (sCst (.int 1))) (sItem (sVar 0) (sCst (.int 1)))]) (sItem (sVar 0) (sCst (.int 0))))]⟩
def fd_law_walked : FD := ⟨3, 6, xSeq [xAsg (gNm 3) (sCallD i_law_find [sVar 0, sVar 1]),
    xIf (sIsN false (sVar 3)) (xSeq [xRet (sCst (.bl false))]) (xSeq []),
    xFor (gNm 4) (iRange2 (sCst (.int 1)) (sBin .add (sBf .abs [sVar 2]) (sCst (.int 1)))) (xSeq [xAsg (gNm 5) (sBin .add (sVar 3) (sIf (sCmp .gt (sVar 2) (sCst (.int 0))) (sVar 4) (sNeg (sVar 4)))),
    xIf (sOr [sCmp .lt (sVar 5) (sCst (.int 0)), sCmp .ge (sVar 5) (sBf .len [sVar 0]), sIsN true (sItem (sVar 0) (sVar 5))]) (xSeq [xRet (sCst (.bl false))]) (xSeq [])]),
    xSet (sVar 0) (sVar 3) (sCst .non),
    xSet (sVar 0) (sBin .add (sVar 3) (sVar 2)) (sVar 1),
    xRet (sCst (.bl true))]⟩
def fd_law_deed_done : FD := ⟨2, 7, xSeq [xAsg (gNm 2) (sCallD i_law_find [sVar 0, sItem (sVar 1) (sCst (.int 1))]),
    xIf (sCmp .eq (sItem (sVar 1) (sCst (.int 0))) (sCst (.str w_hand))) (xSeq [xRet (sTup [sCallD i_law_handed [sVar 0, sItem (sVar 1) (sCst (.int 1)), sItem (sVar 1) (sCst (.int 2))], sCst (.int 0), sLst false []])]) (xSeq []),
    xIf (sCmp .eq (sItem (sVar 1) (sCst (.int 0))) (sCst (.str w_move))) (xSeq [xAsg (gNm 3) (sCallD i_law_walked [sVar 0, sItem (sVar 1) (sCst (.int 1)), sItem (sVar 1) (sCst (.int 2))]),
    xRet (sTup [sVar 3, sIf (sVar 3) (sBf .abs [sItem (sVar 1) (sCst (.int 2))]) (sCst (.int 0)), sLst false []])]) (xSeq []),
    xIf (sCmp .eq (sItem (sVar 1) (sCst (.int 0))) (sCst (.str w_go))) (xSeq [xIf (sIsN false (sVar 2)) (xSeq [xRet (sTup [sCst (.bl false), sCst (.int 0), sLst false []])]) (xSeq []),
    xSet (sVar 0) (sVar 2) (sCst .non),
    xRet (sBin .add (sTup [sCst (.bl true)]) (sCallD i_law_aisle [sVar 0, sVar 2, sItem (sVar 1) (sCst (.int 2))]))]) (xSeq []),
    xAsg (gNm 4) (sCallD i_law_spot_seat [sItem (sVar 1) (sCst (.int 2)), sBf .len [sVar 0]]),
    xIf (sOr [sIsN true (sVar 2), sIsN true (sItem (sVar 0) (sVar 4))]) (xSeq [xRet (sTup [sCst (.bl false), sCst (.int 0), sLst false []])]) (xSeq []),
    xAsg (gTp [gNm 5, gNm 6]) (sCallD i_law_aisle [sVar 0, sVar 4, sItem (sVar 1) (sCst (.int 3))]),
    xSet (sVar 0) (sVar 4) (sItem (sVar 1) (sCst (.int 1))),
    xRet (sTup [sCst (.bl true), sVar 5, sVar 6])]⟩
def fd_law_back_right : FD := ⟨3, 7, xSeq [xPar 3 4 (sCallD i_law_of [sVar 0, sLst false [sCst (.str w_left), sCst (.str w_right)]]) (sItem (sVar 1) (sCst (.int 0))),
    xAsg (gNm 5) (sTup [sCst (.str w_come), sVar 4, sCallD i_law_spot [sVar 0], sVar 3]),
    xAsg (gNm 6) (sTup [sBin .add (sVar 4) (sCst (.int 1)), sBin .add (sSlice (sItem (sVar 1) (sCst (.int 1))) none (some (sCst (.int 6)))) (sTup [sVar 5, sTup [sCst (.str w_go), sVar 4, sVar 3]])]),
    xIf (sCmp .ne (sItem (sCallD i_steps [sVar 6, sVar 2]) (sNeg (sCst (.int 1)))) (sItem (sCallD i_steps [sVar 6, sVar 2]) (sNeg (sCst (.int 2))))) (xSeq [xRet (sCst (.bl false))]) (xSeq []),
    xRet (sCmp .eq (sItem (sCallD i_stood [sVar 6, sVar 2]) (sNeg (sCst (.int 1)))) (sItem (sCallD i_stood [sVar 6, sVar 2]) (sNeg (sCst (.int 2)))))]⟩
def fd_law_people_right : FD := ⟨2, 7, xSeq [xPar 2 3 (sCallD i_sits [sVar 0, sVar 1]) (sCallD i_standings [sVar 0, sVar 1]),
    xFor (gNm 4) (iRange1 (sItem (sVar 0) (sCst (.int 0)))) (xSeq [xAsg (gNm 5) (sCallD i_law_told_at [sCallD i_sit_rows [sVar 0, sVar 4], sVar 1]),
    xIf (sCmp .ne (sItem (sVar 2) (sVar 4)) (sIf (sIsN false (sVar 5)) (sCst .non) (sCallD i_law_value [sVar 5, sVar 1]))) (xSeq [xRet (sCst (.bl false))]) (xSeq []),
    xIf (sCmp .ne (sCallD i_law_told_at [sCallD i_standing_rows [sVar 0, sVar 4], sVar 1]) (sItem (sVar 3) (sVar 4))) (xSeq [xRet (sCst (.bl false))]) (xSeq [])]),
    xIf (sCmp .gt (sBf .max [sVar 3]) (sItem (sCallD i_most_standing [sVar 0]) (sCst (.int 0)))) (xSeq [xRet (sCst (.bl false))]) (xSeq []),
    xIf (sCmp .ne (sBf .sum [sVar 3]) (sBf .sum [sLc [6] (gNm 6) none (sBf .len [sVar 6]) (iVal (sCallD i_stood [sVar 0, sVar 1]))])) (xSeq [xRet (sCst (.bl false))]) (xSeq []),
    xRet (sCmp .eq (sBf .list [sCallD i_law_told_at [sCallD i_neighbour_rows [sVar 0], sVar 1]]) (sCallD i_neighbours [sVar 0, sVar 1]))]⟩
def fd_law_orders_right : FD := ⟨2, 9, xSeq [xAsg (gTp [gNm 2, gNm 3]) (sCallD i_law_told_at [sCallD i_best_orders [sVar 0], sVar 1]),
    xAsg (gTp [gNm 4, gNm 5]) (sCallD i_law_told_at [sCallD i_worst_orders [sVar 0], sVar 1]),
    xIf (sNot (sCmp2 .le .le (sVar 2) (sBf .sum [sCallD i_standings [sVar 0, sVar 1]]) (sVar 4))) (xSeq [xRet (sCst (.bl false))]) (xSeq []),
    xAsg (gNm 6) (sTup [sItem (sVar 0) (sCst (.int 0)), sBf .tuple [sLc [8] (gNm 8) none (sItem (sItem (sVar 0) (sCst (.int 1))) (sVar 8)) (iVal (sItem (sVar 3) (sCst (.int 0))))]]),
    xAsg (gNm 7) (sTup [sItem (sVar 0) (sCst (.int 0)), sBf .tuple [sLc [8] (gNm 8) none (sItem (sItem (sVar 0) (sCst (.int 1))) (sVar 8)) (iVal (sItem (sVar 5) (sNeg (sCst (.int 1)))))]]),
    xRet (sAnd [sCmp .eq (sBf .sum [sCallD i_standings [sVar 6, sVar 1]]) (sVar 2), sCmp .eq (sBf .sum [sCallD i_standings [sVar 7, sVar 1]]) (sVar 4)])]⟩
def fd_law_good_come : FD := ⟨1, 2, xSeq [xIf (sOr [sCmp .ne (sBf .len [sVar 0]) (sCst (.int 5)), sNot (sCallD i_law_small [sItem (sVar 0) (sCst (.int 1)), sCst (.int 0), sCst (.int 4)]), sCmp .nin (sItem (sVar 0) (sCst (.int 2))) (sTup [sCst (.str w_l), sCst (.str w_r), sCst (.str w_m)])]) (xSeq [xRet (sCst (.bl false))]) (xSeq []),
    xAsg (gNm 1) (sCmp .inn (sItem (sVar 0) (sCst (.int 4))) (sTup [sCst (.str w_left), sCst (.str w_right), sCst (.str w_near), sCst (.str w_few)])),
    xRet (sAnd [sVar 1, sCallD i_law_small [sItem (sVar 0) (sCst (.int 3)), sIf (sCmp .eq (sItem (sVar 0) (sCst (.int 2))) (sCst (.str w_m))) (sNeg (sCst (.int 5))) (sCst (.int 0)), sCst (.int 5)]])]⟩
def fd_law_turned : FD := ⟨1, 5, xSeq [xAsg (gNm 1) (sDict [.s w_left, .s w_right, .s w_near, .s w_few] [sCst (.str w_right), sCst (.str w_left), sCst (.str w_near), sCst (.str w_few)]),
    xIf (sCmp .eq (sItem (sVar 0) (sCst (.int 0))) (sCst (.str w_come))) (xSeq [xAsg (gTp [gNm 2, gNm 3]) (sItem (sVar 0) (sCst (.int 2))),
    xAsg (gNm 4) (sIf (sCmp .eq (sVar 2) (sCst (.str w_m))) (sTup [sCst (.str w_m), sNeg (sVar 3)]) (sTup [sItem (sDict [.s w_l, .s w_r] [sCst (.str w_r), sCst (.str w_l)]) (sVar 2), sVar 3])),
    xRet (sTup [sCst (.str w_come), sItem (sVar 0) (sCst (.int 1)), sVar 4, sItem (sVar 1) (sItem (sVar 0) (sCst (.int 3)))])]) (xSeq []),
    xIf (sCmp .eq (sItem (sVar 0) (sCst (.int 0))) (sCst (.str w_go))) (xSeq [xRet (sTup [sCst (.str w_go), sItem (sVar 0) (sCst (.int 1)), sItem (sVar 1) (sItem (sVar 0) (sCst (.int 2)))])]) (xSeq []),
    xRet (sIf (sCmp .eq (sItem (sVar 0) (sCst (.int 0))) (sCst (.str w_hand))) (sVar 0) (sTup [sCst (.str w_move), sItem (sVar 0) (sCst (.int 1)), sNeg (sItem (sVar 0) (sCst (.int 2)))]))]⟩
def fd_law_fits : FD := ⟨2, 2, xSeq [xRet (sAnd [sCmp .lt (sItem (sVar 0) (sCst (.int 1))) (sVar 1), sOr [sCmp .ne (sItem (sVar 0) (sCst (.int 0))) (sCst (.str w_hand)), sCmp .lt (sItem (sVar 0) (sCst (.int 2))) (sVar 1)]])]⟩
def fd_law_is_call : FD := ⟨3, 3, xSeq [xIf (sOr [sCmp .ge (sItem (sVar 2) (sCst (.int 1))) (sVar 1), sAnd [sCmp .eq (sItem (sVar 2) (sCst (.int 0))) (sCst (.str w_hand)), sCmp .ge (sItem (sVar 2) (sCst (.int 2))) (sVar 1)]]) (xSeq [xRet (sCst (.str w_person))]) (xSeq []),
    xIf (sAnd [sCmp .inn (sItem (sVar 2) (sCst (.int 0))) (sTup [sCst (.str w_come), sCst (.str w_go)]), sCmp .nin (sItem (sVar 2) (sNeg (sCst (.int 1)))) (sTup [sCst (.str w_left), sCst (.str w_right), sCst (.str w_near), sCst (.str w_few)])]) (xSeq [xRet (sCst (.str w_call))]) (xSeq []),
    xIf (sOr [sAnd [sCmp .eq (sItem (sVar 2) (sCst (.int 0))) (sCst (.str w_come)), sCmp .ge (sItem (sVar 2) (sCst (.int 2))) (sVar 0)], sAnd [sCmp .eq (sItem (sVar 2) (sCst (.int 0))) (sCst (.str w_hand)), sCmp .eq (sItem (sVar 2) (sCst (.int 1))) (sItem (sVar 2) (sCst (.int 2)))]]) (xSeq [xRet (sCst (.str w_call))]) (xSeq []),
    xRet (sIf (sAnd [sCmp .eq (sItem (sVar 2) (sCst (.int 0))) (sCst (.str w_move)), sOr [sCmp .eq (sItem (sVar 2) (sCst (.int 2))) (sCst (.int 0)), sCmp .gt (sBf .abs [sItem (sVar 2) (sCst (.int 2))]) (sCst (.int 9))]]) (sCst (.str w_call)) (sCst (.str w_empty)))]⟩
def fd_law_many_deeds : FD := ⟨4, 9, xSeq [xPar 4 5 (sTup []) (sVar 3),
    xFor (gNm 6) (iRange1 (sCallD i_law_draw [sVar 0, sCst (.int 5)])) (xSeq [xAsg (gNm 7) (sCallD i_law_deed [sVar 0, sVar 2]),
    xPar 4 8 (sBin .add (sVar 4) (sTup [sVar 7])) (sVar 7),
    xIf (sCmp .eq (sItem (sVar 7) (sCst (.int 0))) (sCst (.str w_come))) (xSeq [xAsg (gNm 8) (sTup [sItem (sVar 7) (sCst (.int 0)), sItem (sVar 7) (sCst (.int 1)), sCallD i_law_value [sCallD i_law_form [sItem (sVar 7) (sCst (.int 2)), sVar 1], sVar 1], sItem (sVar 7) (sCst (.int 3))])]) (xSeq []),
    xAsg (gNm 5) (sItem (sCallD i_law_led [sVar 1, sVar 5, sVar 8]) (sCst (.int 0)))]),
    xRet (sTup [sVar 4, sVar 5])]⟩
def fd_law_later : FD := ⟨3, 8, xSeq [xAsg (gNm 3) (sVar 1),
    xAsg (gNm 4) (sLst false [sTup [sTup [sCst (.str w_come), sCst (.int 1), sVar 2, sCst (.str w_left)]], sTup [sTup [sCst (.str w_come), sCst (.int 0), sBin .add (sVar 2) (sCst (.int 3)), sCst (.str w_right)]], sTup [sTup [sCst (.str w_move), sCst (.int 1), sCst (.int 1)]]]),
    xFor (gNm 5) (iVal (sBin .add (sVar 4) (sLst false [sTup [sTup [sCst (.str w_hand), sCst (.int 0), sCst (.int 1)], sTup [sCst (.str w_go), sCst (.int 0), sCst (.str w_left)]]]))) (xSeq [xAsg (gNm 6) (sItem (sVar 3) (sNeg (sCst (.int 1)))),
    xFor (gNm 7) (iVal (sVar 5)) (xSeq [xAsg (gNm 6) (sItem (sCallD i_law_led [sVar 0, sVar 6, sVar 7]) (sCst (.int 0)))]),
    xAsg (gNm 3) (sBin .add (sVar 3) (sLst false [sVar 6]))]),
    xRet (sVar 3)]⟩
def fd_law_great : FD := ⟨0, 2, xSeq [xAsg (gNm 0) (sTup [sTup [sCst (.str w_come), sCst (.int 0), sTup [sCst (.str w_l), sCst (.int 5)], sCst (.str w_right)], sTup [sCst (.str w_come), sCst (.int 1), sTup [sCst (.str w_r), sCst (.int 5)], sCst (.str w_left)], sTup [sCst (.str w_come), sCst (.int 2), sTup [sCst (.str w_m), sNeg (sCst (.int 5))], sCst (.str w_few)]]),
    xAsg (gNm 1) (sTup [sTup [sCst (.str w_come), sCst (.int 3), sTup [sCst (.str w_m), sCst (.int 5)], sCst (.str w_few)], sTup [sCst (.str w_come), sCst (.int 4), sTup [sCst (.str w_m), sCst (.int 0)], sCst (.str w_near)], sTup [sCst (.str w_move), sCst (.int 0), sCst (.int 9)], sTup [sCst (.str w_move), sCst (.int 1), sNeg (sCst (.int 9))]]),
    xRet (sTup [sCst (.int 5), sBin .add (sBin .add (sVar 0) (sVar 1)) (sTup [sTup [sCst (.str w_hand), sCst (.int 2), sCst (.int 4)]])])]⟩
def fd_law_even_right : FD := ⟨1, 5, xSeq [xPar 1 2 (sCallD i_law_great []) (sBin .div (sVar 0) (sCst (.int 2))),
    xIf (sOr [sNot (sCallD i_is_plan [sVar 1]), sCmp .ne (sBf .len [sItem (sVar 1) (sCst (.int 1))]) (sCst (.int 8))]) (xSeq [xRet (sLst false [sCst (.bl false)])]) (xSeq []),
    xAsg (gNm 3) (sLst true [sCmp .eq (sCallD i_done [sVar 1, sVar 0]) (sBin .add (sBin .mul (sTup [sCst (.bl true)]) (sCst (.int 7))) (sTup [sCst (.bl false)]))]),
    xAsg (gNm 4) (sTup [sBin .sub (sVar 0) (sCst (.int 5)), sBin .sub (sVar 0) (sCst (.int 5)), sBin .sub (sVar 2) (sCst (.int 4)), sBin .sub (sVar 2) (sCst (.int 5)), sVar 2, sCst (.int 9), sCst (.int 9), sCst (.int 0)]),
    xExpr (sMt .append (sVar 3) [sCmp .eq (sCallD i_steps [sVar 1, sVar 0]) (sVar 4)]),
    xExpr (sMt .append (sVar 3) [sCmp .eq (sCallD i_stood [sVar 1, sVar 0]) (sTup [sTup [], sTup [sCst (.int 0)], sTup [sCst (.int 0)], sTup [sCst (.int 1)], sTup [sCst (.int 1), sCst (.int 3)], sTup [], sTup [], sTup []])]),
    xExpr (sMt .append (sVar 3) [sCmp .eq (sCallD i_standings [sVar 1, sVar 0]) (sTup [sCst (.int 2), sCst (.int 2), sCst (.int 0), sCst (.int 1), sCst (.int 0)])]),
    xExpr (sMt .append (sVar 3) [sCmp .eq (sCallD i_sits [sVar 1, sVar 0]) (sTup [sCst (.int 14), sBin .sub (sVar 0) (sCst (.int 15)), sBin .sub (sVar 2) (sCst (.int 5)), sBin .add (sVar 2) (sCst (.int 5)), sVar 2])]),
    xRet (sBin .add (sVar 3) (sLst false [sCmp .eq (sCallD i_seat_of [sTup [sCst (.str w_r), sCst (.int 5)], sVar 0]) (sBin .sub (sVar 0) (sCst (.int 6))), sCmp .eq (sCallD i_seat_of [sTup [sCst (.str w_m), sNeg (sCst (.int 5))], sVar 0]) (sBin .sub (sVar 2) (sCst (.int 5)))]))]⟩
def fd_law_odd_right : FD := ⟨1, 5, xSeq [xPar 1 2 (sCallD i_law_great []) (sBin .div (sVar 0) (sCst (.int 2))),
    xAsg (gNm 3) (sLst true [sCmp .eq (sCallD i_done [sVar 1, sVar 0]) (sBin .add (sBin .mul (sTup [sCst (.bl true)]) (sCst (.int 7))) (sTup [sCst (.bl false)]))]),
    xAsg (gNm 4) (sTup [sBin .sub (sVar 0) (sCst (.int 5)), sBin .sub (sVar 0) (sCst (.int 5)), sBin .sub (sVar 2) (sCst (.int 4)), sBin .sub (sVar 2) (sCst (.int 4)), sBin .add (sVar 2) (sCst (.int 1)), sCst (.int 9), sCst (.int 9), sCst (.int 0)]),
    xExpr (sMt .append (sVar 3) [sCmp .eq (sCallD i_steps [sVar 1, sVar 0]) (sVar 4)]),
    xExpr (sMt .append (sVar 3) [sCmp .eq (sCallD i_stood [sVar 1, sVar 0]) (sTup [sTup [], sTup [sCst (.int 0)], sTup [sCst (.int 0)], sTup [sCst (.int 1)], sTup [sCst (.int 0), sCst (.int 2)], sTup [], sTup [], sTup []])]),
    xRet (sBin .add (sVar 3) (sLst false [sCmp .eq (sCallD i_standings [sVar 1, sVar 0]) (sTup [sCst (.int 3), sCst (.int 1), sCst (.int 1), sCst (.int 0), sCst (.int 0)])]))]⟩
def fd_law_rows_right : FD := ⟨0, 5, xSeq [xPar 0 1 (sCallD i_law_great []) (sBin .pow (sCst (.int 10)) (sCst (.int 30))),
    xAsg (gNm 2) (sCallD i_total_rows [sVar 0]),
    xAsg (gNm 3) (sLst true [sCmp .eq (sItem (sItem (sItem (sVar 2) (sCst (.int 0))) (sNeg (sCst (.int 1)))) (sCst (.int 2))) (sTup [sCst (.int 7), sNeg (sCst (.int 1))])]),
    xExpr (sMt .append (sVar 3) [sCmp .eq (sItem (sItem (sItem (sVar 2) (sCst (.int 1))) (sNeg (sCst (.int 1)))) (sCst (.int 2))) (sTup [sCst (.int 7), sCst (.int 3)])]),
    xExpr (sMt .append (sVar 3) [sCmp .eq (sCallD i_most_standing [sVar 0]) (sTup [sCst (.int 3), sCst (.int 23)])]),
    xAsg (gNm 4) (sLst false [sTup [sCst (.int 12), sBin .sub (sVar 1) (sCst (.int 2)), sCst (.bl false)], sTup [sVar 1, sVar 1, sCst (.bl true)], sTup [sBin .add (sVar 1) (sCst (.int 2)), sCst .non, sCst (.bl false)]]),
    xExpr (sMt .append (sVar 3) [sCmp .eq (sCallD i_numbers_told [sVar 0, sTup [sTup [sCst (.int 1), sCst (.str w_steps), sBin .sub (sVar 1) (sCst (.int 5))]]]) (sTup [sVar 4, sLst false [sTup [sCst (.int 13), sCst .non, sCst (.bl false)]]])]),
    xExpr (sMt .append (sVar 3) [sIsN false (sCallD i_parting [sVar 0, sTup [sCst (.int 5), sSlice (sItem (sVar 0) (sCst (.int 1))) none (some (sCst (.int 7)))]])]),
    xRet (sBin .add (sVar 3) (sLst false [sCmp .eq (sCallD i_parting [sVar 0, sTup [sCst (.int 4), sTup []]]) (sCst (.int 12))]))]⟩
def fd_law_middle_right : FD := ⟨1, 6, xSeq [xPar 1 2 (sTup [sCst (.str w_come), sCst (.int 0), sTup [sCst (.str w_l), sVar 0], sCst (.str w_left)]) (sCst (.int 2)),
    xAsg (gNm 3) (sTup [sVar 2, sTup [sVar 1, sTup [sCst (.str w_come), sCst (.int 1), sTup [sCst (.str w_m), sCst (.int 0)], sCst (.str w_near)]]]),
    xAsg (gNm 4) (sTup [sVar 2, sTup [sVar 1, sTup [sCst (.str w_come), sCst (.int 1), sTup [sCst (.str w_m), sCst (.int 0)], sCst (.str w_few)]]]),
    xAsg (gNm 5) (sLst true [sCmp .eq (sCallD i_stood_rows [sVar 3, sCst (.int 1)]) (sTup [sLst false [sTup [sCst (.int 12), sCst .non, sTup []]], sLst false [sTup [sCst (.int 13), sCst .non, sTup [sCst (.int 0)]]]])]),
    xExpr (sMt .append (sVar 5) [sCmp .eq (sCallD i_standing_rows [sVar 3, sCst (.int 0)]) (sTup [sLst false [sTup [sCst (.int 12), sCst .non, sCst (.int 0)]], sLst false [sTup [sCst (.int 13), sCst .non, sCst (.int 1)]]])]),
    xExpr (sMt .append (sVar 5) [sCmp .eq (sCallD i_stood_rows [sVar 4, sCst (.int 1)]) (sTup [sLst false [sTup [sCst (.int 12), sCst .non, sTup []]], sLst false [sTup [sCst (.int 13), sCst .non, sTup []]]])]),
    xExpr (sMt .append (sVar 5) [sCmp .eq (sCallD i_step_rows [sVar 3, sCst (.int 1)]) (sTup [sLst false [sTup [sCst (.int 12), sCst .non, sTup [sCst (.int 1), sCst (.int 0)]]], sLst false [sTup [sCst (.int 13), sCst .non, sTup [sCst (.int 1), sCst (.int 1)]]]])]),
    xRet (sBin .add (sVar 5) (sLst false [sCmp .eq (sCallD i_parting [sVar 3, sVar 4]) (sCst (.int 13)), sCmp .eq (sCallD i_idle_deeds [sVar 3]) (sLst false []), sCmp .eq (sCallD i_idle_deeds [sVar 4]) (sLst false [])]))]⟩
def fd_law_arms_right : FD := ⟨1, 4, xSeq [xAsg (gNm 1) (sTup [sTup [sCst (.str w_come), sCst (.int 0), sTup [sCst (.str w_l), sCst (.int 0)], sCst (.str w_left)], sTup [sCst (.str w_come), sCst (.int 1), sTup [sCst (.str w_l), sCst (.int 1)], sCst (.str w_left)]]),
    xIf (sCmp .gt (sVar 0) (sCst (.int 1))) (xSeq [xAsg (gNm 1) (sBin .add (sVar 1) (sTup [sTup [sCst (.str w_move), sCst (.int 1), sBin .sub (sVar 0) (sCst (.int 1))]]))]) (xSeq []),
    xAsg (gNm 2) (sTup [sCst (.int 2), sBin .add (sVar 1) (sTup [sTup [sCst (.str w_hand), sCst (.int 0), sCst (.int 1)], sTup [sCst (.str w_hand), sCst (.int 1), sCst (.int 0)]])]),
    xAsg (gNm 3) (sLst false [sCmp .eq (sSlice (sCallD i_done [sVar 2, sCst (.int 12)]) (some (sNeg (sCst (.int 2)))) none) (sTup [sCmp .lt (sVar 0) (sCst (.int 4)), sCmp .lt (sVar 0) (sCst (.int 4))]), sCmp .eq (sCallD i_sits [sVar 2, sCst (.int 12)]) (sTup [sCst (.int 0), sVar 0])]),
    xRet (sBin .add (sVar 3) (sLst false [sCmp .eq (sSlice (sCallD i_idle_deeds [sVar 2]) (some (sNeg (sCst (.int 2)))) none) (sLst false [sBf .len [sVar 1], sBin .add (sBf .len [sVar 1]) (sCst (.int 1))])]))]⟩
def fd_law_way_right : FD := ⟨1, 4, xSeq [xAsg (gNm 1) (sTup [sCst (.int 2), sTup [sTup [sCst (.str w_come), sCst (.int 0), sTup [sCst (.str w_l), sCst (.int 0)], sCst (.str w_left)], sTup [sCst (.str w_come), sCst (.int 1), sTup [sCst (.str w_l), sCst (.int 2)], sCst (.str w_right)], sTup [sCst (.str w_move), sCst (.int 0), sVar 0]]]),
    xAsg (gNm 2) (sLst true [sCmp .eq (sItem (sCallD i_done [sVar 1, sCst (.int 12)]) (sCst (.int 2))) (sCmp .eq (sVar 0) (sCst (.int 1))), sCmp .eq (sItem (sCallD i_steps [sVar 1, sCst (.int 13)]) (sCst (.int 2))) (sIf (sCmp .eq (sVar 0) (sCst (.int 1))) (sCst (.int 1)) (sCst (.int 0)))]),
    xExpr (sMt .append (sVar 2) [sCmp .eq (sCallD i_sits [sVar 1, sBin .pow (sCst (.int 10)) (sCst (.int 30))]) (sTup [sIf (sCmp .eq (sVar 0) (sCst (.int 1))) (sCst (.int 1)) (sCst (.int 0)), sCst (.int 2)])]),
    xAsg (gNm 3) (sTup [sCst (.int 2), sTup [sTup [sCst (.str w_come), sCst (.int 0), sTup [sCst (.str w_r), sCst (.int 0)], sCst (.str w_left)], sTup [sCst (.str w_come), sCst (.int 1), sTup [sCst (.str w_r), sCst (.int 2)], sCst (.str w_left)], sTup [sCst (.str w_move), sCst (.int 0), sNeg (sVar 0)]]]),
    xExpr (sMt .append (sVar 2) [sCmp .eq (sCallD i_stood_rows [sVar 3, sCst (.int 1)]) (sTup [sLst false [sTup [sCst (.int 12), sCst .non, sTup []]], sLst false [sTup [sCst (.int 13), sCst .non, sTup []]]])]),
    xRet (sBin .add (sVar 2) (sLst false [sCmp .eq (sItem (sCallD i_done [sVar 3, sCst (.int 12)]) (sCst (.int 2))) (sCmp .eq (sVar 0) (sCst (.int 1)))]))]⟩
def fd_law_same_right : FD := ⟨0, 5, xSeq [xAsg (gTp [gNm 0, gNm 1]) (sTup [sTup [sCst (.int 2), sTup [sTup [sCst (.str w_come), sCst (.int 0), sTup [sCst (.str w_l), sCst (.int 5)], sCst (.str w_left)], sTup [sCst (.str w_come), sCst (.int 1), sTup [sCst (.str w_m), sNeg (sCst (.int 5))], sCst (.str w_left)]]], sTup [sTup [sCst (.int 0), sCst (.int 1)]]]),
    xAsg (gNm 2) (sLst false [sTup [sCst (.int 12), sCst (.int 16), sTup []], sTup [sCst (.int 18), sCst (.int 18), sVar 1], sTup [sCst (.int 20), sCst (.int 20), sTup []], sTup [sCst (.int 22), sCst (.int 22), sVar 1], sTup [sCst (.int 24), sCst .non, sTup []]]),
    xAsg (gNm 3) (sLst false [sTup [sCst (.int 13), sCst (.int 17), sTup []], sTup [sCst (.int 19), sCst (.int 19), sVar 1], sTup [sCst (.int 21), sCst (.int 21), sTup []], sTup [sCst (.int 23), sCst (.int 23), sVar 1], sTup [sCst (.int 25), sCst .non, sTup []]]),
    xAsg (gNm 4) (sLst true [sCmp .eq (sCallD i_neighbour_rows [sVar 0]) (sTup [sVar 2, sVar 3]), sCmp .eq (sCallD i_done [sVar 0, sCst (.int 20)]) (sTup [sCst (.bl true), sCst (.bl false)])]),
    xExpr (sMt .append (sVar 4) [sCmp .eq (sCallD i_stood_rows [sVar 0, sCst (.int 1)]) (sTup [sLst false [sTup [sCst (.int 12), sCst (.int 20), sTup []], sTup [sCst (.int 22), sCst .non, sTup [sCst (.int 0)]]], sLst false [sTup [sCst (.int 13), sCst (.int 21), sTup []], sTup [sCst (.int 23), sCst .non, sTup [sCst (.int 0)]]]])]),
    xRet (sBin .add (sVar 4) (sLst false [sCmp .eq (sCallD i_parting [sVar 0, sTup [sCst (.int 2), sRev (sItem (sVar 0) (sCst (.int 1)))]]) (sCst (.int 12))]))]⟩
def fd_law_first_right : FD := ⟨0, 5, xSeq [xAsg (gTp [gNm 0, gNm 1, gNm 2]) (sCallD i_law_known []),
    xAsg (gNm 3) (sLst true [sCallD i_is_plan [sVar 0], sNot (sCallD i_is_plan [sRev (sVar 0)]), sNot (sCallD i_is_plan [sTup [sCst (.int 6), sTup []]])]),
    xAsg (gNm 3) (sBin .add (sVar 3) (sLst false [sCallD i_is_deed [sVar 1, sTup [sCst (.str w_move), sCst (.int 1), sCst (.int 9)]], sNot (sCallD i_is_deed [sVar 1, sTup [sCst (.str w_move), sCst (.int 2), sCst (.int 1)]])])),
    xAsg (gNm 3) (sBin .add (sVar 3) (sLst false [sNot (sCallD i_is_deed [sVar 1, sTup [sCst (.str w_hand), sCst (.int 1), sCst (.int 1)]]), sNot (sCallD i_is_deed [sVar 1, sTup [sCst (.str w_go), sCst (.int 0), sCst (.str w_far)]])])),
    xExpr (sMt .append (sVar 3) [sCmp .eq (sCallD i_seat_of [sTup [sCst (.str w_r), sCst (.int 5)], sCst (.int 12)]) (sCst (.int 6))]),
    xExpr (sMt .append (sVar 3) [sCmp .eq (sCallD i_seat_of [sTup [sCst (.str w_m), sNeg (sCst (.int 5))], sCst (.int 13)]) (sCst (.int 1))]),
    xExpr (sMt .append (sVar 3) [sCmp .eq (sCallD i_seat_of [sTup [sCst (.str w_l), sCst (.int 0)], sBin .pow (sCst (.int 10)) (sCst (.int 30))]) (sCst (.int 0))]),
    xAsg (gNm 3) (sBin .add (sVar 3) (sLst false [sCmp .eq (sCallD i_done [sVar 0, sCst (.int 12)]) (sBin .mul (sTup [sCst (.bl true)]) (sCst (.int 4))), sCmp .eq (sCallD i_stood [sVar 0, sCst (.int 12)]) (sTup [sTup [], sTup [sCst (.int 0)], sTup [], sTup [sCst (.int 1), sCst (.int 2)]])])),
    xAsg (gNm 3) (sBin .add (sVar 3) (sLst false [sCmp .eq (sCallD i_steps [sVar 0, sCst (.int 12)]) (sTup [sCst (.int 3), sCst (.int 5), sCst (.int 6), sCst (.int 10)]), sCmp .eq (sCallD i_steps [sVar 0, sCst (.int 13)]) (sTup [sCst (.int 3), sCst (.int 5), sCst (.int 7), sCst (.int 11)])])),
    xExpr (sMt .append (sVar 3) [sCmp .eq (sCallD i_step_forms [sVar 0, sCst (.int 13)]) (sTup [sTup [sCst (.int 0), sCst (.int 3)], sTup [sCst (.int 0), sCst (.int 5)], sTup [sCst (.int 1), sCst (.int 1)], sTup [sCst (.int 2), sNeg (sCst (.int 1))]])]),
    xExpr (sMt .append (sVar 3) [sCmp .eq (sCallD i_done [sVar 1, sCst (.int 12)]) (sBin .mul (sTup [sCst (.bl true)]) (sCst (.int 4)))]),
    xExpr (sMt .append (sVar 3) [sCmp .eq (sCallD i_done [sVar 1, sCst (.int 13)]) (sTup [sCst (.bl true), sCst (.bl true), sCst (.bl false), sCst (.bl true)])]),
    xExpr (sMt .append (sVar 3) [sCmp .eq (sCallD i_stood [sVar 1, sCst (.int 12)]) (sTup [sTup [], sTup [sCst (.int 0)], sTup [], sTup []])]),
    xExpr (sMt .append (sVar 3) [sCmp .eq (sItem (sCallD i_steps [sVar 1, sBin .pow (sCst (.int 10)) (sCst (.int 30))]) (sCst (.int 1))) (sBin .sub (sBin .pow (sCst (.int 10)) (sCst (.int 30))) (sCst (.int 3)))]),
    xExpr (sMt .append (sVar 3) [sCmp .eq (sCallD i_done [sVar 2, sCst (.int 12)]) (sTup [sCst (.bl true), sCst (.bl false)])]),
    xExpr (sMt .append (sVar 3) [sCmp .eq (sCallD i_stood [sVar 2, sCst (.int 14)]) (sTup [sTup [], sTup [sCst (.int 0)]])]),
    xExpr (sMt .append (sVar 3) [sCmp .eq (sCallD i_stood [sVar 2, sCst (.int 13)]) (sTup [sTup [], sTup []])]),
    xAsg (gNm 4) (sTup [sCst (.bl true), sCst (.bl true), sCst (.bl false), sCst (.bl true)]),
    xExpr (sMt .append (sVar 3) [sCmp .eq (sCallD i_done_rows [sVar 1]) (sTup [sLst false [sTup [sCst (.int 12), sCst (.int 12), sBin .mul (sTup [sCst (.bl true)]) (sCst (.int 4))], sTup [sCst (.int 14), sCst .non, sVar 4]], sLst false [sTup [sCst (.int 13), sCst .non, sVar 4]]])]),
    xExpr (sMt .append (sVar 3) [sCmp .eq (sItem (sCallD i_stood_rows [sVar 2, sCst (.int 1)]) (sCst (.int 0))) (sLst false [sTup [sCst (.int 12), sCst (.int 12), sTup []], sTup [sCst (.int 14), sCst .non, sTup [sCst (.int 0)]]])]),
    xExpr (sMt .append (sVar 3) [sCmp .eq (sCallD i_step_rows [sVar 0, sCst (.int 2)]) (sTup [sLst false [sTup [sCst (.int 12), sCst .non, sTup [sCst (.int 1), sCst (.int 0)]]], sLst false [sTup [sCst (.int 13), sCst .non, sTup [sCst (.int 1), sCst (.int 1)]]]])]),
    xRet (sBin .add (sVar 3) (sLst false [sCmp .eq (sCallD i_total_rows [sVar 0]) (sTup [sLst false [sTup [sCst (.int 12), sCst .non, sTup [sCst (.int 3), sCst (.int 6)]]], sLst false [sTup [sCst (.int 13), sCst .non, sTup [sCst (.int 3), sCst (.int 8)]]]])]))]⟩
def fd_law_second_right : FD := ⟨0, 4, xSeq [xAsg (gTp [gNm 0, gNm 1, gNm 2]) (sCallD i_law_known []),
    xAsg (gNm 3) (sLst true [sCmp .eq (sCallD i_sits [sVar 0, sCst (.int 12)]) (sTup [sCst .non, sCst (.int 4), sCst (.int 6)]), sCmp .eq (sCallD i_sits [sVar 2, sCst (.int 12)]) (sTup [sCst (.int 6), sCst .non])]),
    xExpr (sMt .append (sVar 3) [sCmp .eq (sCallD i_sit_rows [sVar 1, sCst (.int 1)]) (sTup [sLst false [sTup [sCst (.int 12), sCst .non, sTup [sCst (.int 2), sNeg (sCst (.int 6))]]], sLst false [sTup [sCst (.int 13), sCst .non, sTup [sCst (.int 2), sNeg (sCst (.int 5))]]]])]),
    xExpr (sMt .append (sVar 3) [sCmp .eq (sItem (sCallD i_sit_rows [sVar 2, sCst (.int 1)]) (sCst (.int 0))) (sLst false [sTup [sCst (.int 12), sCst (.int 12), sCst .non], sTup [sCst (.int 14), sCst .non, sTup [sCst (.int 1), sCst (.int 0)]]])]),
    xAsg (gNm 3) (sBin .add (sVar 3) (sLst false [sCmp .eq (sCallD i_neighbours [sVar 1, sCst (.int 12)]) (sLst false [sTup [sCst (.int 0), sCst (.int 1)]]), sCmp .eq (sCallD i_neighbours [sVar 2, sCst (.int 14)]) (sLst false [sTup [sCst (.int 0), sCst (.int 1)]])])),
    xExpr (sMt .append (sVar 3) [sCmp .eq (sCallD i_neighbour_rows [sVar 1]) (sTup [sLst false [sTup [sCst (.int 12), sCst (.int 12), sTup [sTup [sCst (.int 0), sCst (.int 1)]]], sTup [sCst (.int 14), sCst .non, sTup []]], sLst false [sTup [sCst (.int 13), sCst .non, sTup []]]])]),
    xAsg (gNm 3) (sBin .add (sVar 3) (sLst false [sCmp .eq (sCallD i_standings [sVar 0, sCst (.int 12)]) (sTup [sCst (.int 1), sCst (.int 1), sCst (.int 1)]), sCmp .eq (sCallD i_standings [sVar 2, sCst (.int 14)]) (sTup [sCst (.int 1), sCst (.int 0)])])),
    xExpr (sMt .append (sVar 3) [sCmp .eq (sCallD i_standing_rows [sVar 2, sCst (.int 0)]) (sTup [sLst false [sTup [sCst (.int 12), sCst (.int 12), sCst (.int 0)], sTup [sCst (.int 14), sCst .non, sCst (.int 1)]], sLst false [sTup [sCst (.int 13), sCst .non, sCst (.int 0)]]])]),
    xAsg (gNm 3) (sBin .add (sVar 3) (sLst false [sCmp .eq (sCallD i_most_standing [sVar 0]) (sTup [sCst (.int 1), sCst (.int 12)]), sCmp .eq (sCallD i_most_standing [sVar 2]) (sTup [sCst (.int 1), sCst (.int 14)])])),
    xExpr (sMt .append (sVar 3) [sCmp .eq (sCallD i_most_standing [sTup [sCst (.int 1), sTup []]]) (sTup [sCst (.int 0), sCst (.int 12)])]),
    xExpr (sMt .append (sVar 3) [sCallD i_alike [sVar 0, sVar 0]]),
    xExpr (sMt .append (sVar 3) [sNot (sCallD i_alike [sVar 1, sVar 2])]),
    xExpr (sMt .append (sVar 3) [sCmp .eq (sCallD i_parting [sVar 1, sVar 2]) (sCst (.int 12))]),
    xExpr (sMt .append (sVar 3) [sCmp .eq (sCallD i_parting [sVar 0, sVar 1]) (sCst (.int 12))]),
    xExpr (sMt .append (sVar 3) [sCmp .eq (sCallD i_idle_deeds [sVar 0]) (sLst false [])]),
    xExpr (sMt .append (sVar 3) [sCmp .eq (sCallD i_idle_deeds [sVar 1]) (sLst false [sCst (.int 2)])]),
    xExpr (sMt .append (sVar 3) [sCmp .eq (sCallD i_exchangeable [sVar 0]) (sLst false [sCst (.int 1)])]),
    xExpr (sMt .append (sVar 3) [sCmp .eq (sCallD i_exchangeable [sVar 1]) (sLst false [sCst (.int 1), sCst (.int 2)])]),
    xRet (sBin .add (sVar 3) (sLst false [sCmp .eq (sCallD i_parting [sVar 1, sTup [sCst (.int 2), sSlice (sItem (sVar 1) (sCst (.int 1))) none (some (sCst (.int 2)))]]) (sCst (.int 12))]))]⟩
end Kn
set_option Elab.async false
set_option linter.all false
set_option maxHeartbeats 4000000
/-! KnA: the functions of the defs, computed. -/
namespace Kn
theorem run_succ {T : Nat → Option FD} {fuel n i : Nat} {fd : FD} (h : T i = some fd) (as : List Ag) (s : St) : run T fuel (n + 1) i as s = runFD fd ⟨fuel, run T fuel n, fun _ _ _ _ => .bad⟩ as s := by
  show (match T i with
    | some fd => runFD fd ⟨fuel, run T fuel n, fun _ _ _ _ => .bad⟩ as s
    | none => .bad) = _
  rw [h]
/-- a finished body -/
def RS.fin : RS → R D
  | .nx _ s1 => .ok .non s1
  | .rt d s1 => .ok d s1
  | .exc c p _ s1 => .exc c p s1
  | _ => .bad
theorem runFD_eq {np ns : Nat} {body : SS} {c : Cl} {as : List Ag} {s : St} (h : as.length = np) : runFD ⟨np, ns, body⟩ c as s = (body c (as.map some ++ List.replicate (ns - as.length) none) s).fin := by
  unfold runFD
  rw [if_pos h]
  rfl
@[simp] theorem bind_ok {α β : Type} (a : α) (s : St) (f : α → St → R β) : (R.ok a s).bind f = f a s := rfl
@[simp] theorem bind_exc {α β : Type} (c : Nat) (p : Option D) (s : St) (f : α → St → R β) : (R.exc c p s : R α).bind f = .exc c p s := rfl
@[simp] theorem bind_bad {α β : Type} (f : α → St → R β) : (R.bad : R α).bind f = .bad := rfl
@[simp] theorem out_ok {α : Type} (a : α) (s : St) (e : En) (f : α → St → RS) : (R.ok a s).out e f = f a s := rfl
@[simp] theorem out_bad {α : Type} (e : En) (f : α → St → RS) : (R.bad : R α).out e f = .bad := rfl
@[simp] theorem fin_nx (e : En) (s : St) : (RS.nx e s).fin = .ok .non s := rfl
@[simp] theorem fin_rt (d : D) (s : St) : (RS.rt d s).fin = .ok d s := rfl
@[simp] theorem fin_bad : (RS.bad).fin = .bad := rfl
/-- then, in a row -/
def RS.seq (r : RS) (k : En → St → RS) : RS := match r with
  | .nx e s => k e s
  | r => r
@[simp] theorem seq_nx (e : En) (s : St) (k : En → St → RS) : (RS.nx e s).seq k = k e s := rfl
@[simp] theorem seq_rt (d : D) (s : St) (k : En → St → RS) : (RS.rt d s).seq k = .rt d s := rfl
@[simp] theorem seq_bk (e : En) (s : St) (k : En → St → RS) : (RS.bk e s).seq k = .bk e s := rfl
@[simp] theorem seq_ct (e : En) (s : St) (k : En → St → RS) : (RS.ct e s).seq k = .ct e s := rfl
@[simp] theorem seq_bad (k : En → St → RS) : (RS.bad).seq k = .bad := rfl
theorem xSeq_nil (c : Cl) (e : En) (s : St) : xSeq [] c e s = .nx e s := rfl
theorem xSeq_one (x : SS) (c : Cl) (e : En) (s : St) : xSeq [x] c e s = x c e s := rfl
theorem xSeq_cons (x y : SS) (xs : List SS) (c : Cl) (e : En) (s : St) : xSeq (x :: y :: xs) c e s = (x c e s).seq (xSeq (y :: xs) c) := by
  show (match x c e s with
    | .nx e1 s1 => xSeq (y :: xs) c e1 s1
    | r => r) = _
  cases x c e s <;> rfl
theorem sVar_eq (i : Nat) (c : Cl) (e : En) (s : St) : sVar i c e s = match e[i]? with
  | some (some (.dat d)) => .ok d s
  | _ => .bad := rfl
theorem sCst_eq (d : D) (c : Cl) (e : En) (s : St) : sCst d c e s = .ok d s := rfl
theorem sList_nil (c : Cl) (e : En) (s : St) : sList [] c e s = .ok [] s := rfl
theorem sList_cons (f : SE) (fs : List SE) (c : Cl) (e : En) (s : St) : sList (f :: fs) c e s = (f c e s).bind fun d s1 => (sList fs c e s1).bind fun ds s2 => .ok (d :: ds) s2 := rfl
theorem sTup_eq (fs : List SE) (c : Cl) (e : En) (s : St) : sTup fs c e s = (sList fs c e s).bind fun ds s1 => .ok (.tup ds) s1 := rfl
theorem sLst_f (fs : List SE) (c : Cl) (e : En) (s : St) : sLst false fs c e s = (sList fs c e s).bind fun ds s1 => .ok (.lst ds) s1 := rfl
theorem sLst_t (fs : List SE) (c : Cl) (e : En) (s : St) : sLst true fs c e s = (sList fs c e s).bind fun ds s1 => .ok (.ref s1.length) (s1 ++ [.lst ds]) := rfl
theorem sBin_eq (o : Bo) (a b : SE) (c : Cl) (e : En) (s : St) : sBin o a b c e s = (a c e s).bind fun x s1 => (b c e s1).bind fun y s2 => boD s2 o x y := rfl
theorem sCmp_eq (o : Co) (a b : SE) (c : Cl) (e : En) (s : St) : sCmp o a b c e s = (a c e s).bind fun x s1 => (b c e s1).bind fun y s2 => cmpD s2 o x y := rfl
/-- the second half of a chain -/
def cmp2D (st : St) (o : Option Bool) (k : R D) : R D := match o with
  | none => .bad
  | some false => .ok (.bl false) st
  | some true => k
theorem sCmp2_eq (o p : Co) (a b d : SE) (c : Cl) (e : En) (s : St) : sCmp2 o p a b d c e s = (a c e s).bind fun x s1 => (b c e s1).bind fun y s2 => cmp2D s2 (coD s2 o x y) ((d c e s2).bind fun z s3 => cmpD s3 p y z) := rfl
@[simp] theorem cmp2_t (st : St) (k : R D) : cmp2D st (some true) k = k := rfl
@[simp] theorem cmp2_f (st : St) (k : R D) : cmp2D st (some false) k = .ok (.bl false) st := rfl
theorem cmp2_d {p : Prop} [Decidable p] (st : St) (k : R D) : cmp2D st (some (decide p)) k = if p then k else .ok (.bl false) st := by
  by_cases h : p
  · rw [decide_eq_true h, if_pos h]; rfl
  · rw [decide_eq_false h, if_neg h]; rfl
theorem sIsN_f (a : SE) (c : Cl) (e : En) (s : St) : sIsN false a c e s = (a c e s).bind fun x s1 => .ok (.bl (isN x)) s1 := rfl
theorem sIsN_t (a : SE) (c : Cl) (e : En) (s : St) : sIsN true a c e s = (a c e s).bind fun x s1 => .ok (.bl (!isN x)) s1 := rfl
theorem sNeg_eq (a : SE) (c : Cl) (e : En) (s : St) : sNeg a c e s = (a c e s).bind fun x s1 => negD s1 x := rfl
@[simp] theorem negD_int (s : St) (i : Int) : negD s (.int i) = .ok (.int (-i)) s := rfl
theorem sTru_eq (f : SE) (c : Cl) (e : En) (s : St) : sTru f c e s = (f c e s).bind fun x s1 => ofO (truD s1 x) s1 := rfl
@[simp] theorem ofO_some {α : Type} (a : α) (s : St) : ofO (some a) s = .ok a s := rfl
@[simp] theorem ofO_none {α : Type} (s : St) : (ofO none s : R α) = .bad := rfl
theorem sNot_eq (f : SE) (c : Cl) (e : En) (s : St) : sNot f c e s = (sTru f c e s).bind fun b s1 => .ok (.bl (!b)) s1 := rfl
theorem sAnd_one (f : SE) (c : Cl) (e : En) (s : St) : sAnd [f] c e s = f c e s := rfl
theorem sOr_one (f : SE) (c : Cl) (e : En) (s : St) : sOr [f] c e s = f c e s := rfl
/-- on by truth, or the value itself -/
def stepB (st : St) (x : D) (o : Option Bool) (w : Bool) (k : R D) : R D := match o with
  | none => .bad
  | some b => if b = w then k else .ok x st
theorem sAnd_cons (f g : SE) (fs : List SE) (c : Cl) (e : En) (s : St) : sAnd (f :: g :: fs) c e s = (f c e s).bind fun x s1 => stepB s1 x (truD s1 x) true (sAnd (g :: fs) c e s1) := by
  rw [sAnd]
  exact congrArg _ (funext fun x => funext fun s1 => by
    cases truD s1 x with
    | none => rfl
    | some b => cases b <;> rfl)
theorem sOr_cons (f g : SE) (fs : List SE) (c : Cl) (e : En) (s : St) : sOr (f :: g :: fs) c e s = (f c e s).bind fun x s1 => stepB s1 x (truD s1 x) false (sOr (g :: fs) c e s1) := by
  rw [sOr]
  exact congrArg _ (funext fun x => funext fun s1 => by
    cases truD s1 x with
    | none => rfl
    | some b => cases b <;> rfl)
@[simp] theorem stepB_same (st : St) (x : D) (w : Bool) (k : R D) : stepB st x (some w) w k = k := if_pos rfl
@[simp] theorem stepB_tf (st : St) (x : D) (k : R D) : stepB st x (some true) false k = .ok x st := rfl
@[simp] theorem stepB_ft (st : St) (x : D) (k : R D) : stepB st x (some false) true k = .ok x st := rfl
theorem stepB_some (st : St) (x : D) (b w : Bool) (k : R D) : stepB st x (some b) w k = if b = w then k else .ok x st := rfl
theorem sIf_eq (t a b : SE) (c : Cl) (e : En) (s : St) : sIf t a b c e s = (sTru t c e s).bind fun k s1 => if k then a c e s1 else b c e s1 := rfl
theorem sItem_eq (a b : SE) (c : Cl) (e : En) (s : St) : sItem a b c e s = (a c e s).bind fun x s1 => (b c e s1).bind fun y s2 => itemD s2 x y := rfl
theorem sPart_none (c : Cl) (e : En) (s : St) : sPart none c e s = .ok none s := rfl
def intO (s : St) : D → R (Option Int)
  | .int i => .ok (some i) s
  | _ => .bad
@[simp] theorem intO_int (s : St) (i : Int) : intO s (.int i) = .ok (some i) s := rfl
theorem sPart_some (f : SE) (c : Cl) (e : En) (s : St) : sPart (some f) c e s = (f c e s).bind fun x s1 => intO s1 x := by
  show ((f c e s).bind _) = _
  exact congrArg _ (funext fun x => funext fun s1 => by cases x <;> rfl)
theorem sSlice_eq (a : SE) (lo hi : Option SE) (c : Cl) (e : En) (s : St) : sSlice a lo hi c e s = (a c e s).bind fun x s1 => (sPart lo c e s1).bind fun l s2 => (sPart hi c e s2).bind fun h s3 => sliceD s3 x l h := rfl
def blO (s : St) : Option Bool → R D
  | some b => .ok (.bl b) s
  | none => .bad
@[simp] theorem blO_some (s : St) (b : Bool) : blO s (some b) = .ok (.bl b) s := rfl
theorem sIsi_eq (a : SE) (t : Ty) (c : Cl) (e : En) (s : St) : sIsi a t c e s = (a c e s).bind fun x s1 => blO s1 (isiD s1 x t) := by
  unfold sIsi
  exact congrArg _ (funext fun x => funext fun s1 => by cases isiD s1 x t <;> rfl)
theorem cmpD_eq (st : St) (o : Co) (a b : D) : cmpD st o a b = blO st (coD st o a b) := by
  unfold cmpD
  cases coD st o a b <;> rfl
theorem sBf_eq (b : Bf) (fs : List SE) (c : Cl) (e : En) (s : St) : sBf b fs c e s = (sList fs c e s).bind fun ds s1 => bfD s1 b ds := rfl
theorem sMt_eq (m : Mt) (o : SE) (fs : List SE) (c : Cl) (e : En) (s : St) : sMt m o fs c e s = (o c e s).bind fun x s1 => if mtOk s1 m x then (sList fs c e s1).bind fun ds s2 => mtD s2 m x ds else .bad := rfl
theorem sCallD_eq (i : Nat) (fs : List SE) (c : Cl) (e : En) (s : St) : sCallD i fs c e s = (sList fs c e s).bind fun ds s1 => c.fn i (ds.map .dat) s1 := rfl
theorem sDict0_eq (c : Cl) (e : En) (s : St) : sDict0 c e s = .ok (.ref s.length) (s ++ [.dct false []]) := rfl
theorem sRev_eq (f : SE) (c : Cl) (e : En) (s : St) : sRev f c e s = (f c e s).bind fun d s1 => revD s1 d := rfl
theorem sLc_eq (own : List Nat) (g : SG) (t : Option SE) (elt : SE) (it : SI) (c : Cl) (e : En) (s : St) : sLc own g t elt it c e s = (it c e s).bind fun src s1 => (lcG src.1.get (lcTurn own g t elt c e) src.2 0 [] s1).bind fun ds s1 => .ok (.lst ds) s1 := by
  unfold sLc lcI
  rw [bind_assoc]
theorem iVal_eq (f : SE) (c : Cl) (e : En) (s : St) : iVal f c e s = (f c e s).bind fun d s1 => ofO (srcOf s1 d) s1 := rfl
def rng1 (s : St) : D → R (Src × Nat)
  | .int j => if -lim ≤ j ∧ j < lim then .ok (.fix (rangeD 0 j.toNat), j.toNat) s else .bad
  | _ => .bad
theorem iRange1_eq (f : SE) (c : Cl) (e : En) (s : St) : iRange1 f c e s = (f c e s).bind fun d s1 => rng1 s1 d := by
  unfold iRange1
  exact congrArg _ (funext fun x => funext fun s1 => by cases x <;> rfl)
theorem rng1_int (s : St) {j : Int} (h : -lim ≤ j ∧ j < lim) : rng1 s (.int j) = .ok (.fix (rangeD 0 j.toNat), j.toNat) s := if_pos h
def rng2 (s : St) : D → D → R (Src × Nat)
  | .int i, .int j => if -lim ≤ i ∧ i < lim ∧ -lim ≤ j ∧ j < lim then .ok (.fix (rangeD i (j - i).toNat), (j - i).toNat) s else .bad
  | _, _ => .bad
theorem iRange2_eq (f g : SE) (c : Cl) (e : En) (s : St) : iRange2 f g c e s = (f c e s).bind fun d s1 => (g c e s1).bind fun d2 s2 => rng2 s2 d d2 := by
  unfold iRange2
  exact congrArg _ (funext fun x => funext fun s1 => congrArg _ (funext fun y => funext fun s2 => by cases x <;> cases y <;> rfl))
theorem rng2_int (s : St) {i j : Int} (h : -lim ≤ i ∧ i < lim ∧ -lim ≤ j ∧ j < lim) : rng2 s (.int i) (.int j) = .ok (.fix (rangeD i (j - i).toNat), (j - i).toNat) s := if_pos h
def enD (s : St) : D → R (Src × Nat)
  | .tup xs => .ok (.fix (enumD 0 xs), xs.length) s
  | .lst xs => .ok (.fix (enumD 0 xs), xs.length) s
  | _ => .bad
@[simp] theorem enD_tup (s : St) (xs : List D) : enD s (.tup xs) = .ok (.fix (enumD 0 xs), xs.length) s := rfl
@[simp] theorem enD_lst (s : St) (xs : List D) : enD s (.lst xs) = .ok (.fix (enumD 0 xs), xs.length) s := rfl
theorem iEnum_eq (f : SE) (c : Cl) (e : En) (s : St) : iEnum f c e s = (f c e s).bind fun d s1 => enD s1 d := by
  unfold iEnum
  exact congrArg _ (funext fun x => funext fun s1 => by cases x <;> rfl)
def zpD (s : St) : D → D → R (Src × Nat)
  | .tup xs, .tup ys => .ok (.fix (zipD xs ys), xs.length) s
  | .lst xs, .lst ys => .ok (.fix (zipD xs ys), xs.length) s
  | _, _ => .bad
@[simp] theorem zpD_tup (s : St) (xs ys : List D) : zpD s (.tup xs) (.tup ys) = .ok (.fix (zipD xs ys), xs.length) s := rfl
@[simp] theorem zpD_lst (s : St) (xs ys : List D) : zpD s (.lst xs) (.lst ys) = .ok (.fix (zipD xs ys), xs.length) s := rfl
theorem iZip_eq (f g : SE) (c : Cl) (e : En) (s : St) : iZip f g c e s = (f c e s).bind fun d s1 => (g c e s1).bind fun d2 s2 => zpD s2 d d2 := by
  unfold iZip
  exact congrArg _ (funext fun x => funext fun s1 => congrArg _ (funext fun y => funext fun s2 => by cases x <;> cases y <;> rfl))
/-! ### statements -/
theorem xExpr_eq (f : SE) (c : Cl) (e : En) (s : St) : xExpr f c e s = (f c e s).out e fun _ s1 => .nx e s1 := rfl
theorem xRet_eq (f : SE) (c : Cl) (e : En) (s : St) : xRet f c e s = (f c e s).out e fun d s1 => .rt d s1 := rfl
theorem xPass_eq (c : Cl) (e : En) (s : St) : xPass c e s = .nx e s := rfl
theorem xNever_eq (c : Cl) (e : En) (s : St) : xNever c e s = .bad := rfl
def asgO (s : St) : Option En → RS
  | some e => .nx e s
  | none => .bad
@[simp] theorem asgO_some (s : St) (e : En) : asgO s (some e) = .nx e s := rfl
theorem xAsg_eq (g : SG) (f : SE) (c : Cl) (e : En) (s : St) : xAsg g f c e s = (f c e s).out e fun d s1 => asgO s1 (g d e s1) := by
  unfold xAsg
  exact congrArg _ (funext fun x => funext fun s1 => by cases g x e s1 <;> rfl)
theorem gNm_eq (i : Nat) (d : D) (e : En) (s : St) : gNm i d e s = some (e.set i (some (.dat d))) := rfl
theorem gAll_nil (e : En) (s : St) : gAll [] [] e s = some e := rfl
def obE (o : Option En) (k : En → Option En) : Option En := match o with
  | some e => k e
  | none => none
@[simp] theorem obE_some (e : En) (k : En → Option En) : obE (some e) k = k e := rfl
theorem gAll_cons (g : SG) (gs : List SG) (d : D) (ds : List D) (e : En) (s : St) : gAll (g :: gs) (d :: ds) e s = obE (g d e s) fun e1 => gAll gs ds e1 s := by
  show (match g d e s with
    | some e1 => gAll gs ds e1 s
    | none => none) = _
  cases g d e s <;> rfl
theorem gTp_tup (gs : List SG) (ds : List D) (e : En) (s : St) : gTp gs (.tup ds) e s = gAll gs ds e s := rfl
theorem gTp_lst (gs : List SG) (ds : List D) (e : En) (s : St) : gTp gs (.lst ds) e s = gAll gs ds e s := rfl
def par2 (i j : Nat) (e : En) (s : St) : List D → RS
  | [a, b] => .nx ((e.set i (some (.dat a))).set j (some (.dat b))) s
  | _ => .bad
@[simp] theorem par2_eq (i j : Nat) (e : En) (s : St) (a b : D) : par2 i j e s [a, b] = .nx ((e.set i (some (.dat a))).set j (some (.dat b))) s := rfl
theorem xPar_eq (i j : Nat) (f g : SE) (c : Cl) (e : En) (s : St) : xPar i j f g c e s = (sList [f, g] c e s).out e fun ds s1 => par2 i j e s1 ds := by
  unfold xPar
  exact congrArg _ (funext fun x => funext fun s1 => match x with
    | [] => rfl
    | [_] => rfl
    | [_, _] => rfl
    | _ :: _ :: _ :: _ => rfl)
def stO (e : En) : Option St → RS
  | some s => .nx e s
  | none => .bad
@[simp] theorem stO_some (e : En) (s : St) : stO e (some s) = .nx e s := rfl
theorem xSet_eq (o i v : SE) (c : Cl) (e : En) (s : St) : xSet o i v c e s = (v c e s).out e fun d s1 => (o c e s1).out e fun x s2 => (i c e s2).out e fun y s3 => stO e (setD s3 x y d) := by
  unfold xSet
  exact congrArg _ (funext fun d => funext fun s1 => congrArg _ (funext fun x => funext fun s2 => congrArg _ (funext fun y => funext fun s3 => by cases setD s3 x y d <;> rfl)))
theorem xIf_eq (t : SE) (a b : SS) (c : Cl) (e : En) (s : St) : xIf t a b c e s = (sTru t c e s).out e fun k s1 => if k then a c e s1 else b c e s1 := rfl
theorem xFor_eq (g : SG) (it : SI) (body : SS) (c : Cl) (e : En) (s : St) : xFor g it body c e s = (it c e s).out e fun src s1 => forG src.1.get g (body c) src.2 0 e s1 := rfl
theorem xWhile_eq (t : SE) (body : SS) (c : Cl) (e : En) (s : St) : xWhile t body c e s = whileG (sTru t c) (body c) c.fuel e s := rfl
/-! ### data -/
theorem truD_bl (s : St) (b : Bool) : truD s (.bl b) = some b := rfl
theorem truD_int (s : St) (i : Int) : truD s (.int i) = some (i != 0) := rfl
theorem truD_non (s : St) : truD s .non = some false := rfl
theorem truD_tup (s : St) (x : List D) : truD s (.tup x) = some (!x.isEmpty) := rfl
theorem truD_lst (s : St) (x : List D) : truD s (.lst x) = some (!x.isEmpty) := rfl
theorem isN_non : isN .non = true := rfl
theorem isN_tup (x : List D) : isN (.tup x) = false := rfl
theorem isN_int (x : Int) : isN (.int x) = false := rfl
theorem isN_bl (x : Bool) : isN (.bl x) = false := rfl
theorem isN_lst (x : List D) : isN (.lst x) = false := rfl
theorem isN_str (x : List Nat) : isN (.str x) = false := rfl
theorem isN_ref (x : Nat) : isN (.ref x) = false := rfl
theorem boD_add (s : St) (a b : Int) : boD s .add (.int a) (.int b) = .ok (.int (a + b)) s := rfl
theorem boD_sub (s : St) (a b : Int) : boD s .sub (.int a) (.int b) = .ok (.int (a - b)) s := rfl
theorem boD_mul (s : St) {a b : Int} (h : (-big < a ∧ a < big) ∨ (-big < b ∧ b < big)) : boD s .mul (.int a) (.int b) = .ok (.int (a * b)) s := if_pos h
theorem boD_div (s : St) {a b : Int} (h : 0 < b ∧ b < 1073741824) : boD s .div (.int a) (.int b) = .ok (.int (a / b)) s := if_pos h
theorem boD_mod (s : St) {a b : Int} (h : 0 < b) : boD s .mod (.int a) (.int b) = .ok (.int (a % b)) s := if_pos h
theorem boD_pow (s : St) {a b : Int} (h : 0 ≤ b ∧ b ≤ 1000000 ∧ a.natAbs < 18446744073709551616) : boD s .pow (.int a) (.int b) = .ok (.int (a ^ b.toNat)) s := if_pos h
theorem boD_addT (s : St) {a b : List D} (h : a.length + b.length ≤ line) : boD s .add (.tup a) (.tup b) = .ok (.tup (a ++ b)) s := if_pos h
theorem boD_addL (s : St) {a b : List D} (h : a.length + b.length ≤ line) : boD s .add (.lst a) (.lst b) = .ok (.lst (a ++ b)) s := if_pos h
theorem boD_mulT (s : St) {a : List D} {b : Int} (h : a ≠ [] ∧ 2 ≤ b ∧ b ≤ 1000 ∧ a.length ≤ 1000) : boD s .mul (.tup a) (.int b) = .ok (.tup (List.replicate b.toNat a).flatten) s := if_pos h
theorem coD_eq (s : St) (a b : D) : coD s .eq a b = dEq s a b := rfl
theorem coD_ne (s : St) (a b : D) : coD s .ne a b = (dEq s a b).map (!·) := rfl
theorem coD_inn (s : St) (a b : D) : coD s .inn a b = inD s a b := rfl
theorem coD_nin (s : St) (a b : D) : coD s .nin a b = (inD s a b).map (!·) := rfl
theorem coD_lt (s : St) (a b : Int) : coD s .lt (.int a) (.int b) = some (decide (a < b)) := rfl
theorem coD_le (s : St) (a b : Int) : coD s .le (.int a) (.int b) = some (decide (a ≤ b)) := rfl
theorem coD_gt (s : St) (a b : Int) : coD s .gt (.int a) (.int b) = some (decide (b < a)) := rfl
theorem coD_ge (s : St) (a b : Int) : coD s .ge (.int a) (.int b) = some (decide (b ≤ a)) := rfl
theorem eqv_int (a b : Int) : PySem.PyData.eqv (.int a) (.int b) = decide (a = b) := by
  rw [PySem.PyData.eqv]
  by_cases h : a = b
  · subst h; simp
  · simp [h]
theorem item_tup (s : St) (xs : List D) (j : Int) : itemD s (.tup xs) (.int j) = ofO (atD xs j) s := rfl
theorem item_lst (s : St) (xs : List D) (j : Int) : itemD s (.lst xs) (.int j) = ofO (atD xs j) s := rfl
theorem item_ro (s : St) (xs : List D) (j : Int) : itemD s (.ro xs) (.int j) = ofO (atD xs j) s := rfl
end Kn
set_option Elab.async false
set_option linter.all false
set_option maxHeartbeats 4000000
set_option maxRecDepth 100000
/-! KnH: from what stands in the top's names to the law's table. -/
namespace Kn
open PySem PySem.Spec PyProof.Rows L2
structure DefAt (K : PySem.W.Frag) (x : Str) (st : Stmt) (f : Addr) : Prop where
  ns : PySem.W.nsIn K mainGlobals x = some (some (.ref f))
  fn : ∃ fd, L2.Fun K x x st f fd
theorem def_at {K : PySem.W.Frag} {x : Str} {st : Stmt} {f : Addr} {od an : Option Addr} {sl : Array (Option Value)} {oc kV dc pm cd ct : Value} (a : PySem.W.nsIn K mainGlobals x = some (some (.ref f)))
    (l : K.lookup f = some ⟨oc, od, .func (PySem.W.fnOf x x (defArgs st) (defBody st) (defScope st) .none kV dc pm an cd ct), sl⟩) (c : PySem.W.codeIn K cd x = true) (k : PySem.W.keepIn K (.ref f) = true) : DefAt K x st f := ⟨a, _, fun_mk l c k⟩
def ValAt (K : PySem.W.Frag) (x : Str) (d : D) : Prop := ∃ u v, PySem.W.nsIn K mainGlobals x = some (some u) ∧ RelV v u ∧ ∀ (W : Wd) (m : Mp) (H : Hp), W.K = K → Rep W m H d v
theorem of_vals {K : PySem.W.Frag} {vals : List (Str × D)} (h : ∀ p ∈ vals, ValAt K p.1 p.2) : ∀ x d, (x, d) ∈ vals → ValAt K x d := fun x d hx => h (x, d) hx
def BindOk (e : Ent) : Prop := ∀ (kV doc pm : Value) (an : Option Addr) (cdv ct : Value) (us : List Value), us.length = e.ps.length →
  bindArgs (PySem.W.fnOf e.x e.x (defArgs e.st) (defBody e.st) (defScope e.st) .none kV doc pm an cdv ct) ⟨us, []⟩ = pure (e.ps.zip us)
def eqD : Nat → D → D → Bool
  | 0, _, _ => false
  | n + 1, a, b => match a, b with
    | .non, .non => true
    | .bl x, .bl y => decide (x = y)
    | .int x, .int y => decide (x = y)
    | .str x, .str y => decide (x = y)
    | .tup xs, .tup ys => decide (xs.length = ys.length) && (xs.zip ys).all fun p => eqD n p.1 p.2
    | _, _ => false
theorem eqD_ok : ∀ (n : Nat) {a b : D}, eqD n a b = true → a = b := by
  intro n
  induction n with
  | zero => intro a b h; cases h
  | succ n ih =>
    intro a b h
    unfold eqD at h
    split at h
    · rfl
    · rw [of_decide_eq_true h]
    · rw [of_decide_eq_true h]
    · rw [of_decide_eq_true h]
    · rename_i xs ys
      rw [Bool.and_eq_true] at h
      obtain ⟨h1, h2⟩ := h
      have h1 := of_decide_eq_true h1
      rw [List.all_eq_true] at h2
      have : ∀ {xs ys : List D}, xs.length = ys.length → (∀ p ∈ xs.zip ys, eqD n p.1 p.2 = true) → xs = ys := by
        intro xs
        induction xs with
        | nil => intro ys h1 _; cases ys with
          | nil => rfl
          | cons _ _ => cases h1
        | cons x xs ih2 =>
          intro ys h1 h2
          cases ys with
          | nil => cases h1
          | cons y ys =>
            have e1 : x = y := ih (h2 (x, y) (by simp))
            have e2 := ih2 (Nat.succ.inj h1) (fun p hp => h2 p (by simp [hp]))
            rw [e1, e2]
      rw [this h1 h2]
    · cases h
def gtB (es : List Ent) (bl : List Str) (vals : List (Str × D)) (gt : List (Str × GE)) : Bool := gt.all fun p => match p.2 with
  | .blt => decide (p.1 ∈ bl)
  | .fn i np => es.any fun e => decide (e.i = i) && decide (e.x = p.1) && decide (e.ps.length = np)
  | .val d => vals.any fun q => decide (q.1 = p.1) && eqD 9 q.2 d
theorem head_ok {P : Program} {w : World} {K : PySem.W.Frag} {h : Heap} {mg : Str → Option Value} {fa : Addr} (X : K.In h) (G : h.Ns mainGlobals mg) {T : Nat → Option FD} {es : List Ent} {bl : List Str} {vals : List (Str × D)} {fuel k : Nat} {le : Ent}
    (hfa : mg le.x = some (.ref fa)) (hle : le ∈ es) (hps : le.ps = [("script" : Str)]) (hd : ∀ e ∈ es, ∃ f, DefAt K e.x e.st f) (hbi : ∀ e ∈ es, BindOk e) (hsc : ∀ e ∈ es, fnScopeB e.N e.ps (defScope e.st) = true) (hT : ∀ e ∈ es, e.fd ≠ none ∧ e.fd = T e.i)
    (hgt : ∀ e ∈ es, gtB es bl vals e.ce.gt = true) (hb : ∀ x ∈ bl, PySem.W.nsIn K mainGlobals x = some none) (hv : ∀ x d, (x, d) ∈ vals → ValAt K x d)
    (hm : ∀ ns : List Int, ns.length ≤ 63 → ∃ st, run T fuel k le.i [.dat (.ro (ns.map .int))] [] = .ok (.bl true) st) :
    ∃ fd : FuncData, (∀ (s : Shared) (v : Value), BindsTo s fd ⟨[v], []⟩ [("script", v)]) ∧ ∀ base : Heap, K.In base → base.Ns mainGlobals mg → FnOk P w K mg base (L2.CX P w) k fa fd ["script"] (spEnd K) := by
  have hE0 : ∀ e : Ent, ∃ (f : Addr) (fd : FuncData), e ∈ es → EntOk ⟨K, fun _ => none, fun _ => none⟩ mg T e f fd ∧ L2.Fun K e.x e.x e.st f fd := fun e => by
    by_cases he : e ∈ es
    · obtain ⟨f, a, fd, F⟩ := hd e he
      exact ⟨f, fd, fun _ => ⟨⟨F, F.binds (hbi e he), PySem.W.mg_of X G a, hsc e he, (hT e he).1, (hT e he).2⟩, F⟩⟩
    · obtain ⟨f, a, fd, F⟩ := hd le hle
      exact ⟨f, fd, fun z => absurd z he⟩
  have hE1 : ∃ (fA : Ent → Addr) (fD : Ent → FuncData), ∀ e ∈ es, EntOk ⟨K, fun _ => none, fun _ => none⟩ mg T e (fA e) (fD e) ∧ L2.Fun K e.x e.x e.st (fA e) (fD e) :=
    ⟨fun e => (hE0 e).choose, fun e => (hE0 e).choose_spec.choose, fun e he => (hE0 e).choose_spec.choose_spec he⟩
  obtain ⟨fA, fD, hE⟩ := hE1
  have hG : ∀ e ∈ es, GtOk ⟨K, fun _ => none, fun _ => none⟩ mg es e.ce.gt := fun e he x g hm => by
    have z := List.all_eq_true.mp (hgt e he) (x, g) hm
    cases g with
    | blt => exact PySem.W.mg_none_of X G (hb x (of_decide_eq_true z))
    | fn i np =>
      obtain ⟨e', he', z⟩ := List.any_eq_true.mp z
      simp only [Bool.and_eq_true, decide_eq_true_eq] at z
      exact ⟨e', he', z.1.1, z.1.2, z.2⟩
    | val d =>
      obtain ⟨q, hq, z⟩ := List.any_eq_true.mp z
      simp only [Bool.and_eq_true, decide_eq_true_eq] at z
      obtain ⟨q1, q2⟩ := q
      have e1 : q1 = x := z.1
      have e2 : q2 = d := eqD_ok 9 z.2
      subst e1 e2
      obtain ⟨u, v, h1, h2, h3⟩ := hv _ _ hq
      exact ⟨u, v, PySem.W.mg_of X G h1, h2, fun m H => h3 _ m H rfl⟩
  have F := (hE le hle).2
  have ea : fA le = fa := by
    have := (hE le hle).1.gl
    rw [hfa] at this
    cases this
    rfl
  refine ⟨fD le, fun s v => ?_, fun base _ _ => ?_⟩
  · obtain ⟨oc, od, kV, doc, pm, an, cdv, ct, osl, e, lk, hcd⟩ := F.ex
    rw [e]
    have z := hbi le hle kV doc pm an cdv ct [v] (by rw [hps]; rfl)
    rw [hps] at z
    exact .of_eq z
  · have F' := tab_ok (P := P) (w := w) (base := base) (fuel := fuel) (fun e he => (hE e he).1) hG k le hle
    rw [hps, ea] at F'
    exact law_end F' hm
end Kn
set_option Elab.async false
set_option linter.all false
set_option maxHeartbeats 1000000
/-! KnM0: loops over lists. -/
namespace Kn
/-- all apply lemmas in one -/
def kn :=
  And.intro @xSeq_nil <| And.intro @xSeq_one <| And.intro @xSeq_cons <| And.intro @sVar_eq <| And.intro @sCst_eq <| And.intro @sList_nil <| And.intro @sList_cons <| And.intro @sTup_eq <| And.intro @sLst_f <| And.intro @sLst_t <| And.intro @sBin_eq <| And.intro @sCmp_eq <| And.intro @sCmp2_eq <| And.intro @sIsN_f <| And.intro @sIsN_t <| And.intro @sNeg_eq <| And.intro @sTru_eq <| And.intro @sNot_eq <| And.intro @sAnd_one <| And.intro @sOr_one <| And.intro @sAnd_cons <| And.intro @sOr_cons <| And.intro @sIf_eq <| And.intro @sItem_eq <| And.intro @sPart_none <| And.intro @sPart_some <| And.intro @sSlice_eq <| And.intro @sIsi_eq <| And.intro @cmpD_eq <| And.intro @sBf_eq <| And.intro @sMt_eq <| And.intro @sCallD_eq <| And.intro @sDict0_eq <| And.intro @sRev_eq <| And.intro @sLc_eq <| And.intro @iVal_eq <| And.intro @iRange1_eq <| And.intro @iRange2_eq <| And.intro @iEnum_eq <| And.intro @iZip_eq <| And.intro @xExpr_eq <| And.intro @xRet_eq <| And.intro @xPass_eq <| And.intro @xNever_eq <| And.intro @xAsg_eq <| And.intro @gNm_eq <| And.intro @gAll_nil <| And.intro @gAll_cons <| And.intro @gTp_tup <| And.intro @gTp_lst <| And.intro @xPar_eq <| And.intro @xSet_eq <| And.intro @xIf_eq <| And.intro @xFor_eq <| And.intro @xWhile_eq <| And.intro @bind_ok <| And.intro @bind_exc <| And.intro @bind_bad <| And.intro @out_ok <| And.intro @out_bad <| And.intro @fin_nx <| And.intro @fin_rt <| And.intro @fin_bad <| And.intro @seq_nx <| And.intro @seq_rt <| And.intro @seq_bk <| And.intro @seq_ct <| And.intro @seq_bad <| And.intro @ofO_some <| And.intro @ofO_none <| And.intro @negD_int <| And.intro @cmp2_t <| And.intro @cmp2_f <| And.intro @stepB_same <| And.intro @stepB_tf <| And.intro @stepB_ft <| And.intro @intO_int <| And.intro @blO_some <| And.intro @enD_tup <| And.intro @enD_lst <| And.intro @zpD_tup <| And.intro @zpD_lst <| And.intro @asgO_some <| And.intro @obE_some <| And.intro @par2_eq <| And.intro @stO_some <| And.intro @truD_bl <| And.intro @truD_int <| And.intro @truD_non <| And.intro @truD_tup <| And.intro @truD_lst <| And.intro @isN_non <| And.intro @isN_tup <| And.intro @isN_int <| And.intro @isN_bl <| And.intro @isN_lst <| And.intro @isN_str <| And.intro @isN_ref <| And.intro @boD_add <| And.intro @boD_sub <| And.intro @coD_eq <| And.intro @coD_ne <| And.intro @coD_lt <| And.intro @coD_le <| And.intro @coD_gt <| And.intro @coD_ge <| And.intro @coD_inn <| And.intro @coD_nin <| And.intro @item_tup <| And.intro @item_lst <| And.intro @item_ro <| And.intro @List.map_cons.{0,0} <| And.intro @List.map_nil.{0,0} <| And.intro @List.length_cons.{0} <| And.intro @List.length_nil.{0} <| And.intro @List.cons_append.{0} <| And.intro @List.nil_append.{0} <| And.intro @List.getElem?_cons_zero.{0} <| And.intro @List.getElem?_cons_succ.{0} <| And.intro @List.set_cons_zero.{0} <| And.intro @List.set_cons_succ.{0} <| And.intro @List.replicate_succ.{0} <| And.intro @List.replicate_zero.{0} <| And.intro @Nat.zero_add <| And.intro @Nat.add_zero <| And.intro @Nat.sub_self <| And.intro @Bool.not_true <| And.intro @Bool.not_false <| And.intro @Bool.false_eq_true <| True.intro
theorem run_eq {T : Nat → Option FD} {fuel n i np ns : Nat} {body : SS} {as : List Ag} {s : St} (h : T i = some ⟨np, ns, body⟩) (hl : as.length = np) : run T fuel (n + 1) i as s = (body ⟨fuel, run T fuel n, fun _ _ _ _ => .bad⟩ (as.map some ++ List.replicate (ns - as.length) none) s).fin := by
  rw [run_succ h, runFD_eq hl]
theorem ixN_nat {n i : Nat} (h : i < n) : ixN n (i : Int) = some i := by
  unfold ixN
  rw [if_pos (by omega), if_pos (by omega)]
  simp
theorem atD_nat {α : Type} {xs : List α} {i : Nat} {x : α} (h : xs[i]? = some x) : atD xs (i : Int) = some x := by
  unfold atD
  rw [ixN_nat (List.getElem?_eq_some_iff.mp h).1]
  exact h
theorem at0 {α : Type} (x : α) (xs : List α) : atD (x :: xs) 0 = some x := atD_nat (i := 0) rfl
theorem at1 {α : Type} (x y : α) (xs : List α) : atD (x :: y :: xs) 1 = some y := atD_nat (i := 1) rfl
theorem at2 {α : Type} (x y z : α) (xs : List α) : atD (x :: y :: z :: xs) 2 = some z := atD_nat (i := 2) rfl
theorem at3 {α : Type} (x y z u : α) (xs : List α) : atD (x :: y :: z :: u :: xs) 3 = some u := atD_nat (i := 3) rfl

theorem dEq_int (s : St) (a b : Int) : dEq s (.int a) (.int b) = some (decide (a = b)) := by
  show some (PySem.PyData.eqv (.int a) (.int b)) = _
  rw [eqv_int]
theorem dEq_str (s : St) (a b : List Nat) : dEq s (.str a) (.str b) = some (decide (a = b)) := by
  show some (PySem.PyData.eqv (.str ⟨a.toArray⟩) (.str ⟨b.toArray⟩)) = _
  rw [PySem.PyData.eqv]
  by_cases h : a = b
  · subst h; simp
  · have : ¬ (⟨a.toArray⟩ : PySem.Str) = ⟨b.toArray⟩ := fun z => h (by
      injection z with z
      simpa using congrArg Array.toList z)
    simp [h, this]
/-! ### loops over what does not change -/
def forL (g : SG) (body : En → St → RS) : List D → En → St → RS
  | [], e, s => .nx e s
  | d :: ds, e, s => match g d e s with
    | none => .bad
    | some e1 => match body e1 s with
      | .nx e2 s2 => forL g body ds e2 s2
      | .ct e2 s2 => forL g body ds e2 s2
      | .bk e2 s2 => .nx e2 s2
      | r => r
theorem forG_pre (g : SG) (body : En → St → RS) : ∀ (xs pre : List D) (e : En) (s : St), forG (Src.fix (pre ++ xs)).get g body xs.length pre.length e s = forL g body xs e s
  | [], pre, e, s => by
    show (match (some (pre ++ [])[pre.length]? : Option (Option D)) with
      | some none => RS.nx e s
      | _ => .bad) = _
    simp [forL]
  | x :: xs, pre, e, s => by
    have hx : (pre ++ x :: xs)[pre.length]? = some x := by simp
    have ih := fun e s => forG_pre g body xs (pre ++ [x]) e s
    simp only [List.append_assoc, List.cons_append, List.nil_append, List.length_append, List.length_cons, List.length_nil, Nat.zero_add] at ih
    show (match (some (pre ++ x :: xs)[pre.length]? : Option (Option D)) with
      | none => RS.bad
      | some none => RS.nx e s
      | some (some d) => match g d e s with
        | none => RS.bad
        | some e1 => match body e1 s with
          | .nx e2 s2 => forG (Src.fix (pre ++ x :: xs)).get g body xs.length (pre.length + 1) e2 s2
          | .ct e2 s2 => forG (Src.fix (pre ++ x :: xs)).get g body xs.length (pre.length + 1) e2 s2
          | .bk e2 s2 => .nx e2 s2
          | r => r) = _
    rw [hx]
    simp only [forL]
    cases g x e s with
    | none => rfl
    | some e1 =>
      simp only []
      cases body e1 s with
      | nx e2 s2 => exact ih e2 s2
      | ct e2 s2 => exact ih e2 s2
      | _ => rfl
theorem forG_fix (xs : List D) (g : SG) (body : En → St → RS) (e : En) (s : St) : forG (Src.fix xs).get g body xs.length 0 e s = forL g body xs e s := forG_pre g body xs [] e s
theorem forL_nil (g : SG) (body : En → St → RS) (e : En) (s : St) : forL g body [] e s = .nx e s := rfl
/-- on after a turn -/
def RS.turn (r : RS) (k : En → St → RS) : RS := match r with
  | .nx e s => k e s
  | .ct e s => k e s
  | .bk e s => .nx e s
  | r => r
@[simp] theorem turn_nx (e : En) (s : St) (k : En → St → RS) : (RS.nx e s).turn k = k e s := rfl
@[simp] theorem turn_ct (e : En) (s : St) (k : En → St → RS) : (RS.ct e s).turn k = k e s := rfl
@[simp] theorem turn_bk (e : En) (s : St) (k : En → St → RS) : (RS.bk e s).turn k = .nx e s := rfl
@[simp] theorem turn_rt (d : D) (s : St) (k : En → St → RS) : (RS.rt d s).turn k = .rt d s := rfl
@[simp] theorem turn_bad (k : En → St → RS) : (RS.bad).turn k = .bad := rfl
theorem forL_cons {g : SG} {body : En → St → RS} {d : D} {ds : List D} {e e1 : En} {s : St} (h : g d e s = some e1) : forL g body (d :: ds) e s = (body e1 s).turn (forL g body ds) := by
  simp only [forL, h]
  cases body e1 s <;> rfl
def lcL (turn : D → St → R (Option D)) : List D → List D → St → R (List D)
  | [], acc, s => .ok acc s
  | d :: ds, acc, s => match turn d s with
    | .ok (some x) s1 => lcL turn ds (acc ++ [x]) s1
    | .ok none s1 => lcL turn ds acc s1
    | _ => .bad
theorem lcG_pre (turn : D → St → R (Option D)) : ∀ (xs pre acc : List D) (s : St), lcG (Src.fix (pre ++ xs)).get turn xs.length pre.length acc s = lcL turn xs acc s
  | [], pre, acc, s => by
    show (match (some (pre ++ [])[pre.length]? : Option (Option D)) with
      | some none => R.ok acc s
      | _ => .bad) = _
    simp [lcL]
  | x :: xs, pre, acc, s => by
    have hx : (pre ++ x :: xs)[pre.length]? = some x := by simp
    have ih := fun acc s => lcG_pre turn xs (pre ++ [x]) acc s
    simp only [List.append_assoc, List.cons_append, List.nil_append, List.length_append, List.length_cons, List.length_nil, Nat.zero_add] at ih
    show (match (some (pre ++ x :: xs)[pre.length]? : Option (Option D)) with
      | none => R.bad
      | some none => R.ok acc s
      | some (some d) => match turn d s with
        | .ok (some x') s1 => lcG (Src.fix (pre ++ x :: xs)).get turn xs.length (pre.length + 1) (acc ++ [x']) s1
        | .ok none s1 => lcG (Src.fix (pre ++ x :: xs)).get turn xs.length (pre.length + 1) acc s1
        | _ => .bad) = _
    rw [hx]
    simp only [lcL]
    cases turn x s with
    | ok o s1 =>
      cases o with
      | some y => exact ih _ s1
      | none => exact ih _ s1
    | _ => rfl
theorem lcG_fix (xs : List D) (turn : D → St → R (Option D)) (acc : List D) (s : St) : lcG (Src.fix xs).get turn xs.length 0 acc s = lcL turn xs acc s := lcG_pre turn xs [] acc s
theorem lcL_map {turn : D → St → R (Option D)} {f : D → D} {s : St} : ∀ (xs acc : List D), (∀ d ∈ xs, turn d s = .ok (some (f d)) s) → lcL turn xs acc s = .ok (acc ++ xs.map f) s
  | [], acc, _ => by simp [lcL]
  | x :: xs, acc, h => by
    simp only [lcL, h x List.mem_cons_self]
    rw [lcL_map xs (acc ++ [f x]) fun d hd => h d (List.mem_cons_of_mem _ hd)]
    simp
theorem lcL_fm {turn : D → St → R (Option D)} {f : D → Option D} {s : St} : ∀ (xs acc : List D), (∀ d ∈ xs, turn d s = .ok (f d) s) → lcL turn xs acc s = .ok (acc ++ xs.filterMap f) s
  | [], acc, _ => by simp [lcL]
  | x :: xs, acc, h => by
    have hx := h x List.mem_cons_self
    have ih := fun acc => lcL_fm xs acc fun d hd => h d (List.mem_cons_of_mem _ hd)
    cases e : f x with
    | none =>
      simp only [lcL, hx, e]
      rw [ih]
      simp [e]
    | some y =>
      simp only [lcL, hx, e]
      rw [ih]
      simp [e]
/-- a turn's target stored -/
def obT (o : Option En) (k : En → R (Option D)) : R (Option D) := match o with
  | some e => k e
  | none => .bad
@[simp] theorem obT_some (e : En) (k : En → R (Option D)) : obT (some e) k = k e := rfl
theorem lcTurn_n (own : List Nat) (g : SG) (elt : SE) (c : Cl) (e : En) (d : D) (s : St) : lcTurn own g none elt c e d s = obT (g d (wipeE own e) s) fun e1 => (elt c e1 s).bind fun x s1 => .ok (some x) s1 := by
  unfold lcTurn
  cases g d (wipeE own e) s <;> rfl
theorem lcTurn_s (own : List Nat) (g : SG) (t elt : SE) (c : Cl) (e : En) (d : D) (s : St) : lcTurn own g (some t) elt c e d s = obT (g d (wipeE own e) s) fun e1 => (sTru t c e1 s).bind fun b s1 => if b then (elt c e1 s1).bind fun x s2 => .ok (some x) s2 else .ok none s1 := by
  unfold lcTurn
  cases g d (wipeE own e) s <;> rfl
theorem wipeE_eq (own : List Nat) (e : En) : wipeE own e = (wipeI e own).map wipeA := rfl
theorem wipeI_nil (e : En) : wipeI e [] = e := rfl
theorem wipeI_cons (e : En) (v : Nat) (vs : List Nat) : wipeI e (v :: vs) = (wipeI e vs).set v none := rfl
theorem wipeA_dat (d : D) : wipeA (some (.dat d)) = some (.dat d) := rfl
theorem wipeA_non : wipeA none = none := rfl
theorem src_tup (s : St) (xs : List D) : srcOf s (.tup xs) = some (.fix xs, xs.length) := rfl
theorem src_lst (s : St) (xs : List D) : srcOf s (.lst xs) = some (.fix xs, xs.length) := rfl
def knl :=
  And.intro dEq_int <| And.intro dEq_str <| And.intro forG_fix <| And.intro forL_nil <| And.intro turn_nx <| And.intro turn_ct <| And.intro turn_bk <| And.intro turn_rt <| And.intro turn_bad <| And.intro lcG_fix <| And.intro lcTurn_n <| And.intro lcTurn_s <| And.intro wipeE_eq <| And.intro wipeI_nil <| And.intro wipeI_cons <| And.intro wipeA_dat <| And.intro wipeA_non <| And.intro src_tup <| And.intro src_lst <| And.intro obT_some <| True.intro
end Kn
set_option Elab.async false
set_option linter.all false
set_option maxHeartbeats 1000000
/-! KnM1: plans and forms. -/
namespace Kn
abbrev Fo := Int × Int
abbrev fm (f : Fo) : D := .tup [.int f.1, .int f.2]
def wth (f : Fo) (n : Int) : Int := f.1 * (n / 2) + f.2
def lessF (a b : Fo) : Fo := (a.1 - b.1, a.2 - b.2)
def addF (a b : Fo) : Fo := (a.1 + b.1, a.2 + b.2)
def wholeF (n : Int) : Fo := (2, n % 2)
def sgn (x : Int) : Int := if 0 < x then 1 else if x < 0 then -1 else 0
def Sm (f : Fo) : Prop := -1000 ≤ f.1 ∧ f.1 ≤ 1000
structure TF (T : Nat → Option FD) : Prop where
  less : T i_less = some fd_less
  added : T i_added = some fd_added
  worth : T i_worth = some fd_worth
  whole : T i_whole = some fd_whole
  sign_of : T i_sign_of = some fd_sign_of
section
variable {T : Nat → Option FD} {fuel : Nat} (hT : TF T)
include hT
theorem r_less (n : Nat) (a b c d : Int) (s : St) : run T fuel (n + 1) i_less [.dat (.tup [.int a, .int b]), .dat (.tup [.int c, .int d])] s = .ok (.tup [.int (a - c), .int (b - d)]) s := by
  refine (run_eq hT.less rfl).trans ?_
  simp only [kn, knl, Nat.reduceSub, Nat.reduceAdd, reduceIte, at0, at1]
theorem r_added (n : Nat) (a b c d : Int) (s : St) : run T fuel (n + 1) i_added [.dat (.tup [.int a, .int b]), .dat (.tup [.int c, .int d])] s = .ok (.tup [.int (a + c), .int (b + d)]) s := by
  refine (run_eq hT.added rfl).trans ?_
  simp only [kn, knl, Nat.reduceSub, Nat.reduceAdd, reduceIte, at0, at1]
theorem r_whole (n : Nat) (z : Int) (s : St) : run T fuel (n + 1) i_whole [.dat (.int z)] s = .ok (.tup [.int 2, .int (z % 2)]) s := by
  refine (run_eq hT.whole rfl).trans ?_
  simp only [kn, knl, Nat.reduceSub, Nat.reduceAdd, reduceIte, boD_mod s (show (0 : Int) < 2 by decide)]
theorem r_worth (n : Nat) (a b z : Int) (h : -1000 ≤ a ∧ a ≤ 1000) (s : St) : run T fuel (n + 1) i_worth [.dat (.tup [.int a, .int b]), .dat (.int z)] s = .ok (.int (a * (z / 2) + b)) s := by
  refine (run_eq hT.worth rfl).trans ?_
  simp only [kn, knl, Nat.reduceSub, Nat.reduceAdd, reduceIte, at0, at1, boD_div s (show (0 : Int) < 2 ∧ (2 : Int) < 1073741824 by decide), boD_mul s (a := a) (b := z / 2) (.inl (by unfold big; omega))]
theorem r_sign (n : Nat) (a b z : Int) (h : -1000 ≤ a ∧ a ≤ 1000) (s : St) : run T fuel (n + 2) i_sign_of [.dat (.tup [.int a, .int b]), .dat (.int z)] s = .ok (.int (sgn (a * (z / 2) + b))) s := by
  refine (run_eq hT.sign_of rfl).trans ?_
  simp only [kn, knl, Nat.reduceSub, Nat.reduceAdd, reduceIte, r_worth hT n a b z h]
  unfold sgn
  by_cases h1 : 0 < a * (z / 2) + b
  · simp only [h1, decide_true, if_true, out_ok, fin_rt]
  · by_cases h2 : a * (z / 2) + b < 0
    · simp only [h1, h2, decide_true, decide_false, if_true, out_ok, fin_rt, Bool.false_eq_true, if_false]
    · simp only [h1, h2, decide_true, decide_false, if_true, out_ok, fin_rt, Bool.false_eq_true, if_false]
end
end Kn
set_option Elab.async false
set_option linter.all false
set_option maxHeartbeats 2000000
/-! KnM2: what deeds do, in the program. -/
namespace Kn
/-- the state's dict -/
def obP (se di sto ste as : List D) : Ob := .dct false [(.s w_seats, .tup se), (.s w_did, .tup di), (.s w_stood, .tup sto), (.s w_steps, .tup ste), (.s w_asked, .tup as)]
theorem item_ref (s : St) (k : Nat) (x : List Nat) : itemD s (.ref k) (.str x) = match s[k]? with
  | some (.dct _ kvs) => ofO (valK kvs (.s x)) s
  | _ => .bad := by
  unfold itemD
  cases h : s[k]? with
  | none => simp only [h]
  | some o => cases o <;> simp only [h, kyOf]
section
variable {s : St} {k : Nat} {se di sto ste as : List D} (h : s[k]? = some (obP se di sto ste as))
include h
theorem it_seats : itemD s (.ref k) (.str w_seats) = .ok (.tup se) s := by rw [item_ref, h]; rfl
theorem it_did : itemD s (.ref k) (.str w_did) = .ok (.tup di) s := by rw [item_ref, h]; rfl
theorem it_stood : itemD s (.ref k) (.str w_stood) = .ok (.tup sto) s := by rw [item_ref, h]; rfl
theorem it_steps : itemD s (.ref k) (.str w_steps) = .ok (.tup ste) s := by rw [item_ref, h]; rfl
theorem it_asked : itemD s (.ref k) (.str w_asked) = .ok (.tup as) s := by rw [item_ref, h]; rfl
theorem set_seats (x : List D) : setD s (.ref k) (.str w_seats) (.tup x) = some (s.set k (obP x di sto ste as)) := by
  simp only [setD, h, obP]; rfl
theorem set_did (x : List D) : setD s (.ref k) (.str w_did) (.tup x) = some (s.set k (obP se x sto ste as)) := by
  simp only [setD, h, obP]; rfl
theorem set_stood (x : List D) : setD s (.ref k) (.str w_stood) (.tup x) = some (s.set k (obP se di x ste as)) := by
  simp only [setD, h, obP]; rfl
theorem set_steps (x : List D) : setD s (.ref k) (.str w_steps) (.tup x) = some (s.set k (obP se di sto x as)) := by
  simp only [setD, h, obP]; rfl
theorem set_asked (x : List D) : setD s (.ref k) (.str w_asked) (.tup x) = some (s.set k (obP se di sto ste x)) := by
  simp only [setD, h, obP]; rfl
theorem lt_of_at : k < s.length := (List.getElem?_eq_some_iff.mp h).1
theorem at_set (o : Ob) : (s.set k o)[k]? = some o := List.getElem?_set_self (lt_of_at h)
end
def foD : Option Fo → D
  | none => .non
  | some f => fm f
abbrev fmL (l : List Fo) : List D := l.map fun f => fm f
abbrev seD (se : List (Option Fo)) : List D := se.map foD
abbrev nD (l : List Nat) : List D := l.map fun (i : Nat) => D.int (i : Int)
def besA (f : Fo) (se : List (Option Fo)) : List Fo := se.filterMap fun o => o.map fun g => lessF g f
def bes (f : Fo) (sg n : Int) : Nat → List (Option Fo) → List Nat
  | _, [] => []
  | i, none :: r => bes f sg n (i + 1) r
  | i, some g :: r => if sgn (wth (lessF g f) n) = sg then i :: bes f sg n (i + 1) r else bes f sg n (i + 1) r
structure TR (T : Nat → Option FD) : Prop extends TF T where
  spot_form : T i_spot_form = some fd_spot_form
  begun : T i_begun = some fd_begun
  asks : T i_asks = some fd_asks
  with_item : T i_with_item = some fd_with_item
  people_beside : T i_people_beside = some fd_people_beside
  ways : T i_ways = some fd_ways
  way_by : T i_way_by = some fd_way_by
  came : T i_came = some fd_came
  went : T i_went = some fd_went
  is_open : T i_is_open = some fd_is_open
  moved : T i_moved = some fd_moved
  between : T i_between = some fd_between
  next_gap : T i_next_gap = some fd_next_gap
  handed : T i_handed = some fd_handed
  doit : T i_do = some fd_do
  last_of : T i_last_of = some fd_last_of
/-- small forms -/
def SmS (se : List (Option Fo)) : Prop := ∀ f, some f ∈ se → -10 ≤ f.1 ∧ f.1 ≤ 10
section
variable {T : Nat → Option FD} {fuel : Nat} (hT : TR T)
include hT
theorem r_asks (n : Nat) {s : St} {k : Nat} {se di sto ste as : List D} (h : s[k]? = some (obP se di sto ste as)) (hl : as.length + 1 ≤ line) (f : Fo) (hf : -1000 ≤ f.1 ∧ f.1 ≤ 1000) (z : Int) :
    run T fuel (n + 3) i_asks [.dat (.ref k), .dat (fm f), .dat (.int z)] s = .ok (.int (sgn (wth f z))) (s.set k (obP se di sto ste (as ++ [fm f]))) := by
  refine (run_eq hT.asks rfl).trans ?_
  simp only [kn, knl, Nat.reduceSub, Nat.reduceAdd, reduceIte, it_asked h, boD_addT s (a := as) (b := [fm f]) hl, set_asked h, r_sign hT.toTF n f.1 f.2 z hf]
  rfl
theorem r_people (n : Nat) (f : Fo) (hf : -100 ≤ f.1 ∧ f.1 ≤ 100) (sg z : Int) {s : St} {k : Nat} {se : List (Option Fo)} {di sto ste as : List D} (h : s[k]? = some (obP (seD se) di sto ste as)) (hs : SmS se) (hl : as.length + (besA f se).length ≤ line) (h5 : se.length ≤ 1000) :
    run T fuel (n + 4) i_people_beside [.dat (.ref k), .dat (fm f), .dat (.int sg), .dat (.int z)] s = .ok (.tup (nD (bes f sg z 0 se))) (s.set k (obP (seD se) di sto ste (as ++ fmL (besA f se)))) := by
  refine (run_eq hT.people_beside rfl).trans ?_
  simp only [kn, knl, Nat.reduceSub, Nat.reduceAdd, reduceIte, it_seats h]
  have hlen : (seD se).length = (enumD 0 (seD se)).length := by
    have : ∀ (xs : List D) (i : Nat), xs.length = (enumD i xs).length := by
      intro xs
      induction xs with
      | nil => intro i; rfl
      | cons x xs ih => intro i; simp [enumD, ← ih]
    exact this _ 0
  rw [hlen, forG_fix]
  have loop : ∀ (r pre : List (Option Fo)) (as : List D) (s : St) (fo : List D) (x y : Option Ag), s[k]? = some (obP (seD se) di sto ste as) → se = pre ++ r → as.length + (besA f r).length ≤ line → fo.length + r.length ≤ 1000 →
      ∃ x' y', forL (gTp [gNm 5, gNm 6]) (xSeq [xIf (sAnd [sIsN true (sVar 6), sCmp .eq (sCallD i_asks [sVar 0, sCallD i_less [sVar 6, sVar 1], sVar 3]) (sVar 2)]) (xSeq [xAsg (gNm 4) (sBin .add (sVar 4) (sTup [sVar 5]))]) (xSeq [])] ⟨fuel, run T fuel (n + 3), fun _ _ _ _ => .bad⟩)
        (enumD pre.length (seD r)) [some (.dat (.ref k)), some (.dat (fm f)), some (.dat (.int sg)), some (.dat (.int z)), some (.dat (.tup fo)), x, y] s =
        .nx [some (.dat (.ref k)), some (.dat (fm f)), some (.dat (.int sg)), some (.dat (.int z)), some (.dat (.tup (fo ++ nD (bes f sg z pre.length r)))), x', y'] (s.set k (obP (seD se) di sto ste (as ++ fmL (besA f r)))) := by
    intro r
    induction r with
    | nil =>
      intro pre as s fo x y h e hl h5
      refine ⟨x, y, ?_⟩
      have e2 : s.set k (obP (seD se) di sto ste as) = s := by
        obtain ⟨h1, h2⟩ := List.getElem?_eq_some_iff.mp h
        rw [← h2]
        exact List.set_getElem_self h1
      simp [enumD, forL_nil, besA, bes, e2]
    | cons o r ih =>
      intro pre as s fo x y h e hl h5
      have e1 : se = (pre ++ [o]) ++ r := by rw [e]; simp
      have hlp : (pre ++ [o]).length = pre.length + 1 := by simp
      have IH := ih (pre ++ [o])
      rw [hlp] at IH
      have eg : ∀ d e s, gTp [gNm 5, gNm 6] (.tup [.int (pre.length : Nat), d]) e s = some ((e.set 5 (some (.dat (.int (pre.length : Nat))))).set 6 (some (.dat d))) := fun d e s => by simp only [kn, knl, Nat.reduceSub, Nat.reduceAdd, reduceIte]
      show ∃ x' y', forL _ _ (.tup [.int (pre.length : Nat), foD o] :: enumD (pre.length + 1) (seD r)) _ s = _
      cases o with
      | none =>
        obtain ⟨x', y', IH⟩ := IH as s fo (some (.dat (.int (pre.length : Nat)))) (some (.dat .non)) h e1 (by simpa [besA] using hl) (by simp at h5 ⊢; omega)
        refine ⟨x', y', ?_⟩
        rw [forL_cons (eg _ _ _)]
        simp only [kn, knl, Nat.reduceSub, Nat.reduceAdd, reduceIte, foD]
        rw [IH]
        simp [besA, bes]
      | some g =>
        have hg := hs g (by rw [e]; simp)
        have hl1 : as.length + 1 ≤ line := by simp [besA] at hl; omega
        have hq : -1000 ≤ (lessF g f).1 ∧ (lessF g f).1 ≤ 1000 := by
          show -1000 ≤ g.1 - f.1 ∧ g.1 - f.1 ≤ 1000
          omega
        have A := r_asks (fuel := fuel) hT n h hl1 (lessF g f) hq z
        have h' := at_set h (obP (seD se) di sto ste (as ++ [fm (lessF g f)]))
        have hl2 : (as ++ [fm (lessF g f)]).length + (besA f r).length ≤ line := by simp [besA] at hl ⊢; omega
        by_cases hc : sgn (wth (lessF g f) z) = sg
        · obtain ⟨x', y', IH⟩ := IH (as ++ [fm (lessF g f)]) (s.set k (obP (seD se) di sto ste (as ++ [fm (lessF g f)]))) (fo ++ [.int (pre.length : Nat)]) (some (.dat (.int (pre.length : Nat)))) (some (.dat (fm g))) h' e1 hl2 (by simp at h5 ⊢; omega)
          refine ⟨x', y', ?_⟩
          rw [forL_cons (eg _ _ _)]
          simp only [kn, knl, Nat.reduceSub, Nat.reduceAdd, reduceIte, foD, r_less hT.toTF (n + 2) g.1 g.2 f.1 f.2, show (D.tup [.int (g.1 - f.1), .int (g.2 - f.2)]) = fm (lessF g f) from rfl, A, hc, decide_true, boD_addT _ (a := fo) (b := [.int (pre.length : Nat)]) (by simp at h5 ⊢; unfold line; omega)]
          rw [IH]
          simp [besA, bes, hc, List.set_set]
        · obtain ⟨x', y', IH⟩ := IH (as ++ [fm (lessF g f)]) (s.set k (obP (seD se) di sto ste (as ++ [fm (lessF g f)]))) fo (some (.dat (.int (pre.length : Nat)))) (some (.dat (fm g))) h' e1 hl2 (by simp at h5 ⊢; omega)
          refine ⟨x', y', ?_⟩
          rw [forL_cons (eg _ _ _)]
          simp only [kn, knl, Nat.reduceSub, Nat.reduceAdd, reduceIte, foD, r_less hT.toTF (n + 2) g.1 g.2 f.1 f.2, show (D.tup [.int (g.1 - f.1), .int (g.2 - f.2)]) = fm (lessF g f) from rfl, A, hc, decide_false]
          rw [IH]
          simp [besA, bes, hc, List.set_set]
  obtain ⟨x', y', L⟩ := loop se [] as s [] none none h rfl hl (by simpa using h5)
  have L := L
  simp only [List.length_nil] at L
  rw [L]
  simp only [kn, knl, Nat.reduceSub, Nat.reduceAdd, reduceIte]
end
end Kn
set_option Elab.async false
set_option linter.all false
set_option maxHeartbeats 2000000
/-! KnM3: ways, coming, going. -/
namespace Kn
inductive Wo where
  | l | r | m
  deriving DecidableEq
inductive Si where
  | left | right | near | few
  deriving DecidableEq
def Wo.s : Wo → List Nat
  | .l => w_l
  | .r => w_r
  | .m => w_m
def Si.s : Si → List Nat
  | .left => w_left
  | .right => w_right
  | .near => w_near
  | .few => w_few
abbrev Wo.d (w : Wo) : D := .str w.s
abbrev Si.d (w : Si) : D := .str w.s
abbrev Spt := Wo × Int
abbrev spD (t : Spt) : D := .tup [t.1.d, .int t.2]
def spotF (t : Spt) (n : Int) : Fo := match t.1 with
  | .l => (0, t.2)
  | .m => (1, t.2)
  | .r => lessF (wholeF n) (0, t.2 + 1)
abbrev Way := Fo × List Nat
abbrev wayD (w : Way) : D := .tup [fm w.1, .tup (nD w.2)]
def lW (f : Fo) (n : Int) (se : List (Option Fo)) : Way := (addF f (0, 1), bes f (-1) n 0 se)
def rW (f : Fo) (n : Int) (se : List (Option Fo)) : Way := (lessF (wholeF n) f, bes f 1 n 0 se)
/-- the way by a side, and what is asked behind the two looks -/
def wayV (f : Fo) (sd : Si) (n : Int) (se : List (Option Fo)) : Way × List Fo :=
  let l := lW f n se
  let r := rW f n se
  let q := lessF l.1 r.1
  let near := (if 0 < sgn (wth q n) then r else l, [q])
  match sd with
  | .left => (l, [])
  | .right => (r, [])
  | .near => near
  | .few => if l.2.length = r.2.length then near else (if l.2.length < r.2.length then l else r, [])
def wayQ (f : Fo) (sd : Si) (n : Int) (se : List (Option Fo)) : List Fo := besA f se ++ besA f se ++ (wayV f sd n se).2
theorem besA_len (f : Fo) (se : List (Option Fo)) : (besA f se).length ≤ se.length := List.length_filterMap_le _ _
theorem wayQ_len (f : Fo) (sd : Si) (n : Int) (se : List (Option Fo)) : (wayQ f sd n se).length ≤ 2 * se.length + 1 := by
  have h := besA_len f se
  have h2 : (wayV f sd n se).2.length ≤ 1 := by
    unfold wayV
    cases sd <;> simp
    split <;> simp
  unfold wayQ
  simp only [List.length_append]
  omega
theorem lenD_tup (s : St) (x : List D) : bfD s .len [.tup x] = .ok (.int x.length) s := rfl
theorem fm_less (a b : Fo) : (D.tup [.int (a.1 - b.1), .int (a.2 - b.2)]) = fm (lessF a b) := rfl
theorem fm_add (a b : Fo) : (D.tup [.int (a.1 + b.1), .int (a.2 + b.2)]) = fm (addF a b) := rfl
section
variable {T : Nat → Option FD} {fuel : Nat} (hT : TR T)
include hT
theorem r_lessF (n : Nat) (a b : Fo) (s : St) : run T fuel (n + 1) i_less [.dat (fm a), .dat (fm b)] s = .ok (fm (lessF a b)) s := r_less hT.toTF n _ _ _ _ s
theorem r_addF (n : Nat) (a : Fo) (x y : Int) (s : St) : run T fuel (n + 1) i_added [.dat (fm a), .dat (.tup [.int x, .int y])] s = .ok (fm (addF a (x, y))) s := r_added hT.toTF n _ _ _ _ s
theorem r_wholeF (n : Nat) (z : Int) (s : St) : run T fuel (n + 1) i_whole [.dat (.int z)] s = .ok (fm (wholeF z)) s := r_whole hT.toTF n z s
theorem r_spot_form (n : Nat) (t : Spt) (z : Int) (s : St) : run T fuel (n + 2) i_spot_form [.dat (spD t), .dat (.int z)] s = .ok (fm (spotF t z)) s := by
  refine (run_eq hT.spot_form rfl).trans ?_
  obtain ⟨w, a⟩ := t
  have e1 : Wo.l.s = w_l := rfl
  have e2 : Wo.m.s = w_m := rfl
  have e3 : Wo.r.s = w_r := rfl
  have n1 : ¬ w_m = w_l := by decide
  have n2 : ¬ w_r = w_l := by decide
  have n3 : ¬ w_r = w_m := by decide
  have q := r_less hT.toTF (fuel := fuel) n 2 (z % 2) 0 (a + 1) s
  cases w
  · simp only [kn, knl, Nat.reduceSub, Nat.reduceAdd, reduceIte, at0, at1, e1, decide_true]
    rfl
  · simp only [kn, knl, Nat.reduceSub, Nat.reduceAdd, reduceIte, at0, at1, e3, n2, n3, decide_false, r_whole hT.toTF n z, q]
    rfl
  · simp only [kn, knl, Nat.reduceSub, Nat.reduceAdd, reduceIte, at0, at1, e2, n1, decide_false, decide_true]
    rfl
theorem r_ways (n : Nat) (f : Fo) (hf : -50 ≤ f.1 ∧ f.1 ≤ 50) (z : Int) {s : St} {k : Nat} {se : List (Option Fo)} {di sto ste as : List D} (h : s[k]? = some (obP (seD se) di sto ste as)) (hs : SmS se) (hl : as.length + 2 * se.length ≤ line) (h5 : se.length ≤ 1000) :
    run T fuel (n + 5) i_ways [.dat (.ref k), .dat (fm f), .dat (.int z)] s = .ok (.tup [wayD (lW f z se), wayD (rW f z se)]) (s.set k (obP (seD se) di sto ste (as ++ fmL (besA f se) ++ fmL (besA f se)))) := by
  refine (run_eq hT.ways rfl).trans ?_
  have b := besA_len f se
  have p1 := r_people (fuel := fuel) hT n f (by omega) (-1) z h hs (by omega) h5
  have h' := at_set h (obP (seD se) di sto ste (as ++ fmL (besA f se)))
  have p2 := r_people (fuel := fuel) hT n f (by omega) 1 z h' hs (by simp; omega) h5
  simp only [kn, knl, Nat.reduceSub, Nat.reduceAdd, reduceIte, r_addF hT (n + 3), p1, r_wholeF hT (n + 3), r_lessF hT (n + 3), p2, List.set_set]
  rfl
theorem r_way_by (n : Nat) (f : Fo) (hf : -50 ≤ f.1 ∧ f.1 ≤ 50) (sd : Si) (z : Int) {s : St} {k : Nat} {se : List (Option Fo)} {di sto ste as : List D} (h : s[k]? = some (obP (seD se) di sto ste as)) (hs : SmS se) (hl : as.length + 2 * se.length + 1 ≤ line) (h5 : se.length ≤ 1000) :
    run T fuel (n + 6) i_way_by [.dat (.ref k), .dat (fm f), .dat sd.d, .dat (.int z)] s = .ok (wayD (wayV f sd z se).1) (s.set k (obP (seD se) di sto ste (as ++ fmL (wayQ f sd z se)))) := by
  refine (run_eq hT.way_by rfl).trans ?_
  have b := besA_len f se
  have p1 := r_ways (fuel := fuel) hT n f hf z h hs (by omega) h5
  have h' := at_set h (obP (seD se) di sto ste (as ++ fmL (besA f se) ++ fmL (besA f se)))
  have hq : -1000 ≤ (lessF (lW f z se).1 (rW f z se).1).1 ∧ (lessF (lW f z se).1 (rW f z se).1).1 ≤ 1000 := by
    show -1000 ≤ (f.1 + 0) - (2 - f.1) ∧ (f.1 + 0) - (2 - f.1) ≤ 1000
    omega
  have p2 := r_asks (fuel := fuel) hT (n + 2) h' (by simp; omega) _ hq z
  have p3 := r_lessF (fuel := fuel) hT (n + 4) (lW f z se).1 (rW f z se).1 (s.set k (obP (seD se) di sto ste (as ++ fmL (besA f se) ++ fmL (besA f se))))
  have a1 : ¬ w_right = w_left := by decide
  have a2 : ¬ w_near = w_left := by decide
  have a3 : ¬ w_near = w_right := by decide
  have a4 : ¬ w_few = w_left := by decide
  have a5 : ¬ w_few = w_right := by decide
  have a6 : ¬ w_near = w_few := by decide
  cases sd
  · simp only [kn, knl, Nat.reduceSub, Nat.reduceAdd, reduceIte, p1, Si.s, decide_true]
    simp [wayV, wayQ]
  · simp only [kn, knl, Nat.reduceSub, Nat.reduceAdd, reduceIte, p1, Si.s, decide_true, decide_false, a1]
    simp [wayV, wayQ]
  · simp only [kn, knl, Nat.reduceSub, Nat.reduceAdd, reduceIte, p1, Si.s, decide_false, a2, a3, a6, at0, at1, p3, p2]
    by_cases hc : 0 < sgn (wth (lessF (lW f z se).1 (rW f z se).1) z)
    · simp only [hc, decide_true, if_true]
      simp only [kn, knl, Nat.reduceSub, Nat.reduceAdd, reduceIte, List.set_set]
      simp [wayV, wayQ, hc]
    · simp only [hc, decide_false, if_false]
      simp only [kn, knl, Nat.reduceSub, Nat.reduceAdd, reduceIte, List.set_set]
      simp [wayV, wayQ, hc]
  · have n1 : (nD (lW f z se).2).length = (lW f z se).2.length := by simp
    have n2 : (nD (rW f z se).2).length = (rW f z se).2.length := by simp
    by_cases hd : (lW f z se).2.length = (rW f z se).2.length
    · have hd' : ((lW f z se).2.length : Int) = (rW f z se).2.length := by rw [hd]
      simp only [kn, knl, Nat.reduceSub, Nat.reduceAdd, reduceIte, p1, Si.s, decide_false, decide_true, a4, a5, at0, at1, lenD_tup, n1, n2, hd', Option.map_some, p3, p2]
      by_cases hc : 0 < sgn (wth (lessF (lW f z se).1 (rW f z se).1) z)
      · simp only [hc, decide_true, if_true]
        simp only [kn, knl, Nat.reduceSub, Nat.reduceAdd, reduceIte, List.set_set]
        simp [wayV, wayQ, hc, hd]
      · simp only [hc, decide_false, if_false]
        simp only [kn, knl, Nat.reduceSub, Nat.reduceAdd, reduceIte, List.set_set]
        simp [wayV, wayQ, hc, hd]
    · have hd' : ¬ ((lW f z se).2.length : Int) = (rW f z se).2.length := by omega
      simp only [kn, knl, Nat.reduceSub, Nat.reduceAdd, reduceIte, p1, Si.s, decide_false, decide_true, a4, a5, at0, at1, lenD_tup, n1, n2, hd', Option.map_some]
      by_cases hc : (lW f z se).2.length < (rW f z se).2.length
      · have hc' : ((lW f z se).2.length : Int) < (rW f z se).2.length := by omega
        simp only [hc', decide_true, if_true]
        simp only [kn, knl, Nat.reduceSub, Nat.reduceAdd, reduceIte]
        simp [wayV, wayQ, hc, hd]
      · have hc' : ¬ ((lW f z se).2.length : Int) < (rW f z se).2.length := by omega
        simp only [hc', decide_false, if_false]
        simp only [kn, knl, Nat.reduceSub, Nat.reduceAdd, reduceIte]
        simp [wayV, wayQ, hc, hd]
end
end Kn
set_option Elab.async false
set_option linter.all false
set_option maxHeartbeats 2000000
/-! KnM4: coming, going, moving. -/
namespace Kn
theorem sIx_nat (n d k : Nat) (h : k ≤ n) : Kn.sIx n d (some (k : Int)) = k := by
  unfold Kn.sIx
  simp only []
  rw [if_neg (by omega)]
  simp [h]
theorem cut_take {xs : List D} {k : Nat} (h : k ≤ xs.length) : cutD xs none (some (k : Int)) = xs.take k := by
  unfold cutD
  rw [sIx_nat _ _ _ h]
  simp [Kn.sIx]
theorem cut_drop {xs : List D} {k : Nat} (h : k ≤ xs.length) : cutD xs (some (k : Int)) none = xs.drop k := by
  unfold cutD
  rw [sIx_nat _ _ _ h]
  simp [Kn.sIx, List.take_of_length_le]
theorem cut_mid {xs : List D} {i k : Nat} (h : k ≤ xs.length) (h2 : i ≤ xs.length) : cutD xs (some (i : Int)) (some (k : Int)) = (xs.drop i).take (k - i) := by
  unfold cutD
  rw [sIx_nat _ _ _ h, sIx_nat _ _ _ h2]
theorem slice_tup (s : St) (xs : List D) (lo hi : Option Int) : sliceD s (.tup xs) lo hi = .ok (.tup (cutD xs lo hi)) s := rfl
theorem slice_lst (s : St) (xs : List D) (lo hi : Option Int) : sliceD s (.lst xs) lo hi = .ok (.lst (cutD xs lo hi)) s := rfl
theorem pd_nD (s : St) (n : Nat) : ∀ l : List Nat, mapO (pd s (n + 1)) (nD l) = some (l.map fun (i : Nat) => PySem.PyData.int (i : Int))
  | [] => rfl
  | i :: l => by
    rw [show nD (i :: l) = .int (i : Int) :: nD l from rfl, mapO, pd_nD s n l]
    rfl
theorem eqvAll_nil : ∀ l : List PySem.PyData, PySem.PyData.eqvAll l [] = l.isEmpty
  | [] => by rw [PySem.PyData.eqvAll]; rfl
  | _ :: _ => by rw [PySem.PyData.eqvAll]; rfl
theorem dEq_nil (s : St) (l : List Nat) : dEq s (.tup (nD l)) (.tup []) = some (decide (l = [])) := by
  unfold dEq
  have e1 : pd s 64 (.tup (nD l)) = some (.tuple (l.map fun (i : Nat) => PySem.PyData.int (i : Int))) := by
    show (mapO (pd s 63) (nD l)).map PySem.PyData.tuple = _
    rw [pd_nD s 62 l]
    rfl
  have e2 : pd s 64 (.tup []) = some (.tuple []) := rfl
  rw [e1, e2]
  simp only []
  rw [PySem.PyData.eqv, eqvAll_nil]
  cases l <;> simp
theorem dEq_nn (s : St) : dEq s (.tup []) (.tup []) = some true := dEq_nil s []
def owD : Option Way → D
  | none => .non
  | some w => wayD w
theorem seD_get {se : List (Option Fo)} {p : Nat} {o : Option Fo} (h : se[p]? = some o) : (seD se)[p]? = some (foD o) := by
  show (se.map foD)[p]? = _
  rw [List.getElem?_map, h]
  rfl
theorem seD_set (se : List (Option Fo)) (p : Nat) (o : Option Fo) : (seD se).set p (foD o) = seD (se.set p o) := by
  show (se.map foD).set p (foD o) = (se.set p o).map foD
  rw [List.map_set]
theorem set_eq {α : Type} (xs : List α) (i : Nat) (x : α) (h : i < xs.length) : xs.take i ++ [x] ++ xs.drop (i + 1) = xs.set i x := by
  rw [List.set_eq_take_append_cons_drop, if_pos h]
  simp
theorem spot_sm (t : Spt) (n : Int) : 0 ≤ (spotF t n).1 ∧ (spotF t n).1 ≤ 2 := by
  obtain ⟨w, a⟩ := t
  cases w
  · show (0 : Int) ≤ 0 ∧ (0 : Int) ≤ 2; omega
  · show (0 : Int) ≤ 2 - 0 ∧ (2 : Int) - 0 ≤ 2; omega
  · show (0 : Int) ≤ 1 ∧ (1 : Int) ≤ 2; omega
theorem SmS.set {se : List (Option Fo)} (h : SmS se) {f : Fo} (hf : -10 ≤ f.1 ∧ f.1 ≤ 10) (p : Nat) : SmS (se.set p (some f)) := fun g hg => by
  rcases List.mem_or_eq_of_mem_set hg with z | z
  · exact h g z
  · cases z; exact hf
theorem SmS.rem {se : List (Option Fo)} (h : SmS se) (p : Nat) : SmS (se.set p none) := fun g hg => by
  rcases List.mem_or_eq_of_mem_set hg with z | z
  · exact h g z
  · cases z
theorem SmS.at_ {se : List (Option Fo)} (h : SmS se) {p : Nat} {f : Fo} (e : se[p]? = some (some f)) : -10 ≤ f.1 ∧ f.1 ≤ 10 := h f (List.mem_of_getElem? e)
abbrev Res := Option Way × List (Option Fo) × List Fo
def comeV (se : List (Option Fo)) (p : Nat) (t : Spt) (sd : Si) (n : Int) : Res := match se[p]? with
  | some none => if bes (spotF t n) 0 n 0 se = [] then (some (wayV (spotF t n) sd n se).1, se.set p (some (spotF t n)), besA (spotF t n) se ++ wayQ (spotF t n) sd n se) else (none, se, besA (spotF t n) se)
  | _ => (none, se, [])
def goV (se : List (Option Fo)) (p : Nat) (sd : Si) (n : Int) : Res := match se[p]? with
  | some (some f) => (some (wayV f sd n se).1, se.set p none, wayQ f sd n se)
  | _ => (none, se, [])
/-- over the seats that are passed -/
def passV (se : List (Option Fo)) (f : Fo) (n st : Int) : List Int → Bool × List Fo
  | [] => (true, [])
  | m :: r => if bes (addF f (0, st * m)) 0 n 0 se = [] then ((passV se f n st r).1, besA (addF f (0, st * m)) se ++ (passV se f n st r).2) else (false, besA (addF f (0, st * m)) se)
def ups (k : Nat) : List Int := (List.range k).map fun (i : Nat) => 1 + (i : Int)
def openV (se : List (Option Fo)) (f : Fo) (by' n : Int) : Bool × List Fo :=
  let last := addF f (0, by')
  let rest := lessF (wholeF n) last
  if sgn (wth last n) < 0 then (false, [last]) else if sgn (wth rest n) ≤ 0 then (false, [last, rest]) else
    let w := passV se f n (if 0 < by' then 1 else -1) (ups by'.natAbs)
    (w.1, last :: rest :: w.2)
def moveV (se : List (Option Fo)) (p : Nat) (by' n : Int) : Res := match se[p]? with
  | some (some f) => if (openV se f by' n).1 then (some ((0, (by'.natAbs : Int)), []), se.set p (some (addF f (0, by'))), (openV se f by' n).2) else (none, se, (openV se f by' n).2)
  | _ => (none, se, [])
section
variable {T : Nat → Option FD} {fuel : Nat} (hT : TR T)
include hT
theorem r_with (n : Nat) (xs : List D) (i : Nat) (x : D) (hi : i < xs.length) (h5 : xs.length ≤ 1000) (s : St) : run T fuel (n + 1) i_with_item [.dat (.tup xs), .dat (.int (i : Int)), .dat x] s = .ok (.tup (xs.set i x)) s := by
  refine (run_eq hT.with_item rfl).trans ?_
  have e1 : (i : Int) + 1 = ((i + 1 : Nat) : Int) := by omega
  have c1 := cut_take (xs := xs) (k := i) (by omega)
  have c2 := cut_drop (xs := xs) (k := i + 1) (by omega)
  have l1 : (xs.take i).length + [x].length ≤ line := by simp; unfold line; omega
  have l2 : (xs.take i ++ [x]).length + (xs.drop (i + 1)).length ≤ line := by simp; unfold line; omega
  simp only [kn, knl, Nat.reduceSub, Nat.reduceAdd, reduceIte, slice_tup, e1, c1, c2, boD_addT _ l1, boD_addT _ l2, set_eq xs i x hi]
theorem r_came (n : Nat) (p : Nat) (t : Spt) (sd : Si) (z : Int) {s : St} {k : Nat} {se : List (Option Fo)} {di sto ste as : List D} (h : s[k]? = some (obP (seD se) di sto ste as)) (hs : SmS se) (hp : p < se.length) (hl : as.length + 3 * se.length + 1 ≤ line) (h5 : se.length ≤ 1000) :
    run T fuel (n + 7) i_came [.dat (.ref k), .dat (.int (p : Int)), .dat (spD t), .dat sd.d, .dat (.int z)] s = .ok (owD (comeV se p t sd z).1) (s.set k (obP (seD (comeV se p t sd z).2.1) di sto ste (as ++ fmL (comeV se p t sd z).2.2))) := by
  refine (run_eq hT.came rfl).trans ?_
  have b := besA_len (spotF t z) se
  have sm := spot_sm t z
  have p1 := r_people (fuel := fuel) hT (n + 2) (spotF t z) (by omega) 0 z h hs (by omega) h5
  have h' := at_set h (obP (seD se) di sto ste (as ++ fmL (besA (spotF t z) se)))
  have p2 := r_way_by (fuel := fuel) hT n (spotF t z) (by omega) sd z h' hs (by simp; omega) h5
  have q := r_spot_form (fuel := fuel) hT (n + 4) t z s
  obtain ⟨o, ho⟩ : ∃ o, se[p]? = some o := ⟨_, List.getElem?_eq_getElem hp⟩
  have ha := atD_nat (seD_get ho)
  cases o with
  | some g =>
    have e0 : s.set k (obP (seD se) di sto ste as) = s := by
      obtain ⟨h1, h2⟩ := List.getElem?_eq_some_iff.mp h
      rw [← h2]
      exact List.set_getElem_self h1
    simp only [kn, knl, Nat.reduceSub, Nat.reduceAdd, reduceIte, q, it_seats h, ha, foD]
    simp [comeV, ho, owD, e0]
  | none =>
    by_cases hb : bes (spotF t z) 0 z 0 se = []
    · have h2 := at_set h (obP (seD se) di sto ste (as ++ fmL (besA (spotF t z) se) ++ fmL (wayQ (spotF t z) sd z se)))
      have w := r_with (fuel := fuel) hT (n + 5) (seD se) p (fm (spotF t z)) (by simpa using hp) (by simpa using h5)
      rw [show (seD se).set p (fm (spotF t z)) = seD (se.set p (some (spotF t z))) from seD_set se p (some (spotF t z))] at w
      simp only [kn, knl, Nat.reduceSub, Nat.reduceAdd, reduceIte, q, it_seats h, ha, foD, p1, dEq_nil, dEq_nn, Option.map_some, hb, decide_true, p2, List.set_set, it_seats h2, w, set_seats h2]
      simp [comeV, ho, owD, hb]
    · simp only [kn, knl, Nat.reduceSub, Nat.reduceAdd, reduceIte, q, it_seats h, ha, foD, p1, dEq_nil, Option.map_some, hb, decide_false]
      simp [comeV, ho, owD, hb]
theorem r_went (n : Nat) (p : Nat) (sd : Si) (z : Int) {s : St} {k : Nat} {se : List (Option Fo)} {di sto ste as : List D} (h : s[k]? = some (obP (seD se) di sto ste as)) (hs : SmS se) (hp : p < se.length) (hl : as.length + 3 * se.length + 1 ≤ line) (h5 : se.length ≤ 1000) :
    run T fuel (n + 7) i_went [.dat (.ref k), .dat (.int (p : Int)), .dat sd.d, .dat (.int z)] s = .ok (owD (goV se p sd z).1) (s.set k (obP (seD (goV se p sd z).2.1) di sto ste (as ++ fmL (goV se p sd z).2.2))) := by
  refine (run_eq hT.went rfl).trans ?_
  obtain ⟨o, ho⟩ : ∃ o, se[p]? = some o := ⟨_, List.getElem?_eq_getElem hp⟩
  have ha := atD_nat (seD_get ho)
  cases o with
  | none =>
    have e0 : s.set k (obP (seD se) di sto ste as) = s := by
      obtain ⟨h1, h2⟩ := List.getElem?_eq_some_iff.mp h
      rw [← h2]
      exact List.set_getElem_self h1
    simp only [kn, knl, Nat.reduceSub, Nat.reduceAdd, reduceIte, it_seats h, ha, foD]
    simp [goV, ho, owD, e0]
  | some f =>
    have sm := hs.at_ ho
    have p2 := r_way_by (fuel := fuel) hT n f (by omega) sd z h hs (by omega) h5
    have h2 := at_set h (obP (seD se) di sto ste (as ++ fmL (wayQ f sd z se)))
    have w := r_with (fuel := fuel) hT (n + 5) (seD se) p .non (by simpa using hp) (by simpa using h5)
    rw [show (seD se).set p .non = seD (se.set p none) from seD_set se p none] at w
    simp only [kn, knl, Nat.reduceSub, Nat.reduceAdd, reduceIte, it_seats h, ha, foD, p2, it_seats h2, w, set_seats h2, List.set_set]
    simp [goV, ho, owD]
end
end Kn
set_option Elab.async false
set_option linter.all false
set_option maxHeartbeats 2000000
/-! KnM5: moving. -/
namespace Kn
theorem passV_len (se : List (Option Fo)) (f : Fo) (n st : Int) : ∀ l : List Int, (passV se f n st l).2.length ≤ l.length * se.length
  | [] => by simp [passV]
  | m :: r => by
    have b := besA_len (addF f (0, st * m)) se
    have ih := passV_len se f n st r
    unfold passV
    rw [List.length_cons, Nat.succ_mul]
    split
    · simp only [List.length_append]; omega
    · simp only []; omega
theorem rangeD_ups (k : Nat) : rangeD 1 k = (ups k).map .int := by
  unfold rangeD ups
  rw [List.map_map]
  rfl
theorem set_same {s : St} {k : Nat} {o : Ob} (h : s[k]? = some o) : s.set k o = s := by
  obtain ⟨h1, h2⟩ := List.getElem?_eq_some_iff.mp h
  rw [← h2]
  exact List.set_getElem_self h1
theorem absD (s : St) (i : Int) : bfD s .abs [.int i] = .ok (.int (i.natAbs : Int)) s := by
  show R.ok (D.int (if i < 0 then -i else i)) s = _
  congr 2
  split <;> omega
section
variable {T : Nat → Option FD} {fuel : Nat} (hT : TR T)
include hT
theorem r_is_open (n : Nat) (f : Fo) (hf : -10 ≤ f.1 ∧ f.1 ≤ 10) (b : Int) (hb : b.natAbs ≤ 1000) (z : Int) {s : St} {k : Nat} {se : List (Option Fo)} {di sto ste as : List D} (h : s[k]? = some (obP (seD se) di sto ste as)) (hs : SmS se) (hl : as.length + 2 + b.natAbs * se.length ≤ line) (h5 : se.length ≤ 1000) :
    run T fuel (n + 5) i_is_open [.dat (.ref k), .dat (fm f), .dat (.int b), .dat (.int z)] s = .ok (.bl (openV se f b z).1) (s.set k (obP (seD se) di sto ste (as ++ fmL (openV se f b z).2))) := by
  refine (run_eq hT.is_open rfl).trans ?_
  have p1 := r_asks (fuel := fuel) hT (n + 1) h (by omega) (addF f (0, b)) (by show -1000 ≤ f.1 + 0 ∧ f.1 + 0 ≤ 1000; omega) z
  have h1 := at_set h (obP (seD se) di sto ste (as ++ [fm (addF f (0, b))]))
  have p2 := r_asks (fuel := fuel) hT (n + 1) h1 (by simp; omega) (lessF (wholeF z) (addF f (0, b))) (by show -1000 ≤ 2 - (f.1 + 0) ∧ 2 - (f.1 + 0) ≤ 1000; omega) z
  by_cases c1 : sgn (wth (addF f (0, b)) z) < 0
  · simp only [kn, knl, Nat.reduceSub, Nat.reduceAdd, reduceIte, r_addF hT (n + 3), p1, c1, decide_true]
    simp [openV, c1]
  · by_cases c2 : sgn (wth (lessF (wholeF z) (addF f (0, b))) z) ≤ 0
    · simp only [kn, knl, Nat.reduceSub, Nat.reduceAdd, reduceIte, r_addF hT (n + 3), p1, c1, decide_false, r_wholeF hT (n + 3), r_lessF hT (n + 3), p2, c2, decide_true, List.set_set]
      simp [openV, c1, c2]
    · have h2 := at_set h (obP (seD se) di sto ste (as ++ [fm (addF f (0, b))] ++ [fm (lessF (wholeF z) (addF f (0, b)))]))
      have loop : ∀ (st : Int) (hst : st = 1 ∨ st = -1) (l : List Int) (as : List D) (s : St) (x : Option Ag), s[k]? = some (obP (seD se) di sto ste as) → as.length + l.length * se.length ≤ line →
          ((passV se f z st l).1 = true → ∃ x', forL (gNm 6) (xSeq [xIf (sCmp .ne (sCallD i_people_beside [sVar 0, sCallD i_added [sVar 1, sTup [sCst (.int 0), sBin .mul (sVar 5) (sVar 6)]], sCst (.int 0), sVar 3]) (sTup [])) (xSeq [xRet (sCst (.bl false))]) (xSeq [])] ⟨fuel, run T fuel (n + 4), fun _ _ _ _ => .bad⟩)
            (l.map .int) [some (.dat (.ref k)), some (.dat (fm f)), some (.dat (.int b)), some (.dat (.int z)), some (.dat (fm (addF f (0, b)))), some (.dat (.int st)), x] s =
            .nx [some (.dat (.ref k)), some (.dat (fm f)), some (.dat (.int b)), some (.dat (.int z)), some (.dat (fm (addF f (0, b)))), some (.dat (.int st)), x'] (s.set k (obP (seD se) di sto ste (as ++ fmL (passV se f z st l).2)))) ∧
          ((passV se f z st l).1 = false → forL (gNm 6) (xSeq [xIf (sCmp .ne (sCallD i_people_beside [sVar 0, sCallD i_added [sVar 1, sTup [sCst (.int 0), sBin .mul (sVar 5) (sVar 6)]], sCst (.int 0), sVar 3]) (sTup [])) (xSeq [xRet (sCst (.bl false))]) (xSeq [])] ⟨fuel, run T fuel (n + 4), fun _ _ _ _ => .bad⟩)
            (l.map .int) [some (.dat (.ref k)), some (.dat (fm f)), some (.dat (.int b)), some (.dat (.int z)), some (.dat (fm (addF f (0, b)))), some (.dat (.int st)), x] s =
            .rt (.bl false) (s.set k (obP (seD se) di sto ste (as ++ fmL (passV se f z st l).2)))) := by
        intro st hst l
        induction l with
        | nil =>
          intro as s x h hl
          refine ⟨fun _ => ⟨x, ?_⟩, fun z => by cases z⟩
          simp [forL_nil, passV, set_same h]
        | cons m r ih =>
          intro as s x h hl
          have hm : boD s .mul (.int st) (.int m) = .ok (.int (st * m)) s := boD_mul s (.inl (by rcases hst with e | e <;> (rw [e]; unfold big; omega)))
          have bl := besA_len (addF f (0, st * m)) se
          rw [List.length_cons, Nat.succ_mul] at hl
          have p3 := r_people (fuel := fuel) hT n (addF f (0, st * m)) (by show -100 ≤ f.1 + 0 ∧ f.1 + 0 ≤ 100; omega) 0 z h hs (by omega) h5
          have h' := at_set h (obP (seD se) di sto ste (as ++ fmL (besA (addF f (0, st * m)) se)))
          have ih := ih (as ++ fmL (besA (addF f (0, st * m)) se)) _ (some (.dat (.int m))) h' (by simp; omega)
          have eg : ∀ e s, gNm 6 (.int m) e s = some (e.set 6 (some (.dat (.int m)))) := fun e s => rfl
          by_cases hc : bes (addF f (0, st * m)) 0 z 0 se = []
          · refine ⟨fun e => ?_, fun e => ?_⟩
            · have e' : (passV se f z st r).1 = true := by simpa [passV, hc] using e
              obtain ⟨x', ih⟩ := ih.1 e'
              refine ⟨x', ?_⟩
              rw [List.map_cons, forL_cons (eg _ _)]
              simp only [kn, knl, Nat.reduceSub, Nat.reduceAdd, reduceIte, hm, r_addF hT (n + 3), p3, dEq_nil, dEq_nn, Option.map_some, hc, decide_true, ih, List.set_set]
              simp [passV, hc]
            · have e' : (passV se f z st r).1 = false := by simpa [passV, hc] using e
              have ih := ih.2 e'
              rw [List.map_cons, forL_cons (eg _ _)]
              simp only [kn, knl, Nat.reduceSub, Nat.reduceAdd, reduceIte, hm, r_addF hT (n + 3), p3, dEq_nil, dEq_nn, Option.map_some, hc, decide_true, ih, List.set_set]
              simp [passV, hc]
          · refine ⟨fun e => ?_, fun e => ?_⟩
            · simp [passV, hc] at e
            · rw [List.map_cons, forL_cons (eg _ _)]
              simp only [kn, knl, Nat.reduceSub, Nat.reduceAdd, reduceIte, hm, r_addF hT (n + 3), p3, dEq_nil, Option.map_some, hc, decide_false, List.set_set]
              simp [passV, hc]
      have er : ((b.natAbs : Int) + 1 - 1).toNat = b.natAbs := by omega
      have elen : (rangeD 1 b.natAbs).length = b.natAbs := by simp [rangeD]
      have rng : ∀ s, rng2 s (.int 1) (.int ((b.natAbs : Int) + 1)) = .ok (.fix (rangeD 1 b.natAbs), (rangeD 1 b.natAbs).length) s := fun s => by
        rw [rng2_int s (by unfold lim; omega), er, elen]
      have fin : ∀ (st : Int), (st = if 0 < b then 1 else -1) → ∀ r : RS, r = forL (gNm 6) (xSeq [xIf (sCmp .ne (sCallD i_people_beside [sVar 0, sCallD i_added [sVar 1, sTup [sCst (.int 0), sBin .mul (sVar 5) (sVar 6)]], sCst (.int 0), sVar 3]) (sTup [])) (xSeq [xRet (sCst (.bl false))]) (xSeq [])] ⟨fuel, run T fuel (n + 4), fun _ _ _ _ => .bad⟩)
            ((ups b.natAbs).map .int) [some (.dat (.ref k)), some (.dat (fm f)), some (.dat (.int b)), some (.dat (.int z)), some (.dat (fm (addF f (0, b)))), some (.dat (.int st)), none] (s.set k (obP (seD se) di sto ste (as ++ [fm (addF f (0, b))] ++ [fm (lessF (wholeF z) (addF f (0, b)))]))) →
          (r.seq (xRet (sCst (.bl true)) ⟨fuel, run T fuel (n + 4), fun _ _ _ _ => .bad⟩)).fin = .ok (.bl (openV se f b z).1) (s.set k (obP (seD se) di sto ste (as ++ fmL (openV se f b z).2))) := by
        intro st hst r hr
        have hst' : st = 1 ∨ st = -1 := by
          rw [hst]; split
          · exact .inl rfl
          · exact .inr rfl
        have L := loop st hst' (ups b.natAbs) _ _ none h2 (by simp [ups]; omega)
        have eo : openV se f b z = ((passV se f z st (ups b.natAbs)).1, addF f (0, b) :: lessF (wholeF z) (addF f (0, b)) :: (passV se f z st (ups b.natAbs)).2) := by
          simp only [openV, c1, c2, if_false, ← hst]
        rw [eo, hr]
        cases hv : (passV se f z st (ups b.natAbs)).1 with
        | true =>
          obtain ⟨x', L⟩ := L.1 hv
          rw [L]
          simp only [kn, knl, Nat.reduceSub, Nat.reduceAdd, reduceIte, List.set_set]
          simp
        | false =>
          rw [L.2 hv]
          simp only [kn, knl, Nat.reduceSub, Nat.reduceAdd, reduceIte, List.set_set]
          simp
      by_cases hb0 : 0 < b
      · have e1 := fin 1 (by simp [hb0]) _ rfl
        simp only [kn, knl, Nat.reduceSub, Nat.reduceAdd, reduceIte, r_addF hT (n + 3), p1, c1, decide_false, r_wholeF hT (n + 3), r_lessF hT (n + 3), p2, c2, List.set_set, hb0, decide_true, absD, rng, rangeD_ups]
        rw [← rangeD_ups] at e1 ⊢
        exact e1
      · have e1 := fin (-1) (by simp [hb0]) _ rfl
        simp only [kn, knl, Nat.reduceSub, Nat.reduceAdd, reduceIte, r_addF hT (n + 3), p1, c1, decide_false, r_wholeF hT (n + 3), r_lessF hT (n + 3), p2, c2, List.set_set, hb0, absD, rng, rangeD_ups]
        rw [← rangeD_ups] at e1 ⊢
        exact e1
end
end Kn
set_option Elab.async false
set_option linter.all false
set_option maxHeartbeats 2000000
/-! KnM6: handing. -/
namespace Kn
theorem forR_nil {j : Nat} {xs : List D} {g : SG} {body : En → St → RS} {e : En} {s : St} (h : s[j]? = some (.lst xs)) : forG (Src.rl j).get g body 0 xs.length e s = .nx e s := by
  have e1 : (Src.rl j).get xs.length s = some none := by
    simp only [Src.get, h]
    simp
  show (match (Src.rl j).get xs.length s with
    | some none => RS.nx e s
    | _ => .bad) = _
  rw [e1]
theorem forR_cons {j : Nat} {pre r : List D} {d : D} {g : SG} {body : En → St → RS} {e e1 : En} {s : St} (h : s[j]? = some (.lst (pre ++ d :: r))) (hg : g d e s = some e1) :
    forG (Src.rl j).get g body (r.length + 1) pre.length e s = (body e1 s).turn (forG (Src.rl j).get g body r.length (pre.length + 1)) := by
  have e0 : (Src.rl j).get pre.length s = some (some d) := by
    simp only [Src.get, h]
    simp
  show (match (Src.rl j).get pre.length s with
      | none => RS.bad
      | some none => RS.nx e s
      | some (some d) => match g d e s with
        | none => RS.bad
        | some e1 => match body e1 s with
          | .nx e2 s2 => forG (Src.rl j).get g body r.length (pre.length + 1) e2 s2
          | .ct e2 s2 => forG (Src.rl j).get g body r.length (pre.length + 1) e2 s2
          | .bk e2 s2 => .nx e2 s2
          | r => r) = _
  rw [e0]
  simp only [hg]
  cases body e1 s <;> rfl
theorem src_ref {s : St} {j : Nat} {xs : List D} (h : s[j]? = some (.lst xs)) : srcOf s (.ref j) = some (.rl j, xs.length) := by
  simp only [srcOf, h]
theorem mt_app {s : St} {j : Nat} {xs : List D} (h : s[j]? = some (.lst xs)) (hl : xs.length < line) (x : D) : mtOk s .append (.ref j) = true ∧ mtD s .append (.ref j) [x] = .ok .non (s.set j (.lst (xs ++ [x]))) := by
  refine ⟨by simp only [mtOk, asL, h]; rfl, ?_⟩
  simp only [mtD, h, if_pos hl]
theorem sgn_big (x : Int) : -big < sgn x ∧ sgn x < big := by
  unfold sgn big
  repeat' split
  all_goals omega
/-- the state and one list behind it -/
def two (s : St) (k : Nat) (o : Ob) (xs : List D) : St := s.set k o ++ [.lst xs]
section
variable {s : St} {k : Nat} {o : Ob} {xs : List D} (hk : k < s.length)
include hk
theorem two_k : (two s k o xs)[k]? = some o := by
  unfold two
  rw [List.getElem?_append_left (by simpa using hk), List.getElem?_set_self hk]
theorem two_l : (two s k o xs)[s.length]? = some (.lst xs) := by
  unfold two
  rw [List.getElem?_append_right (by simp)]
  simp
theorem two_set (o' : Ob) : (two s k o xs).set k o' = two s k o' xs := by
  unfold two
  rw [List.set_append_left _ _ (by simpa using hk), List.set_set]
theorem two_add (ys : List D) : (two s k o xs).set s.length (.lst ys) = two s k o ys := by
  unfold two
  rw [List.set_append_right _ _ (by simp)]
  simp
end
def btwV (a b : Fo) (n : Int) : List (Option Fo) → List Fo × List Fo
  | [] => ([], [])
  | none :: r => btwV a b n r
  | some f :: r => (if sgn (wth (lessF f a) n) * sgn (wth (lessF f b) n) ≤ 0 then f :: (btwV a b n r).1 else (btwV a b n r).1, lessF f a :: lessF f b :: (btwV a b n r).2)
theorem btwV_len (a b : Fo) (n : Int) : ∀ se, (btwV a b n se).1.length ≤ se.length ∧ (btwV a b n se).2.length ≤ 2 * se.length
  | [] => by simp [btwV]
  | none :: r => by
    have ih := btwV_len a b n r
    simp only [btwV, List.length_cons]
    omega
  | some f :: r => by
    have ih := btwV_len a b n r
    simp only [btwV, List.length_cons]
    split
    · simp only [List.length_cons]; omega
    · omega
theorem btwV_mem {a b : Fo} {n : Int} {f : Fo} : ∀ {se}, f ∈ (btwV a b n se).1 → some f ∈ se
  | [], h => by simp [btwV] at h
  | none :: r, h => List.mem_cons_of_mem _ (btwV_mem (se := r) h)
  | some g :: r, h => by
    simp only [btwV] at h
    split at h
    · rcases List.mem_cons.mp h with z | z
      · rw [z]; exact List.mem_cons_self
      · exact List.mem_cons_of_mem _ (btwV_mem z)
    · exact List.mem_cons_of_mem _ (btwV_mem h)
def gapV (x : Fo) (n : Int) : Option Fo → List Fo → Option Fo × List Fo
  | best, [] => (best, [])
  | best, f :: r => if 0 < sgn (wth (lessF f x) n) then match best with
      | none => ((gapV x n (some (lessF f x)) r).1, lessF f x :: (gapV x n (some (lessF f x)) r).2)
      | some b => if sgn (wth (lessF (lessF f x) b) n) < 0 then ((gapV x n (some (lessF f x)) r).1, lessF f x :: lessF (lessF f x) b :: (gapV x n (some (lessF f x)) r).2)
        else ((gapV x n (some b) r).1, lessF f x :: lessF (lessF f x) b :: (gapV x n (some b) r).2)
    else ((gapV x n best r).1, lessF f x :: (gapV x n best r).2)
theorem gapV_len (x : Fo) (n : Int) : ∀ (l : List Fo) (best : Option Fo), (gapV x n best l).2.length ≤ 2 * l.length
  | [], _ => by simp [gapV]
  | f :: r, best => by
    simp only [gapV, List.length_cons]
    have ih := gapV_len x n r
    split
    · cases best with
      | none => have := ih (some (lessF f x)); simp only [List.length_cons]; omega
      | some b =>
        simp only []
        split
        · have := ih (some (lessF f x)); simp only [List.length_cons]; omega
        · have := ih (some b); simp only [List.length_cons]; omega
    · have := ih best; simp only [List.length_cons]; omega
theorem gapV_sm {x : Fo} {n : Int} (hx : -10 ≤ x.1 ∧ x.1 ≤ 10) : ∀ (l : List Fo) (best : Option Fo), (∀ f ∈ l, -10 ≤ f.1 ∧ f.1 ≤ 10) → (∀ f, best = some f → -20 ≤ f.1 ∧ f.1 ≤ 20) → ∀ f, (gapV x n best l).1 = some f → -20 ≤ f.1 ∧ f.1 ≤ 20
  | [], best, _, h2, f, e => h2 f e
  | f :: r, best, h1, h2, g, e => by
    have hf := h1 f List.mem_cons_self
    have hg : ∀ q, some (lessF f x) = some q → -20 ≤ q.1 ∧ q.1 ≤ 20 := fun q z => by
      cases z
      show -20 ≤ f.1 - x.1 ∧ f.1 - x.1 ≤ 20
      omega
    have h1' : ∀ f ∈ r, -10 ≤ f.1 ∧ f.1 ≤ 10 := fun q z => h1 q (List.mem_cons_of_mem _ z)
    simp only [gapV] at e
    split at e
    · cases best with
      | none => exact gapV_sm hx r _ h1' hg g e
      | some b =>
        simp only [] at e
        split at e
        · exact gapV_sm hx r _ h1' hg g e
        · exact gapV_sm hx r _ h1' h2 g e
    · exact gapV_sm hx r _ h1' h2 g e
def handL (seats : List Fo) (n : Int) : List Fo → Bool × List Fo
  | [] => (true, [])
  | x :: r => match (gapV x n none seats).1 with
    | none => ((handL seats n r).1, (gapV x n none seats).2 ++ (handL seats n r).2)
    | some g => if 0 < sgn (wth (addF g (0, -3)) n) then (false, (gapV x n none seats).2 ++ [addF g (0, -3)]) else ((handL seats n r).1, (gapV x n none seats).2 ++ addF g (0, -3) :: (handL seats n r).2)
theorem handL_len (seats : List Fo) (n : Int) : ∀ l : List Fo, (handL seats n l).2.length ≤ l.length * (2 * seats.length + 1)
  | [] => by simp [handL]
  | x :: r => by
    have ih := handL_len seats n r
    have g := gapV_len x n seats none
    simp only [handL, List.length_cons, Nat.add_mul, Nat.one_mul]
    cases hg : (gapV x n none seats).1 with
    | none => simp only [List.length_append]; omega
    | some q =>
      simp only []
      split
      · simp only [List.length_append, List.length_cons, List.length_nil]; omega
      · simp only [List.length_append, List.length_cons]; omega
def handV (se : List (Option Fo)) (p q : Nat) (n : Int) : Res := match se[p]?, se[q]? with
  | some (some a), some (some b) => (if (handL (btwV a b n se).1 n (btwV a b n se).1).1 then some ((0, 0), []) else none, se, (btwV a b n se).2 ++ (handL (btwV a b n se).1 n (btwV a b n se).1).2)
  | _, _ => (none, se, [])
section
variable {T : Nat → Option FD} {fuel : Nat} (hT : TR T)
include hT
theorem r_moved (n : Nat) (p : Nat) (b : Int) (hb : b.natAbs ≤ 1000) (z : Int) {s : St} {k : Nat} {se : List (Option Fo)} {di sto ste as : List D} (h : s[k]? = some (obP (seD se) di sto ste as)) (hs : SmS se) (hp : p < se.length) (hl : as.length + 2 + b.natAbs * se.length ≤ line) (h5 : se.length ≤ 1000) :
    run T fuel (n + 6) i_moved [.dat (.ref k), .dat (.int (p : Int)), .dat (.int b), .dat (.int z)] s = .ok (owD (moveV se p b z).1) (s.set k (obP (seD (moveV se p b z).2.1) di sto ste (as ++ fmL (moveV se p b z).2.2))) := by
  refine (run_eq hT.moved rfl).trans ?_
  obtain ⟨o, ho⟩ : ∃ o, se[p]? = some o := ⟨_, List.getElem?_eq_getElem hp⟩
  have ha := atD_nat (seD_get ho)
  cases o with
  | none =>
    simp only [kn, knl, Nat.reduceSub, Nat.reduceAdd, reduceIte, it_seats h, ha, foD]
    simp [moveV, ho, owD, set_same h]
  | some f =>
    have sm := hs.at_ ho
    have p2 := r_is_open (fuel := fuel) hT n f sm b hb z h hs hl h5
    have h2 := at_set h (obP (seD se) di sto ste (as ++ fmL (openV se f b z).2))
    have w := r_with (fuel := fuel) hT (n + 4) (seD se) p (fm (addF f (0, b))) (by simpa using hp) (by simpa using h5)
    rw [show (seD se).set p (fm (addF f (0, b))) = seD (se.set p (some (addF f (0, b)))) from seD_set se p (some _)] at w
    cases hc : (openV se f b z).1 with
    | true =>
      simp only [kn, knl, Nat.reduceSub, Nat.reduceAdd, reduceIte, it_seats h, ha, foD, p2, hc, it_seats h2, r_addF hT (n + 4), w, set_seats h2, List.set_set, absD]
      simp [moveV, ho, owD, hc]
    | false =>
      simp only [kn, knl, Nat.reduceSub, Nat.reduceAdd, reduceIte, it_seats h, ha, foD, p2, hc]
      simp [moveV, ho, owD, hc]
theorem r_between (n : Nat) (a b : Fo) (ha : -10 ≤ a.1 ∧ a.1 ≤ 10) (hb : -10 ≤ b.1 ∧ b.1 ≤ 10) (z : Int) {s : St} {k : Nat} {se : List (Option Fo)} {di sto ste as : List D} (h : s[k]? = some (obP (seD se) di sto ste as)) (hs : SmS se) (hl : as.length + 2 * se.length ≤ line) (h5 : se.length ≤ 1000) :
    run T fuel (n + 4) i_between [.dat (.ref k), .dat (fm a), .dat (fm b), .dat (.int z)] s = .ok (.ref s.length) (two s k (obP (seD se) di sto ste (as ++ fmL (btwV a b z se).2)) (fmL (btwV a b z se).1)) := by
  refine (run_eq hT.between rfl).trans ?_
  have hk := lt_of_at h
  have e0 : s ++ [Ob.lst []] = two s k (obP (seD se) di sto ste as) [] := by unfold two; rw [set_same h]
  have h0 : (two s k (obP (seD se) di sto ste as) [])[k]? = some (obP (seD se) di sto ste as) := two_k hk
  simp only [kn, knl, Nat.reduceSub, Nat.reduceAdd, reduceIte, e0, it_seats h0]
  have loop : ∀ (r : List (Option Fo)) (as : List D) (fo : List Fo) (x : Option Ag), (∀ f, some f ∈ r → -10 ≤ f.1 ∧ f.1 ≤ 10) → as.length + 2 * r.length ≤ line → fo.length + r.length ≤ 1000 →
      ∃ x', forL (gNm 5) (xSeq [xIf (sAnd [sIsN true (sVar 5), sCmp .le (sBin .mul (sCallD i_asks [sVar 0, sCallD i_less [sVar 5, sVar 1], sVar 3]) (sCallD i_asks [sVar 0, sCallD i_less [sVar 5, sVar 2], sVar 3])) (sCst (.int 0))]) (xSeq [xExpr (sMt .append (sVar 4) [sVar 5])]) (xSeq [])] ⟨fuel, run T fuel (n + 3), fun _ _ _ _ => .bad⟩)
        (seD r) [some (.dat (.ref k)), some (.dat (fm a)), some (.dat (fm b)), some (.dat (.int z)), some (.dat (.ref s.length)), x] (two s k (obP (seD se) di sto ste as) (fmL fo)) =
        .nx [some (.dat (.ref k)), some (.dat (fm a)), some (.dat (fm b)), some (.dat (.int z)), some (.dat (.ref s.length)), x'] (two s k (obP (seD se) di sto ste (as ++ fmL (btwV a b z r).2)) (fmL (fo ++ (btwV a b z r).1))) := by
    intro r
    induction r with
    | nil =>
      intro as fo x _ _ _
      exact ⟨x, by simp [forL_nil, btwV]⟩
    | cons o r ih =>
      intro as fo x hr hl h5
      rw [List.length_cons] at hl h5
      have eg : ∀ d e s, gNm 5 d e s = some (e.set 5 (some (.dat d))) := fun d e s => rfl
      have hr' : ∀ f, some f ∈ r → -10 ≤ f.1 ∧ f.1 ≤ 10 := fun f hf => hr f (List.mem_cons_of_mem _ hf)
      cases o with
      | none =>
        obtain ⟨x', ih⟩ := ih as fo (some (.dat .non)) hr' (by omega) (by omega)
        refine ⟨x', ?_⟩
        rw [show seD (none :: r) = D.non :: seD r from rfl, forL_cons (eg _ _ _)]
        simp only [kn, knl, Nat.reduceSub, Nat.reduceAdd, reduceIte, ih]
        simp [btwV]
      | some f =>
        have hf := hr f List.mem_cons_self
        have A1 := r_asks (fuel := fuel) hT n (two_k (o := obP (seD se) di sto ste as) (xs := fmL fo) hk) (by omega) (lessF f a) (by show -1000 ≤ f.1 - a.1 ∧ f.1 - a.1 ≤ 1000; omega) z
        have A2 := r_asks (fuel := fuel) hT n (two_k (o := obP (seD se) di sto ste (as ++ [fm (lessF f a)])) (xs := fmL fo) hk) (by simp; omega) (lessF f b) (by show -1000 ≤ f.1 - b.1 ∧ f.1 - b.1 ≤ 1000; omega) z
        rw [two_set hk] at A1 A2
        have hmul : ∀ s, boD s .mul (.int (sgn (wth (lessF f a) z))) (.int (sgn (wth (lessF f b) z))) = .ok (.int (sgn (wth (lessF f a) z) * sgn (wth (lessF f b) z))) s := fun s => boD_mul s (.inl (sgn_big _))
        by_cases hc : sgn (wth (lessF f a) z) * sgn (wth (lessF f b) z) ≤ 0
        · obtain ⟨x', ih⟩ := ih (as ++ [fm (lessF f a)] ++ [fm (lessF f b)]) (fo ++ [f]) (some (.dat (fm f))) hr' (by simp; omega) (by simp; omega)
          have m := mt_app (two_l (o := obP (seD se) di sto ste (as ++ [fm (lessF f a)] ++ [fm (lessF f b)])) (xs := fmL fo) hk) (by simp; unfold line; omega) (fm f)
          rw [two_add hk] at m
          rw [show fmL (fo ++ [f]) = fmL fo ++ [fm f] by simp] at ih
          refine ⟨x', ?_⟩
          rw [show seD (some f :: r) = fm f :: seD r from rfl, forL_cons (eg _ _ _)]
          simp only [kn, knl, Nat.reduceSub, Nat.reduceAdd, reduceIte, r_lessF hT (n + 2), A1, A2, hmul, hc, decide_true, m.1, m.2, ih]
          simp [btwV, hc]
        · obtain ⟨x', ih⟩ := ih (as ++ [fm (lessF f a)] ++ [fm (lessF f b)]) fo (some (.dat (fm f))) hr' (by simp; omega) (by omega)
          refine ⟨x', ?_⟩
          rw [show seD (some f :: r) = fm f :: seD r from rfl, forL_cons (eg _ _ _)]
          simp only [kn, knl, Nat.reduceSub, Nat.reduceAdd, reduceIte, r_lessF hT (n + 2), A1, A2, hmul, hc, decide_false, ih]
          simp [btwV, hc]
  obtain ⟨x', L⟩ := loop se as [] none hs hl (by simpa using h5)
  have L : forL _ _ (seD se) _ (two s k (obP (seD se) di sto ste as) []) = _ := L
  rw [L]
  simp only [kn, knl, Nat.reduceSub, Nat.reduceAdd, reduceIte]
end
end Kn
set_option Elab.async false
set_option linter.all false
set_option maxHeartbeats 2000000
/-! KnM7: handing a thing; the deeds; the state behind all. -/
namespace Kn
theorem foD_none : foD none = .non := rfl
theorem foD_some (f : Fo) : foD (some f) = fm f := rfl
section
variable {T : Nat → Option FD} {fuel : Nat} (hT : TR T)
include hT
theorem r_next_gap (n : Nat) (x : Fo) (hx : -10 ≤ x.1 ∧ x.1 ≤ 10) (z : Int) {s : St} {k : Nat} {se di sto ste as : List D} (hk : k < s.length) {fo : List Fo} (hf : ∀ f ∈ fo, -10 ≤ f.1 ∧ f.1 ≤ 10) (hl : as.length + 2 * fo.length ≤ line) :
    run T fuel (n + 4) i_next_gap [.dat (.ref k), .dat (.ref s.length), .dat (fm x), .dat (.int z)] (two s k (obP se di sto ste as) (fmL fo)) = .ok (foD (gapV x z none fo).1) (two s k (obP se di sto ste (as ++ fmL (gapV x z none fo).2)) (fmL fo)) := by
  refine (run_eq hT.next_gap rfl).trans ?_
  simp only [kn, knl, Nat.reduceSub, Nat.reduceAdd, reduceIte, src_ref (two_l (o := obP se di sto ste as) (xs := fmL fo) hk)]
  have loop : ∀ (r pre : List Fo) (as : List D) (best : Option Fo) (u v : Option Ag), fo = pre ++ r → (∀ f, best = some f → -20 ≤ f.1 ∧ f.1 ≤ 20) → as.length + 2 * r.length ≤ line →
      ∃ u' v', forG (Src.rl s.length).get (gNm 5) (xSeq [xAsg (gNm 6) (sCallD i_less [sVar 5, sVar 2]), xIf (sAnd [sCmp .gt (sCallD i_asks [sVar 0, sVar 6, sVar 3]) (sCst (.int 0)), sOr [sIsN false (sVar 4), sCmp .lt (sCallD i_asks [sVar 0, sCallD i_less [sVar 6, sVar 4], sVar 3]) (sCst (.int 0))]]) (xSeq [xAsg (gNm 4) (sVar 6)]) (xSeq [])] ⟨fuel, run T fuel (n + 3), fun _ _ _ _ => .bad⟩)
        r.length pre.length [some (.dat (.ref k)), some (.dat (.ref s.length)), some (.dat (fm x)), some (.dat (.int z)), some (.dat (foD best)), u, v] (two s k (obP se di sto ste as) (fmL fo)) =
        .nx [some (.dat (.ref k)), some (.dat (.ref s.length)), some (.dat (fm x)), some (.dat (.int z)), some (.dat (foD (gapV x z best r).1)), u', v'] (two s k (obP se di sto ste (as ++ fmL (gapV x z best r).2)) (fmL fo)) := by
    intro r
    induction r with
    | nil =>
      intro pre as best u v e hb hl
      refine ⟨u, v, ?_⟩
      have hl2 := two_l (o := obP se di sto ste as) (xs := fmL fo) hk
      have e2 : pre.length = (fmL fo).length := by rw [e]; simp
      rw [e2]
      exact (forR_nil hl2).trans (by simp [gapV])
    | cons f r ih =>
      intro pre as best u v e hb hl
      rw [List.length_cons] at hl
      have hff := hf f (by rw [e]; simp)
      have e1 : fo = (pre ++ [f]) ++ r := by rw [e]; simp
      have hlp : (pre ++ [f]).length = pre.length + 1 := by simp
      have IH := fun as best u v hb hl => ih (pre ++ [f]) as best u v e1 hb hl
      rw [hlp] at IH
      have hl2 : (two s k (obP se di sto ste as) (fmL fo))[s.length]? = some (.lst (fmL pre ++ fm f :: fmL r)) := by rw [two_l hk, e]; simp
      have eg : ∀ d e s, gNm 5 d e s = some (e.set 5 (some (.dat d))) := fun d e s => rfl
      have step := fun (en : En) body => forR_cons (g := gNm 5) (body := body) (e := en) hl2 (eg (fm f) en _)
      have q1 : (fmL r).length = r.length := by simp
      have q2 : (fmL pre).length = pre.length := by simp
      rw [q1, q2] at step
      rw [List.length_cons]
      have A1 := r_asks (fuel := fuel) hT n (two_k (o := obP se di sto ste as) (xs := fmL fo) hk) (by omega) (lessF f x) (by show -1000 ≤ f.1 - x.1 ∧ f.1 - x.1 ≤ 1000; omega) z
      rw [two_set hk] at A1
      have hg : ∀ q, some (lessF f x) = some q → -20 ≤ q.1 ∧ q.1 ≤ 20 := fun q z => by
        cases z
        show -20 ≤ f.1 - x.1 ∧ f.1 - x.1 ≤ 20
        omega
      by_cases hc : 0 < sgn (wth (lessF f x) z)
      · cases best with
        | none =>
          obtain ⟨u', v', IH⟩ := IH (as ++ [fm (lessF f x)]) (some (lessF f x)) (some (.dat (fm f))) (some (.dat (fm (lessF f x)))) hg (by simp; omega)
          refine ⟨u', v', (step _ _).trans ?_⟩
          simp only [kn, knl, Nat.reduceSub, Nat.reduceAdd, reduceIte, r_lessF hT (n + 2), A1, hc, decide_true, foD_none, foD_some]
          refine IH.trans ?_
          simp [gapV, hc]
        | some b =>
          have hbb := hb b rfl
          have A2 := r_asks (fuel := fuel) hT n (two_k (o := obP se di sto ste (as ++ [fm (lessF f x)])) (xs := fmL fo) hk) (by simp; omega) (lessF (lessF f x) b) (by show -1000 ≤ (f.1 - x.1) - b.1 ∧ (f.1 - x.1) - b.1 ≤ 1000; omega) z
          rw [two_set hk] at A2
          by_cases hd : sgn (wth (lessF (lessF f x) b) z) < 0
          · obtain ⟨u', v', IH⟩ := IH (as ++ [fm (lessF f x)] ++ [fm (lessF (lessF f x) b)]) (some (lessF f x)) (some (.dat (fm f))) (some (.dat (fm (lessF f x)))) hg (by simp; omega)
            refine ⟨u', v', (step _ _).trans ?_⟩
            simp only [kn, knl, Nat.reduceSub, Nat.reduceAdd, reduceIte, r_lessF hT (n + 2), A1, A2, hc, hd, decide_true, foD_none, foD_some]
            refine IH.trans ?_
            simp [gapV, hc, hd]
          · obtain ⟨u', v', IH⟩ := IH (as ++ [fm (lessF f x)] ++ [fm (lessF (lessF f x) b)]) (some b) (some (.dat (fm f))) (some (.dat (fm (lessF f x)))) hb (by simp; omega)
            refine ⟨u', v', (step _ _).trans ?_⟩
            simp only [kn, knl, Nat.reduceSub, Nat.reduceAdd, reduceIte, r_lessF hT (n + 2), A1, A2, hc, hd, decide_true, decide_false, foD_none, foD_some]
            refine IH.trans ?_
            simp [gapV, hc, hd]
      · obtain ⟨u', v', IH⟩ := IH (as ++ [fm (lessF f x)]) best (some (.dat (fm f))) (some (.dat (fm (lessF f x)))) hb (by simp; omega)
        refine ⟨u', v', (step _ _).trans ?_⟩
        simp only [kn, knl, Nat.reduceSub, Nat.reduceAdd, reduceIte, r_lessF hT (n + 2), A1, hc, decide_false]
        refine IH.trans ?_
        simp [gapV, hc]
  obtain ⟨u', v', L⟩ := loop fo [] as none none none rfl (fun _ z => by cases z) hl
  have q1 : (fmL fo).length = fo.length := by simp
  rw [q1]
  have L : forG (Src.rl s.length).get _ _ fo.length 0 [some (.dat (.ref k)), some (.dat (.ref s.length)), some (.dat (fm x)), some (.dat (.int z)), some (.dat .non), none, none] _ = _ := L
  rw [L]
  simp only [kn, knl, Nat.reduceSub, Nat.reduceAdd, reduceIte]
theorem r_handed (n : Nat) (p q : Nat) (z : Int) {s : St} {k : Nat} {se : List (Option Fo)} {di sto ste as : List D} (h : s[k]? = some (obP (seD se) di sto ste as)) (hs : SmS se) (hp : p < se.length) (hq : q < se.length) (hl : as.length + 2 * se.length + se.length * (2 * se.length + 1) ≤ line) (h5 : se.length ≤ 1000) :
    ∃ g, run T fuel (n + 5) i_handed [.dat (.ref k), .dat (.int (p : Int)), .dat (.int (q : Int)), .dat (.int z)] s = .ok (owD (handV se p q z).1) (s.set k (obP (seD (handV se p q z).2.1) di sto ste (as ++ fmL (handV se p q z).2.2)) ++ g) := by
  obtain ⟨o, ho⟩ : ∃ o, se[p]? = some o := ⟨_, List.getElem?_eq_getElem hp⟩
  obtain ⟨o2, ho2⟩ : ∃ o, se[q]? = some o := ⟨_, List.getElem?_eq_getElem hq⟩
  have ha := atD_nat (seD_get ho)
  have ha2 := atD_nat (seD_get ho2)
  have hk := lt_of_at h
  cases o with
  | none =>
    refine ⟨[], (run_eq hT.handed rfl).trans ?_⟩
    simp only [kn, knl, Nat.reduceSub, Nat.reduceAdd, reduceIte, it_seats h, ha, ha2, foD_none, foD_some]
    simp [handV, ho, owD, set_same h]
  | some a =>
    cases o2 with
    | none =>
      refine ⟨[], (run_eq hT.handed rfl).trans ?_⟩
      simp only [kn, knl, Nat.reduceSub, Nat.reduceAdd, reduceIte, it_seats h, ha, ha2, foD_none, foD_some]
      simp [handV, ho, ho2, owD, set_same h]
    | some b =>
      refine ⟨[.lst (fmL (btwV a b z se).1)], (run_eq hT.handed rfl).trans ?_⟩
      have bl := btwV_len a b z se
      have hm : ∀ f ∈ (btwV a b z se).1, -10 ≤ f.1 ∧ f.1 ≤ 10 := fun f hf => hs f (btwV_mem hf)
      have mono : (btwV a b z se).1.length * (2 * (btwV a b z se).1.length + 1) ≤ se.length * (2 * se.length + 1) := Nat.mul_le_mul bl.1 (by omega)
      have B := r_between (fuel := fuel) hT n a b (hs.at_ ho) (hs.at_ ho2) z h hs (by omega) h5
      simp only [kn, knl, Nat.reduceSub, Nat.reduceAdd, reduceIte, it_seats h, ha, ha2, foD_none, foD_some, B, src_ref (two_l (o := obP (seD se) di sto ste (as ++ fmL (btwV a b z se).2)) (xs := fmL (btwV a b z se).1) hk)]
      generalize hfo : (btwV a b z se).1 = fo at *
      generalize has : as ++ fmL (btwV a b z se).2 = as2
      have hl2 : as2.length + fo.length * (2 * fo.length + 1) ≤ line := by rw [← has]; simp; omega
      have loop : ∀ (r pre : List Fo) (as : List D) (u v : Option Ag), fo = pre ++ r → as.length + r.length * (2 * fo.length + 1) ≤ line →
          ((handL fo z r).1 = true → ∃ u' v', forG (Src.rl s.length).get (gNm 7) (xSeq [xAsg (gNm 8) (sCallD i_next_gap [sVar 0, sVar 6, sVar 7, sVar 3]), xIf (sAnd [sIsN true (sVar 8), sCmp .gt (sCallD i_asks [sVar 0, sCallD i_added [sVar 8, sTup [sCst (.int 0), sNeg (sCst (.int 3))]], sVar 3]) (sCst (.int 0))]) (xSeq [xRet (sCst .non)]) (xSeq [])] ⟨fuel, run T fuel (n + 4), fun _ _ _ _ => .bad⟩)
            r.length pre.length [some (.dat (.ref k)), some (.dat (.int (p : Int))), some (.dat (.int (q : Int))), some (.dat (.int z)), some (.dat (fm a)), some (.dat (fm b)), some (.dat (.ref s.length)), u, v] (two s k (obP (seD se) di sto ste as) (fmL fo)) =
            .nx [some (.dat (.ref k)), some (.dat (.int (p : Int))), some (.dat (.int (q : Int))), some (.dat (.int z)), some (.dat (fm a)), some (.dat (fm b)), some (.dat (.ref s.length)), u', v'] (two s k (obP (seD se) di sto ste (as ++ fmL (handL fo z r).2)) (fmL fo))) ∧
          ((handL fo z r).1 = false → forG (Src.rl s.length).get (gNm 7) (xSeq [xAsg (gNm 8) (sCallD i_next_gap [sVar 0, sVar 6, sVar 7, sVar 3]), xIf (sAnd [sIsN true (sVar 8), sCmp .gt (sCallD i_asks [sVar 0, sCallD i_added [sVar 8, sTup [sCst (.int 0), sNeg (sCst (.int 3))]], sVar 3]) (sCst (.int 0))]) (xSeq [xRet (sCst .non)]) (xSeq [])] ⟨fuel, run T fuel (n + 4), fun _ _ _ _ => .bad⟩)
            r.length pre.length [some (.dat (.ref k)), some (.dat (.int (p : Int))), some (.dat (.int (q : Int))), some (.dat (.int z)), some (.dat (fm a)), some (.dat (fm b)), some (.dat (.ref s.length)), u, v] (two s k (obP (seD se) di sto ste as) (fmL fo)) =
            .rt .non (two s k (obP (seD se) di sto ste (as ++ fmL (handL fo z r).2)) (fmL fo))) := by
        intro r
        induction r with
        | nil =>
          intro pre as u v e hl
          refine ⟨fun _ => ⟨u, v, ?_⟩, fun z => by cases z⟩
          have e2 : pre.length = (fmL fo).length := by rw [e]; simp
          rw [e2]
          exact (forR_nil (two_l hk)).trans (by simp [handL])
        | cons x r ih =>
          intro pre as u v e hl
          rw [List.length_cons, Nat.add_mul, Nat.one_mul] at hl
          have hx := hm x (by rw [e]; simp)
          have e1 : fo = (pre ++ [x]) ++ r := by rw [e]; simp
          have hlp : (pre ++ [x]).length = pre.length + 1 := by simp
          have IH := fun as u v hl => ih (pre ++ [x]) as u v e1 hl
          rw [hlp] at IH
          have hl2 : (two s k (obP (seD se) di sto ste as) (fmL fo))[s.length]? = some (.lst (fmL pre ++ fm x :: fmL r)) := by
            rw [two_l hk]
            have : fmL fo = fmL pre ++ fm x :: fmL r := by rw [e]; simp
            rw [this]
          have eg : ∀ d e s, gNm 7 d e s = some (e.set 7 (some (.dat d))) := fun d e s => rfl
          have step := fun (en : En) body => forR_cons (g := gNm 7) (body := body) (e := en) hl2 (eg (fm x) en _)
          have q1 : (fmL r).length = r.length := by simp
          have q2 : (fmL pre).length = pre.length := by simp
          rw [q1, q2] at step
          rw [List.length_cons]
          have gl := gapV_len x z fo none
          have N := r_next_gap (fuel := fuel) hT n x hx z (se := seD se) (di := di) (sto := sto) (ste := ste) (as := as) hk hm (by omega)
          cases hg : (gapV x z none fo).1 with
          | none =>
            have IH := IH (as ++ fmL (gapV x z none fo).2) (some (.dat (fm x))) (some (.dat .non)) (by simp; omega)
            have hh : handL fo z (x :: r) = ((handL fo z r).1, (gapV x z none fo).2 ++ (handL fo z r).2) := by simp [handL, hg]
            rw [hh]
            refine ⟨fun hv => ?_, fun hv => ?_⟩
            · obtain ⟨u', v', IH⟩ := IH.1 hv
              refine ⟨u', v', (step _ _).trans ?_⟩
              simp only [kn, knl, Nat.reduceSub, Nat.reduceAdd, reduceIte, N, hg, foD_none, foD_some]
              refine IH.trans ?_
              simp
            · refine (step _ _).trans ?_
              simp only [kn, knl, Nat.reduceSub, Nat.reduceAdd, reduceIte, N, hg, foD_none, foD_some]
              refine (IH.2 hv).trans ?_
              simp
          | some g =>
            have hgs := gapV_sm hx fo none hm (fun _ z => by cases z) g hg
            have A1 := r_asks (fuel := fuel) hT (n + 1) (two_k (o := obP (seD se) di sto ste (as ++ fmL (gapV x z none fo).2)) (xs := fmL fo) hk) (by simp; omega) (addF g (0, -3)) (by show -1000 ≤ g.1 + 0 ∧ g.1 + 0 ≤ 1000; omega) z
            rw [two_set hk] at A1
            by_cases hc : 0 < sgn (wth (addF g (0, -3)) z)
            · have hh : handL fo z (x :: r) = (false, (gapV x z none fo).2 ++ [addF g (0, -3)]) := by simp [handL, hg, hc]
              rw [hh]
              refine ⟨fun hv => (by cases hv), fun _ => (step _ _).trans ?_⟩
              simp only [kn, knl, Nat.reduceSub, Nat.reduceAdd, reduceIte, N, hg, foD_none, foD_some, r_addF hT (n + 3), A1, hc, decide_true]
              simp
            · have IH := IH (as ++ fmL (gapV x z none fo).2 ++ [fm (addF g (0, -3))]) (some (.dat (fm x))) (some (.dat (fm g))) (by simp; omega)
              have hh : handL fo z (x :: r) = ((handL fo z r).1, (gapV x z none fo).2 ++ addF g (0, -3) :: (handL fo z r).2) := by simp [handL, hg, hc]
              rw [hh]
              refine ⟨fun hv => ?_, fun hv => ?_⟩
              · obtain ⟨u', v', IH⟩ := IH.1 hv
                refine ⟨u', v', (step _ _).trans ?_⟩
                simp only [kn, knl, Nat.reduceSub, Nat.reduceAdd, reduceIte, N, hg, foD_none, foD_some, r_addF hT (n + 3), A1, hc, decide_false]
                refine IH.trans ?_
                simp
              · refine (step _ _).trans ?_
                simp only [kn, knl, Nat.reduceSub, Nat.reduceAdd, reduceIte, N, hg, foD_none, foD_some, r_addF hT (n + 3), A1, hc, decide_false]
                refine (IH.2 hv).trans ?_
                simp
      have L := loop fo [] as2 none none rfl hl2
      have q1 : (fmL fo).length = fo.length := by simp
      rw [q1]
      have hv : handV se p q z = (if (handL fo z fo).1 then some ((0, 0), []) else none, se, (btwV a b z se).2 ++ (handL fo z fo).2) := by
        simp only [handV, ho, ho2, hfo]
      rw [hv]
      simp only [List.length_nil] at L
      cases hc : (handL fo z fo).1 with
      | true =>
        obtain ⟨u', v', L⟩ := L.1 hc
        rw [L]
        simp only [kn, knl, Nat.reduceSub, Nat.reduceAdd, reduceIte, ← has]
        simp [owD, two]
      | false =>
        rw [L.2 hc]
        simp only [kn, knl, Nat.reduceSub, Nat.reduceAdd, reduceIte, ← has]
        simp [owD, two]
end
end Kn
set_option Elab.async false
set_option linter.all false
set_option maxHeartbeats 2000000
/-! KnM8: the deeds, the state behind all of them. -/
namespace Kn
inductive De where
  | come (p : Nat) (t : Spt) (s : Si) | go (p : Nat) (s : Si) | move (p : Nat) (b : Int) | hand (p q : Nat)
  deriving DecidableEq
def De.d : De → D
  | .come p t s => .tup [.str w_come, .int (p : Int), spD t, s.d]
  | .go p s => .tup [.str w_go, .int (p : Int), s.d]
  | .move p b => .tup [.str w_move, .int (p : Int), .int b]
  | .hand p q => .tup [.str w_hand, .int (p : Int), .int (q : Int)]
def SpOk (t : Spt) : Prop := match t.1 with
  | .m => -5 ≤ t.2 ∧ t.2 ≤ 5
  | _ => 0 ≤ t.2 ∧ t.2 ≤ 5
def De.ok (k : Nat) : De → Prop
  | .come p t _ => p < k ∧ SpOk t
  | .go p _ => p < k
  | .move p b => p < k ∧ -9 ≤ b ∧ b ≤ 9 ∧ b ≠ 0
  | .hand p q => p < k ∧ q < k ∧ p ≠ q
def doV (se : List (Option Fo)) (d : De) (n : Int) : Res := match d with
  | .come p t s => comeV se p t s n
  | .go p s => goV se p s n
  | .move p b => moveV se p b n
  | .hand p q => handV se p q n
theorem doV_len (se : List (Option Fo)) (d : De) (n : Int) : (doV se d n).2.1.length = se.length := by
  cases d with
  | come p t s =>
    simp only [doV, comeV]
    split
    · split
      · simp
      · rfl
    · rfl
  | go p s =>
    simp only [doV, goV]
    split
    · simp
    · rfl
  | move p b =>
    simp only [doV, moveV]
    split
    · split
      · simp
      · rfl
    · rfl
  | hand p q =>
    simp only [doV, handV]
    split <;> rfl
theorem doV_sm {se : List (Option Fo)} (h : SmS se) (d : De) (n : Int) : SmS (doV se d n).2.1 := by
  cases d with
  | come p t s =>
    have := spot_sm t n
    simp only [doV, comeV]
    split
    · split
      · exact h.set (by omega) p
      · exact h
    · exact h
  | go p s =>
    simp only [doV, goV]
    split
    · exact h.rem p
    · exact h
  | move p b =>
    simp only [doV, moveV]
    split
    · rename_i f e
      split
      · have := h.at_ e
        exact h.set (by show -10 ≤ f.1 + 0 ∧ f.1 + 0 ≤ 10; omega) p
      · exact h
    · exact h
  | hand p q =>
    simp only [doV, handV]
    split <;> exact h
theorem doV_asks {se : List (Option Fo)} (h5 : se.length ≤ 5) {k : Nat} {d : De} (hd : d.ok k) (n : Int) : (doV se d n).2.2.length ≤ 100 := by
  cases d with
  | come p t s =>
    have b := besA_len (spotF t n) se
    have w := wayQ_len (spotF t n) s n se
    simp only [doV, comeV]
    split
    · split
      · simp only [List.length_append]; omega
      · simp only []; omega
    · simp
  | go p s =>
    simp only [doV, goV]
    split
    · rename_i f e
      have w := wayQ_len f s n se
      simp only []; omega
    · simp
  | move p b =>
    obtain ⟨_, h1, h2, _⟩ := hd
    simp only [doV, moveV]
    split
    · rename_i f e
      have o : (openV se f b n).2.length ≤ 50 := by
        have w := passV_len se f n (if 0 < b then 1 else -1) (ups b.natAbs)
        have hu : (ups b.natAbs).length = b.natAbs := by simp [ups]
        have m : (ups b.natAbs).length * se.length ≤ 9 * 5 := Nat.mul_le_mul (by omega) h5
        unfold openV
        simp only []
        split
        · simp
        · split
          · simp
          · simp only [List.length_cons]; omega
      split
      · simp only []; omega
      · simp only []; omega
    · simp
  | hand p q =>
    simp only [doV, handV]
    split
    · rename_i a b _ _
      have bl := btwV_len a b n se
      have w := handL_len (btwV a b n se).1 n (btwV a b n se).1
      have m : (btwV a b n se).1.length * (2 * (btwV a b n se).1.length + 1) ≤ 5 * 11 := Nat.mul_le_mul (by omega) (by omega)
      simp only [List.length_append]
      omega
    · simp
def lastL (n : Int) : List De → List (Option Fo) → List (Option Way) × List (Option Fo) × List Fo
  | [], se => ([], se, [])
  | d :: r, se => ((doV se d n).1 :: (lastL n r (doV se d n).2.1).1, (lastL n r (doV se d n).2.1).2.1, (doV se d n).2.2 ++ (lastL n r (doV se d n).2.1).2.2)
def wDid : Option Way → D := fun w => .bl w.isSome
def wSto : Option Way → D := fun w => .tup (nD (match w with
  | some w => w.2
  | none => []))
def wSte : Option Way → D := fun w => fm (match w with
  | some w => w.1
  | none => (0, 0))
structure Pl where
  folk : Nat
  des : List De
def Pl.d (p : Pl) : D := .tup [.int (p.folk : Int), .tup (p.des.map De.d)]
def Pl.ok (p : Pl) : Prop := 1 ≤ p.folk ∧ p.folk ≤ 5 ∧ p.des.length ≤ 8 ∧ ∀ d ∈ p.des, d.ok p.folk
theorem add_set {s g : St} {o o' : Ob} : (s ++ o :: g).set s.length o' = s ++ o' :: g := by
  rw [List.set_append_right _ _ (Nat.le_refl _)]
  simp
theorem add_at {s g : St} {o : Ob} : (s ++ o :: g)[s.length]? = some o := by
  rw [List.getElem?_append_right (Nat.le_refl _)]
  simp
theorem rangeD_len (lo : Int) (n : Nat) : (rangeD lo n).length = n := by simp [rangeD]
theorem tupleD (s : St) (xs : List D) : bfD s .tuple [.lst xs] = .ok (.tup xs) s := rfl
/-- the state's object by what was done -/
def obL (se : List (Option Fo)) (ws : List (Option Way)) (as : List Fo) : Ob := obP (seD se) (ws.map wDid) (ws.map wSto) (ws.map wSte) (fmL as)
section
variable {T : Nat → Option FD} {fuel : Nat} (hT : TR T)
include hT
theorem r_do (n : Nat) (d : De) (z : Int) {s : St} {k : Nat} {se : List (Option Fo)} {di sto ste as : List D} (h : s[k]? = some (obP (seD se) di sto ste as)) (hs : SmS se) (h5 : se.length ≤ 5) (hd : d.ok se.length) (hl : as.length + 100 ≤ line) :
    ∃ g, run T fuel (n + 8) i_do [.dat (.ref k), .dat d.d, .dat (.int z)] s = .ok (owD (doV se d z).1) (s.set k (obP (seD (doV se d z).2.1) di sto ste (as ++ fmL (doV se d z).2.2)) ++ g) := by
  have a1 : ¬ w_go = w_come := by decide
  have a2 : ¬ w_move = w_come := by decide
  have a3 : ¬ w_hand = w_come := by decide
  have a4 : ¬ w_move = w_go := by decide
  have a5 : ¬ w_hand = w_go := by decide
  have a6 : ¬ w_hand = w_move := by decide
  cases d with
  | come p t sd =>
    have C := r_came (fuel := fuel) hT n p t sd z h hs hd.1 (by omega) (by omega)
    refine ⟨[], (run_eq hT.doit rfl).trans ?_⟩
    simp only [kn, knl, Nat.reduceSub, Nat.reduceAdd, reduceIte, De.d, at0, at1, at2, at3, decide_true, C]
    simp [doV]
  | go p sd =>
    have C := r_went (fuel := fuel) hT n p sd z h hs hd (by omega) (by omega)
    refine ⟨[], (run_eq hT.doit rfl).trans ?_⟩
    simp only [kn, knl, Nat.reduceSub, Nat.reduceAdd, reduceIte, De.d, at0, at1, at2, decide_true, decide_false, a1, C]
    simp [doV]
  | move p b =>
    obtain ⟨h1, h2, h3, h4⟩ := hd
    have m : b.natAbs * se.length ≤ 9 * 5 := Nat.mul_le_mul (by omega) h5
    have C := r_moved (fuel := fuel) hT (n + 1) p b (by omega) z h hs h1 (by omega) (by omega)
    refine ⟨[], (run_eq hT.doit rfl).trans ?_⟩
    simp only [kn, knl, Nat.reduceSub, Nat.reduceAdd, reduceIte, De.d, at0, at1, at2, decide_true, decide_false, a2, a4, C]
    simp [doV]
  | hand p q =>
    have m : se.length * (2 * se.length + 1) ≤ 5 * 11 := Nat.mul_le_mul h5 (by omega)
    obtain ⟨g, C⟩ := r_handed (fuel := fuel) hT (n + 2) p q z h hs hd.1 hd.2.1 (by omega) (by omega)
    refine ⟨g, (run_eq hT.doit rfl).trans ?_⟩
    simp only [kn, knl, Nat.reduceSub, Nat.reduceAdd, reduceIte, De.d, at0, at1, at2, decide_true, decide_false, a3, a5, a6, C]
    simp [doV]
theorem r_begun (n : Nat) (k : Nat) (hk : k ≤ 1000) (s : St) : run T fuel (n + 1) i_begun [.dat (.int (k : Int))] s = .ok (.ref s.length) (s ++ [obL (List.replicate k none) [] []]) := by
  refine (run_eq hT.begun rfl).trans ?_
  have rng : ∀ s, rng1 s (.int (k : Int)) = .ok (.fix (rangeD 0 k), (rangeD 0 k).length) s := fun s => by
    rw [rng1_int s (by unfold lim; omega), rangeD_len]
    simp
  have lc : ∀ (c : Cl) (s : St) (e : En), lcL (lcTurn [2] (gNm 2) none (sCst .non) c e) (rangeD 0 k) [] s = .ok ((rangeD 0 k).map fun _ => .non) s := fun c s e => by
    rw [lcL_map (f := fun _ => .non)]
    · simp
    · intro d hd
      simp only [kn, knl, Nat.reduceSub, Nat.reduceAdd, reduceIte]
  have e1 : ((rangeD 0 k).map fun _ => D.non) = seD (List.replicate k none) := by
    show _ = (List.replicate k none).map foD
    rw [List.map_replicate, List.map_const', rangeD_len]
    rfl
  simp only [kn, knl, Nat.reduceSub, Nat.reduceAdd, reduceIte, rng, lc, tupleD, e1]
  show (((sDict _ _ _ _ s).out _ _).fin) = _
  unfold sDict
  simp only [kn, knl, Nat.reduceSub, Nat.reduceAdd, reduceIte]
  have e2 : (s ++ [Ob.dct false []])[s.length]? = some (Ob.dct false []) := by
    rw [List.getElem?_append_right (Nat.le_refl _)]
    simp
  rw [e2]
  simp only [kn, knl, Nat.reduceSub, Nat.reduceAdd, reduceIte]
  simp [obL, obP]
theorem r_last (n : Nat) (p : Pl) (hp : p.ok) (z : Int) (s : St) : ∃ g, run T fuel (n + 9) i_last_of [.dat p.d, .dat (.int z)] s = .ok (.ref s.length) (s ++ obL (lastL z p.des (List.replicate p.folk none)).2.1 (lastL z p.des (List.replicate p.folk none)).1 (lastL z p.des (List.replicate p.folk none)).2.2 :: g) := by
  obtain ⟨h1, h2, h3, h4⟩ := hp
  have B := r_begun (fuel := fuel) hT (n + 7) p.folk (by omega) s
  have loop : ∀ (r : List De) (ws : List (Option Way)) (se : List (Option Fo)) (as : List Fo) (g : St) (u v w x : Option Ag), (∀ d ∈ r, d.ok se.length) → SmS se → se.length ≤ 5 → as.length + r.length * 100 ≤ 1000 → ws.length + r.length ≤ 100 →
      ∃ u' v' w' x' g', forL (gNm 3) (xSeq [xAsg (gNm 4) (sCallD i_do [sVar 2, sVar 3, sVar 1]),
        xAsg (gTp [gNm 5, gNm 6]) (sIf (sIsN false (sVar 4)) (sTup [sTup [sCst (.int 0), sCst (.int 0)], sTup []]) (sVar 4)),
        xSet (sVar 2) (sCst (.str w_did)) (sBin .add (sItem (sVar 2) (sCst (.str w_did))) (sTup [sIsN true (sVar 4)])),
        xSet (sVar 2) (sCst (.str w_steps)) (sBin .add (sItem (sVar 2) (sCst (.str w_steps))) (sTup [sVar 5])),
        xSet (sVar 2) (sCst (.str w_stood)) (sBin .add (sItem (sVar 2) (sCst (.str w_stood))) (sTup [sVar 6]))] ⟨fuel, run T fuel (n + 8), fun _ _ _ _ => .bad⟩)
        (r.map De.d) [some (.dat p.d), some (.dat (.int z)), some (.dat (.ref s.length)), u, v, w, x] (s ++ obL se ws as :: g) =
        .nx [some (.dat p.d), some (.dat (.int z)), some (.dat (.ref s.length)), u', v', w', x'] (s ++ obL (lastL z r se).2.1 (ws ++ (lastL z r se).1) (as ++ (lastL z r se).2.2) :: g') := by
    intro r
    induction r with
    | nil =>
      intro ws se as g u v w x _ _ _ _ _
      exact ⟨u, v, w, x, g, by simp [forL_nil, lastL]⟩
    | cons d r ih =>
      intro ws se as g u v w x hd hs h5 ha hw
      rw [List.length_cons] at ha hw
      have hd0 := hd d List.mem_cons_self
      have la := doV_asks h5 hd0 z
      have ll := doV_len se d z
      have at1 : (s ++ obL se ws as :: g)[s.length]? = some (obP (seD se) (ws.map wDid) (ws.map wSto) (ws.map wSte) (fmL as)) := add_at
      obtain ⟨g1, D1⟩ := r_do (fuel := fuel) hT n d z at1 hs h5 hd0 (by simp; unfold line; omega)
      rw [add_set] at D1
      obtain ⟨u', v', w', x', g', ih⟩ := ih (ws ++ [(doV se d z).1]) (doV se d z).2.1 (as ++ (doV se d z).2.2) (g ++ g1) (some (.dat d.d)) (some (.dat (owD (doV se d z).1))) (some (.dat (wSte (doV se d z).1))) (some (.dat (wSto (doV se d z).1)))
        (fun d' h' => by rw [ll]; exact hd d' (List.mem_cons_of_mem _ h')) (doV_sm hs d z) (by omega) (by simp; omega) (by simp; omega)
      refine ⟨u', v', w', x', g', ?_⟩
      have eg : ∀ d e s, gNm 3 d e s = some (e.set 3 (some (.dat d))) := fun d e s => rfl
      rw [List.map_cons, forL_cons (eg _ _ _)]
      have hw1 : (ws.map wDid).length + 1 ≤ line := by simp; unfold line; omega
      have hw2 : (ws.map wSto).length + 1 ≤ line := by simp; unfold line; omega
      have hw3 : (ws.map wSte).length + 1 ≤ line := by simp; unfold line; omega
      have fin : ∀ o : Option Way, owD (doV se d z).1 = owD o → (doV se d z).1 = o → True := fun _ _ _ => trivial
      have E : s ++ obL (lastL z (d :: r) se).2.1 (ws ++ (lastL z (d :: r) se).1) (as ++ (lastL z (d :: r) se).2.2) :: g' = s ++ obL (lastL z r (doV se d z).2.1).2.1 (ws ++ [(doV se d z).1] ++ (lastL z r (doV se d z).2.1).1) (as ++ (doV se d z).2.2 ++ (lastL z r (doV se d z).2.1).2.2) :: g' := by
        simp [lastL]
      rw [E]
      refine Eq.trans ?_ ih
      simp only [kn, knl, Nat.reduceSub, Nat.reduceAdd, reduceIte, D1]
      generalize hse : (doV se d z).2.1 = se2 at *
      generalize has : (doV se d z).2.2 = as2 at *
      have A0 : (s ++ (obP (seD se2) (ws.map wDid) (ws.map wSto) (ws.map wSte) (fmL as ++ fmL as2) :: (g ++ g1)))[s.length]? = some (obP (seD se2) (ws.map wDid) (ws.map wSto) (ws.map wSte) (fmL as ++ fmL as2)) := add_at
      have ea : s ++ (obP (seD se2) (ws.map wDid) (ws.map wSto) (ws.map wSte) (fmL as ++ fmL as2) :: g) ++ g1 = s ++ (obP (seD se2) (ws.map wDid) (ws.map wSto) (ws.map wSte) (fmL as ++ fmL as2) :: (g ++ g1)) := by simp
      rw [ea]
      have A1 : (s ++ (obP (seD se2) (ws.map wDid ++ [wDid (doV se d z).1]) (ws.map wSto) (ws.map wSte) (fmL as ++ fmL as2) :: (g ++ g1)))[s.length]? = some (obP (seD se2) (ws.map wDid ++ [wDid (doV se d z).1]) (ws.map wSto) (ws.map wSte) (fmL as ++ fmL as2)) := add_at
      have A2 : (s ++ (obP (seD se2) (ws.map wDid ++ [wDid (doV se d z).1]) (ws.map wSto) (ws.map wSte ++ [wSte (doV se d z).1]) (fmL as ++ fmL as2) :: (g ++ g1)))[s.length]? = some (obP (seD se2) (ws.map wDid ++ [wDid (doV se d z).1]) (ws.map wSto) (ws.map wSte ++ [wSte (doV se d z).1]) (fmL as ++ fmL as2)) := add_at
      have S1 := set_did A0 (ws.map wDid ++ [wDid (doV se d z).1])
      have S2 := set_steps A1 (ws.map wSte ++ [wSte (doV se d z).1])
      have S3 := set_stood A2 (ws.map wSto ++ [wSto (doV se d z).1])
      rw [add_set] at S1 S2 S3
      cases hv : (doV se d z).1 with
      | none =>
        rw [hv] at S1 S2 S3 A1 A2
        have e1 : wDid none = .bl false := rfl
        have e2 : wSte none = .tup [.int 0, .int 0] := rfl
        have e3 : wSto none = .tup [] := rfl
        rw [e1] at S1 S2 S3 A1 A2
        rw [e2] at S2 S3 A2
        rw [e3] at S3
        simp only [kn, knl, Nat.reduceSub, Nat.reduceAdd, reduceIte, owD, it_did A0, boD_addT _ (a := ws.map wDid) (b := [.bl false]) hw1, S1, it_steps A1, boD_addT _ (a := ws.map wSte) (b := [.tup [.int 0, .int 0]]) hw3, S2, it_stood A2, boD_addT _ (a := ws.map wSto) (b := [.tup []]) hw2, S3]
        simp [obL, e1, e2, e3]
      | some wy =>
        rw [hv] at S1 S2 S3 A1 A2
        have e1 : wDid (some wy) = .bl true := rfl
        have e2 : wSte (some wy) = fm wy.1 := rfl
        have e3 : wSto (some wy) = .tup (nD wy.2) := rfl
        rw [e1] at S1 S2 S3 A1 A2
        rw [e2] at S2 S3 A2
        rw [e3] at S3
        simp only [kn, knl, Nat.reduceSub, Nat.reduceAdd, reduceIte, owD, it_did A0, boD_addT _ (a := ws.map wDid) (b := [.bl true]) hw1, S1, it_steps A1, boD_addT _ (a := ws.map wSte) (b := [fm wy.1]) hw3, S2, it_stood A2, boD_addT _ (a := ws.map wSto) (b := [.tup (nD wy.2)]) hw2, S3]
        simp [obL, e1, e2, e3]
  obtain ⟨u', v', w', x', g', L⟩ := loop p.des [] (List.replicate p.folk none) [] [] none none none none (by simpa using h4) (fun f hf => by simp at hf) (by simpa using h2) (by simp; omega) (by simp; omega)
  refine ⟨g', (run_eq hT.last_of rfl).trans ?_⟩
  have L : forL _ _ _ [some (.dat (.tup [.int (p.folk : Int), .tup (p.des.map De.d)])), some (.dat (.int z)), some (.dat (.ref s.length)), none, none, none, none] _ = _ := L
  simp only [kn, knl, Nat.reduceSub, Nat.reduceAdd, reduceIte, Pl.d, at0, at1, B, L]
end
end Kn
set_option Elab.async false
set_option linter.all false
set_option maxHeartbeats 2000000
/-! KnM9: plans recognized (the good ones). -/
namespace Kn
structure TP (T : Nat → Option FD) : Prop where
  is_number : T i_is_number = some fd_is_number
  is_tuple : T i_is_tuple = some fd_is_tuple
  is_word : T i_is_word = some fd_is_word
  is_spot : T i_is_spot = some fd_is_spot
  is_deed_of : T i_is_deed_of = some fd_is_deed_of
  is_good_plan : T i_is_good_plan = some fd_is_good_plan
  need_plan : T i_need_plan = some fd_need_plan
theorem isi_int (s : St) (i : Int) : isiD s (.int i) .int = some true := rfl
theorem isi_intb (s : St) (i : Int) : isiD s (.int i) .bool = some false := rfl
theorem isi_tup (s : St) (i : List D) : isiD s (.tup i) .tuple = some true := rfl
theorem isi_str (s : St) (i : List Nat) : isiD s (.str i) .str = some true := rfl
theorem itL_did {s g : St} (se : List (Option Fo)) (ws : List (Option Way)) (as : List Fo) : itemD (s ++ obL se ws as :: g) (.ref s.length) (.str w_did) = .ok (.tup (ws.map wDid)) (s ++ obL se ws as :: g) := it_did (add_at (o := obL se ws as))
theorem itL_stood {s g : St} (se : List (Option Fo)) (ws : List (Option Way)) (as : List Fo) : itemD (s ++ obL se ws as :: g) (.ref s.length) (.str w_stood) = .ok (.tup (ws.map wSto)) (s ++ obL se ws as :: g) := it_stood (add_at (o := obL se ws as))
theorem itL_steps {s g : St} (se : List (Option Fo)) (ws : List (Option Way)) (as : List Fo) : itemD (s ++ obL se ws as :: g) (.ref s.length) (.str w_steps) = .ok (.tup (ws.map wSte)) (s ++ obL se ws as :: g) := it_steps (add_at (o := obL se ws as))
theorem in_strs (s : St) (x : List Nat) (l : List (List Nat)) : inD s (.str x) (.tup (l.map .str)) = some (decide (x ∈ l)) := by
  have h : (l.map D.str).all flatD = true := by
    induction l with
    | nil => rfl
    | cons y l ih => rw [List.map_cons, List.all_cons, ih]; rfl
  unfold inD
  simp only [h, flatD, Bool.true_and, if_true]
  congr 1
  induction l with
  | nil => rfl
  | cons y l ih =>
    rw [List.map_cons, List.all_cons, Bool.and_eq_true] at h
    rw [List.map_cons, List.any_cons, ih h.2]
    by_cases e : y = x
    · subst e
      simp [eqFl]
    · have e' : ¬ x = y := fun z => e z.symm
      simp [eqFl, e, e']
theorem in1 (s : St) (x a : List Nat) : inD s (.str x) (.tup [.str a]) = some (decide (x ∈ [a])) := in_strs s x [a]
theorem in3 (s : St) (x a b c : List Nat) : inD s (.str x) (.tup [.str a, .str b, .str c]) = some (decide (x ∈ [a, b, c])) := in_strs s x [a, b, c]
theorem in4 (s : St) (x a b c d : List Nat) : inD s (.str x) (.tup [.str a, .str b, .str c, .str d]) = some (decide (x ∈ [a, b, c, d])) := in_strs s x [a, b, c, d]
theorem allD (s : St) (xs : List D) (h : ∀ x ∈ xs, x = .bl true) : bfD s .all [.lst xs] = .ok (.bl true) s := by
  have : ∀ xs : List D, (∀ x ∈ xs, x = .bl true) → ∃ bs, blsOf xs = some bs ∧ bs.all id = true := by
    intro xs
    induction xs with
    | nil => intro _; exact ⟨[], rfl, rfl⟩
    | cons x xs ih =>
      intro h
      obtain ⟨bs, h1, h2⟩ := ih fun y hy => h y (List.mem_cons_of_mem _ hy)
      have hx := h x List.mem_cons_self
      subst hx
      have h1 : mapO blD xs = some bs := h1
      refine ⟨true :: bs, ?_, by simpa using h2⟩
      show mapO blD (.bl true :: xs) = _
      rw [mapO, h1]
      rfl
  obtain ⟨bs, h1, h2⟩ := this xs h
  show (match asL s (.lst xs) with
    | some xs => match blsOf xs with
      | some bs => R.ok (D.bl (bs.all id)) s
      | none => R.bad
    | none => R.bad) = _
  show (match blsOf xs with
      | some bs => R.ok (D.bl (bs.all id)) s
      | none => R.bad) = _
  rw [h1]
  simp only [h2]
section
variable {T : Nat → Option FD} {fuel : Nat} (hT : TP T)
include hT
theorem r_num (n : Nat) (v a b : Int) (s : St) : run T fuel (n + 1) i_is_number [.dat (.int v), .dat (.int a), .dat (.int b)] s = .ok (.bl (decide (a ≤ v) && decide (v ≤ b))) s := by
  refine (run_eq hT.is_number rfl).trans ?_
  simp only [kn, knl, Nat.reduceSub, Nat.reduceAdd, reduceIte, isi_int, isi_intb]
  by_cases h : a ≤ v
  · simp only [kn, knl, Nat.reduceSub, Nat.reduceAdd, reduceIte, h, decide_true, Bool.true_and]
  · simp only [kn, knl, Nat.reduceSub, Nat.reduceAdd, reduceIte, h, decide_false, Bool.false_and]
theorem r_numT (n : Nat) (v a b : Int) (h : a ≤ v ∧ v ≤ b) (s : St) : run T fuel (n + 1) i_is_number [.dat (.int v), .dat (.int a), .dat (.int b)] s = .ok (.bl true) s := by
  rw [r_num hT]
  simp [h]
theorem r_tupT (n : Nat) (xs : List D) (a b : Int) (h : a ≤ xs.length ∧ (xs.length : Int) ≤ b) (s : St) : run T fuel (n + 1) i_is_tuple [.dat (.tup xs), .dat (.int a), .dat (.int b)] s = .ok (.bl true) s := by
  refine (run_eq hT.is_tuple rfl).trans ?_
  simp only [kn, knl, Nat.reduceSub, Nat.reduceAdd, reduceIte, isi_tup, lenD_tup, h.1, h.2, decide_true]
theorem r_tup2 (n : Nat) (x y : D) (s : St) : run T fuel (n + 1) i_is_tuple [.dat (.tup [x, y]), .dat (.int 2), .dat (.int 2)] s = .ok (.bl true) s := r_tupT hT n [x, y] 2 2 (show (2 : Int) ≤ ((2 : Nat) : Int) ∧ ((2 : Nat) : Int) ≤ 2 by decide) s
theorem r_tup3 (n : Nat) (x y u : D) (s : St) : run T fuel (n + 1) i_is_tuple [.dat (.tup [x, y, u]), .dat (.int 3), .dat (.int 4)] s = .ok (.bl true) s := r_tupT hT n [x, y, u] 3 4 (show (3 : Int) ≤ ((3 : Nat) : Int) ∧ ((3 : Nat) : Int) ≤ 4 by decide) s
theorem r_tup4 (n : Nat) (x y u v : D) (s : St) : run T fuel (n + 1) i_is_tuple [.dat (.tup [x, y, u, v]), .dat (.int 3), .dat (.int 4)] s = .ok (.bl true) s := r_tupT hT n [x, y, u, v] 3 4 (show (3 : Int) ≤ ((4 : Nat) : Int) ∧ ((4 : Nat) : Int) ≤ 4 by decide) s
theorem r_word1 (n : Nat) (x a : List Nat) (s : St) : run T fuel (n + 1) i_is_word [.dat (.str x), .dat (.tup [.str a])] s = .ok (.bl (decide (x ∈ [a]))) s := by
  refine (run_eq hT.is_word rfl).trans ?_
  simp only [kn, knl, Nat.reduceSub, Nat.reduceAdd, reduceIte, isi_str, in1]
theorem r_word3 (n : Nat) (x a b c : List Nat) (s : St) : run T fuel (n + 1) i_is_word [.dat (.str x), .dat (.tup [.str a, .str b, .str c])] s = .ok (.bl (decide (x ∈ [a, b, c]))) s := by
  refine (run_eq hT.is_word rfl).trans ?_
  simp only [kn, knl, Nat.reduceSub, Nat.reduceAdd, reduceIte, isi_str, in3]
theorem r_word4 (n : Nat) (x a b c d : List Nat) (s : St) : run T fuel (n + 1) i_is_word [.dat (.str x), .dat (.tup [.str a, .str b, .str c, .str d])] s = .ok (.bl (decide (x ∈ [a, b, c, d]))) s := by
  refine (run_eq hT.is_word rfl).trans ?_
  simp only [kn, knl, Nat.reduceSub, Nat.reduceAdd, reduceIte, isi_str, in4]
theorem r_side (n : Nat) (sd : Si) (s : St) : run T fuel (n + 1) i_is_word [.dat sd.d, .dat g_SIDES] s = .ok (.bl true) s := by
  refine (r_word4 hT n sd.s _ _ _ _ s).trans ?_
  cases sd <;> rfl
theorem r_spot (n : Nat) (t : Spt) (h : SpOk t) (s : St) : run T fuel (n + 2) i_is_spot [.dat (spD t)] s = .ok (.bl true) s := by
  refine (run_eq hT.is_spot rfl).trans ?_
  obtain ⟨w, a⟩ := t
  cases w
  · have h : 0 ≤ a ∧ a ≤ 5 := h
    simp only [kn, knl, Nat.reduceSub, Nat.reduceAdd, reduceIte, r_tup2 hT n, at0, at1, r_word3 hT n, show Wo.l.s = w_l from rfl, show decide (w_l ∈ [w_l, w_r, w_m]) = true from rfl, show ¬ w_l = w_m by decide, decide_false, r_numT hT n a 0 5 h]
  · have h : 0 ≤ a ∧ a ≤ 5 := h
    simp only [kn, knl, Nat.reduceSub, Nat.reduceAdd, reduceIte, r_tup2 hT n, at0, at1, r_word3 hT n, show Wo.r.s = w_r from rfl, show decide (w_r ∈ [w_l, w_r, w_m]) = true from rfl, show ¬ w_r = w_m by decide, decide_false, r_numT hT n a 0 5 h]
  · have h : -5 ≤ a ∧ a ≤ 5 := h
    simp only [kn, knl, Nat.reduceSub, Nat.reduceAdd, reduceIte, r_tup2 hT n, at0, at1, r_word3 hT n, show Wo.m.s = w_m from rfl, show decide (w_m ∈ [w_l, w_r, w_m]) = true from rfl, decide_true, r_numT hT n a (-5) 5 h]
theorem r_deed (n : Nat) (k : Nat) (d : De) (h : d.ok k) (s : St) : run T fuel (n + 3) i_is_deed_of [.dat (.int (k : Int)), .dat d.d] s = .ok (.bl true) s := by
  refine (run_eq hT.is_deed_of rfl).trans ?_
  cases d with
  | come p t sd =>
    obtain ⟨h1, h2⟩ := h
    simp only [kn, knl, Nat.reduceSub, Nat.reduceAdd, reduceIte, De.d, r_tup4 hT (n + 1), at0, at1, at2, at3, r_numT hT (n + 1) (p : Int) 0 ((k : Int) - 1) (by omega), r_word1 hT (n + 1), show decide (w_come ∈ [w_come]) = true from rfl, lenD_tup, show (((4 : Nat) : Int) = 4) = True from eq_true rfl, decide_true, r_spot hT n t h2, r_side hT (n + 1)]
  | go p sd =>
    simp only [kn, knl, Nat.reduceSub, Nat.reduceAdd, reduceIte, De.d, r_tup3 hT (n + 1), at0, at1, at2, r_numT hT (n + 1) (p : Int) 0 ((k : Int) - 1) (by have : p < k := h; omega), r_word1 hT (n + 1), show decide (w_go ∈ [w_come]) = false from rfl, show decide (w_go ∈ [w_go]) = true from rfl, lenD_tup, show (((3 : Nat) : Int) = 4) = False from eq_false (by decide), decide_false, r_side hT (n + 1)]
  | move p b =>
    obtain ⟨h1, h2, h3, h4⟩ := h
    simp only [kn, knl, Nat.reduceSub, Nat.reduceAdd, reduceIte, De.d, r_tup3 hT (n + 1), at0, at1, at2, r_numT hT (n + 1) (p : Int) 0 ((k : Int) - 1) (by omega), r_word1 hT (n + 1), show decide (w_move ∈ [w_come]) = false from rfl, show decide (w_move ∈ [w_go]) = false from rfl, show decide (w_move ∈ [w_move]) = true from rfl, lenD_tup, show (((3 : Nat) : Int) = 4) = False from eq_false (by decide), decide_false, r_numT hT (n + 1) b (-9) 9 ⟨h2, h3⟩, Option.map_some, h4]
  | hand p q =>
    obtain ⟨h1, h2, h3⟩ := h
    have h4 : ¬ (p : Int) = q := by omega
    simp only [kn, knl, Nat.reduceSub, Nat.reduceAdd, reduceIte, De.d, r_tup3 hT (n + 1), at0, at1, at2, r_numT hT (n + 1) (p : Int) 0 ((k : Int) - 1) (by omega), r_word1 hT (n + 1), show decide (w_hand ∈ [w_come]) = false from rfl, show decide (w_hand ∈ [w_go]) = false from rfl, show decide (w_hand ∈ [w_move]) = false from rfl, show decide (w_hand ∈ [w_hand]) = true from rfl, lenD_tup, show (((3 : Nat) : Int) = 4) = False from eq_false (by decide), decide_false, r_numT hT (n + 1) (q : Int) 0 ((k : Int) - 1) (by omega), Option.map_some, h4]
theorem r_good (n : Nat) (p : Pl) (h : p.ok) (s : St) : run T fuel (n + 4) i_is_good_plan [.dat p.d] s = .ok (.bl true) s := by
  refine (run_eq hT.is_good_plan rfl).trans ?_
  obtain ⟨h1, h2, h3, h4⟩ := h
  have lc : ∀ s, lcL (lcTurn [1] (gNm 1) none (sCallD i_is_deed_of [sItem (sVar 0) (sCst (.int 0)), sVar 1]) ⟨fuel, run T fuel (n + 3), fun _ _ _ _ => .bad⟩ [some (.dat (.tup [.int (p.folk : Int), .tup (p.des.map De.d)])), none]) (p.des.map De.d) [] s = .ok ((p.des.map De.d).map fun _ => .bl true) s := fun s => by
    rw [lcL_map (f := fun _ => .bl true)]
    · simp
    · intro d hd
      obtain ⟨e, he, rfl⟩ := List.mem_map.mp hd
      simp only [kn, knl, Nat.reduceSub, Nat.reduceAdd, reduceIte, at0, r_deed hT n p.folk e (h4 e he)]
  simp only [kn, knl, Nat.reduceSub, Nat.reduceAdd, reduceIte, Pl.d, r_tup2 hT (n + 2), at0, at1, r_numT hT (n + 2) (p.folk : Int) 1 5 (by omega), r_tupT hT (n + 2) (p.des.map De.d) 0 8 (by simp; omega), lc]
  rw [allD _ _ (by simp)]
  simp only [kn, knl, Nat.reduceSub, Nat.reduceAdd, reduceIte]
theorem r_need (n : Nat) (p : Pl) (h : p.ok) (s : St) : run T fuel (n + 5) i_need_plan [.dat p.d] s = .ok .non s := by
  refine (run_eq hT.need_plan rfl).trans ?_
  simp only [kn, knl, Nat.reduceSub, Nat.reduceAdd, reduceIte, r_good hT n p h]
end
def wF : Option Way → Fo
  | some w => w.1
  | none => (0, 0)
theorem wSte_eq (w : Option Way) : wSte w = fm (wF w) := by cases w <;> rfl
theorem wayV_sm {f : Fo} (h : -10 ≤ f.1 ∧ f.1 ≤ 10) (sd : Si) (n : Int) (se : List (Option Fo)) : -20 ≤ (wayV f sd n se).1.1.1 ∧ (wayV f sd n se).1.1.1 ≤ 20 := by
  have hl : -20 ≤ (lW f n se).1.1 ∧ (lW f n se).1.1 ≤ 20 := by show -20 ≤ f.1 + 0 ∧ f.1 + 0 ≤ 20; omega
  have hr : -20 ≤ (rW f n se).1.1 ∧ (rW f n se).1.1 ≤ 20 := by show -20 ≤ 2 - f.1 ∧ 2 - f.1 ≤ 20; omega
  unfold wayV
  cases sd
  · exact hl
  · exact hr
  · simp only []
    split
    · exact hr
    · exact hl
  · simp only []
    split
    · simp only []
      split
      · exact hr
      · exact hl
    · simp only []
      split
      · exact hl
      · exact hr
theorem doV_way {se : List (Option Fo)} (h : SmS se) (d : De) (n : Int) : -20 ≤ (wF (doV se d n).1).1 ∧ (wF (doV se d n).1).1 ≤ 20 := by
  have z : -20 ≤ (wF none).1 ∧ (wF none).1 ≤ 20 := by decide
  cases d with
  | come p t s =>
    have := spot_sm t n
    simp only [doV, comeV]
    split
    · split
      · exact wayV_sm (by omega) s n se
      · exact z
    · exact z
  | go p s =>
    simp only [doV, goV]
    split
    · rename_i f e
      exact wayV_sm (h.at_ e) s n se
    · exact z
  | move p b =>
    simp only [doV, moveV]
    split
    · split
      · show (-20 : Int) ≤ 0 ∧ (0 : Int) ≤ 20; omega
      · exact z
    · exact z
  | hand p q =>
    simp only [doV, handV]
    split
    · simp only []
      split
      · show (-20 : Int) ≤ 0 ∧ (0 : Int) ≤ 20; omega
      · exact z
    · exact z
theorem lastL_way (n : Int) : ∀ (r : List De) {se : List (Option Fo)}, SmS se → ∀ w ∈ (lastL n r se).1, -20 ≤ (wF w).1 ∧ (wF w).1 ≤ 20
  | [], _, _, w, hw => by simp [lastL] at hw
  | d :: r, se, h, w, hw => by
    rcases List.mem_cons.mp hw with z | z
    · rw [z]; exact doV_way h d n
    · exact lastL_way n r (doV_sm h d n) w z
structure TN (T : Nat → Option FD) : Prop extends TP T, TR T where
  need_n : T i_need_n = some fd_need_n
structure TD (T : Nat → Option FD) : Prop extends TN T where
  done : T i_done = some fd_done
  stood : T i_stood = some fd_stood
  steps : T i_steps = some fd_steps
  step_forms : T i_step_forms = some fd_step_forms
def NOk (z : Int) : Prop := 12 ≤ z ∧ z ≤ 10 ^ 30
section
variable {T : Nat → Option FD} {fuel : Nat} (hT : TD T)
include hT
theorem r_need_n (n : Nat) (z : Int) (h : NOk z) (s : St) : run T fuel (n + 2) i_need_n [.dat (.int z)] s = .ok .non s := by
  refine (run_eq hT.need_n rfl).trans ?_
  simp only [kn, knl, Nat.reduceSub, Nat.reduceAdd, reduceIte, r_numT hT.toTP n z 12 (10 ^ 30) h]
/-- what is told of each deed -/
def waysOf (p : Pl) (z : Int) : List (Option Way) := (lastL z p.des (List.replicate p.folk none)).1
theorem r_done (n : Nat) (p : Pl) (h : p.ok) (z : Int) (hz : NOk z) (s : St) : ∃ g, run T fuel (n + 10) i_done [.dat p.d, .dat (.int z)] s = .ok (.tup ((waysOf p z).map wDid)) (s ++ g) := by
  obtain ⟨g, L⟩ := r_last (fuel := fuel) hT.toTR n p h z s
  refine ⟨obL (lastL z p.des (List.replicate p.folk none)).2.1 (lastL z p.des (List.replicate p.folk none)).1 (lastL z p.des (List.replicate p.folk none)).2.2 :: g, (run_eq hT.done rfl).trans ?_⟩
  simp only [kn, knl, Nat.reduceSub, Nat.reduceAdd, reduceIte, r_need hT.toTP (n + 4) p h, r_need_n hT (n + 7) z hz, L, itL_did]
  rfl
theorem r_stood (n : Nat) (p : Pl) (h : p.ok) (z : Int) (hz : NOk z) (s : St) : ∃ g, run T fuel (n + 10) i_stood [.dat p.d, .dat (.int z)] s = .ok (.tup ((waysOf p z).map wSto)) (s ++ g) := by
  obtain ⟨g, L⟩ := r_last (fuel := fuel) hT.toTR n p h z s
  refine ⟨obL (lastL z p.des (List.replicate p.folk none)).2.1 (lastL z p.des (List.replicate p.folk none)).1 (lastL z p.des (List.replicate p.folk none)).2.2 :: g, (run_eq hT.stood rfl).trans ?_⟩
  simp only [kn, knl, Nat.reduceSub, Nat.reduceAdd, reduceIte, r_need hT.toTP (n + 4) p h, r_need_n hT (n + 7) z hz, L, itL_stood]
  rfl
theorem r_steps (n : Nat) (p : Pl) (h : p.ok) (z : Int) (hz : NOk z) (s : St) : ∃ g, run T fuel (n + 10) i_steps [.dat p.d, .dat (.int z)] s = .ok (.tup ((waysOf p z).map fun w => .int (wth (wF w) z))) (s ++ g) := by
  obtain ⟨g, L⟩ := r_last (fuel := fuel) hT.toTR n p h z s
  refine ⟨obL (lastL z p.des (List.replicate p.folk none)).2.1 (lastL z p.des (List.replicate p.folk none)).1 (lastL z p.des (List.replicate p.folk none)).2.2 :: g, (run_eq hT.steps rfl).trans ?_⟩
  have e1 : ∀ (ws : List (Option Way)) s (e0 : En), e0 = [some (.dat p.d), some (.dat (.int z)), none] → (∀ w ∈ ws, -20 ≤ (wF w).1 ∧ (wF w).1 ≤ 20) → lcL (lcTurn [2] (gNm 2) none (sCallD i_worth [sVar 2, sVar 1]) ⟨fuel, run T fuel (n + 9), fun _ _ _ _ => .bad⟩ e0) (ws.map wSte) [] s = .ok (ws.map fun w => .int (wth (wF w) z)) s := by
    intro ws s e0 he hw
    subst he
    have go : ∀ (ws : List (Option Way)) (acc : List D), (∀ w ∈ ws, -20 ≤ (wF w).1 ∧ (wF w).1 ≤ 20) → lcL (lcTurn [2] (gNm 2) none (sCallD i_worth [sVar 2, sVar 1]) ⟨fuel, run T fuel (n + 9), fun _ _ _ _ => .bad⟩ [some (.dat p.d), some (.dat (.int z)), none]) (ws.map wSte) acc s = .ok (acc ++ ws.map fun w => .int (wth (wF w) z)) s := by
      intro ws
      induction ws with
      | nil => intro acc _; simp [lcL]
      | cons w ws ih =>
        intro acc hw
        have h0 := hw w List.mem_cons_self
        have W := r_worth (fuel := fuel) hT.toTF (n + 8) (wF w).1 (wF w).2 z (by omega) s
        have t1 : lcTurn [2] (gNm 2) none (sCallD i_worth [sVar 2, sVar 1]) ⟨fuel, run T fuel (n + 9), fun _ _ _ _ => .bad⟩ [some (.dat p.d), some (.dat (.int z)), none] (wSte w) s = .ok (some (.int (wth (wF w) z))) s := by
          rw [wSte_eq]
          simp only [kn, knl, Nat.reduceSub, Nat.reduceAdd, reduceIte, W]
          rfl
        rw [List.map_cons]
        simp only [lcL, t1]
        rw [ih _ fun w' h' => hw w' (List.mem_cons_of_mem _ h')]
        simp
    exact (go ws [] hw).trans (by simp)
  have hs : SmS (List.replicate p.folk none) := fun f hf => by simp at hf
  simp only [kn, knl, Nat.reduceSub, Nat.reduceAdd, reduceIte, r_need hT.toTP (n + 4) p h, r_need_n hT (n + 7) z hz, L, itL_steps]
  rw [e1 _ _ _ rfl (lastL_way z p.des hs)]
  simp only [kn, knl, Nat.reduceSub, Nat.reduceAdd, reduceIte, tupleD]
  rfl
theorem r_forms (n : Nat) (p : Pl) (h : p.ok) (z : Int) (hz : NOk z) (s : St) : ∃ g, run T fuel (n + 10) i_step_forms [.dat p.d, .dat (.int z)] s = .ok (.tup ((waysOf p z).map wSte)) (s ++ g) := by
  obtain ⟨g, L⟩ := r_last (fuel := fuel) hT.toTR n p h z s
  refine ⟨obL (lastL z p.des (List.replicate p.folk none)).2.1 (lastL z p.des (List.replicate p.folk none)).1 (lastL z p.des (List.replicate p.folk none)).2.2 :: g, (run_eq hT.step_forms rfl).trans ?_⟩
  simp only [kn, knl, Nat.reduceSub, Nat.reduceAdd, reduceIte, r_need hT.toTP (n + 4) p h, r_need_n hT (n + 7) z hz, L, itL_steps]
  rfl
end
end Kn
set_option Elab.async false
set_option linter.all false
set_option maxHeartbeats 2000000
/-! KnD1: how a law draws. -/
namespace Kn
def so (x y : Int) : Ob := .lst [.int x, .int y]
def SoOk (x y : Int) : Prop := 0 ≤ x ∧ 0 ≤ y ∧ y < 2147483647
theorem itemL {s : St} {k : Nat} {xs : List D} (h : s[k]? = some (.lst xs)) (j : Int) : itemD s (.ref k) (.int j) = ofO (atD xs j) s := by
  simp only [itemD, h]
theorem setL0 {s : St} {k : Nat} {a b : D} (h : s[k]? = some (.lst [a, b])) (d : D) : setD s (.ref k) (.int 0) d = some (s.set k (.lst [d, b])) := by
  have e : ixN [a, b].length 0 = some 0 := ixN_nat (by simp)
  simp only [setD, h, e]
  rfl
theorem setL1 {s : St} {k : Nat} {a b : D} (h : s[k]? = some (.lst [a, b])) (d : D) : setD s (.ref k) (.int 1) d = some (s.set k (.lst [a, d])) := by
  have e : ixN [a, b].length 1 = some 1 := ixN_nat (by simp)
  simp only [setD, h, e]
  rfl
theorem intF (s : St) (i : Int) : bfD s .int [.int i] = .ok (.int i) s := rfl
/-- the source stands so in the store, drawn from it may have been -/
def Dr (k : Nat) (s s' : St) : Prop := ∃ x y, SoOk x y ∧ s' = s.set k (so x y)
def Has (k : Nat) (s : St) : Prop := ∃ x y, SoOk x y ∧ s[k]? = some (so x y)
theorem Has.dr {k : Nat} {s s' : St} (h : Has k s) (d : Dr k s s') : Has k s' := by
  obtain ⟨x, y, _, h⟩ := h
  obtain ⟨x', y', ok, rfl⟩ := d
  exact ⟨x', y', ok, List.getElem?_set_self (List.getElem?_eq_some_iff.mp h).1⟩
theorem Dr.trans {k : Nat} {s s1 s2 : St} (a : Dr k s s1) (b : Dr k s1 s2) : Dr k s s2 := by
  obtain ⟨x, y, _, rfl⟩ := a
  obtain ⟨x', y', ok, rfl⟩ := b
  exact ⟨x', y', ok, by rw [List.set_set]⟩
theorem Has.refl {k : Nat} {s : St} (h : Has k s) : Dr k s s := by
  obtain ⟨x, y, ok, h⟩ := h
  exact ⟨x, y, ok, (set_same h).symm⟩
structure TW (T : Nat → Option FD) : Prop where
  draw : T i_law_draw = some fd_law_draw
  of_ : T i_law_of = some fd_law_of
  spot : T i_law_spot = some fd_law_spot
  side : T i_law_side = some fd_law_side
section
variable {T : Nat → Option FD} {fuel : Nat} (hT : TW T)
include hT
theorem r_draw (n : Nat) {k : Nat} {s : St} (h : Has k s) (m : Int) (h0 : 0 < m) (h1 : m < 1073741824) : ∃ v s', 0 ≤ v ∧ v < m ∧ Dr k s s' ∧ run T fuel (n + 1) i_law_draw [.dat (.ref k), .dat (.int m)] s = .ok (.int v) s' := by
  obtain ⟨x, y, ⟨hx, hy, hy2⟩, hs⟩ := h
  by_cases c : 0 < x
  · refine ⟨x % m, s.set k (so (x / m) y), Int.emod_nonneg x (by omega), Int.emod_lt_of_pos x h0, ⟨x / m, y, ⟨Int.ediv_nonneg hx (by omega), hy, hy2⟩, rfl⟩, (run_eq hT.draw rfl).trans ?_⟩
    simp only [kn, knl, Nat.reduceSub, Nat.reduceAdd, reduceIte, itemL hs, at0, c, decide_true, intF, boD_mod s h0, boD_div s ⟨h0, h1⟩, setL0 hs]
    rfl
  · have hk := (List.getElem?_eq_some_iff.mp hs).1
    generalize hw : y * 48271 % 2147483647 = w
    have hw0 : 0 ≤ w := by rw [← hw]; exact Int.emod_nonneg _ (by decide)
    have hw1 : w < 2147483647 := by rw [← hw]; exact Int.emod_lt_of_pos _ (by decide)
    have hs' : (s.set k (.lst [.int x, .int w]))[k]? = some (.lst [.int x, .int w]) := List.getElem?_set_self hk
    refine ⟨(w * w % 2147483629 / 64) % m, s.set k (so x w), Int.emod_nonneg _ (by omega), Int.emod_lt_of_pos _ h0, ⟨x, w, ⟨hx, hw0, hw1⟩, rfl⟩, (run_eq hT.draw rfl).trans ?_⟩
    simp only [kn, knl, Nat.reduceSub, Nat.reduceAdd, reduceIte, itemL hs, at0, at1, c, decide_false, boD_mul s (a := y) (b := 48271) (.inr (by unfold big; omega)), intF, boD_mod s (a := y * 48271) (b := 2147483647) (by decide), hw, setL1 hs, itemL hs', boD_mul _ (a := w) (b := w) (.inl (by unfold big; omega)), boD_mod _ (a := w * w) (b := 2147483629) (by decide), boD_div _ (a := w * w % 2147483629) (b := 64) (by decide), boD_mod _ (a := w * w % 2147483629 / 64) h0]
    rfl
theorem r_of (n : Nat) {k : Nat} {s : St} (h : Has k s) (xs : List D) (h0 : 0 < xs.length) (h1 : xs.length < 1000) : ∃ d s', d ∈ xs ∧ Dr k s s' ∧ run T fuel (n + 2) i_law_of [.dat (.ref k), .dat (.lst xs)] s = .ok d s' := by
  obtain ⟨v, s', v0, v1, dr, e⟩ := r_draw (fuel := fuel) hT n h (xs.length : Int) (by omega) (by omega)
  obtain ⟨j, rfl⟩ : ∃ j : Nat, v = j := ⟨v.toNat, by omega⟩
  have hj : j < xs.length := by omega
  refine ⟨xs[j], s', List.getElem_mem hj, dr, (run_eq hT.of_ rfl).trans ?_⟩
  have a := atD_nat (List.getElem?_eq_getElem hj)
  simp only [kn, knl, Nat.reduceSub, Nat.reduceAdd, reduceIte, show ∀ s, bfD s .len [.lst xs] = .ok (.int xs.length) s from fun s => rfl, e, a]
end
end Kn
set_option Elab.async false
set_option linter.all false
set_option maxHeartbeats 2000000
/-! KnD2: drawn plans, drawn numbers. -/
namespace Kn
structure TX (T : Nat → Option FD) : Prop extends TW T where
  source : T i_law_source = some fd_law_source
  deed : T i_law_deed = some fd_law_deed
theorem lenRo (s : St) (xs : List D) : bfD s .len [.ro xs] = .ok (.int xs.length) s := rfl
section
variable {T : Nat → Option FD} {fuel : Nat}
theorem r_source (hT : TX T) (n : Nat) (ns : List Int) (k : Nat) (s : St) : ∃ x y, SoOk x y ∧ run T fuel (n + 1) i_law_source [.dat (.ro (ns.map .int)), .dat (.int (k : Int))] s = .ok (.ref s.length) (s ++ [so x y]) := by
  have m1 : ∀ a : Int, 0 ≤ 1 + a % 2147483646 ∧ 1 + a % 2147483646 < 2147483647 := fun a => by
    have h1 := Int.emod_nonneg a (show (2147483646 : Int) ≠ 0 by decide)
    have h2 := Int.emod_lt_of_pos a (show (0 : Int) < 2147483646 by decide)
    omega
  have go : ∀ c : Int, 0 ≤ c → ∃ x y, SoOk x y ∧ (RS.fin ((RS.nx [some (.dat (.ro (ns.map .int))), some (.dat (.int (k : Int))), some (.dat (.int c))] s).seq (xSeq [xIf (sCmp .lt (sVar 2) (sBin .pow (sCst (.int 10)) (sCst (.int 18)))) (xSeq [xRet (sLst true [sCst (.int 0), sBin .add (sCst (.int 1)) (sBin .mod (sBf .int [sBin .add (sBin .mul (sVar 2) (sCst (.int 7919))) (sBin .mul (sCst (.int 104729)) (sVar 1))]) (sCst (.int 2147483646)))])]) (xSeq []),
    xRet (sLst true [sVar 2, sBin .add (sCst (.int 1)) (sBin .mod (sBf .int [sBin .add (sVar 2) (sVar 1)]) (sCst (.int 2147483646)))])] ⟨fuel, run T fuel n, fun _ _ _ _ => .bad⟩))) = .ok (.ref s.length) (s ++ [so x y]) := by
    intro c hc
    by_cases h : c < 10 ^ (18 : Int).toNat
    · refine ⟨0, 1 + (c * 7919 + 104729 * (k : Int)) % 2147483646, ⟨by decide, (m1 _).1, (m1 _).2⟩, ?_⟩
      simp only [kn, knl, Nat.reduceSub, Nat.reduceAdd, reduceIte, boD_pow s (a := 10) (b := 18) (by decide), h, decide_true, boD_mul s (a := c) (b := 7919) (.inr (by decide)), boD_mul s (a := 104729) (b := (k : Int)) (.inl (by decide)), intF, boD_mod s (a := c * 7919 + 104729 * (k : Int)) (b := 2147483646) (by decide)]
      rfl
    · refine ⟨c, 1 + (c + (k : Int)) % 2147483646, ⟨hc, (m1 _).1, (m1 _).2⟩, ?_⟩
      simp only [kn, knl, Nat.reduceSub, Nat.reduceAdd, reduceIte, boD_pow s (a := 10) (b := 18) (by decide), h, decide_false, intF, boD_mod s (a := c + (k : Int)) (b := 2147483646) (by decide)]
      rfl
  by_cases hk : k < ns.length
  · obtain ⟨x, y, ok, e⟩ := go ((ns[k].natAbs : Nat) : Int) (by omega)
    refine ⟨x, y, ok, (run_eq hT.source rfl).trans ?_⟩
    have a : atD (ns.map D.int) (k : Int) = some (.int ns[k]) := atD_nat (by simp [hk])
    have c : (k : Int) < ((ns.map D.int).length : Nat) := by simp; omega
    simp only [kn, knl, Nat.reduceSub, Nat.reduceAdd, reduceIte, lenRo, c, decide_true, a, intF, absD]
    simp only [kn, knl, Nat.reduceSub, Nat.reduceAdd, reduceIte] at e
    exact e
  · obtain ⟨x, y, ok, e⟩ := go 0 (by omega)
    refine ⟨x, y, ok, (run_eq hT.source rfl).trans ?_⟩
    have c : ¬ (k : Int) < ((ns.map D.int).length : Nat) := by simp; omega
    simp only [kn, knl, Nat.reduceSub, Nat.reduceAdd, reduceIte, lenRo, c, decide_false]
    simp only [kn, knl, Nat.reduceSub, Nat.reduceAdd, reduceIte] at e
    exact e
variable (hT : TX T)
include hT
theorem r_lspot (n : Nat) {k : Nat} {s : St} (h : Has k s) : ∃ t s', SpOk t ∧ Dr k s s' ∧ run T fuel (n + 3) i_law_spot [.dat (.ref k)] s = .ok (spD t) s' := by
  obtain ⟨d, s1, hd, dr, e⟩ := r_of (fuel := fuel) hT.toTW n h [.str w_l, .str w_l, .str w_r, .str w_r, .str w_m] (by decide) (by decide)
  have h1 := h.dr dr
  obtain ⟨w, rfl⟩ : ∃ w : Wo, d = w.d := by
    simp only [List.mem_cons, List.not_mem_nil, or_false] at hd
    rcases hd with rfl | rfl | rfl | rfl | rfl
    · exact ⟨.l, rfl⟩
    · exact ⟨.l, rfl⟩
    · exact ⟨.r, rfl⟩
    · exact ⟨.r, rfl⟩
    · exact ⟨.m, rfl⟩
  have n1 : ¬ w_l = w_m := by decide
  have n2 : ¬ w_r = w_m := by decide
  have low : ∀ w : Wo, w ≠ .m → w.d = w.d → ¬ w.s = w_m := fun w hw _ => by cases w <;> first | exact n1 | exact n2 | exact absurd rfl hw
  by_cases hw : w = .m
  · subst hw
    obtain ⟨v, s2, v0, v1, dr2, e2⟩ := r_draw (fuel := fuel) hT.toTW (n + 1) h1 11 (by decide) (by decide)
    refine ⟨(.m, v - 5), s2, ⟨by show -5 ≤ v - 5; omega, by show v - 5 ≤ 5; omega⟩, dr.trans dr2, (run_eq hT.spot rfl).trans ?_⟩
    simp only [kn, knl, Nat.reduceSub, Nat.reduceAdd, reduceIte, e, show Wo.m.s = w_m from rfl, decide_true, e2]
  · obtain ⟨v, s2, v0, v1, dr2, e2⟩ := r_draw (fuel := fuel) hT.toTW (n + 1) h1 6 (by decide) (by decide)
    refine ⟨(w, v), s2, ?_, dr.trans dr2, (run_eq hT.spot rfl).trans ?_⟩
    · cases w
      · exact ⟨v0, by show v ≤ 5; omega⟩
      · exact ⟨v0, by show v ≤ 5; omega⟩
      · exact absurd rfl hw
    · simp only [kn, knl, Nat.reduceSub, Nat.reduceAdd, reduceIte, e, low w hw rfl, decide_false, e2]
theorem r_lside (n : Nat) {k : Nat} {s : St} (h : Has k s) : ∃ (t : Si) (s' : St), Dr k s s' ∧ run T fuel (n + 3) i_law_side [.dat (.ref k)] s = .ok t.d s' := by
  obtain ⟨d, s1, hd, dr, e⟩ := r_of (fuel := fuel) hT.toTW n h [.str w_left, .str w_right, .str w_near, .str w_few] (by decide) (by decide)
  obtain ⟨w, rfl⟩ : ∃ w : Si, d = w.d := by
    simp only [List.mem_cons, List.not_mem_nil, or_false] at hd
    rcases hd with rfl | rfl | rfl | rfl
    · exact ⟨.left, rfl⟩
    · exact ⟨.right, rfl⟩
    · exact ⟨.near, rfl⟩
    · exact ⟨.few, rfl⟩
  refine ⟨w, s1, dr, (run_eq hT.side rfl).trans ?_⟩
  simp only [kn, knl, Nat.reduceSub, Nat.reduceAdd, reduceIte, e]
theorem r_ldeed (n : Nat) {k : Nat} {s : St} (h : Has k s) (f : Nat) (f0 : 1 ≤ f) (f5 : f ≤ 5) : ∃ (d : De) (s' : St), d.ok f ∧ Dr k s s' ∧ run T fuel (n + 4) i_law_deed [.dat (.ref k), .dat (.int (f : Int))] s = .ok d.d s' := by
  obtain ⟨w, s1, hw, dr1, e1⟩ := r_of (fuel := fuel) hT.toTW (n + 1) h [.str w_come, .str w_come, .str w_come, .str w_go, .str w_move, .str w_move, .str w_hand] (by decide) (by decide)
  have h1 := h.dr dr1
  obtain ⟨v, s2, v0, v1, dr2, e2⟩ := r_draw (fuel := fuel) hT.toTW (n + 2) h1 (f : Int) (by omega) (by omega)
  have h2 := h1.dr dr2
  obtain ⟨p, rfl⟩ : ∃ p : Nat, v = p := ⟨v.toNat, by omega⟩
  have hp : p < f := by omega
  have a1 : ¬ w_go = w_come := by decide
  have a2 : ¬ w_move = w_come := by decide
  have a3 : ¬ w_hand = w_come := by decide
  have a4 : ¬ w_go = w_move := by decide
  have a5 : ¬ w_hand = w_move := by decide
  have a6 : ¬ w_go = w_hand := by decide
  have hw' : w = .str w_come ∨ w = .str w_move ∨ w = .str w_hand ∨ w = .str w_go := by
    simp only [List.mem_cons, List.not_mem_nil, or_false] at hw
    rcases hw with rfl | rfl | rfl | rfl | rfl | rfl | rfl
    · exact .inl rfl
    · exact .inl rfl
    · exact .inl rfl
    · exact .inr (.inr (.inr rfl))
    · exact .inr (.inl rfl)
    · exact .inr (.inl rfl)
    · exact .inr (.inr (.inl rfl))
  rcases hw' with rfl | rfl | rfl | rfl
  · obtain ⟨t, s3, ht, dr3, e3⟩ := r_lspot (fuel := fuel) hT n h2
    obtain ⟨sd, s4, dr4, e4⟩ := r_lside (fuel := fuel) hT n (h2.dr dr3)
    refine ⟨.come p t sd, s4, ⟨hp, ht⟩, ((dr1.trans dr2).trans dr3).trans dr4, (run_eq hT.deed rfl).trans ?_⟩
    simp only [kn, knl, Nat.reduceSub, Nat.reduceAdd, reduceIte, e1, e2, decide_true, e3, e4]
    rfl
  · obtain ⟨b, s3, b0, b1, dr3, e3⟩ := r_draw (fuel := fuel) hT.toTW (n + 2) h2 9 (by decide) (by decide)
    obtain ⟨c, s4, c0, c1, dr4, e4⟩ := r_draw (fuel := fuel) hT.toTW (n + 2) (h2.dr dr3) 2 (by decide) (by decide)
    by_cases hc : c = 0
    · refine ⟨.move p (1 + b), s4, ⟨hp, by omega, by omega, by omega⟩, ((dr1.trans dr2).trans dr3).trans dr4, (run_eq hT.deed rfl).trans ?_⟩
      simp only [kn, knl, Nat.reduceSub, Nat.reduceAdd, reduceIte, e1, e2, decide_true, decide_false, a2, e3, e4, hc]
      rfl
    · refine ⟨.move p (-(1 + b)), s4, ⟨hp, by omega, by omega, by omega⟩, ((dr1.trans dr2).trans dr3).trans dr4, (run_eq hT.deed rfl).trans ?_⟩
      simp only [kn, knl, Nat.reduceSub, Nat.reduceAdd, reduceIte, e1, e2, decide_true, decide_false, a2, e3, e4, hc]
      rfl
  · by_cases hf : 1 < (f : Int)
    · obtain ⟨c, s3, c0, c1, dr3, e3⟩ := r_draw (fuel := fuel) hT.toTW (n + 2) h2 ((f : Int) - 1) (by omega) (by omega)
      have m0 := Int.emod_nonneg ((p : Int) + 1 + c) (show (f : Int) ≠ 0 by omega)
      have m1 := Int.emod_lt_of_pos ((p : Int) + 1 + c) (show 0 < (f : Int) by omega)
      obtain ⟨q, hq⟩ : ∃ q : Nat, ((p : Int) + 1 + c) % f = q := ⟨(((p : Int) + 1 + c) % f).toNat, by omega⟩
      have hpq : p ≠ q := by
        intro z
        subst z
        have := Int.emod_emod_of_dvd
        have e5 : ((p : Int) + 1 + c) % f = p := hq
        by_cases hlt : (p : Int) + 1 + c < f
        · rw [Int.emod_eq_of_lt (by omega) hlt] at e5
          omega
        · have e6 : ((p : Int) + 1 + c) % f = (p : Int) + 1 + c - f := by
            have : ((p : Int) + 1 + c) % f = ((p : Int) + 1 + c - f) % f := by rw [Int.sub_emod_right]
            rw [this, Int.emod_eq_of_lt (by omega) (by omega)]
          omega
      refine ⟨.hand p q, s3, ⟨hp, by omega, hpq⟩, (dr1.trans dr2).trans dr3, (run_eq hT.deed rfl).trans ?_⟩
      simp only [kn, knl, Nat.reduceSub, Nat.reduceAdd, reduceIte, e1, e2, decide_true, decide_false, a3, a5, hf, e3, boD_mod s3 (a := (p : Int) + 1 + c) (b := (f : Int)) (by omega), hq]
      rfl
    · obtain ⟨sd, s3, dr3, e3⟩ := r_lside (fuel := fuel) hT n h2
      refine ⟨.go p sd, s3, hp, (dr1.trans dr2).trans dr3, (run_eq hT.deed rfl).trans ?_⟩
      simp only [kn, knl, Nat.reduceSub, Nat.reduceAdd, reduceIte, e1, e2, decide_true, decide_false, a3, a5, hf, e3]
      rfl
  · obtain ⟨sd, s3, dr3, e3⟩ := r_lside (fuel := fuel) hT n h2
    refine ⟨.go p sd, s3, hp, (dr1.trans dr2).trans dr3, (run_eq hT.deed rfl).trans ?_⟩
    simp only [kn, knl, Nat.reduceSub, Nat.reduceAdd, reduceIte, e1, e2, decide_true, decide_false, a1, a4, a6, e3]
    rfl
end
structure TY (T : Nat → Option FD) : Prop extends TX T where
  plan : T i_law_plan = some fd_law_plan
section
variable {T : Nat → Option FD} {fuel : Nat} (hT : TY T)
include hT
theorem r_lplan (n : Nat) {k : Nat} {s : St} (h : Has k s) (M : Nat) (hM : M ≤ 100) : ∃ (f : Nat) (ds : List De) (s' : St), 1 ≤ f ∧ f ≤ 5 ∧ ds.length ≤ M ∧ (∀ d ∈ ds, d.ok f) ∧ Dr k s s' ∧ run T fuel (n + 5) i_law_plan [.dat (.ref k), .dat (.int (M : Int))] s = .ok (.tup [.int (f : Int), .tup (ds.map De.d)]) s' := by
  obtain ⟨v, s1, v0, v1, dr1, e1⟩ := r_draw (fuel := fuel) hT.toTW (n + 3) h 5 (by decide) (by decide)
  have h1 := h.dr dr1
  obtain ⟨f, hf⟩ : ∃ f : Nat, 1 + v = f := ⟨(1 + v).toNat, by omega⟩
  have f1 : 1 ≤ f := by omega
  have f5 : f ≤ 5 := by omega
  obtain ⟨t, s2, t0, t1, dr2, e2⟩ := r_draw (fuel := fuel) hT.toTW (n + 3) h1 ((M : Int) + 1) (by omega) (by omega)
  have h2 := h1.dr dr2
  obtain ⟨t, rfl⟩ : ∃ j : Nat, t = j := ⟨t.toNat, by omega⟩
  have loop : ∀ (l : List Nat) (ds : List De) (s : St) (u w : Option Ag), Has k s → (∀ d ∈ ds, d.ok f) → ds.length + l.length ≤ 100 →
      ∃ (ds' : List De) (s' : St) (u' w' : Option Ag), (∀ d ∈ ds', d.ok f) ∧ ds'.length = ds.length + l.length ∧ Dr k s s' ∧ forL (gNm 4) (xSeq [xAsg (gNm 5) (sCallD i_law_deed [sVar 0, sVar 2]),
        xIf (sAnd [sCmp .lt (sVar 4) (sVar 2), sCmp .gt (sCallD i_law_draw [sVar 0, sCst (.int 4)]) (sCst (.int 0))]) (xSeq [xAsg (gNm 5) (sTup [sCst (.str w_come), sVar 4, sCallD i_law_spot [sVar 0], sCallD i_law_side [sVar 0]])]) (xSeq []),
        xAsg (gNm 3) (sBin .add (sVar 3) (sTup [sVar 5]))] ⟨fuel, run T fuel (n + 4), fun _ _ _ _ => .bad⟩)
        (l.map fun (i : Nat) => D.int (i : Int)) [some (.dat (.ref k)), some (.dat (.int (M : Int))), some (.dat (.int (f : Int))), some (.dat (.tup (ds.map De.d))), u, w] s =
        .nx [some (.dat (.ref k)), some (.dat (.int (M : Int))), some (.dat (.int (f : Int))), some (.dat (.tup (ds'.map De.d))), u', w'] s' := by
    intro l
    induction l with
    | nil =>
      intro ds s u w h hd hl
      exact ⟨ds, s, u, w, hd, rfl, h.refl, rfl⟩
    | cons i l ih =>
      intro ds s u w h hd hl
      rw [List.length_cons] at hl
      obtain ⟨d, s3, dok, dr3, e3⟩ := r_ldeed (fuel := fuel) hT.toTX n h f f1 f5
      have h3 := h.dr dr3
      have eg : ∀ d e s, gNm 4 d e s = some (e.set 4 (some (.dat d))) := fun d e s => rfl
      have fin : ∀ (d : De) (s4 : St), d.ok f → Dr k s s4 → ∃ (ds' : List De) (s' : St) (u' w' : Option Ag), (∀ d ∈ ds', d.ok f) ∧ ds'.length = ds.length + (l.length + 1) ∧ Dr k s s' ∧ forL (gNm 4) (xSeq [xAsg (gNm 5) (sCallD i_law_deed [sVar 0, sVar 2]),
        xIf (sAnd [sCmp .lt (sVar 4) (sVar 2), sCmp .gt (sCallD i_law_draw [sVar 0, sCst (.int 4)]) (sCst (.int 0))]) (xSeq [xAsg (gNm 5) (sTup [sCst (.str w_come), sVar 4, sCallD i_law_spot [sVar 0], sCallD i_law_side [sVar 0]])]) (xSeq []),
        xAsg (gNm 3) (sBin .add (sVar 3) (sTup [sVar 5]))] ⟨fuel, run T fuel (n + 4), fun _ _ _ _ => .bad⟩)
        (l.map fun (i : Nat) => D.int (i : Int)) [some (.dat (.ref k)), some (.dat (.int (M : Int))), some (.dat (.int (f : Int))), some (.dat (.tup (ds.map De.d ++ [d.d]))), some (.dat (.int (i : Int))), some (.dat d.d)] s4 =
        .nx [some (.dat (.ref k)), some (.dat (.int (M : Int))), some (.dat (.int (f : Int))), some (.dat (.tup (ds'.map De.d))), u', w'] s' := by
        intro d s4 hd4 dr4
        obtain ⟨ds', s', u', w', i1, i2, i3, i4⟩ := ih (ds ++ [d]) s4 (some (.dat (.int (i : Int)))) (some (.dat d.d)) (h.dr dr4) (fun e he => by
          rcases List.mem_append.mp he with z | z
          · exact hd e z
          · rw [List.mem_singleton.mp z]; exact hd4) (by simp; omega)
        refine ⟨ds', s', u', w', i1, by rw [i2]; simp; omega, dr4.trans i3, ?_⟩
        rw [List.map_append] at i4
        exact i4
      have hadd : ∀ (s : St) (d : De), boD s .add (.tup (ds.map De.d)) (.tup [d.d]) = .ok (.tup (ds.map De.d ++ [d.d])) s := fun s d => boD_addT s (by simp; unfold line; omega)
      by_cases hi : (i : Int) < f
      · obtain ⟨c, s4, c0, c1, dr4, e4⟩ := r_draw (fuel := fuel) hT.toTW (n + 3) h3 4 (by decide) (by decide)
        have h4 := h3.dr dr4
        by_cases hc : 0 < c
        · obtain ⟨sp, s5, hsp, dr5, e5⟩ := r_lspot (fuel := fuel) hT.toTX (n + 1) h4
          obtain ⟨sd, s6, dr6, e6⟩ := r_lside (fuel := fuel) hT.toTX (n + 1) (h4.dr dr5)
          obtain ⟨ds', s', u', w', j1, j2, j3, j4⟩ := fin (.come i sp sd) s6 ⟨by omega, hsp⟩ (((dr3.trans dr4).trans dr5).trans dr6)
          refine ⟨ds', s', u', w', j1, j2, j3, ?_⟩
          rw [List.map_cons, forL_cons (eg _ _ _)]
          simp only [kn, knl, Nat.reduceSub, Nat.reduceAdd, reduceIte, e3, hi, e4, hc, decide_true, e5, e6]
          rw [show D.tup [.str w_come, .int (i : Int), spD sp, sd.d] = (De.come i sp sd).d from rfl]
          simp only [kn, knl, Nat.reduceSub, Nat.reduceAdd, reduceIte, hadd]
          exact j4
        · obtain ⟨ds', s', u', w', j1, j2, j3, j4⟩ := fin d s4 dok (dr3.trans dr4)
          refine ⟨ds', s', u', w', j1, j2, j3, ?_⟩
          rw [List.map_cons, forL_cons (eg _ _ _)]
          simp only [kn, knl, Nat.reduceSub, Nat.reduceAdd, reduceIte, e3, hi, e4, hc, decide_true, decide_false, hadd]
          exact j4
      · obtain ⟨ds', s', u', w', j1, j2, j3, j4⟩ := fin d s3 dok dr3
        refine ⟨ds', s', u', w', j1, j2, j3, ?_⟩
        rw [List.map_cons, forL_cons (eg _ _ _)]
        simp only [kn, knl, Nat.reduceSub, Nat.reduceAdd, reduceIte, e3, hi, decide_false, hadd]
        exact j4
  obtain ⟨ds, s', u', w', j1, j2, j3, j4⟩ := loop (List.range t) [] s2 none none h2 (fun d hd => by cases hd) (by simp; omega)
  refine ⟨f, ds, s', f1, f5, by rw [j2]; simp; omega, j1, (dr1.trans dr2).trans j3, (run_eq hT.plan rfl).trans ?_⟩
  have rng : ∀ s, rng1 s (.int (t : Int)) = .ok (.fix (rangeD 0 t), (rangeD 0 t).length) s := fun s => by
    rw [rng1_int s (by unfold lim; omega), rangeD_len]
    simp
  have e5 : rangeD 0 t = (List.range t).map fun (i : Nat) => D.int (i : Int) := by
    unfold rangeD
    simp
  simp only [kn, knl, Nat.reduceSub, Nat.reduceAdd, reduceIte, e1, hf, e2, rng, e5]
  rw [e5] at *
  have j4 : forL _ _ _ [some (.dat (.ref k)), some (.dat (.int (M : Int))), some (.dat (.int (f : Int))), some (.dat (.tup [])), none, none] s2 = _ := j4
  rw [j4]
  simp only [kn, knl, Nat.reduceSub, Nat.reduceAdd, reduceIte]
end
end Kn
set_option Elab.async false
set_option linter.all false
set_option maxHeartbeats 2000000
/-! KnD3: who sits where, as pairs. -/
namespace Kn
def occ : Nat → List (Option Fo) → List (Nat × Fo)
  | _, [] => []
  | i, none :: r => occ (i + 1) r
  | i, some f :: r => (i, f) :: occ (i + 1) r
theorem occ_ge : ∀ (se : List (Option Fo)) (i : Nat) (p : Nat × Fo), p ∈ occ i se → i ≤ p.1 ∧ p.1 < i + se.length
  | [], _, _, h => by simp [occ] at h
  | none :: r, i, p, h => by
    have := occ_ge r (i + 1) p h
    simp only [List.length_cons]
    omega
  | some f :: r, i, p, h => by
    rcases List.mem_cons.mp h with z | z
    · rw [z]; simp
    · have := occ_ge r (i + 1) p z
      simp only [List.length_cons]
      omega
theorem occ_mem : ∀ (se : List (Option Fo)) (i j : Nat) (f : Fo), (i + j, f) ∈ occ i se ↔ se[j]? = some (some f)
  | [], i, j, f => by simp [occ]
  | none :: r, i, 0, f => by
    simp only [occ, List.getElem?_cons_zero, Option.some.injEq, reduceCtorEq, iff_false]
    intro h
    have := occ_ge r (i + 1) _ h
    simp at this
    omega
  | none :: r, i, j + 1, f => by
    rw [List.getElem?_cons_succ, ← occ_mem r (i + 1) j f]
    simp only [occ]
    rw [show i + (j + 1) = i + 1 + j by omega]
  | some g :: r, i, 0, f => by
    simp only [occ, List.getElem?_cons_zero, Option.some.injEq]
    constructor
    · intro h
      rcases List.mem_cons.mp h with z | z
      · cases z; rfl
      · have := occ_ge r (i + 1) _ z
        simp at this
        omega
    · intro h
      rw [h]
      exact List.mem_cons_self
  | some g :: r, i, j + 1, f => by
    rw [List.getElem?_cons_succ, ← occ_mem r (i + 1) j f]
    simp only [occ]
    rw [show i + (j + 1) = i + 1 + j by omega]
    constructor
    · intro h
      rcases List.mem_cons.mp h with z | z
      · have : i + 1 + j = i := (Prod.mk.inj z).1
        omega
      · exact z
    · exact fun h => List.mem_cons_of_mem _ h
theorem occ_sort : ∀ (se : List (Option Fo)) (i : Nat), (occ i se).Pairwise fun a b => a.1 < b.1
  | [], _ => .nil
  | none :: r, i => occ_sort r (i + 1)
  | some f :: r, i => by
    refine .cons (fun p h => ?_) (occ_sort r (i + 1))
    have := occ_ge r (i + 1) p h
    simp only []
    omega
theorem bes_occ (f : Fo) (sg n : Int) : ∀ (se : List (Option Fo)) (i : Nat), bes f sg n i se = ((occ i se).filter fun p => decide (sgn (wth (lessF p.2 f) n) = sg)).map (·.1)
  | [], _ => by simp [bes, occ]
  | none :: r, i => by simp [bes, occ, bes_occ f sg n r]
  | some g :: r, i => by
    simp only [bes, occ, List.filter_cons]
    by_cases h : sgn (wth (lessF g f) n) = sg
    · simp [h, bes_occ f sg n r]
    · simp [h, bes_occ f sg n r]
theorem occ_set_some : ∀ (se : List (Option Fo)) (i j : Nat) (f : Fo), se[j]? = some none → (occ i (se.set j (some f))).Perm ((i + j, f) :: occ i se)
  | [], _, _, _, h => by simp at h
  | none :: r, i, 0, f, _ => by simp [occ]
  | some g :: r, i, 0, f, h => by simp at h
  | none :: r, i, j + 1, f, h => by
    have := occ_set_some r (i + 1) j f (by simpa using h)
    simp only [List.set_cons_succ, occ]
    rw [show i + (j + 1) = i + 1 + j by omega]
    exact this
  | some g :: r, i, j + 1, f, h => by
    have := occ_set_some r (i + 1) j f (by simpa using h)
    simp only [List.set_cons_succ, occ]
    rw [show i + (j + 1) = i + 1 + j by omega]
    exact (List.Perm.cons _ this).trans (List.Perm.swap _ _ _)
theorem occ_set_none : ∀ (se : List (Option Fo)) (i j : Nat), occ i (se.set j none) = (occ i se).filter fun p => decide (p.1 ≠ i + j)
  | [], _, _ => by simp [occ]
  | o :: r, i, 0 => by
    have keep : ∀ p ∈ occ (i + 1) r, decide (p.1 ≠ i) = true := fun p h => by
      have := occ_ge r (i + 1) p h
      simp
      omega
    cases o with
    | none =>
      simp only [List.set_cons_zero, occ, Nat.add_zero]
      exact (List.filter_eq_self.mpr keep).symm
    | some g =>
      simp only [List.set_cons_zero, occ, Nat.add_zero, List.filter_cons]
      simp only [ne_eq, not_true_eq_false, decide_false, Bool.false_eq_true, if_false]
      exact (List.filter_eq_self.mpr keep).symm
  | none :: r, i, j + 1 => by
    simp only [List.set_cons_succ, occ]
    rw [occ_set_none r (i + 1) j, show i + (j + 1) = i + 1 + j by omega]
  | some g :: r, i, j + 1 => by
    simp only [List.set_cons_succ, occ, List.filter_cons]
    rw [occ_set_none r (i + 1) j, show i + (j + 1) = i + 1 + j by omega]
    have : decide (i ≠ i + 1 + j) = true := by simp; omega
    rw [if_pos this]
theorem occ_set_repl : ∀ (se : List (Option Fo)) (i j : Nat) (f g : Fo), se[j]? = some (some g) → occ i (se.set j (some f)) = (occ i se).map fun p => if p.1 = i + j then (p.1, f) else p
  | [], _, _, _, _, h => by simp at h
  | none :: r, i, 0, f, g, h => by simp at h
  | some g' :: r, i, 0, f, g, _ => by
    simp only [List.set_cons_zero, occ, Nat.add_zero, List.map_cons, if_true]
    congr 1
    refine (List.map_id _).symm.trans (List.map_congr_left fun p h => ?_)
    have := occ_ge r (i + 1) p h
    rw [if_neg (by omega)]
    rfl
  | none :: r, i, j + 1, f, g, h => by
    simp only [List.set_cons_succ, occ]
    rw [occ_set_repl r (i + 1) j f g (by simpa using h), show i + (j + 1) = i + 1 + j by omega]
  | some g' :: r, i, j + 1, f, g, h => by
    simp only [List.set_cons_succ, occ, List.map_cons]
    rw [occ_set_repl r (i + 1) j f g (by simpa using h), show i + (j + 1) = i + 1 + j by omega, if_neg (by omega)]
/-! ### the law's dict -/
def nwD (nw : List (Nat × Fo)) : List (Ky × D) := nw.map fun p => (Ky.i (p.1 : Int), fm p.2)
def obN (nw : List (Nat × Fo)) : Ob := .dct false (nwD nw)
def Rl (se : List (Option Fo)) (nw : List (Nat × Fo)) : Prop := nw.Perm (occ 0 se)
theorem occ_nodup (se : List (Option Fo)) : ((occ 0 se).map (·.1)).Nodup := by
  have := (occ_sort se 0).map (R := fun a b : Nat × Fo => a.1 < b.1) (S := fun a b : Nat => a < b) (fun p : Nat × Fo => p.1) (fun a b h => h)
  exact this.imp fun h => Nat.ne_of_lt h
theorem Rl.nodup {se : List (Option Fo)} {nw : List (Nat × Fo)} (h : Rl se nw) : (nw.map (·.1)).Nodup := ((h.map (·.1)).nodup_iff).mpr (occ_nodup se)
theorem Rl.mem {se : List (Option Fo)} {nw : List (Nat × Fo)} (h : Rl se nw) {p : Nat} {f : Fo} : (p, f) ∈ nw ↔ se[p]? = some (some f) := by
  rw [h.mem_iff]
  have := occ_mem se 0 p f
  rwa [Nat.zero_add] at this
theorem val_mem : ∀ {nw : List (Nat × Fo)} {p : Nat} {f : Fo}, (nw.map (·.1)).Nodup → (p, f) ∈ nw → valK (nwD nw) (.i (p : Int)) = some (fm f)
  | (q, g) :: nw, p, f, hn, h => by
    show (if (Ky.i (q : Int)) = Ky.i (p : Int) then some (fm g) else valK (nwD nw) (.i (p : Int))) = _
    rw [List.map_cons, List.nodup_cons] at hn
    rcases List.mem_cons.mp h with z | z
    · cases z
      rw [if_pos rfl]
    · rw [if_neg (fun e => ?_), val_mem hn.2 z]
      have e2 : (q : Int) = p := Ky.i.inj e
      have e3 : q = p := by omega
      subst e3
      exact hn.1 (List.mem_map.mpr ⟨_, z, rfl⟩)
theorem val_none : ∀ {nw : List (Nat × Fo)} {p : Nat}, (∀ f, (p, f) ∉ nw) → valK (nwD nw) (.i (p : Int)) = none
  | [], p, _ => rfl
  | (q, g) :: nw, p, h => by
    show (if (Ky.i (q : Int)) = Ky.i (p : Int) then some (fm g) else valK (nwD nw) (.i (p : Int))) = _
    rw [if_neg (fun e => ?_), val_none fun f z => h f (List.mem_cons_of_mem _ z)]
    have e2 : (q : Int) = p := Ky.i.inj e
    have e3 : q = p := by omega
    subst e3
    exact h g List.mem_cons_self
theorem Rl.val {se : List (Option Fo)} {nw : List (Nat × Fo)} (h : Rl se nw) {p : Nat} {f : Fo} (e : se[p]? = some (some f)) : valK (nwD nw) (.i (p : Int)) = some (fm f) := val_mem h.nodup (h.mem.mpr e)
theorem Rl.none_ {se : List (Option Fo)} {nw : List (Nat × Fo)} (h : Rl se nw) {p : Nat} (e : se[p]? = some none) : valK (nwD nw) (.i (p : Int)) = none := val_none fun f z => by
  have := h.mem.mp z
  rw [e] at this
  cases this
theorem put_new {nw : List (Nat × Fo)} {p : Nat} (h : ∀ f, (p, f) ∉ nw) (f : Fo) : putK (nwD nw) (.i (p : Int)) (fm f) = nwD (nw ++ [(p, f)]) := by
  unfold putK
  have e : ((nwD nw).any fun kv => decide (kv.1 = Ky.i (p : Int))) = false := by
    rw [List.any_eq_false]
    intro kv hk
    obtain ⟨q, hq, rfl⟩ := List.mem_map.mp hk
    intro z
    have z := of_decide_eq_true z
    have e2 : (q.1 : Int) = p := Ky.i.inj z
    have e3 : q.1 = p := by omega
    obtain ⟨q1, q2⟩ := q
    have e3 : q1 = p := e3
    subst e3
    exact h q2 hq
  rw [e]
  simp [nwD]
theorem put_old {nw : List (Nat × Fo)} {p : Nat} {g : Fo} (h : (p, g) ∈ nw) (f : Fo) : putK (nwD nw) (.i (p : Int)) (fm f) = nwD (nw.map fun q => if q.1 = p then (q.1, f) else q) := by
  unfold putK
  have e : ((nwD nw).any fun kv => decide (kv.1 = Ky.i (p : Int))) = true := by
    rw [List.any_eq_true]
    exact ⟨_, List.mem_map.mpr ⟨_, h, rfl⟩, by simp⟩
  rw [e, if_pos rfl]
  unfold nwD
  rw [List.map_map, List.map_map]
  refine List.map_congr_left fun q _ => ?_
  simp only [Function.comp_apply]
  by_cases z : q.1 = p
  · have : Ky.i (q.1 : Int) = Ky.i (p : Int) := by rw [z]
    rw [if_pos this, if_pos z]
  · have : ¬ Ky.i (q.1 : Int) = Ky.i (p : Int) := fun e => z (by have := Ky.i.inj e; omega)
    rw [if_neg this, if_neg z]
theorem drop_eq (nw : List (Nat × Fo)) (p : Nat) : dropK (nwD nw) (.i (p : Int)) = nwD (nw.filter fun q => decide (q.1 ≠ p)) := by
  unfold dropK nwD
  rw [List.filter_map]
  congr 1
  refine List.filter_congr fun q _ => ?_
  simp only [Function.comp_apply]
  by_cases z : q.1 = p
  · simp [z]
  · have : ¬ Ky.i (q.1 : Int) = Ky.i (p : Int) := fun e => z (by have := Ky.i.inj e; omega)
    simp [z, this]
theorem Rl.come {se : List (Option Fo)} {nw : List (Nat × Fo)} (h : Rl se nw) {p : Nat} (e : se[p]? = some none) (f : Fo) : Rl (se.set p (some f)) (nw ++ [(p, f)]) := by
  have := occ_set_some se 0 p f e
  rw [Nat.zero_add] at this
  exact ((List.perm_append_comm (l₁ := nw) (l₂ := [(p, f)])).trans (List.Perm.cons _ h)).trans this.symm
theorem Rl.go {se : List (Option Fo)} {nw : List (Nat × Fo)} (h : Rl se nw) (p : Nat) : Rl (se.set p none) (nw.filter fun q => decide (q.1 ≠ p)) := by
  have := occ_set_none se 0 p
  rw [Nat.zero_add] at this
  unfold Rl
  rw [this]
  exact h.filter _
theorem Rl.move {se : List (Option Fo)} {nw : List (Nat × Fo)} (h : Rl se nw) {p : Nat} {g : Fo} (e : se[p]? = some (some g)) (f : Fo) : Rl (se.set p (some f)) (nw.map fun q => if q.1 = p then (q.1, f) else q) := by
  have := occ_set_repl se 0 p f g e
  rw [Nat.zero_add] at this
  unfold Rl
  rw [this]
  exact h.map _
theorem Rl.keys {se : List (Option Fo)} {nw : List (Nat × Fo)} (h : Rl se nw) : sortI (nw.map fun p => (p.1 : Int)) = (occ 0 se).map fun p => (p.1 : Int) := by
  symm
  refine sortI_uniq ((h.map _).symm) ?_
  refine List.pairwise_map.mpr ((occ_sort se 0).imp fun {a b} z => ?_)
  omega
theorem occ_len : ∀ (se : List (Option Fo)) (i : Nat), (occ i se).length ≤ se.length
  | [], _ => Nat.le_refl _
  | none :: r, i => by have := occ_len r (i + 1); simp only [occ, List.length_cons]; omega
  | some f :: r, i => by have := occ_len r (i + 1); simp only [occ, List.length_cons]; omega
theorem Rl.len {se : List (Option Fo)} {nw : List (Nat × Fo)} (h : Rl se nw) : nw.length ≤ se.length := by rw [h.length_eq]; exact occ_len se 0
end Kn
set_option Elab.async false
set_option linter.all false
set_option maxHeartbeats 2000000
/-! KnD4: arms long enough. -/
namespace Kn
theorem wth_less (f g : Fo) (n : Int) : wth (lessF f g) n = wth f n - wth g n := by
  unfold wth lessF
  simp only [Int.sub_mul]
  omega
theorem wth_add (f : Fo) (c n : Int) : wth (addF f (0, c)) n = wth f n + c := by
  unfold wth addF
  simp only [Int.add_zero]
  omega
theorem wth_whole (n : Int) : wth (wholeF n) n = n := by
  unfold wth wholeF
  simp only []
  omega
theorem sgn_pos (x : Int) : 0 < sgn x ↔ 0 < x := by
  unfold sgn
  repeat' split
  all_goals omega
theorem sgn_neg (x : Int) : sgn x < 0 ↔ x < 0 := by
  unfold sgn
  repeat' split
  all_goals omega
theorem sgn_zero (x : Int) : sgn x = 0 ↔ x = 0 := by
  unfold sgn
  repeat' split
  all_goals omega
theorem sgn_le (x : Int) : sgn x ≤ 0 ↔ x ≤ 0 := by
  unfold sgn
  repeat' split
  all_goals omega
theorem sgn_m1 (x : Int) : sgn x = -1 ↔ x < 0 := by
  unfold sgn
  repeat' split
  all_goals omega
theorem sgn_p1 (x : Int) : sgn x = 1 ↔ 0 < x := by
  unfold sgn
  repeat' split
  all_goals omega
/-- the least gap above 0 -/
def gapI : Option Int → List Int → Option Int
  | b, [] => b
  | b, d :: r => if 0 < d then gapI (some (match b with
    | none => d
    | some c => if d < c then d else c)) r else gapI b r
theorem gapV_eq (x : Fo) (n : Int) : ∀ (l : List Fo) (b : Option Fo), (gapV x n b l).1.map (wth · n) = gapI (b.map (wth · n)) (l.map fun f => wth f n - wth x n)
  | [], b => rfl
  | f :: r, b => by
    simp only [gapV, List.map_cons, gapI, sgn_pos, wth_less]
    by_cases h : 0 < wth f n - wth x n
    · rw [if_pos h, if_pos h]
      cases b with
      | none =>
        have := gapV_eq x n r (some (lessF f x))
        simp only [Option.map_some, wth_less] at this
        exact this
      | some b =>
        simp only [sgn_neg, Option.map_some]
        by_cases h2 : wth f n - wth x n - wth b n < 0
        · rw [if_pos h2, if_pos (by omega)]
          have := gapV_eq x n r (some (lessF f x))
          simp only [Option.map_some, wth_less] at this
          exact this
        · rw [if_neg h2, if_neg (by omega)]
          exact gapV_eq x n r (some b)
    · rw [if_neg h, if_neg h]
      exact gapV_eq x n r b
theorem gapI_iff : ∀ (l : List Int) (b : Option Int), (∀ m, gapI b l = some m → m ≤ 3) ↔ ((b ≠ none ∨ ∃ d ∈ l, 0 < d) → (∃ c, b = some c ∧ c ≤ 3) ∨ ∃ d ∈ l, 0 < d ∧ d ≤ 3)
  | [], b => by
    cases b with
    | none => simp [gapI]
    | some c => simp [gapI]
  | d :: r, b => by
    simp only [gapI]
    by_cases h : 0 < d
    · rw [if_pos h, gapI_iff r]
      cases b with
      | none =>
        simp only [ne_eq, reduceCtorEq, not_false_eq_true, true_or, forall_const, Option.some.injEq, exists_eq_left', not_true_eq_false, false_or, List.mem_cons, exists_eq_or_imp, h, true_and, false_and, exists_false]
      | some c =>
        simp only [ne_eq, reduceCtorEq, not_false_eq_true, true_or, forall_const, Option.some.injEq, exists_eq_left', List.mem_cons, exists_eq_or_imp, h, true_and]
        constructor
        · rintro (z | z)
          · split at z
            · exact .inr (.inl z)
            · exact .inl z
          · exact .inr (.inr z)
        · rintro (z | z | z)
          · left; split <;> omega
          · left; split <;> omega
          · exact .inr z
    · rw [if_neg h, gapI_iff r]
      simp only [List.mem_cons, exists_eq_or_imp, h, false_and, false_or]
def Arms (S : List Int) (x : Int) : Prop := (∃ y ∈ S, x < y) → ∃ y ∈ S, x < y ∧ y ≤ x + 3
theorem handL_iff (seats : List Fo) (n : Int) : ∀ l : List Fo, (handL seats n l).1 = true ↔ ∀ x ∈ l, Arms (seats.map (wth · n)) (wth x n)
  | [] => by simp [handL]
  | x :: r => by
    have ih := handL_iff seats n r
    have g := gapV_eq x n seats none
    have gi := gapI_iff (seats.map fun f => wth f n - wth x n) none
    rw [show gapI none (seats.map fun f => wth f n - wth x n) = (gapV x n none seats).1.map (wth · n) from g.symm] at gi
    have arms : Arms (seats.map (wth · n)) (wth x n) ↔ ∀ m, (gapV x n none seats).1.map (wth · n) = some m → m ≤ 3 := by
      rw [gi]
      constructor
      · intro h hc
        rcases hc with z | ⟨d, hd, h1⟩
        · exact absurd rfl z
        · obtain ⟨f, hf, rfl⟩ := List.mem_map.mp hd
          obtain ⟨y, hy, h2, h3⟩ := h ⟨wth f n, List.mem_map.mpr ⟨f, hf, rfl⟩, by omega⟩
          obtain ⟨f', hf', rfl⟩ := List.mem_map.mp hy
          exact .inr ⟨_, List.mem_map.mpr ⟨f', hf', rfl⟩, by omega, by omega⟩
      · rintro h ⟨y, hy, h1⟩
        obtain ⟨f, hf, rfl⟩ := List.mem_map.mp hy
        rcases h (.inr ⟨_, List.mem_map.mpr ⟨f, hf, rfl⟩, by omega⟩) with ⟨c, z, _⟩ | ⟨d, hd, h2, h3⟩
        · cases z
        · obtain ⟨f', hf', rfl⟩ := List.mem_map.mp hd
          exact ⟨_, List.mem_map.mpr ⟨f', hf', rfl⟩, by omega, by omega⟩
    rw [List.forall_mem_cons, arms, ← ih]
    simp only [handL]
    cases hg : (gapV x n none seats).1 with
    | none => simp
    | some q =>
      simp only [Option.map_some, Option.some.injEq, forall_eq', sgn_pos, wth_add]
      by_cases hc : 0 < wth q n + -3
      · rw [if_pos hc]
        simp
        omega
      · rw [if_neg hc]
        simp
        omega
def chainB : List Int → Bool
  | x :: y :: r => decide (y - x ≤ 3) && chainB (y :: r)
  | _ => true
theorem chain_iff : ∀ S : List Int, S.Pairwise (· < ·) → (chainB S = true ↔ ∀ x ∈ S, Arms S x)
  | [], _ => by simp [chainB]
  | [x], _ => by
    simp only [chainB, List.mem_singleton, forall_eq, true_iff]
    rintro ⟨y, hy, h⟩
    rw [List.mem_singleton] at hy
    omega
  | x :: y :: r, h => by
    have hx : ∀ z ∈ y :: r, x < z := fun z hz => List.rel_of_pairwise_cons h hz
    have ht := List.Pairwise.of_cons h
    have ih := chain_iff (y :: r) ht
    have hy : ∀ z ∈ r, y < z := fun z hz => List.rel_of_pairwise_cons ht hz
    simp only [chainB, Bool.and_eq_true, decide_eq_true_eq]
    rw [ih, List.forall_mem_cons (a := x)]
    have low : ∀ z ∈ y :: r, (Arms (x :: y :: r) z ↔ Arms (y :: r) z) := by
      intro z hz
      have hxz := hx z hz
      unfold Arms
      constructor
      · rintro h1 ⟨w, hw, h2⟩
        obtain ⟨u, hu, h3, h4⟩ := h1 ⟨w, List.mem_cons_of_mem _ hw, h2⟩
        rcases List.mem_cons.mp hu with e | e
        · omega
        · exact ⟨u, e, h3, h4⟩
      · rintro h1 ⟨w, hw, h2⟩
        rcases List.mem_cons.mp hw with e | e
        · omega
        · obtain ⟨u, hu, h3, h4⟩ := h1 ⟨w, e, h2⟩
          exact ⟨u, List.mem_cons_of_mem _ hu, h3, h4⟩
    have first : Arms (x :: y :: r) x ↔ y - x ≤ 3 := by
      unfold Arms
      constructor
      · intro h1
        obtain ⟨u, hu, h3, h4⟩ := h1 ⟨y, by simp, hx y (by simp)⟩
        rcases List.mem_cons.mp hu with e | e
        · omega
        · rcases List.mem_cons.mp e with e | e
          · omega
          · have := hy u e; omega
      · intro h1 _
        exact ⟨y, by simp, hx y (by simp), by omega⟩
    rw [first]
    constructor
    · rintro ⟨h1, h2⟩
      exact ⟨h1, fun z hz => (low z hz).mpr (h2 z hz)⟩
    · rintro ⟨h1, h2⟩
      exact ⟨h1, fun z hz => (low z hz).mp (h2 z hz)⟩
theorem arms_congr {S S' : List Int} (h : ∀ x, x ∈ S ↔ x ∈ S') : (∀ x ∈ S, Arms S x) ↔ ∀ x ∈ S', Arms S' x := by
  have : ∀ x, Arms S x ↔ Arms S' x := fun x => by
    unfold Arms
    simp only [h]
  constructor
  · exact fun z x hx => (this x).mp (z x ((h x).mpr hx))
  · exact fun z x hx => (this x).mpr (z x ((h x).mp hx))
theorem btw_iff (a b : Fo) (n : Int) : ∀ se : List (Option Fo), (btwV a b n se).1 = (((occ 0 se).map (·.2)).filter fun f => decide (sgn (wth (lessF f a) n) * sgn (wth (lessF f b) n) ≤ 0)) := by
  have : ∀ (se : List (Option Fo)) (i : Nat), (btwV a b n se).1 = (((occ i se).map (·.2)).filter fun f => decide (sgn (wth (lessF f a) n) * sgn (wth (lessF f b) n) ≤ 0)) := by
    intro se
    induction se with
    | nil => intro i; rfl
    | cons o r ih =>
      intro i
      cases o with
      | none => simp only [btwV, occ, ih (i + 1)]
      | some f =>
        simp only [btwV, occ, List.map_cons, List.filter_cons, ih (i + 1), decide_eq_true_eq]
  exact fun se => this se 0
theorem sgn_mul (x y : Int) : sgn x * sgn y ≤ 0 ↔ ¬ (0 < x ∧ 0 < y) ∧ ¬ (x < 0 ∧ y < 0) := by
  unfold sgn
  repeat' split
  all_goals simp
  all_goals omega
end Kn
set_option Elab.async false
set_option linter.all false
set_option maxHeartbeats 2000000
/-! KnD5: the law's deeds: values, ways, moving. -/
namespace Kn
structure TZ (T : Nat → Option FD) : Prop where
  value : T i_law_value = some fd_law_value
  form : T i_law_form = some fd_law_form
  way : T i_law_way = some fd_law_way
  hands : T i_law_hands = some fd_law_hands
  taken : T i_law_taken = some fd_law_taken
  can_move : T i_law_can_move = some fd_law_can_move
  step : T i_law_step = some fd_law_step
  run_ : T i_law_run = some fd_law_run
/-- all that is known of the dict -/
structure Nw (se : List (Option Fo)) (nw : List (Nat × Fo)) (n : Int) : Prop where
  rl : Rl se nw
  sm : SmS se
  l5 : se.length ≤ 5
  ds : (nw.map fun p => wth p.2 n).Nodup
theorem Nw.sm' {se : List (Option Fo)} {nw : List (Nat × Fo)} {n : Int} (h : Nw se nw n) {p : Nat} {f : Fo} (e : (p, f) ∈ nw) : -10 ≤ f.1 ∧ f.1 ≤ 10 := h.sm.at_ (h.rl.mem.mp e)
theorem itemN {s : St} {k : Nat} {lk : Bool} {kvs : List (Ky × D)} (h : s[k]? = some (.dct lk kvs)) (p : Int) : itemD s (.ref k) (.int p) = ofO (valK kvs (.i p)) s := by
  simp only [itemD, h, kyOf]
theorem inN {s : St} {k : Nat} {lk : Bool} {kvs : List (Ky × D)} (h : s[k]? = some (.dct lk kvs)) (p : Int) : inD s (.int p) (.ref k) = some (valK kvs (.i p)).isSome := by
  simp only [inD, h, kyOf]
theorem lenRef {s : St} {k : Nat} {xs : List D} (h : s[k]? = some (.lst xs)) : bfD s .len [.ref k] = .ok (.int xs.length) s := by
  show lenD s (.ref k) = _
  simp only [lenD, h]
theorem tupRef {s : St} {k : Nat} {xs : List D} (h : s[k]? = some (.lst xs)) : bfD s .tuple [.ref k] = .ok (.tup xs) s := by
  show (match asL s (.ref k) with
    | some xs => R.ok (D.tup xs) s
    | none => R.bad) = _
  simp only [asL, h]
theorem intsOf_map : ∀ l : List Int, intsOf (l.map .int) = some l
  | [] => rfl
  | i :: l => by
    have ih : mapO intD (l.map .int) = some l := intsOf_map l
    show mapO intD (.int i :: l.map .int) = _
    rw [mapO, ih]
    rfl
theorem keysOf_nw (nw : List (Nat × Fo)) : keysOf (nwD nw) = (nw.map fun p => (p.1 : Int)).map .int := by
  unfold keysOf nwD
  simp [List.map_map, Function.comp_def, kyD]
theorem sortedN {s : St} {k : Nat} {lk : Bool} {nw : List (Nat × Fo)} (h : s[k]? = some (.dct lk (nwD nw))) (hl : nw.length < 64) : bfD s .sorted [.ref k] = .ok (.lst ((sortI (nw.map fun p => (p.1 : Int))).map .int)) s := by
  show sortedD s (.ref k) = _
  simp only [sortedD, h, keysOf_nw, intsOf_map, List.length_map, if_pos hl]
theorem pd_ints (s : St) (n : Nat) : ∀ l : List Int, mapO (pd s (n + 1)) (l.map .int) = some (l.map PySem.PyData.int)
  | [] => rfl
  | i :: l => by
    rw [List.map_cons, mapO, pd_ints s n l]
    rfl
theorem in_ints (s : St) (x : Int) (l : List Int) : inD s (.int x) (.lst (l.map .int)) = some (decide (x ∈ l)) := by
  unfold inD
  have e1 : pd s 64 (.int x) = some (.int x) := rfl
  simp only [e1, pd_ints s 62 l]
  congr 1
  induction l with
  | nil => rfl
  | cons y l ih =>
    rw [List.map_cons, List.any_cons, ih, eqv_int]
    by_cases h : y = x
    · subst h; simp
    · have h' : ¬ x = y := fun z => h z.symm
      simp [h, h']
theorem lcD_fix {own : List Nat} {g : SG} {t : Option SE} {elt f : SE} {c : Cl} {e : En} {s : St} {k : Nat} {kvs : List (Ky × D)} {xs : List D} (hf : f c e s = .ok (.ref k) s) (hf2 : f c e (s.set k (.dct true kvs)) = .ok (.ref k) (s.set k (.dct true kvs))) (h : s[k]? = some (.dct false kvs))
    (hx : ∀ (i : Nat) (d : D), (keysOf kvs)[i]? = some d → ∃ x, xs[i]? = some x ∧ lcTurn own g t elt c e d (s.set k (.dct true kvs)) = .ok (some x) (s.set k (.dct true kvs))) (hl : xs.length = kvs.length) : sLcD own g t elt f c e s = .ok (.lst xs) s := by
  have hk := (List.getElem?_eq_some_iff.mp h).1
  have h2 : (s.set k (.dct true kvs))[k]? = some (.dct true kvs) := List.getElem?_set_self hk
  have loop : ∀ (m i : Nat) (acc : List D), i + m = kvs.length → acc = xs.take i → lcG (Src.dk k).get (lcTurn own g t elt c e) m i acc (s.set k (.dct true kvs)) = .ok xs (s.set k (.dct true kvs)) := by
    intro m
    induction m with
    | zero =>
      intro i acc hi ha
      have e0 : (Src.dk k).get i (s.set k (.dct true kvs)) = some none := by
        simp only [Src.get, h2]
        rw [List.getElem?_eq_none (by unfold keysOf; rw [List.length_map]; omega)]
      show (match (Src.dk k).get i (s.set k (.dct true kvs)) with
        | some none => R.ok acc _
        | _ => .bad) = _
      rw [e0, ha, List.take_of_length_le (by omega)]
    | succ m ih =>
      intro i acc hi ha
      have hi2 : i < (keysOf kvs).length := by unfold keysOf; rw [List.length_map]; omega
      obtain ⟨x, hx1, hx2⟩ := hx i _ (List.getElem?_eq_getElem hi2)
      have e0 : (Src.dk k).get i (s.set k (.dct true kvs)) = some (some (keysOf kvs)[i]) := by
        simp only [Src.get, h2]
        rw [List.getElem?_eq_getElem hi2]
      show (match (Src.dk k).get i (s.set k (.dct true kvs)) with
        | none => R.bad
        | some none => R.ok acc _
        | some (some d) => match lcTurn own g t elt c e d (s.set k (.dct true kvs)) with
          | .ok (some x) s1 => lcG (Src.dk k).get (lcTurn own g t elt c e) m (i + 1) (acc ++ [x]) s1
          | .ok none s1 => lcG (Src.dk k).get (lcTurn own g t elt c e) m (i + 1) acc s1
          | _ => .bad) = _
      rw [e0]
      simp only [hx2]
      refine ih (i + 1) _ (by omega) ?_
      rw [ha, List.take_add_one, hx1]
      rfl
  unfold sLcD
  rw [hf]
  simp only [h]
  have e1 : lcI own g t elt (iVal f) c e (s.set k (.dct true kvs)) = .ok xs (s.set k (.dct true kvs)) := by
    unfold lcI
    rw [iVal_eq, hf2]
    have e3 : srcOf (s.set k (.dct true kvs)) (.ref k) = some (.dk k, kvs.length) := by simp only [srcOf, h2]
    rw [bind_ok, e3]
    exact loop kvs.length 0 [] (by omega) rfl
  rw [e1, bind_ok]
  simp only [h2]
  rw [List.set_set, set_same h]
section
variable {T : Nat → Option FD} {fuel : Nat} (hT : TZ T)
include hT
theorem r_lvalue (n : Nat) (f : Fo) (h : -1000 ≤ f.1 ∧ f.1 ≤ 1000) (z : Int) (s : St) : run T fuel (n + 1) i_law_value [.dat (fm f), .dat (.int z)] s = .ok (.int (wth f z)) s := by
  refine (run_eq hT.value rfl).trans ?_
  simp only [kn, knl, Nat.reduceSub, Nat.reduceAdd, reduceIte, at0, at1, boD_div s (show (0 : Int) < 2 ∧ (2 : Int) < 1073741824 by decide), boD_mul s (a := f.1) (b := z / 2) (.inl (by unfold big; omega))]
  rfl
theorem r_lform (n : Nat) (t : Spt) (z : Int) (s : St) : run T fuel (n + 1) i_law_form [.dat (spD t), .dat (.int z)] s = .ok (fm (spotF t z)) s := by
  refine (run_eq hT.form rfl).trans ?_
  obtain ⟨w, a⟩ := t
  have n1 : ¬ w_m = w_l := by decide
  have n2 : ¬ w_r = w_l := by decide
  have n3 : ¬ w_r = w_m := by decide
  cases w
  · simp only [kn, knl, Nat.reduceSub, Nat.reduceAdd, reduceIte, at0, at1, show Wo.l.s = w_l from rfl, decide_true]
    rfl
  · simp only [kn, knl, Nat.reduceSub, Nat.reduceAdd, reduceIte, at0, at1, show Wo.r.s = w_r from rfl, n2, n3, decide_false, boD_mod s (show (0 : Int) < 2 by decide)]
    have e : z % 2 - 1 - a = z % 2 - (a + 1) := by omega
    rw [e]
    rfl
  · simp only [kn, knl, Nat.reduceSub, Nat.reduceAdd, reduceIte, at0, at1, show Wo.m.s = w_m from rfl, n1, decide_false, decide_true]
    rfl
theorem r_taken (n : Nat) {se : List (Option Fo)} {nw : List (Nat × Fo)} {z : Int} (H : Nw se nw z) {s : St} {k : Nat} (h : s[k]? = some (obN nw)) : run T fuel (n + 2) i_law_taken [.dat (.ref k), .dat (.int z)] s = .ok (.lst ((nw.map fun p => wth p.2 z).map .int)) s := by
  refine (run_eq hT.taken rfl).trans ?_
  have hk := (List.getElem?_eq_some_iff.mp h).1
  have h2 : (s.set k (.dct true (nwD nw)))[k]? = some (.dct true (nwD nw)) := List.getElem?_set_self hk
  have L := lcD_fix (own := [2]) (g := gNm 2) (t := none) (elt := sCallD i_law_value [sItem (sVar 0) (sVar 2), sVar 1]) (f := sVar 0) (c := ⟨fuel, run T fuel (n + 1), fun _ _ _ _ => .bad⟩) (e := [some (.dat (.ref k)), some (.dat (.int z)), none]) (s := s) (k := k) (kvs := nwD nw) (xs := (nw.map fun p => wth p.2 z).map .int) rfl rfl h (fun i d hd => by
    rw [keysOf_nw, List.getElem?_map, List.getElem?_map] at hd
    cases hn : nw[i]? with
    | none => rw [hn] at hd; simp at hd
    | some p =>
      rw [hn] at hd
      have hd : D.int (p.1 : Int) = d := Option.some.inj hd
      subst hd
      obtain ⟨p, f⟩ := p
      have hm := List.mem_of_getElem? hn
      have v := val_mem H.rl.nodup hm
      have sm := H.sm' hm
      refine ⟨.int (wth f z), by rw [List.getElem?_map, List.getElem?_map, hn]; rfl, ?_⟩
      have V := r_lvalue (fuel := fuel) hT n f (by omega) z (s.set k (.dct true (nwD nw)))
      simp only [kn, knl, Nat.reduceSub, Nat.reduceAdd, reduceIte, itemN h2, v, V]) (by simp [nwD])
  show (((sLcD _ _ _ _ _ _ _ s).out _ _).fin) = _
  have L' : sLcD [2] (gNm 2) none (sCallD i_law_value [sItem (sVar 0) (sVar 2), sVar 1]) (sVar 0) ⟨fuel, run T fuel (n + 1), fun _ _ _ _ => .bad⟩ ([Ag.dat (D.ref k), Ag.dat (D.int z)].map some ++ List.replicate (3 - 2) none) s = _ := L
  rw [show ([Ag.dat (D.ref k), Ag.dat (D.int z)] : List Ag).length = 2 from rfl, L']
  simp only [kn, knl, Nat.reduceSub, Nat.reduceAdd, reduceIte]
end
/-- the two lists behind the dict -/
def three (s : St) (xs ys : List D) : St := s ++ [.lst xs, .lst ys]
theorem three_k {s : St} {k : Nat} {o : Ob} {xs ys : List D} (h : s[k]? = some o) : (three s xs ys)[k]? = some o := by
  unfold three
  rw [List.getElem?_append_left (List.getElem?_eq_some_iff.mp h).1]
  exact h
theorem three_l (s : St) (xs ys : List D) : (three s xs ys)[s.length]? = some (.lst xs) := by
  unfold three
  rw [List.getElem?_append_right (Nat.le_refl _)]
  simp
theorem three_h (s : St) (xs ys : List D) : (three s xs ys)[s.length + 1]? = some (.lst ys) := by
  unfold three
  rw [List.getElem?_append_right (by omega)]
  simp
theorem three_sl (s : St) (xs ys zs : List D) : (three s xs ys).set s.length (.lst zs) = three s zs ys := by
  unfold three
  rw [List.set_append_right _ _ (Nat.le_refl _)]
  simp
theorem three_sh (s : St) (xs ys zs : List D) : (three s xs ys).set (s.length + 1) (.lst zs) = three s xs zs := by
  unfold three
  rw [List.set_append_right _ _ (by omega)]
  simp
section
variable {T : Nat → Option FD} {fuel : Nat} (hT : TZ T)
include hT
theorem r_lway (n : Nat) {se : List (Option Fo)} {nw : List (Nat × Fo)} {z : Int} (H : Nw se nw z) {s : St} {k : Nat} (h : s[k]? = some (obN nw)) (f : Fo) (hf : -10 ≤ f.1 ∧ f.1 ≤ 10) (sd : Si) :
    ∃ g, run T fuel (n + 2) i_law_way [.dat (.ref k), .dat (fm f), .dat sd.d, .dat (.int z)] s = .ok (wayD (wayV f sd z se).1) (s ++ g) := by
  have V := fun s => r_lvalue (fuel := fuel) hT n f (by omega) z s
  have hl64 : nw.length < 64 := by have := H.rl.len; have := H.l5; omega
  have e0 : s ++ [Ob.lst []] ++ [Ob.lst []] = three s [] [] := by unfold three; simp
  have e1 : (s ++ [Ob.lst []]).length = s.length + 1 := by simp
  have h3 := three_k (xs := []) (ys := []) h
  have S := sortedN (s := three s [] []) h3 hl64
  rw [H.rl.keys, List.map_map] at S
  have loop : ∀ (r : List (Nat × Fo)) (lo hi : List Nat) (x : Option Ag), (∀ p ∈ r, p ∈ nw) → lo.length + r.length ≤ 100 → hi.length + r.length ≤ 100 →
      ∃ x', forL (gNm 7) (xSeq [xIf (sCmp .lt (sCallD i_law_value [sItem (sVar 0) (sVar 7), sVar 3]) (sVar 4)) (xSeq [xExpr (sMt .append (sVar 5) [sVar 7])]) (xSeq []),
        xIf (sCmp .gt (sCallD i_law_value [sItem (sVar 0) (sVar 7), sVar 3]) (sVar 4)) (xSeq [xExpr (sMt .append (sVar 6) [sVar 7])]) (xSeq [])] ⟨fuel, run T fuel (n + 1), fun _ _ _ _ => .bad⟩)
        (r.map (D.int ∘ fun p => (p.1 : Int))) [some (.dat (.ref k)), some (.dat (fm f)), some (.dat sd.d), some (.dat (.int z)), some (.dat (.int (wth f z))), some (.dat (.ref s.length)), some (.dat (.ref (s.length + 1))), x, none, none] (three s (nD lo) (nD hi)) =
        .nx [some (.dat (.ref k)), some (.dat (fm f)), some (.dat sd.d), some (.dat (.int z)), some (.dat (.int (wth f z))), some (.dat (.ref s.length)), some (.dat (.ref (s.length + 1))), x', none, none]
          (three s (nD (lo ++ (r.filter fun p => decide (sgn (wth (lessF p.2 f) z) = -1)).map (·.1))) (nD (hi ++ (r.filter fun p => decide (sgn (wth (lessF p.2 f) z) = 1)).map (·.1)))) := by
    intro r
    induction r with
    | nil => intro lo hi x _ _ _; exact ⟨x, by simp [forL_nil]⟩
    | cons q r ih =>
      intro lo hi x hr h1 h2
      obtain ⟨p, g⟩ := q
      rw [List.length_cons] at h1 h2
      have hm := hr (p, g) List.mem_cons_self
      have sm := H.sm' hm
      have v := val_mem H.rl.nodup hm
      have Vg := fun s => r_lvalue (fuel := fuel) hT n g (by omega) z s
      have eg : ∀ d e s, gNm 7 d e s = some (e.set 7 (some (.dat d))) := fun d e s => rfl
      have hr' : ∀ p ∈ r, p ∈ nw := fun p hp => hr p (List.mem_cons_of_mem _ hp)
      have hk : ∀ xs ys, (three s xs ys)[k]? = some (.dct false (nwD nw)) := fun xs ys => three_k h
      by_cases c1 : wth g z < wth f z
      · have c2 : ¬ wth f z < wth g z := by omega
        have d1 : sgn (wth (lessF g f) z) = -1 := by rw [wth_less, sgn_m1]; omega
        have d2 : ¬ sgn (wth (lessF g f) z) = 1 := by rw [d1]; decide
        obtain ⟨x', ih⟩ := ih (lo ++ [p]) hi (some (.dat (.int (p : Int)))) hr' (by simp; omega) (by omega)
        have m := mt_app (three_l s (nD lo) (nD hi)) (by simp; unfold line; omega) (.int (p : Int))
        rw [three_sl, show nD lo ++ [D.int (p : Int)] = nD (lo ++ [p]) by simp] at m
        refine ⟨x', ?_⟩
        rw [List.map_cons, forL_cons (eg _ _ _)]
        simp only [kn, knl, Nat.reduceSub, Nat.reduceAdd, reduceIte, Function.comp_apply, itemN (hk _ _), v, Vg, c1, c2, decide_true, decide_false, m.1, m.2]
        refine ih.trans ?_
        simp [d1]
      · by_cases c2 : wth f z < wth g z
        · have d1 : ¬ sgn (wth (lessF g f) z) = -1 := by rw [wth_less, sgn_m1]; omega
          have d2 : sgn (wth (lessF g f) z) = 1 := by rw [wth_less, sgn_p1]; omega
          obtain ⟨x', ih⟩ := ih lo (hi ++ [p]) (some (.dat (.int (p : Int)))) hr' (by omega) (by simp; omega)
          have m := mt_app (three_h s (nD lo) (nD hi)) (by simp; unfold line; omega) (.int (p : Int))
          rw [three_sh, show nD hi ++ [D.int (p : Int)] = nD (hi ++ [p]) by simp] at m
          refine ⟨x', ?_⟩
          rw [List.map_cons, forL_cons (eg _ _ _)]
          simp only [kn, knl, Nat.reduceSub, Nat.reduceAdd, reduceIte, Function.comp_apply, itemN (hk _ _), v, Vg, c1, c2, decide_true, decide_false, m.1, m.2]
          refine ih.trans ?_
          simp [d2]
        · have d1 : ¬ sgn (wth (lessF g f) z) = -1 := by rw [wth_less, sgn_m1]; omega
          have d2 : ¬ sgn (wth (lessF g f) z) = 1 := by rw [wth_less, sgn_p1]; omega
          obtain ⟨x', ih⟩ := ih lo hi (some (.dat (.int (p : Int)))) hr' (by omega) (by omega)
          refine ⟨x', ?_⟩
          rw [List.map_cons, forL_cons (eg _ _ _)]
          simp only [kn, knl, Nat.reduceSub, Nat.reduceAdd, reduceIte, Function.comp_apply, itemN (hk _ _), v, Vg, c1, c2, decide_false]
          refine ih.trans ?_
          simp [d1, d2]
  have ol : (occ 0 se).length ≤ 5 := Nat.le_trans (occ_len se 0) H.l5
  obtain ⟨x', L⟩ := loop (occ 0 se) [] [] none (fun p hp => H.rl.symm.mem_iff.mp hp) (by simp; omega) (by simp; omega)
  rw [← bes_occ f (-1) z se 0, ← bes_occ f 1 z se 0, List.nil_append, List.nil_append] at L
  have L : forL _ _ _ _ (three s [] []) = _ := L
  have n1 : (nD (bes f (-1) z 0 se)).length = (bes f (-1) z 0 se).length := by simp
  have n2 : (nD (bes f 1 z 0 se)).length = (bes f 1 z 0 se).length := by simp
  have hl : D.tup [.tup [.int f.1, .int (f.2 + 1)], .tup (nD (bes f (-1) z 0 se))] = wayD (lW f z se) := by
    unfold wayD lW fm addF
    simp only [Int.add_zero]
  have hr : D.tup [.tup [.int (2 - f.1), .int (z % 2 - f.2)], .tup (nD (bes f 1 z 0 se))] = wayD (rW f z se) := rfl
  refine ⟨[.lst (nD (bes f (-1) z 0 se)), .lst (nD (bes f 1 z 0 se))], (run_eq hT.way rfl).trans ?_⟩
  have a1 : ¬ w_left = w_few := by decide
  have a2 : ¬ w_right = w_few := by decide
  have a3 : ¬ w_near = w_few := by decide
  have b1 : ¬ w_left = w_near := by decide
  have b2 : ¬ w_right = w_near := by decide
  have b3 : ¬ w_few = w_near := by decide
  have c2 : ¬ w_right = w_left := by decide
  have hq : wth (lessF (lW f z se).1 (rW f z se).1) z = (wth f z + 1) - (z - wth f z) := by
    show wth (lessF (addF f (0, 1)) (lessF (wholeF z) f)) z = _
    rw [wth_less, wth_add, wth_less, wth_whole]
  have len1 := lenRef (three_l s (nD (bes f (-1) z 0 se)) (nD (bes f 1 z 0 se)))
  have len2 := lenRef (three_h s (nD (bes f (-1) z 0 se)) (nD (bes f 1 z 0 se)))
  have tup1 := tupRef (three_l s (nD (bes f (-1) z 0 se)) (nD (bes f 1 z 0 se)))
  have tup2 := tupRef (three_h s (nD (bes f (-1) z 0 se)) (nD (bes f 1 z 0 se)))
  rw [n1] at len1
  rw [n2] at len2
  have mod2 := fun s => boD_mod s (a := z) (b := 2) (by decide)
  have near : ∀ (c : Prop) [Decidable c], (c ↔ ¬ 0 < sgn (wth (lessF (lW f z se).1 (rW f z se).1) z)) → (if c then lW f z se else rW f z se) = if 0 < sgn (wth (lessF (lW f z se).1 (rW f z se).1) z) then rW f z se else lW f z se := by
    intro c _ hc
    by_cases z1 : c
    · rw [if_pos z1, if_neg (hc.mp z1)]
    · rw [if_neg z1, if_pos (by
        by_cases z2 : 0 < sgn (wth (lessF (lW f z se).1 (rW f z se).1) z)
        · exact z2
        · exact absurd (hc.mpr z2) z1)]
  have hnear : (wth f z + 1 ≤ z - wth f z) ↔ ¬ 0 < sgn (wth (lessF (lW f z se).1 (rW f z se).1) z) := by
    rw [sgn_pos, hq]
    omega
  cases sd
  · simp only [kn, knl, Nat.reduceSub, Nat.reduceAdd, reduceIte, V, e0, e1, S, L, at0, at1, mod2, tup1, tup2, show Si.left.s = w_left from rfl, a1, b1, decide_true, decide_false, hl, hr]
    simp [three, wayV]
  · simp only [kn, knl, Nat.reduceSub, Nat.reduceAdd, reduceIte, V, e0, e1, S, L, at0, at1, mod2, tup1, tup2, show Si.right.s = w_right from rfl, a2, b2, c2, decide_true, decide_false, hl, hr]
    simp [three, wayV]
  · simp only [kn, knl, Nat.reduceSub, Nat.reduceAdd, reduceIte, V, e0, e1, S, L, at0, at1, mod2, tup1, tup2, show Si.near.s = w_near from rfl, a3, decide_true, decide_false, hl, hr]
    by_cases hc : wth f z + 1 ≤ z - wth f z
    · simp only [hc, decide_true, if_true]
      simp only [kn, knl, Nat.reduceSub, Nat.reduceAdd, reduceIte, three]
      simp [wayV, hnear.mp hc]
    · simp only [hc, decide_false, if_false]
      simp only [kn, knl, Nat.reduceSub, Nat.reduceAdd, reduceIte, three]
      have := mt hnear.mpr hc
      simp at this
      simp [wayV, this]
  · by_cases hd : (bes f (-1) z 0 se).length = (bes f 1 z 0 se).length
    · have hd' : ((bes f (-1) z 0 se).length : Int) = (bes f 1 z 0 se).length := by rw [hd]
      simp only [kn, knl, Nat.reduceSub, Nat.reduceAdd, reduceIte, V, e0, e1, S, L, at0, at1, mod2, tup1, tup2, show Si.few.s = w_few from rfl, b3, decide_true, decide_false, len1, len2, hd', Option.map_some, hl, hr]
      have hd2 : (lW f z se).2.length = (rW f z se).2.length := hd
      by_cases hc : wth f z + 1 ≤ z - wth f z
      · simp only [hc, decide_true, if_true]
        simp only [kn, knl, Nat.reduceSub, Nat.reduceAdd, reduceIte, three]
        simp [wayV, hnear.mp hc, hd2]
      · simp only [hc, decide_false, if_false]
        simp only [kn, knl, Nat.reduceSub, Nat.reduceAdd, reduceIte, three]
        have := mt hnear.mpr hc
        simp at this
        simp [wayV, this, hd2]
    · have hd' : ¬ ((bes f (-1) z 0 se).length : Int) = (bes f 1 z 0 se).length := by omega
      simp only [kn, knl, Nat.reduceSub, Nat.reduceAdd, reduceIte, V, e0, e1, S, L, at0, at1, mod2, tup1, tup2, show Si.few.s = w_few from rfl, decide_true, decide_false, len1, len2, hd', Option.map_some, hl, hr]
      have hd2 : ¬ (lW f z se).2.length = (rW f z se).2.length := hd
      by_cases hc : (bes f (-1) z 0 se).length < (bes f 1 z 0 se).length
      · have hc' : ((bes f (-1) z 0 se).length : Int) < (bes f 1 z 0 se).length := by omega
        have hc2 : (lW f z se).2.length < (rW f z se).2.length := hc
        simp only [hc', decide_true, if_true]
        simp only [kn, knl, Nat.reduceSub, Nat.reduceAdd, reduceIte, three]
        simp [wayV, hc2, hd2]
      · have hc' : ¬ ((bes f (-1) z 0 se).length : Int) < (bes f 1 z 0 se).length := by omega
        have hc2 : ¬ (lW f z se).2.length < (rW f z se).2.length := hc
        simp only [hc', decide_false, if_false]
        simp only [kn, knl, Nat.reduceSub, Nat.reduceAdd, reduceIte, three]
        simp [wayV, hc2, hd2]
end
end Kn
set_option Elab.async false
set_option linter.all false
set_option maxHeartbeats 2000000
/-! KnD6: the law's deeds: moving, handing. -/
namespace Kn
theorem bes_zero {se : List (Option Fo)} {nw : List (Nat × Fo)} (h : Rl se nw) (f : Fo) (n : Int) : bes f 0 n 0 se = [] ↔ wth f n ∉ nw.map fun p => wth p.2 n := by
  rw [bes_occ, List.map_eq_nil_iff, List.filter_eq_nil_iff]
  constructor
  · intro z hm
    obtain ⟨p, hp, e⟩ := List.mem_map.mp hm
    refine z p (h.mem_iff.mp hp) ?_
    rw [decide_eq_true_eq, sgn_zero, wth_less]
    omega
  · intro z p hp hc
    rw [decide_eq_true_eq, sgn_zero, wth_less] at hc
    exact z (List.mem_map.mpr ⟨p, h.mem_iff.mpr hp, by omega⟩)
theorem pass_iff {se : List (Option Fo)} {nw : List (Nat × Fo)} (h : Rl se nw) (f : Fo) (n st : Int) : ∀ l : List Int, (passV se f n st l).1 = true ↔ ∀ m ∈ l, wth f n + st * m ∉ nw.map fun p => wth p.2 n
  | [] => by simp [passV]
  | m :: r => by
    have ih := pass_iff h f n st r
    have b := bes_zero h (addF f (0, st * m)) n
    rw [wth_add] at b
    rw [List.forall_mem_cons, ← b, ← ih]
    simp only [passV]
    by_cases hc : bes (addF f (0, st * m)) 0 n 0 se = []
    · simp [hc]
    · simp [hc]
theorem open_eq {se : List (Option Fo)} {nw : List (Nat × Fo)} (h : Rl se nw) (f : Fo) (b n : Int) : (openV se f b n).1 = true ↔ 0 ≤ wth f n + b ∧ wth f n + b ≤ n - 1 ∧ ∀ m ∈ ups b.natAbs, wth f n + (if 0 < b then 1 else -1) * m ∉ nw.map fun p => wth p.2 n := by
  rw [← pass_iff h]
  unfold openV
  simp only [sgn_neg, sgn_le, wth_add, wth_less, wth_whole]
  by_cases c1 : wth f n + b < 0
  · rw [if_pos c1]
    simp
    omega
  · rw [if_neg c1]
    by_cases c2 : n - (wth f n + b) ≤ 0
    · rw [if_pos c2]
      simp
      omega
    · rw [if_neg c2]
      simp only []
      constructor
      · exact fun z => ⟨by omega, by omega, z⟩
      · exact fun z => z.2.2
section
variable {T : Nat → Option FD} {fuel : Nat} (hT : TZ T)
include hT
theorem r_lcan (n : Nat) {se : List (Option Fo)} {nw : List (Nat × Fo)} {z : Int} (H : Nw se nw z) {s : St} {k : Nat} (h : s[k]? = some (obN nw)) (p : Nat) (b : Int) (hb : b.natAbs ≤ 1000) (o : Option Fo) (ho : se[p]? = some o) :
    run T fuel (n + 3) i_law_can_move [.dat (.ref k), .dat (.int (p : Int)), .dat (.int b), .dat (.int z)] s = .ok (.bl (match o with
      | some f => (openV se f b z).1
      | none => false)) s := by
  refine (run_eq hT.can_move rfl).trans ?_
  have h' : s[k]? = some (.dct false (nwD nw)) := h
  cases o with
  | none =>
    simp only [kn, knl, Nat.reduceSub, Nat.reduceAdd, reduceIte, inN h', H.rl.none_ ho, Option.isSome_none, Option.map_some]
  | some f =>
    have v := H.rl.val ho
    have sm := H.sm.at_ ho
    have V := r_lvalue (fuel := fuel) hT (n + 1) f (by omega) z s
    have Tk := r_taken (fuel := fuel) hT n H h
    have er : ((b.natAbs : Int) + 1 - 1).toNat = b.natAbs := by omega
    have elen : (rangeD 1 b.natAbs).length = b.natAbs := by simp [rangeD]
    have rng : ∀ s, rng2 s (.int 1) (.int ((b.natAbs : Int) + 1)) = .ok (.fix (rangeD 1 b.natAbs), (rangeD 1 b.natAbs).length) s := fun s => by
      rw [rng2_int s (by unfold lim; omega), er, elen]
    have loop : ∀ (l : List Int) (x : Option Ag),
        ((∀ m ∈ l, wth f z + (if 0 < b then 1 else -1) * m ∉ nw.map fun p => wth p.2 z) → ∃ x', forL (gNm 6) (xSeq [xIf (sCmp .inn (sBin .add (sVar 4) (sIf (sCmp .gt (sVar 2) (sCst (.int 0))) (sVar 6) (sNeg (sVar 6)))) (sVar 5)) (xSeq [xRet (sCst (.bl false))]) (xSeq [])] ⟨fuel, run T fuel (n + 2), fun _ _ _ _ => .bad⟩)
          (l.map .int) [some (.dat (.ref k)), some (.dat (.int (p : Int))), some (.dat (.int b)), some (.dat (.int z)), some (.dat (.int (wth f z))), some (.dat (.lst ((nw.map fun p => wth p.2 z).map .int))), x] s =
          .nx [some (.dat (.ref k)), some (.dat (.int (p : Int))), some (.dat (.int b)), some (.dat (.int z)), some (.dat (.int (wth f z))), some (.dat (.lst ((nw.map fun p => wth p.2 z).map .int))), x'] s) ∧
        ((¬ ∀ m ∈ l, wth f z + (if 0 < b then 1 else -1) * m ∉ nw.map fun p => wth p.2 z) → forL (gNm 6) (xSeq [xIf (sCmp .inn (sBin .add (sVar 4) (sIf (sCmp .gt (sVar 2) (sCst (.int 0))) (sVar 6) (sNeg (sVar 6)))) (sVar 5)) (xSeq [xRet (sCst (.bl false))]) (xSeq [])] ⟨fuel, run T fuel (n + 2), fun _ _ _ _ => .bad⟩)
          (l.map .int) [some (.dat (.ref k)), some (.dat (.int (p : Int))), some (.dat (.int b)), some (.dat (.int z)), some (.dat (.int (wth f z))), some (.dat (.lst ((nw.map fun p => wth p.2 z).map .int))), x] s =
          .rt (.bl false) s) := by
      intro l
      induction l with
      | nil =>
        intro x
        exact ⟨fun _ => ⟨x, rfl⟩, fun z => absurd (fun m hm => by cases hm) z⟩
      | cons m r ih =>
        intro x
        have ih := ih (some (.dat (.int m)))
        have eg : ∀ e s, gNm 6 (.int m) e s = some (e.set 6 (some (.dat (.int m)))) := fun e s => rfl
        have em : (if 0 < b then m else -m) = (if 0 < b then 1 else -1) * m := by split <;> omega
        by_cases hc : wth f z + (if 0 < b then 1 else -1) * m ∈ nw.map fun p => wth p.2 z
        · refine ⟨fun w => absurd hc (w m List.mem_cons_self), fun _ => ?_⟩
          rw [List.map_cons, forL_cons (eg _ _)]
          rw [← em] at hc
          by_cases hb0 : 0 < b
          · rw [if_pos hb0] at hc
            simp only [kn, knl, Nat.reduceSub, Nat.reduceAdd, reduceIte, hb0, decide_true, in_ints, hc]
          · rw [if_neg hb0] at hc
            simp only [kn, knl, Nat.reduceSub, Nat.reduceAdd, reduceIte, hb0, decide_false, in_ints, hc, decide_true]
        · have key : forL (gNm 6) (xSeq [xIf (sCmp .inn (sBin .add (sVar 4) (sIf (sCmp .gt (sVar 2) (sCst (.int 0))) (sVar 6) (sNeg (sVar 6)))) (sVar 5)) (xSeq [xRet (sCst (.bl false))]) (xSeq [])] ⟨fuel, run T fuel (n + 2), fun _ _ _ _ => .bad⟩)
              (.int m :: r.map .int) [some (.dat (.ref k)), some (.dat (.int (p : Int))), some (.dat (.int b)), some (.dat (.int z)), some (.dat (.int (wth f z))), some (.dat (.lst ((nw.map fun p => wth p.2 z).map .int))), x] s =
              forL (gNm 6) (xSeq [xIf (sCmp .inn (sBin .add (sVar 4) (sIf (sCmp .gt (sVar 2) (sCst (.int 0))) (sVar 6) (sNeg (sVar 6)))) (sVar 5)) (xSeq [xRet (sCst (.bl false))]) (xSeq [])] ⟨fuel, run T fuel (n + 2), fun _ _ _ _ => .bad⟩)
              (r.map .int) [some (.dat (.ref k)), some (.dat (.int (p : Int))), some (.dat (.int b)), some (.dat (.int z)), some (.dat (.int (wth f z))), some (.dat (.lst ((nw.map fun p => wth p.2 z).map .int))), some (.dat (.int m))] s := by
            rw [forL_cons (eg _ _)]
            rw [← em] at hc
            by_cases hb0 : 0 < b
            · rw [if_pos hb0] at hc
              simp only [kn, knl, Nat.reduceSub, Nat.reduceAdd, reduceIte, hb0, decide_true, in_ints, hc, decide_false]
            · rw [if_neg hb0] at hc
              simp only [kn, knl, Nat.reduceSub, Nat.reduceAdd, reduceIte, hb0, decide_false, in_ints, hc]
          rw [List.map_cons, key]
          refine ⟨fun w => ih.1 fun m' hm' => w m' (List.mem_cons_of_mem _ hm'), fun w => ih.2 fun w' => w fun m' hm' => ?_⟩
          rcases List.mem_cons.mp hm' with e | e
          · rw [e]; exact hc
          · exact w' m' e
    have oi := open_eq H.rl f b z
    have L := loop (ups b.natAbs) none
    simp only []
    by_cases hp : ∀ m ∈ ups b.natAbs, wth f z + (if 0 < b then 1 else -1) * m ∉ nw.map fun p => wth p.2 z
    · obtain ⟨x', L⟩ := L.1 hp
      rw [← rangeD_ups] at L
      by_cases c1 : 0 ≤ wth f z + b
      · by_cases c2 : wth f z + b ≤ z - 1
        · rw [oi.mpr ⟨c1, c2, hp⟩]
          simp only [kn, knl, Nat.reduceSub, Nat.reduceAdd, reduceIte, inN h', v, Option.isSome_some, Option.map_some, itemN h', V, Tk, absD, rng, L, c1, c2, decide_true]
        · have : (openV se f b z).1 = false := by
            rw [← Bool.not_eq_true]
            exact fun w => c2 (oi.mp w).2.1
          rw [this]
          simp only [kn, knl, Nat.reduceSub, Nat.reduceAdd, reduceIte, inN h', v, Option.isSome_some, Option.map_some, itemN h', V, Tk, absD, rng, L, c1, c2, decide_true, decide_false]
      · have : (openV se f b z).1 = false := by
          rw [← Bool.not_eq_true]
          exact fun w => c1 (oi.mp w).1
        rw [this]
        simp only [kn, knl, Nat.reduceSub, Nat.reduceAdd, reduceIte, inN h', v, Option.isSome_some, Option.map_some, itemN h', V, Tk, absD, rng, L, c1, decide_false]
    · have L := L.2 hp
      rw [← rangeD_ups] at L
      have : (openV se f b z).1 = false := by
        rw [← Bool.not_eq_true]
        exact fun w => hp (oi.mp w).2.2
      rw [this]
      simp only [kn, knl, Nat.reduceSub, Nat.reduceAdd, reduceIte, inN h', v, Option.isSome_some, Option.map_some, itemN h', V, Tk, absD, rng, L]
end
/-! ### handing -/
abbrev t2 (p : Int × Int) : D := .tup [.int p.1, .int p.2]
theorem prs_map : ∀ l : List (Int × Int), prsOf (l.map t2) = some l
  | [] => rfl
  | i :: l => by
    have ih : mapO prD (l.map t2) = some l := prs_map l
    show mapO prD (t2 i :: l.map t2) = _
    rw [mapO, ih]
    rfl
theorem sortedP (s : St) (l : List (Int × Int)) (h : l ≠ []) (hl : l.length < 64) : bfD s .sorted [.lst (l.map t2)] = .ok (.lst ((sortP l).map t2)) s := by
  have e : intsOf (l.map t2) = none := by
    cases l with
    | nil => exact absurd rfl h
    | cons x l => rfl
  show sortedD s (.lst (l.map t2)) = _
  simp only [sortedD, e, prs_map, if_pos hl]
theorem sortedI2 (s : St) (i j : Int) : bfD s .sorted [.lst [.int i, .int j]] = .ok (.lst [.int (if i ≤ j then i else j), .int (if i ≤ j then j else i)]) s := by
  have e : intsOf [.int i, .int j] = some [i, j] := rfl
  show sortedD s (.lst [.int i, .int j]) = _
  simp only [sortedD, e]
  by_cases h : i ≤ j
  · simp [sortI, insI, h]
  · simp [sortI, insI, h]
theorem first_at : ∀ (R : List (Int × Int)) (k : Nat) (v p : Int), (R.map (·.2)).Nodup → (v, p) ∈ R → ∃ i, firstAt (fun z => eqFl z (.int p)) (R.map fun r => D.int r.2) k = some (k + i) ∧ R[i]? = some (v, p)
  | [], _, _, _, _, h => by cases h
  | (v', p') :: R, k, v, p, hn, h => by
    rw [List.map_cons, List.nodup_cons] at hn
    rw [List.map_cons]
    by_cases e : p' = p
    · subst e
      refine ⟨0, ?_, ?_⟩
      · simp [firstAt, eqFl]
      · rcases List.mem_cons.mp h with z | z
        · rw [z]; rfl
        · exact absurd (List.mem_map.mpr ⟨_, z, rfl⟩) hn.1
    · rcases List.mem_cons.mp h with z | z
      · cases z; exact absurd rfl e
      · obtain ⟨i, h1, h2⟩ := first_at R (k + 1) v p hn.2 z
        refine ⟨i + 1, ?_, by simpa using h2⟩
        have : eqFl (.int p') (.int p) = false := by simp [eqFl, e]
        simp only [firstAt, this, Bool.false_eq_true, if_false]
        rw [h1]
        congr 1
        omega
theorem zip_pairs : ∀ (A B : List (Int × Int)), zipD (A.map t2) (B.map t2) = (A.zip B).map fun p => D.tup [t2 p.1, t2 p.2]
  | [], _ => rfl
  | _ :: _, [] => rfl
  | a :: A, b :: B => by
    show D.tup [t2 a, t2 b] :: zipD (A.map t2) (B.map t2) = _
    rw [zip_pairs A B]
    rfl
theorem zip_chain : ∀ (m : Nat) (S : List (Int × Int)), m + 1 ≤ S.length → ((S.take m).zip ((S.drop 1).take m)).all (fun p => decide (p.2.1 - p.1.1 ≤ 3)) = chainB ((S.take (m + 1)).map (·.1))
  | 0, S, h => by
    cases S with
    | nil => simp at h
    | cons x S => simp [chainB]
  | m + 1, S, h => by
    cases S with
    | nil => simp at h
    | cons x S =>
      cases S with
      | nil => simp at h
      | cons y S =>
        have ih := zip_chain m (y :: S) (by simpa using h)
        simp only [List.drop_one, List.tail_cons, List.take_succ_cons, List.zip_cons_cons, List.all_cons, List.map_cons, chainB] at ih ⊢
        rw [ih]
theorem seg_mem {S : List Int} (hS : S.Pairwise (· < ·)) {i j : Nat} {a b : Int} (hij : i ≤ j) (ha : S[i]? = some a) (hb : S[j]? = some b) (x : Int) : x ∈ (S.drop i).take (j - i + 1) ↔ x ∈ S ∧ a ≤ x ∧ x ≤ b := by
  obtain ⟨hi, ea⟩ := List.getElem?_eq_some_iff.mp ha
  obtain ⟨hj, eb⟩ := List.getElem?_eq_some_iff.mp hb
  have mono : ∀ (u v : Nat) (hu : u < S.length) (hv : v < S.length), u < v → S[u] < S[v] := fun u v hu hv huv => List.pairwise_iff_getElem.mp hS u v hu hv huv
  constructor
  · intro h
    obtain ⟨k, hk, e⟩ := List.mem_iff_getElem.mp h
    simp only [List.length_take, List.length_drop] at hk
    rw [List.getElem_take, List.getElem_drop] at e
    refine ⟨List.mem_iff_getElem.mpr ⟨i + k, by omega, e⟩, ?_, ?_⟩
    · rw [← ea, ← e]
      rcases Nat.eq_zero_or_pos k with z | z
      · subst z; simp
      · exact Int.le_of_lt (mono _ _ _ _ (by omega))
    · rw [← eb, ← e]
      by_cases z : i + k = j
      · subst z; exact Int.le_refl _
      · exact Int.le_of_lt (mono _ _ _ _ (by omega))
  · rintro ⟨h, h1, h2⟩
    obtain ⟨k, hk, e⟩ := List.mem_iff_getElem.mp h
    have k1 : i ≤ k := by
      by_cases z : i ≤ k
      · exact z
      · have := mono k i hk hi (by omega)
        omega
    have k2 : k ≤ j := by
      by_cases z : k ≤ j
      · exact z
      · have := mono j k hj hk (by omega)
        omega
    refine List.mem_iff_getElem.mpr ⟨k - i, ?_, ?_⟩
    · simp only [List.length_take, List.length_drop]; omega
    · rw [List.getElem_take, List.getElem_drop]
      rw [← e]
      congr 1
      omega
/-- the rows of the law's sorted list -/
def rowsP (nw : List (Nat × Fo)) (n : Int) : List (Int × Int) := sortP (nw.map fun q => (wth q.2 n, (q.1 : Int)))
theorem rows_perm (nw : List (Nat × Fo)) (n : Int) : (rowsP nw n).Perm (nw.map fun q => (wth q.2 n, (q.1 : Int))) := sortP_perm _
theorem rows_strict {se : List (Option Fo)} {nw : List (Nat × Fo)} {n : Int} (H : Nw se nw n) : ((rowsP nw n).map (·.1)).Pairwise (· < ·) := by
  have h1 := sortP_srt (nw.map fun q => (wth q.2 n, (q.1 : Int)))
  have h2 : ((rowsP nw n).map (·.1)).Nodup := by
    have := (rows_perm nw n).map (·.1)
    rw [List.map_map] at this
    exact this.nodup_iff.mpr H.ds
  have h3 : (rowsP nw n).Pairwise fun a b => a.1 ≤ b.1 := h1.imp fun {a b} h => by
    unfold leP at h
    simp only [Bool.or_eq_true, Bool.and_eq_true, decide_eq_true_eq] at h
    omega
  rw [List.nodup_iff_pairwise_ne] at h2
  rw [List.pairwise_map] at h2 ⊢
  exact (h3.and h2).imp fun {a b} h => by
    obtain ⟨x, y⟩ := h
    omega
theorem rows_second {se : List (Option Fo)} {nw : List (Nat × Fo)} {n : Int} (H : Nw se nw n) : ((rowsP nw n).map (·.2)).Nodup := by
  have := (rows_perm nw n).map (·.2)
  rw [List.map_map] at this
  refine this.nodup_iff.mpr ?_
  have h := H.rl.nodup
  rw [List.nodup_iff_pairwise_ne, List.pairwise_map] at h ⊢
  exact h.imp fun {a b} h z => h (by
    have z : (a.1 : Int) = b.1 := z
    omega)
/-- is the thing handed: the same by the law and by the program -/
theorem hand_eq {se : List (Option Fo)} {nw : List (Nat × Fo)} {n : Int} (H : Nw se nw n) {a b : Fo} {i j : Nat} {p q : Int} (hij : i ≤ j) (hi : (rowsP nw n)[i]? = some (wth a n, p)) (hj : (rowsP nw n)[j]? = some (wth b n, q)) (c d : Fo) (hcd : (c = a ∧ d = b) ∨ (c = b ∧ d = a)) :
    chainB ((((rowsP nw n).drop i).take (j - i + 1)).map (·.1)) = (handL (btwV c d n se).1 n (btwV c d n se).1).1 := by
  have st := rows_strict H
  have hi' : ((rowsP nw n).map (·.1))[i]? = some (wth a n) := by rw [List.getElem?_map, hi]; rfl
  have hj' : ((rowsP nw n).map (·.1))[j]? = some (wth b n) := by rw [List.getElem?_map, hj]; rfl
  have seg := seg_mem st hij hi' hj'
  rw [Bool.eq_iff_iff, handL_iff, List.map_take, List.map_drop]
  rw [chain_iff _ ((st.sublist (List.drop_sublist _ _)).sublist (List.take_sublist _ _))]
  have hB : ∀ x, x ∈ (((rowsP nw n).map (·.1)).drop i).take (j - i + 1) ↔ x ∈ (btwV c d n se).1.map (wth · n) := by
    intro x
    rw [seg]
    have ab : wth a n ≤ wth b n := by
      have := (seg (wth a n)).mp (by
        refine List.mem_iff_getElem?.mpr ⟨0, ?_⟩
        rw [List.getElem?_take, if_pos (by omega), List.getElem?_drop]
        exact hi')
      exact this.2.2
    constructor
    · rintro ⟨h, h1, h2⟩
      obtain ⟨r, hr, e⟩ := List.mem_map.mp h
      obtain ⟨y, hy, e2⟩ := List.mem_map.mp ((rows_perm nw n).mem_iff.mp hr)
      have e3 : wth y.2 n = x := by rw [← e, ← e2]
      refine List.mem_map.mpr ⟨y.2, ?_, e3⟩
      rw [btw_iff, List.mem_filter]
      refine ⟨List.mem_map.mpr ⟨y, H.rl.mem_iff.mp hy, rfl⟩, ?_⟩
      rw [decide_eq_true_eq, sgn_mul, wth_less, wth_less, e3]
      rcases hcd with ⟨rfl, rfl⟩ | ⟨rfl, rfl⟩ <;> omega
    · intro h
      obtain ⟨f, hf, e⟩ := List.mem_map.mp h
      rw [btw_iff, List.mem_filter] at hf
      obtain ⟨hf1, hf2⟩ := hf
      rw [decide_eq_true_eq, sgn_mul, wth_less, wth_less] at hf2
      obtain ⟨y, hy, e2⟩ := List.mem_map.mp hf1
      have hx : x ∈ (rowsP nw n).map (·.1) := by
        refine List.mem_map.mpr ⟨(wth y.2 n, (y.1 : Int)), (rows_perm nw n).mem_iff.mpr (List.mem_map.mpr ⟨y, H.rl.mem_iff.mpr hy, rfl⟩), ?_⟩
        rw [← e, ← e2]
      refine ⟨hx, ?_, ?_⟩
      · rcases hcd with ⟨rfl, rfl⟩ | ⟨rfl, rfl⟩ <;> omega
      · rcases hcd with ⟨rfl, rfl⟩ | ⟨rfl, rfl⟩ <;> omega
  rw [arms_congr hB, List.forall_mem_map]
end Kn
set_option Elab.async false
set_option linter.all false
set_option maxHeartbeats 2000000
/-! KnD7: the law's hands, a deed, all deeds. -/
namespace Kn
theorem mt_idx (s : St) (xs : List D) (p : Int) {n : Nat} (h : xs.all flatD = true) (e : firstAt (fun z => eqFl z (.int p)) xs 0 = some n) : mtOk s .index (.lst xs) = true ∧ mtD s .index (.lst xs) [.int p] = .ok (.int (n : Int)) s := by
  refine ⟨rfl, ?_⟩
  show (match asL s (.lst xs) with
    | some xs => if flatD (.int p) && xs.all flatD then match firstAt (fun z => eqFl z (.int p)) xs 0 with
      | some n => R.ok (D.int n) s
      | none => .bad
      else .bad
    | none => .bad) = _
  have e2 : (flatD (.int p) && xs.all flatD) = true := by rw [h]; rfl
  show (if flatD (.int p) && xs.all flatD then match firstAt (fun z => eqFl z (.int p)) xs 0 with
      | some n => R.ok (D.int n) s
      | none => .bad
      else .bad) = _
  rw [if_pos e2, e]
theorem cut_map {α β : Type} (f : α → β) (xs : List α) (i m : Nat) : (((xs.map f).drop i).take m) = ((xs.drop i).take m).map f := by rw [List.map_take, List.map_drop]
section
variable {T : Nat → Option FD} {fuel : Nat} (hT : TZ T)
include hT
theorem r_lhands (n : Nat) {se : List (Option Fo)} {nw : List (Nat × Fo)} {z : Int} (H : Nw se nw z) {s : St} {k : Nat} (h : s[k]? = some (obN nw)) (p q : Nat) (hp : p < se.length) (hq : q < se.length) :
    ∃ d, run T fuel (n + 2) i_law_hands [.dat (.ref k), .dat (.int (p : Int)), .dat (.int (q : Int)), .dat (.int z)] s = .ok d s ∧ isN d = (handV se p q z).1.isNone := by
  have h' : s[k]? = some (.dct false (nwD nw)) := h
  obtain ⟨o, ho⟩ : ∃ o, se[p]? = some o := ⟨_, List.getElem?_eq_getElem hp⟩
  obtain ⟨o2, ho2⟩ : ∃ o, se[q]? = some o := ⟨_, List.getElem?_eq_getElem hq⟩
  cases o with
  | none =>
    refine ⟨.non, (run_eq hT.hands rfl).trans ?_, by simp [handV, ho, isN]⟩
    simp only [kn, knl, Nat.reduceSub, Nat.reduceAdd, reduceIte, inN h', H.rl.none_ ho, Option.isSome_none, Option.map_some]
  | some a =>
    have va := H.rl.val ho
    cases o2 with
    | none =>
      refine ⟨.non, (run_eq hT.hands rfl).trans ?_, by simp [handV, ho, ho2, isN]⟩
      simp only [kn, knl, Nat.reduceSub, Nat.reduceAdd, reduceIte, inN h', va, H.rl.none_ ho2, Option.isSome_none, Option.isSome_some, Option.map_some]
    | some b =>
      have vb := H.rl.val ho2
      have hk := (List.getElem?_eq_some_iff.mp h).1
      have h2 : (s.set k (.dct true (nwD nw)))[k]? = some (.dct true (nwD nw)) := List.getElem?_set_self hk
      have hl : nw.length ≤ 5 := Nat.le_trans H.rl.len H.l5
      -- the rows
      have L := fun x1 x2 x3 x4 x5 x6 x7 x8 x9 => lcD_fix (own := [12]) (g := gNm 12) (t := none) (elt := sTup [sCallD i_law_value [sItem (sVar 0) (sVar 12), sVar 3], sVar 12]) (f := sVar 0) (c := ⟨fuel, run T fuel (n + 1), fun _ _ _ _ => .bad⟩) (e := [some (.dat (.ref k)), x1, x2, some (.dat (.int z)), x3, x4, x5, x6, x7, x8, x9, none, none]) (s := s) (k := k) (kvs := nwD nw) (xs := (nw.map fun q => (wth q.2 z, (q.1 : Int))).map t2) rfl rfl h (fun i d hd => by
        rw [keysOf_nw, List.getElem?_map, List.getElem?_map] at hd
        cases hn : nw[i]? with
        | none => rw [hn] at hd; simp at hd
        | some p =>
          rw [hn] at hd
          have hd : D.int (p.1 : Int) = d := Option.some.inj hd
          subst hd
          obtain ⟨p, f⟩ := p
          have hm := List.mem_of_getElem? hn
          have v := val_mem H.rl.nodup hm
          have sm := H.sm' hm
          refine ⟨t2 (wth f z, (p : Int)), by rw [List.getElem?_map, List.getElem?_map, hn]; rfl, ?_⟩
          have V := r_lvalue (fuel := fuel) hT n f (by omega) z (s.set k (.dct true (nwD nw)))
          simp only [kn, knl, Nat.reduceSub, Nat.reduceAdd, reduceIte, itemN h2, v, V]) (by simp [nwD])
      have ne : (nw.map fun q => (wth q.2 z, (q.1 : Int))) ≠ [] := by
        intro e
        have := List.map_eq_nil_iff.mp e
        have m := H.rl.mem.mpr ho
        rw [this] at m
        cases m
      have S1 := sortedP s (nw.map fun q => (wth q.2 z, (q.1 : Int))) ne (by simp; omega)
      -- the line
      have lc : ∀ (x1 x2 x3 x4 x5 x6 x7 x8 x9 : Option Ag), lcL (lcTurn [11, 12] (gTp [gNm 11, gNm 12]) none (sVar 12) ⟨fuel, run T fuel (n + 1), fun _ _ _ _ => .bad⟩ [some (.dat (.ref k)), x1, x2, x3, x4, x5, x6, x7, x8, x9, none, none, none]) ((rowsP nw z).map t2) [] s = .ok ((rowsP nw z).map fun r => D.int r.2) s := fun x1 x2 x3 x4 x5 x6 x7 x8 x9 => by
        rw [lcL_map (f := fun d => match d with
          | .tup [_, y] => y
          | d => d)]
        · simp [List.map_map, Function.comp_def, t2]
        · intro d hd
          obtain ⟨r, _, rfl⟩ := List.mem_map.mp hd
          simp only [kn, knl, Nat.reduceSub, Nat.reduceAdd, reduceIte, t2]
      have mem : ∀ {p : Nat} {f : Fo}, se[p]? = some (some f) → (wth f z, (p : Int)) ∈ rowsP nw z := fun {p f} e => (rows_perm nw z).mem_iff.mpr (List.mem_map.mpr ⟨(p, f), H.rl.mem.mpr e, rfl⟩)
      obtain ⟨i, fi, gi⟩ := first_at (rowsP nw z) 0 _ _ (rows_second H) (mem ho)
      obtain ⟨j, fj, gj⟩ := first_at (rowsP nw z) 0 _ _ (rows_second H) (mem ho2)
      rw [Nat.zero_add] at fi fj
      have flat : ((rowsP nw z).map fun r => D.int r.2).all flatD = true := by
        rw [List.all_eq_true]
        intro d hd
        obtain ⟨r, _, rfl⟩ := List.mem_map.mp hd
        rfl
      have I1 := mt_idx s _ (p : Int) flat fi
      have I2 := mt_idx s _ (q : Int) flat fj
      -- the loop
      have loop : ∀ (ps : List ((Int × Int) × (Int × Int))) (e0 e1 e2 e3 e4 e5 e6 e7 x y e10 e11 e12 : Option Ag),
          (ps.all (fun p => decide (p.2.1 - p.1.1 ≤ 3)) = true → ∃ x' y', forL (gTp [gNm 8, gNm 9]) (xSeq [xIf (sCmp .gt (sBin .sub (sItem (sVar 9) (sCst (.int 0))) (sItem (sVar 8) (sCst (.int 0)))) (sCst (.int 3))) (xSeq [xRet (sCst .non)]) (xSeq [])] ⟨fuel, run T fuel (n + 1), fun _ _ _ _ => .bad⟩)
            (ps.map fun p => D.tup [t2 p.1, t2 p.2]) [e0, e1, e2, e3, e4, e5, e6, e7, x, y, e10, e11, e12] s = .nx [e0, e1, e2, e3, e4, e5, e6, e7, x', y', e10, e11, e12] s) ∧
          (ps.all (fun p => decide (p.2.1 - p.1.1 ≤ 3)) = false → forL (gTp [gNm 8, gNm 9]) (xSeq [xIf (sCmp .gt (sBin .sub (sItem (sVar 9) (sCst (.int 0))) (sItem (sVar 8) (sCst (.int 0)))) (sCst (.int 3))) (xSeq [xRet (sCst .non)]) (xSeq [])] ⟨fuel, run T fuel (n + 1), fun _ _ _ _ => .bad⟩)
            (ps.map fun p => D.tup [t2 p.1, t2 p.2]) [e0, e1, e2, e3, e4, e5, e6, e7, x, y, e10, e11, e12] s = .rt .non s) := by
        intro ps
        induction ps with
        | nil => intro e0 e1 e2 e3 e4 e5 e6 e7 x y e10 e11 e12; exact ⟨fun _ => ⟨x, y, rfl⟩, fun z => by cases z⟩
        | cons w ps ih =>
          intro e0 e1 e2 e3 e4 e5 e6 e7 x y e10 e11 e12
          obtain ⟨⟨a1, a2⟩, b1, b2⟩ := w
          have ih := ih e0 e1 e2 e3 e4 e5 e6 e7 (some (.dat (t2 (a1, a2)))) (some (.dat (t2 (b1, b2)))) e10 e11 e12
          have eg : ∀ e s, gTp [gNm 8, gNm 9] (.tup [t2 (a1, a2), t2 (b1, b2)]) e s = some ((e.set 8 (some (.dat (t2 (a1, a2))))).set 9 (some (.dat (t2 (b1, b2))))) := fun e s => by simp only [kn, knl, Nat.reduceSub, Nat.reduceAdd, reduceIte]
          rw [List.map_cons, forL_cons (eg _ _), List.all_cons]
          by_cases hc : 3 < b1 - a1
          · have : decide (b1 - a1 ≤ 3) = false := by simp; omega
            refine ⟨fun w => (by simp only [this, Bool.false_and] at w; cases w), fun _ => ?_⟩
            simp only [kn, knl, Nat.reduceSub, Nat.reduceAdd, reduceIte, at0, hc, decide_true]
          · have : decide (b1 - a1 ≤ 3) = true := by simp; omega
            refine ⟨fun w => ?_, fun w => ?_⟩
            · simp only [this, Bool.true_and] at w
              obtain ⟨x', y', ih⟩ := ih.1 w
              refine ⟨x', y', ?_⟩
              simp only [kn, knl, Nat.reduceSub, Nat.reduceAdd, reduceIte, at0, hc, decide_false]
              exact ih
            · simp only [this, Bool.true_and] at w
              have ih := ih.2 w
              simp only [kn, knl, Nat.reduceSub, Nat.reduceAdd, reduceIte, at0, hc, decide_false]
              exact ih
      -- with i, j in order
      have fin : ∀ (u v : Nat) (a' b' : Fo) (p' q' : Int), u ≤ v → (rowsP nw z)[u]? = some (wth a' z, p') → (rowsP nw z)[v]? = some (wth b' z, q') → ((a = a' ∧ b = b') ∨ (a = b' ∧ b = a')) →
          (if (i : Int) ≤ (j : Int) then (i : Int) else j) = (u : Int) → (if (i : Int) ≤ (j : Int) then (j : Int) else i) = (v : Int) →
          ∃ d, run T fuel (n + 2) i_law_hands [.dat (.ref k), .dat (.int (p : Int)), .dat (.int (q : Int)), .dat (.int z)] s = .ok d s ∧ isN d = (handV se p q z).1.isNone := by
        intro u v a' b' p' q' huv hu hv hab eu ev
        have lu := (List.getElem?_eq_some_iff.mp hu).1
        have lv := (List.getElem?_eq_some_iff.mp hv).1
        have HE := hand_eq H huv hu hv a b hab
        have eqn : (handV se p q z).1.isNone = !chainB ((((rowsP nw z).drop u).take (v - u + 1)).map (·.1)) := by
          rw [HE]
          simp only [handV, ho, ho2]
          cases (handL (btwV a b z se).1 z (btwV a b z se).1).1 <;> rfl
        have lr : ((rowsP nw z).map t2).length = (rowsP nw z).length := by simp
        have ll : ((rowsP nw z).map fun r => D.int r.2).length = (rowsP nw z).length := by simp
        have cu1 : (u : Int) + 1 = ((u + 1 : Nat) : Int) := by omega
        have cv1 : (v : Int) + 1 = ((v + 1 : Nat) : Int) := by omega
        have c1 := cut_mid (xs := (rowsP nw z).map t2) (i := u) (k := v) (by omega) (by omega)
        have c2 := cut_mid (xs := (rowsP nw z).map t2) (i := u + 1) (k := v + 1) (by omega) (by omega)
        have c3 := cut_mid (xs := (rowsP nw z).map fun r => D.int r.2) (i := u) (k := v + 1) (by omega) (by omega)
        rw [cut_map] at c1 c2
        rw [cut_map] at c3
        have zl : (((rowsP nw z).drop u).take (v - u)).length = (zipD ((((rowsP nw z).drop u).take (v - u)).map t2) ((((rowsP nw z).drop (u + 1)).take (v + 1 - (u + 1))).map t2)).length := by
          rw [zip_pairs]
          simp only [List.length_map, List.length_zip, List.length_take, List.length_drop]
          omega
        have zc := zip_chain (v - u) ((rowsP nw z).drop u) (by simp; omega)
        rw [List.drop_drop, show u + 1 = u + 1 from rfl, show v - u = v + 1 - (u + 1) by omega] at zc
        have P := loop ((((rowsP nw z).drop u).take (v - u)).zip (((rowsP nw z).drop (u + 1)).take (v + 1 - (u + 1))))
        rw [← zip_pairs] at P
        rw [show v - u = v + 1 - (u + 1) by omega] at P c1 zl
        rw [zc, show v + 1 - (u + 1) + 1 = v - u + 1 by omega] at P
        have rw0 : sortP (nw.map fun q => (wth q.2 z, (q.1 : Int))) = rowsP nw z := rfl
        rw [eqn]
        have hsrc : ∀ s (xs : List D) m, m = xs.length → (R.ok (Src.fix xs, m) s : R (Src × Nat)) = R.ok (Src.fix xs, xs.length) s := fun s xs m e => by rw [e]
        have zl2 := zl
        have zpe : ∀ s, zpD s (.lst ((((rowsP nw z).drop u).take (v + 1 - (u + 1))).map t2)) (.lst ((((rowsP nw z).drop (u + 1)).take (v + 1 - (u + 1))).map t2)) = .ok (.fix (zipD ((((rowsP nw z).drop u).take (v + 1 - (u + 1))).map t2) ((((rowsP nw z).drop (u + 1)).take (v + 1 - (u + 1))).map t2)), (zipD ((((rowsP nw z).drop u).take (v + 1 - (u + 1))).map t2) ((((rowsP nw z).drop (u + 1)).take (v + 1 - (u + 1))).map t2)).length) s := fun s => by
          rw [zpD_lst, List.length_map, zl2]
        generalize hA : (((rowsP nw z).drop u).take (v + 1 - (u + 1))).map t2 = A at *
        generalize hB : (((rowsP nw z).drop (u + 1)).take (v + 1 - (u + 1))).map t2 = B at *
        generalize hCc : (((rowsP nw z).drop u).take (v + 1 - u)).map (fun r => D.int r.2) = C at *
        have hC0 : ∃ c0 C', C = c0 :: C' ∧ ∃ w : Int, c0 = .int w := by
          have : C.length ≠ 0 := by rw [← hCc]; simp; omega
          cases C with
          | nil => exact absurd rfl this
          | cons c0 C' =>
            refine ⟨c0, C', rfl, ?_⟩
            have : c0 ∈ (((rowsP nw z).drop u).take (v + 1 - u)).map (fun r => D.int r.2) := by rw [hCc]; exact List.mem_cons_self
            obtain ⟨r, _, e⟩ := List.mem_map.mp this
            exact ⟨r.2, e.symm⟩
        obtain ⟨c0, C', rfl, w, rfl⟩ := hC0
        cases hc : chainB ((((rowsP nw z).drop u).take (v - u + 1)).map (·.1)) with
        | true =>
          rw [hc] at P
          by_cases hw : w = (p : Int)
          · refine ⟨.tup (.int w :: C'), (run_eq hT.hands rfl).trans ?_, rfl⟩
            simp only [kn, knl, Nat.reduceSub, Nat.reduceAdd, reduceIte, inN h', va, vb, Option.isSome_some, Option.map_some, L, S1, rw0, lc, I1.1, I1.2, I2.1, I2.2, sortedI2, eu, ev, slice_lst, cu1, cv1, c1, c2, zpe]
            obtain ⟨x', y', P⟩ := (P _ _ _ _ _ _ _ _ _ _ _ _ _).1 rfl
            rw [P]
            simp only [kn, knl, Nat.reduceSub, Nat.reduceAdd, reduceIte, slice_lst, cv1, c3, tupleD, at0, hw, decide_true]
          · refine ⟨.tup (D.int w :: C').reverse, (run_eq hT.hands rfl).trans ?_, rfl⟩
            simp only [kn, knl, Nat.reduceSub, Nat.reduceAdd, reduceIte, inN h', va, vb, Option.isSome_some, Option.map_some, L, S1, rw0, lc, I1.1, I1.2, I2.1, I2.2, sortedI2, eu, ev, slice_lst, cu1, cv1, c1, c2, zpe]
            obtain ⟨x', y', P⟩ := (P _ _ _ _ _ _ _ _ _ _ _ _ _).1 rfl
            rw [P]
            simp only [kn, knl, Nat.reduceSub, Nat.reduceAdd, reduceIte, slice_lst, cv1, c3, tupleD, at0, hw, decide_false, show ∀ s (xs : List D), revD s (.tup xs) = .ok (.tup xs.reverse) s from fun _ _ => rfl]
        | false =>
          rw [hc] at P
          refine ⟨.non, (run_eq hT.hands rfl).trans ?_, rfl⟩
          simp only [kn, knl, Nat.reduceSub, Nat.reduceAdd, reduceIte, inN h', va, vb, Option.isSome_some, Option.map_some, L, S1, rw0, lc, I1.1, I1.2, I2.1, I2.2, sortedI2, eu, ev, slice_lst, cu1, cv1, c1, c2, zpe]
          rw [(P _ _ _ _ _ _ _ _ _ _ _ _ _).2 rfl]
          simp only [kn, knl, Nat.reduceSub, Nat.reduceAdd, reduceIte]
      by_cases hij : i ≤ j
      · exact fin i j a b _ _ hij gi gj (.inl ⟨rfl, rfl⟩) (by rw [if_pos (by omega)]) (by rw [if_pos (by omega)])
      · exact fin j i b a _ _ (by omega) gj gi (.inr ⟨rfl, rfl⟩) (by rw [if_neg (by omega)]) (by rw [if_neg (by omega)])
end
end Kn
set_option Elab.async false
set_option linter.all false
set_option maxHeartbeats 2000000
/-! KnD8: the law's deed, all deeds. -/
namespace Kn
theorem Nw.mem' {se : List (Option Fo)} {nw : List (Nat × Fo)} {n : Int} (H : Nw se nw n) {p : Nat} (e : se[p]? = some none) : ∀ f, (p, f) ∉ nw := fun f z => by
  have := H.rl.mem.mp z
  rw [e] at this
  cases this
theorem Nw.come {se : List (Option Fo)} {nw : List (Nat × Fo)} {n : Int} (H : Nw se nw n) {p : Nat} (e : se[p]? = some none) {f : Fo} (hf : -10 ≤ f.1 ∧ f.1 ≤ 10) (hv : wth f n ∉ nw.map fun p => wth p.2 n) : Nw (se.set p (some f)) (nw ++ [(p, f)]) n :=
  ⟨H.rl.come e f, H.sm.set hf p, by rw [List.length_set]; exact H.l5, by
    rw [List.map_append, List.nodup_append]
    refine ⟨H.ds, by simp, fun a ha b hb => ?_⟩
    have hb : b = wth f n := by simpa using hb
    rw [hb]
    rintro rfl
    exact hv ha⟩
theorem Nw.go {se : List (Option Fo)} {nw : List (Nat × Fo)} {n : Int} (H : Nw se nw n) (p : Nat) : Nw (se.set p none) (nw.filter fun q => decide (q.1 ≠ p)) n :=
  ⟨H.rl.go p, H.sm.rem p, by rw [List.length_set]; exact H.l5, H.ds.sublist ((List.filter_sublist).map _)⟩
theorem Nw.move {se : List (Option Fo)} {nw : List (Nat × Fo)} {n : Int} (H : Nw se nw n) {p : Nat} {g : Fo} (e : se[p]? = some (some g)) {f : Fo} (hf : -10 ≤ f.1 ∧ f.1 ≤ 10) (hv : wth f n ∉ nw.map fun p => wth p.2 n) : Nw (se.set p (some f)) (nw.map fun q => if q.1 = p then (q.1, f) else q) n :=
  ⟨H.rl.move e f, H.sm.set hf p, by rw [List.length_set]; exact H.l5, by
    have h1 := H.rl.nodup
    have h2 := H.ds
    rw [List.nodup_iff_pairwise_ne, List.pairwise_map] at h1 h2
    rw [List.nodup_iff_pairwise_ne, List.pairwise_map, List.pairwise_map]
    refine (h1.and h2).imp_of_mem fun {a b} ha hb h => ?_
    obtain ⟨k1, k2⟩ := h
    have va : wth f n ≠ wth a.2 n := fun z => hv (List.mem_map.mpr ⟨a, ha, z.symm⟩)
    have vb : wth f n ≠ wth b.2 n := fun z => hv (List.mem_map.mpr ⟨b, hb, z.symm⟩)
    by_cases z1 : a.1 = p
    · by_cases z2 : b.1 = p
      · exact absurd (z1.trans z2.symm) k1
      · rw [if_pos z1, if_neg z2]; exact vb
    · by_cases z2 : b.1 = p
      · rw [if_neg z1, if_pos z2]; exact Ne.symm va
      · rw [if_neg z1, if_neg z2]; exact k2⟩
theorem bes_gone {se : List (Option Fo)} {p : Nat} {f : Fo} (e : se[p]? = some (some f)) {sg : Int} (h : sg ≠ 0) (n : Int) : bes f sg n 0 (se.set p none) = bes f sg n 0 se := by
  rw [bes_occ, bes_occ, occ_set_none, List.filter_filter]
  congr 1
  refine List.filter_congr fun q hq => ?_
  by_cases z : q.1 = 0 + p
  · have hq2 : q.2 = f := by
      obtain ⟨q1, q2⟩ := q
      have z : q1 = 0 + p := z
      subst z
      have := (occ_mem se 0 p q2).mp hq
      rw [e] at this
      cases this
      rfl
    have : ¬ sgn (wth (lessF q.2 f) n) = sg := by
      rw [hq2, wth_less, Int.sub_self]
      exact fun w => h w.symm
    simp [this]
  · have z' : ¬ q.1 = p := by omega
    simp [z']
theorem way_gone {se : List (Option Fo)} {p : Nat} {f : Fo} (e : se[p]? = some (some f)) (sd : Si) (n : Int) : (wayV f sd n (se.set p none)).1 = (wayV f sd n se).1 := by
  have e1 : lW f n (se.set p none) = lW f n se := by unfold lW; rw [bes_gone e (by decide)]
  have e2 : rW f n (se.set p none) = rW f n se := by unfold rW; rw [bes_gone e (by decide)]
  unfold wayV
  rw [e1, e2]
theorem set_app {s g : St} {k : Nat} {o : Ob} (h : k < s.length) : (s ++ g).set k o = s.set k o ++ g := List.set_append_left _ _ h
theorem setN {s : St} {k : Nat} {kvs : List (Ky × D)} (h : s[k]? = some (.dct false kvs)) (hl : kvs.length < line) (p : Int) (d : D) : setD s (.ref k) (.int p) d = some (s.set k (.dct false (putK kvs (.i p) d))) := by
  simp only [setD, h, kyOf, if_pos hl]
theorem popN {s : St} {k : Nat} {kvs : List (Ky × D)} {p : Int} {d : D} (h : s[k]? = some (.dct false kvs)) (v : valK kvs (.i p) = some d) : mtOk s .pop1 (.ref k) = true ∧ mtD s .pop1 (.ref k) [.int p] = .ok d (s.set k (.dct false (dropK kvs (.i p)))) := by
  refine ⟨by simp only [mtOk, h], ?_⟩
  simp only [mtD, h, kyOf, v]
section
variable {T : Nat → Option FD} {fuel : Nat} (hT : TZ T)
include hT
theorem r_lstep (n : Nat) {se : List (Option Fo)} {nw : List (Nat × Fo)} {z : Int} (H : Nw se nw z) {s : St} {k : Nat} (h : s[k]? = some (obN nw)) (d : De) (hd : d.ok se.length) :
    ∃ g nw', Nw (doV se d z).2.1 nw' z ∧ run T fuel (n + 5) i_law_step [.dat (.ref k), .dat d.d, .dat (.int z)] s = .ok (owD (doV se d z).1) (s.set k (obN nw') ++ g) := by
  have h' : s[k]? = some (.dct false (nwD nw)) := h
  have hk := (List.getElem?_eq_some_iff.mp h).1
  have hl : (nwD nw).length < line := by
    have := H.rl.len; have := H.l5
    unfold nwD line
    rw [List.length_map]; omega
  have a1 : ¬ w_go = w_hand := by decide
  have a2 : ¬ w_move = w_hand := by decide
  have a3 : ¬ w_come = w_hand := by decide
  have a4 : ¬ w_go = w_move := by decide
  have a5 : ¬ w_come = w_move := by decide
  have a6 : ¬ w_come = w_go := by decide
  cases d with
  | hand p q =>
    obtain ⟨hp, hq, _⟩ := hd
    obtain ⟨d, e, hn⟩ := r_lhands (fuel := fuel) hT (n + 2) H h p q hp hq
    have hse : (handV se p q z).2.1 = se := by
      simp only [handV]
      split <;> rfl
    have hwd : (handV se p q z).1 = none ∨ (handV se p q z).1 = some ((0, 0), []) := by
      simp only [handV]
      split
      · simp only []
        split
        · exact .inr rfl
        · exact .inl rfl
      · exact .inl rfl
    refine ⟨[], nw, by show Nw (handV se p q z).2.1 nw z; rw [hse]; exact H, (run_eq hT.step rfl).trans ?_⟩
    rcases hwd with e1 | e1
    · rw [e1] at hn
      simp only [kn, knl, Nat.reduceSub, Nat.reduceAdd, reduceIte, De.d, at0, at1, at2, decide_true, e, hn, Option.isNone_none]
      simp [doV, e1, owD, set_same h]
    · rw [e1] at hn
      simp only [kn, knl, Nat.reduceSub, Nat.reduceAdd, reduceIte, De.d, at0, at1, at2, decide_true, e, hn, Option.isNone_some]
      simp [doV, e1, owD, set_same h]
  | move p b =>
    obtain ⟨hp, h1, h2, h3⟩ := hd
    obtain ⟨o, ho⟩ : ∃ o, se[p]? = some o := ⟨_, List.getElem?_eq_getElem hp⟩
    have C := r_lcan (fuel := fuel) hT (n + 1) H h p b (by omega) o ho
    cases o with
    | none =>
      refine ⟨[], nw, by simpa [doV, moveV, ho] using H, (run_eq hT.step rfl).trans ?_⟩
      simp only [kn, knl, Nat.reduceSub, Nat.reduceAdd, reduceIte, De.d, at0, at1, at2, decide_true, decide_false, a2, C]
      simp [doV, moveV, ho, owD, set_same h]
    | some f =>
      have v := H.rl.val ho
      cases hc : (openV se f b z).1 with
      | false =>
        refine ⟨[], nw, by simpa [doV, moveV, ho, hc] using H, (run_eq hT.step rfl).trans ?_⟩
        simp only [kn, knl, Nat.reduceSub, Nat.reduceAdd, reduceIte, De.d, at0, at1, at2, decide_true, decide_false, a2, C, hc]
        simp [doV, moveV, ho, hc, owD, set_same h]
      | true =>
        have oi := (open_eq H.rl f b z).mp hc
        have sm := H.sm.at_ ho
        have hv : wth (addF f (0, b)) z ∉ nw.map fun p => wth p.2 z := by
          have := oi.2.2 (b.natAbs : Int) (by
            unfold ups
            exact List.mem_map.mpr ⟨b.natAbs - 1, List.mem_range.mpr (by omega), by omega⟩)
          rw [wth_add]
          have e : wth f z + (if 0 < b then 1 else -1) * (b.natAbs : Int) = wth f z + b := by split <;> omega
          rw [e] at this
          exact this
        have P := put_old (H.rl.mem.mpr ho) (addF f (0, b))
        have S := setN h' hl (p : Int) (fm (addF f (0, b)))
        rw [P] at S
        refine ⟨[], _, by simpa [doV, moveV, ho, hc] using H.move ho (f := addF f (0, b)) (by show -10 ≤ f.1 + 0 ∧ f.1 + 0 ≤ 10; omega) hv, (run_eq hT.step rfl).trans ?_⟩
        have ef : D.tup [.int f.1, .int (f.2 + b)] = fm (addF f (0, b)) := by
          unfold addF
          simp only [Int.add_zero]
        simp only [kn, knl, Nat.reduceSub, Nat.reduceAdd, reduceIte, De.d, at0, at1, at2, decide_true, decide_false, a2, C, hc, itemN h', v, ef, S, absD]
        simp [doV, moveV, ho, hc, owD, obN]
  | go p sd =>
    have hp : p < se.length := hd
    obtain ⟨o, ho⟩ : ∃ o, se[p]? = some o := ⟨_, List.getElem?_eq_getElem hp⟩
    cases o with
    | none =>
      refine ⟨[], nw, by simpa [doV, goV, ho] using H, (run_eq hT.step rfl).trans ?_⟩
      simp only [kn, knl, Nat.reduceSub, Nat.reduceAdd, reduceIte, De.d, at0, at1, decide_true, decide_false, a1, a4, inN h', H.rl.none_ ho, Option.isSome_none, Option.map_some]
      simp [doV, goV, ho, owD, set_same h]
    | some f =>
      have v := H.rl.val ho
      have P := popN (p := (p : Int)) h' v
      rw [drop_eq] at P
      have hs : (s.set k (obN (nw.filter fun q => decide (q.1 ≠ p))))[k]? = some (obN (nw.filter fun q => decide (q.1 ≠ p))) := List.getElem?_set_self hk
      obtain ⟨g, W⟩ := r_lway (fuel := fuel) hT (n + 2) (H.go p) hs f (H.sm.at_ ho) sd
      rw [way_gone ho] at W
      refine ⟨g, _, by simpa [doV, goV, ho] using H.go p, (run_eq hT.step rfl).trans ?_⟩
      have W' : run T fuel (n + 4) i_law_way [.dat (.ref k), .dat (fm f), .dat (.str sd.s), .dat (.int z)] (s.set k (.dct false (nwD (nw.filter fun q => decide (q.1 ≠ p))))) = _ := W
      simp only [kn, knl, Nat.reduceSub, Nat.reduceAdd, reduceIte, De.d, at0, at1, at2, decide_true, decide_false, a1, a4, inN h', v, Option.isSome_some, Option.map_some, P.1, P.2, W']
      simp [doV, goV, ho, owD, obN]
  | come p t sd =>
    obtain ⟨hp, ht⟩ := hd
    obtain ⟨o, ho⟩ : ∃ o, se[p]? = some o := ⟨_, List.getElem?_eq_getElem hp⟩
    have F := r_lform (fuel := fuel) hT (n + 3) t z s
    have sm := spot_sm t z
    cases o with
    | some f =>
      have v := H.rl.val ho
      refine ⟨[], nw, by simpa [doV, comeV, ho] using H, (run_eq hT.step rfl).trans ?_⟩
      simp only [kn, knl, Nat.reduceSub, Nat.reduceAdd, reduceIte, De.d, at0, at1, at2, decide_true, decide_false, a3, a5, a6, F, inN h', v, Option.isSome_some]
      simp [doV, comeV, ho, owD, set_same h]
    | none =>
      have V := r_lvalue (fuel := fuel) hT (n + 3) (spotF t z) (by omega) z s
      have Tk := r_taken (fuel := fuel) hT (n + 2) H h
      have bz := bes_zero H.rl (spotF t z) z
      by_cases hc : wth (spotF t z) z ∈ nw.map fun p => wth p.2 z
      · have hb : ¬ bes (spotF t z) 0 z 0 se = [] := fun w => bz.mp w hc
        refine ⟨[], nw, by simpa [doV, comeV, ho, hb] using H, (run_eq hT.step rfl).trans ?_⟩
        simp only [kn, knl, Nat.reduceSub, Nat.reduceAdd, reduceIte, De.d, at0, at1, at2, decide_true, decide_false, a3, a5, a6, F, inN h', H.rl.none_ ho, Option.isSome_none, V, Tk, in_ints, hc]
        simp [doV, comeV, ho, hb, owD, set_same h]
      · have hb : bes (spotF t z) 0 z 0 se = [] := bz.mpr hc
        obtain ⟨g, W⟩ := r_lway (fuel := fuel) hT (n + 2) H h (spotF t z) (by omega) sd
        have hs : (s ++ g)[k]? = some (.dct false (nwD nw)) := by
          rw [List.getElem?_append_left hk]; exact h
        have S := setN hs hl (p : Int) (fm (spotF t z))
        rw [put_new (H.mem' ho), set_app hk] at S
        refine ⟨g, _, by simpa [doV, comeV, ho, hb] using H.come ho (f := spotF t z) (by omega) hc, (run_eq hT.step rfl).trans ?_⟩
        simp only [kn, knl, Nat.reduceSub, Nat.reduceAdd, reduceIte, De.d, at0, at1, at2, at3, decide_true, decide_false, a3, a5, a6, F, inN h', H.rl.none_ ho, Option.isSome_none, V, Tk, in_ints, hc, W, S]
        simp [doV, comeV, ho, hb, owD, obN]
/-- a row of what is told -/
def rowD (w : Option Way) : D := .tup [wDid w, wSte w, wSto w]
theorem r_lrun (n : Nat) (p : Pl) (hp : p.ok) (z : Int) (s : St) : ∃ g nw, Nw (lastL z p.des (List.replicate p.folk none)).2.1 nw z ∧ run T fuel (n + 6) i_law_run [.dat p.d, .dat (.int z)] s = .ok (.tup [.ref (s.length + 1), .ref s.length]) (s ++ obN nw :: .lst ((lastL z p.des (List.replicate p.folk none)).1.map rowD) :: g) := by
  obtain ⟨h1, h2, h3, h4⟩ := hp
  have eg : ∀ d e s, gNm 4 d e s = some (e.set 4 (some (.dat d))) := fun d e s => rfl
  have loop : ∀ (r : List De) (ws : List (Option Way)) (se : List (Option Fo)) (nw : List (Nat × Fo)) (g : St) (u v : Option Ag), (∀ d ∈ r, d.ok se.length) → Nw se nw z → ws.length + r.length ≤ 100 →
      ∃ u' v' g' nw', Nw (lastL z r se).2.1 nw' z ∧ forL (gNm 4) (xSeq [xAsg (gNm 5) (sCallD i_law_step [sVar 2, sVar 4, sVar 1]),
        xExpr (sMt .append (sVar 3) [sIf (sIsN false (sVar 5)) (sTup [sCst (.bl false), sTup [sCst (.int 0), sCst (.int 0)], sTup []]) (sBin .add (sTup [sCst (.bl true)]) (sVar 5))])] ⟨fuel, run T fuel (n + 5), fun _ _ _ _ => .bad⟩)
        (r.map De.d) [some (.dat p.d), some (.dat (.int z)), some (.dat (.ref s.length)), some (.dat (.ref (s.length + 1))), u, v] (s ++ obN nw :: .lst (ws.map rowD) :: g) =
        .nx [some (.dat p.d), some (.dat (.int z)), some (.dat (.ref s.length)), some (.dat (.ref (s.length + 1))), u', v'] (s ++ obN nw' :: .lst ((ws ++ (lastL z r se).1).map rowD) :: g') := by
    intro r
    induction r with
    | nil =>
      intro ws se nw g u v _ H _
      exact ⟨u, v, g, nw, H, by simp [forL_nil, lastL]⟩
    | cons d r ih =>
      intro ws se nw g u v hd H hw
      rw [List.length_cons] at hw
      have hd0 := hd d List.mem_cons_self
      have at1 : (s ++ obN nw :: .lst (ws.map rowD) :: g)[s.length]? = some (obN nw) := add_at
      obtain ⟨g1, nw1, H1, D1⟩ := r_lstep (fuel := fuel) hT n H at1 d hd0
      rw [add_set] at D1
      have ll := doV_len se d z
      have e2 : ∀ (o : Ob) (x : List D) (g : St), (s ++ o :: .lst x :: g)[s.length + 1]? = some (.lst x) := fun o x g => by
        rw [List.getElem?_append_right (by omega)]
        simp
      have e3 : ∀ (o : Ob) (x y : List D) (g : St), (s ++ o :: .lst x :: g).set (s.length + 1) (.lst y) = s ++ o :: .lst y :: g := fun o x y g => by
        rw [List.set_append_right _ _ (by omega)]
        simp
      have ea : s ++ (obN nw1 :: .lst (ws.map rowD) :: g) ++ g1 = s ++ obN nw1 :: .lst (ws.map rowD) :: (g ++ g1) := by simp
      rw [ea] at D1
      have m := mt_app (e2 (obN nw1) (ws.map rowD) (g ++ g1)) (by simp; unfold line; omega) (rowD (doV se d z).1)
      rw [e3, show ws.map rowD ++ [rowD (doV se d z).1] = (ws ++ [(doV se d z).1]).map rowD by simp] at m
      obtain ⟨u', v', g', nw', H', ih⟩ := ih (ws ++ [(doV se d z).1]) (doV se d z).2.1 nw1 (g ++ g1) (some (.dat d.d)) (some (.dat (owD (doV se d z).1))) (fun d' h' => by rw [ll]; exact hd d' (List.mem_cons_of_mem _ h')) H1 (by simp; omega)
      refine ⟨u', v', g', nw', H', ?_⟩
      rw [List.map_cons, forL_cons (eg _ _ _)]
      have E : s ++ obN nw' :: .lst ((ws ++ (lastL z (d :: r) se).1).map rowD) :: g' = s ++ obN nw' :: .lst ((ws ++ [(doV se d z).1] ++ (lastL z r (doV se d z).2.1).1).map rowD) :: g' := by
        simp [lastL]
      rw [E]
      refine Eq.trans ?_ ih
      simp only [kn, knl, Nat.reduceSub, Nat.reduceAdd, reduceIte, D1]
      cases hv : (doV se d z).1 with
      | none =>
        rw [hv] at m
        have er : rowD none = .tup [.bl false, .tup [.int 0, .int 0], .tup []] := rfl
        rw [er] at m
        simp only [kn, knl, Nat.reduceSub, Nat.reduceAdd, reduceIte, owD, m.1, m.2]
      | some w =>
        rw [hv] at m
        have er : rowD (some w) = .tup [.bl true, fm w.1, .tup (nD w.2)] := rfl
        rw [er] at m
        simp only [kn, knl, Nat.reduceSub, Nat.reduceAdd, reduceIte, owD, m.1, boD_addT _ (a := [.bl true]) (b := [fm w.1, .tup (nD w.2)]) (by simp; unfold line; omega), m.2]
  have H0 : Nw (List.replicate p.folk none) [] z := ⟨by
    unfold Rl
    have : ∀ k i, occ i (List.replicate k (none : Option Fo)) = [] := by
      intro k
      induction k with
      | zero => intro i; rfl
      | succ k ih => intro i; rw [List.replicate_succ]; exact ih (i + 1)
    rw [this], fun f hf => by simp at hf, by simpa using h2, by simp⟩
  obtain ⟨u', v', g', nw', H', L⟩ := loop p.des [] (List.replicate p.folk none) [] [] none none (by simpa using h4) H0 (by simp; omega)
  refine ⟨g', nw', H', (run_eq hT.run_ rfl).trans ?_⟩
  have e1 : (s ++ [Ob.dct false []]).length = s.length + 1 := by simp
  have e2 : s ++ [Ob.dct false []] ++ [Ob.lst []] = s ++ [obN [], Ob.lst []] := by simp [obN, nwD]
  have L : forL _ _ _ [some (.dat (.tup [.int (p.folk : Int), .tup (p.des.map De.d)])), some (.dat (.int z)), some (.dat (.ref s.length)), some (.dat (.ref (s.length + 1))), none, none] (s ++ [obN [], Ob.lst []]) = _ := L
  simp only [kn, knl, Nat.reduceSub, Nat.reduceAdd, reduceIte, Pl.d, at1, e1, e2]
  rw [L]
  simp only [kn, knl, Nat.reduceSub, Nat.reduceAdd, reduceIte]
end
end Kn
set_option Elab.async false
set_option linter.all false
set_option maxHeartbeats 2000000
/-! KnD9: a value is worth itself; a list of the store walked; drawn numbers. -/
namespace Kn
/-- no dict within -/
def nodc : Nat → PySem.PyData → Bool
  | 0, _ => false
  | n + 1, p => match p with
    | .dict _ => false
    | .list xs => xs.all (nodc n)
    | .tuple xs => xs.all (nodc n)
    | _ => true
theorem eqvAll_refl {n : Nat} (ih : ∀ p, nodc n p = true → PySem.PyData.eqv p p = true) : ∀ xs : List PySem.PyData, xs.all (nodc n) = true → PySem.PyData.eqvAll xs xs = true
  | [], _ => by rw [PySem.PyData.eqvAll]
  | x :: xs, h => by
    rw [List.all_cons, Bool.and_eq_true] at h
    rw [PySem.PyData.eqvAll, ih x h.1, eqvAll_refl ih xs h.2]
    rfl
theorem eqv_refl : ∀ (n : Nat) (p : PySem.PyData), nodc n p = true → PySem.PyData.eqv p p = true := by
  intro n
  induction n with
  | zero => intro p h; cases h
  | succ n ih =>
    intro p h
    cases p with
    | dict _ => cases h
    | list xs => rw [PySem.PyData.eqv]; exact eqvAll_refl ih xs h
    | tuple xs => rw [PySem.PyData.eqv]; exact eqvAll_refl ih xs h
    | none => rw [PySem.PyData.eqv]
    | bool b => rw [PySem.PyData.eqv]; simp
    | int i => rw [PySem.PyData.eqv]; simp
    | str s => rw [PySem.PyData.eqv]; simp
/-- plain data, at most so deep -/
def plainD : Nat → D → Bool
  | 0, _ => false
  | n + 1, d => match d with
    | .non => true
    | .bl _ => true
    | .int _ => true
    | .str _ => true
    | .tup xs => xs.all (plainD n)
    | .lst xs => xs.all (plainD n)
    | _ => false
theorem plain_pd (s : St) : ∀ (n : Nat) (d : D), plainD n d = true → ∃ p, pd s n d = some p ∧ nodc n p = true := by
  intro n
  induction n with
  | zero => intro d h; cases h
  | succ n ih =>
    have all : ∀ xs : List D, xs.all (plainD n) = true → ∃ ps, mapO (pd s n) xs = some ps ∧ ps.all (nodc n) = true := by
      intro xs
      induction xs with
      | nil => intro _; exact ⟨[], rfl, rfl⟩
      | cons x xs ih2 =>
        intro h
        rw [List.all_cons, Bool.and_eq_true] at h
        obtain ⟨p, h1, h2⟩ := ih x h.1
        obtain ⟨ps, h3, h4⟩ := ih2 h.2
        refine ⟨p :: ps, by rw [mapO, h1, h3], by rw [List.all_cons, h2, h4]; rfl⟩
    intro d h
    cases d with
    | non => exact ⟨_, rfl, rfl⟩
    | bl b => exact ⟨_, rfl, rfl⟩
    | int i => exact ⟨_, rfl, rfl⟩
    | str x => exact ⟨_, rfl, rfl⟩
    | tup xs =>
      obtain ⟨ps, h1, h2⟩ := all xs h
      refine ⟨.tuple ps, ?_, h2⟩
      show (mapO (pd s n) xs).map PySem.PyData.tuple = _
      rw [h1]
      rfl
    | lst xs =>
      obtain ⟨ps, h1, h2⟩ := all xs h
      refine ⟨.list ps, ?_, h2⟩
      show (mapO (pd s n) xs).map PySem.PyData.list = _
      rw [h1]
      rfl
    | _ => cases h
theorem plain_mono : ∀ (n : Nat) {m : Nat} {d : D}, plainD n d = true → n ≤ m → plainD m d = true := by
  intro n
  induction n with
  | zero => intro m d h; cases h
  | succ n ih =>
    intro m d h hm
    obtain ⟨m, rfl⟩ : ∃ k, m = k + 1 := ⟨m - 1, by omega⟩
    cases d with
    | tup xs => exact List.all_eq_true.mpr fun x hx => ih (List.all_eq_true.mp h x hx) (by omega)
    | lst xs => exact List.all_eq_true.mpr fun x hx => ih (List.all_eq_true.mp h x hx) (by omega)
    | non => rfl
    | bl b => rfl
    | int i => rfl
    | str x => rfl
    | _ => cases h
theorem dEq_refl (s : St) (d : D) (h : plainD 64 d = true) : dEq s d d = some true := by
  obtain ⟨p, h1, h2⟩ := plain_pd s 64 d h
  unfold dEq
  rw [h1]
  simp only [eqv_refl 64 p h2]
/-- a list that lies in the store -/
theorem lcR_map {turn : D → St → R (Option D)} {f : D → D} {s : St} {j : Nat} {xs : List D} (hj : s[j]? = some (.lst xs)) (h : ∀ d ∈ xs, turn d s = .ok (some (f d)) s) : lcG (Src.rl j).get turn xs.length 0 [] s = .ok (xs.map f) s := by
  have loop : ∀ (m i : Nat) (acc : List D), i + m = xs.length → acc = (xs.take i).map f → lcG (Src.rl j).get turn m i acc s = .ok (xs.map f) s := by
    intro m
    induction m with
    | zero =>
      intro i acc hi ha
      have e0 : (Src.rl j).get i s = some none := by
        simp only [Src.get, hj]
        rw [List.getElem?_eq_none (by omega)]
      show (match (Src.rl j).get i s with
        | some none => R.ok acc s
        | _ => .bad) = _
      rw [e0, ha, List.take_of_length_le (by omega)]
    | succ m ih =>
      intro i acc hi ha
      have hi2 : i < xs.length := by omega
      have e0 : (Src.rl j).get i s = some (some xs[i]) := by
        simp only [Src.get, hj]
        rw [List.getElem?_eq_getElem hi2]
      show (match (Src.rl j).get i s with
        | none => R.bad
        | some none => R.ok acc s
        | some (some d) => match turn d s with
          | .ok (some x) s1 => lcG (Src.rl j).get turn m (i + 1) (acc ++ [x]) s1
          | .ok none s1 => lcG (Src.rl j).get turn m (i + 1) acc s1
          | _ => .bad) = _
      rw [e0]
      simp only [h _ (List.getElem_mem hi2)]
      refine ih (i + 1) _ (by omega) ?_
      rw [ha, List.take_add_one, List.getElem?_eq_getElem hi2, List.map_append]
      rfl
  exact loop xs.length 0 [] (by omega) rfl
theorem plain_did (w : Option Way) : plainD 5 (wDid w) = true := rfl
theorem plain_ste (w : Option Way) : plainD 5 (wSte w) = true := rfl
theorem plain_nD (l : List Nat) (n : Nat) : (nD l).all (plainD (n + 1)) = true := by
  rw [List.all_eq_true]
  intro d hd
  obtain ⟨i, _, rfl⟩ := List.mem_map.mp hd
  rfl
theorem plain_sto (w : Option Way) : plainD 5 (wSto w) = true := plain_nD _ 3
theorem plain_map {α : Type} (f : α → D) (l : List α) (n : Nat) (h : ∀ a, plainD n (f a) = true) : plainD (n + 1) (.tup (l.map f)) = true := by
  show (l.map f).all (plainD n) = true
  rw [List.all_eq_true]
  intro d hd
  obtain ⟨a, _, rfl⟩ := List.mem_map.mp hd
  exact h a
structure TQ (T : Nat → Option FD) : Prop extends TY T where
  n : T i_law_n = some fd_law_n
section
variable {T : Nat → Option FD} {fuel : Nat} (hT : TQ T)
include hT
theorem r_ln (n : Nat) {k : Nat} {s : St} (h : Has k s) : ∃ (z : Int) (s' : St), NOk z ∧ Dr k s s' ∧ run T fuel (n + 3) i_law_n [.dat (.ref k)] s = .ok (.int z) s' := by
  obtain ⟨a, s1, a0, a1, dr1, e1⟩ := r_draw (fuel := fuel) hT.toTW (n + 1) h 9 (by decide) (by decide)
  have h1 := h.dr dr1
  have t9 : (10 : Int) ^ (9 : Int).toNat = 1000000000 := by decide
  have t30 : (10 : Int) ^ (30 : Int).toNat = 1000000000000000000000000000000 := by decide
  obtain ⟨b, s2, b0, b1, dr2, e2⟩ := r_draw (fuel := fuel) hT.toTW (n + 1) h1 1000000000 (by decide) (by decide)
  have h2 := h1.dr dr2
  obtain ⟨c, s3, c0, c1, dr3, e3⟩ := r_draw (fuel := fuel) hT.toTW (n + 1) h2 60 (by decide) (by decide)
  have h3 := h2.dr dr3
  obtain ⟨d, s4, hd, dr4, e4⟩ := r_of (fuel := fuel) hT.toTW n h3 [.int 12, .int (12 + a), .int (12 + a + c), .int (1000000000 + b), .int 1000000000000000000000000000000] (by simp) (by simp)
  have big : (10 : Int) ^ 30 = 1000000000000000000000000000000 := by decide
  have key : ∃ z, d = .int z ∧ NOk z := by
    simp only [List.mem_cons, List.not_mem_nil, or_false] at hd
    unfold NOk
    rw [big]
    rcases hd with rfl | rfl | rfl | rfl | rfl
    · exact ⟨_, rfl, by omega⟩
    · exact ⟨_, rfl, by omega⟩
    · exact ⟨_, rfl, by omega⟩
    · exact ⟨_, rfl, by omega⟩
    · exact ⟨_, rfl, by omega⟩
  obtain ⟨z, rfl, hz⟩ := key
  refine ⟨z, s4, hz, ((dr1.trans dr2).trans dr3).trans dr4, (run_eq hT.n rfl).trans ?_⟩
  have p9 := fun s => boD_pow s (a := 10) (b := 9) (by decide)
  have p30 := fun s => boD_pow s (a := 10) (b := 30) (by decide)
  rw [t9] at p9
  rw [t30] at p30
  simp only [kn, knl, Nat.reduceSub, Nat.reduceAdd, reduceIte, e1, p9, p30, e2, e3, e4]
end
theorem Has.app {k : Nat} {s : St} (h : Has k s) (g : St) : Has k (s ++ g) := by
  obtain ⟨x, y, ok, e⟩ := h
  exact ⟨x, y, ok, by rw [List.getElem?_append_left (List.getElem?_eq_some_iff.mp e).1]; exact e⟩
end Kn
set_option Elab.async false
set_option linter.all false
set_option maxRecDepth 100000
set_option maxHeartbeats 4000000
/-! KnL_k02: the defs of this law as they stand in its text; the table (printed by genlaw.py). -/
namespace Kn.k02
open PySem L2
def topS (i : Nat) : Stmt := PySem.Challenge.pw_kneesany_k02_deeds_done.main.body.getD i (.Pass ⟨0, 0, 0, 0⟩)
def e_is_number : Ent := ⟨i_is_number, "is_number", topS 8, ["value", "least", "most"], ["value", "least", "most"], ⟨[("isinstance", .blt), ("int", .blt), ("bool", .blt)], [], [], false⟩⟩
def e_is_tuple : Ent := ⟨i_is_tuple, "is_tuple", topS 9, ["value", "least", "most"], ["value", "least", "most"], ⟨[("isinstance", .blt), ("tuple", .blt), ("len", .blt)], [], [], false⟩⟩
def e_is_word : Ent := ⟨i_is_word, "is_word", topS 10, ["value", "words"], ["value", "words"], ⟨[("isinstance", .blt), ("str", .blt)], [], [], false⟩⟩
def e_is_spot : Ent := ⟨i_is_spot, "is_spot", topS 11, ["value"], ["value"], ⟨[("is_tuple", .fn 1 3), ("is_word", .fn 2 2), ("is_number", .fn 0 3)], [], [], false⟩⟩
def e_is_deed_of : Ent := ⟨i_is_deed_of, "is_deed_of", topS 12, ["folk", "value"], ["folk", "value"], ⟨[("is_tuple", .fn 1 3), ("is_number", .fn 0 3), ("is_word", .fn 2 2), ("len", .blt), ("is_spot", .fn 3 1), ("SIDES", .val g_SIDES)], [], [], false⟩⟩
def e_is_good_plan : Ent := ⟨i_is_good_plan, "is_good_plan", topS 13, ["value", "deed"], ["value"], ⟨[("is_tuple", .fn 1 3), ("is_number", .fn 0 3), ("all", .blt), ("is_deed_of", .fn 4 2)], [], [], false⟩⟩
def e_need_plan : Ent := ⟨i_need_plan, "need_plan", topS 14, ["value"], ["value"], ⟨[("is_good_plan", .fn 5 1)], [], [], false⟩⟩
def e_need_n : Ent := ⟨i_need_n, "need_n", topS 15, ["value"], ["value"], ⟨[("is_number", .fn 0 3), ("LEAST", .val g_LEAST), ("MOST", .val g_MOST)], [], [], false⟩⟩
def e_less : Ent := ⟨i_less, "less", topS 17, ["one", "other"], ["one", "other"], ⟨[], [], [], false⟩⟩
def e_worth : Ent := ⟨i_worth, "worth", topS 18, ["form", "n"], ["form", "n"], ⟨[], [], [], false⟩⟩
def e_whole : Ent := ⟨i_whole, "whole", topS 19, ["n"], ["n"], ⟨[], [], [], false⟩⟩
def e_spot_form : Ent := ⟨i_spot_form, "spot_form", topS 21, ["spot", "n"], ["spot", "n"], ⟨[("less", .fn 8 2), ("whole", .fn 10 1)], [], [], false⟩⟩
def e_added : Ent := ⟨i_added, "added", topS 16, ["one", "other"], ["one", "other"], ⟨[], [], [], false⟩⟩
def e_sign_of : Ent := ⟨i_sign_of, "sign_of", topS 20, ["form", "n", "here"], ["form", "n"], ⟨[("worth", .fn 9 2)], [], [], false⟩⟩
def e_begun : Ent := ⟨i_begun, "begun", topS 23, ["folk", "none", "person"], ["folk"], ⟨[("tuple", .blt), ("range", .blt)], [], [], false⟩⟩
def e_asks : Ent := ⟨i_asks, "asks", topS 24, ["state", "form", "n"], ["state", "form", "n"], ⟨[("sign_of", .fn 16 2)], ["state"], [], false⟩⟩
def e_with_item : Ent := ⟨i_with_item, "with_item", topS 25, ["row", "at", "item"], ["row", "at", "item"], ⟨[], [], [], false⟩⟩
def e_people_beside : Ent := ⟨i_people_beside, "people_beside", topS 26, ["state", "seat", "sign", "n", "found", "person", "form"], ["state", "seat", "sign", "n"], ⟨[("enumerate", .blt), ("asks", .fn 18 3), ("less", .fn 8 2)], [], [], false⟩⟩
def e_ways : Ent := ⟨i_ways, "ways", topS 27, ["state", "seat", "n", "left"], ["state", "seat", "n"], ⟨[("added", .fn 15 2), ("people_beside", .fn 20 4), ("less", .fn 8 2), ("whole", .fn 10 1)], [], [], false⟩⟩
def e_way_by : Ent := ⟨i_way_by, "way_by", topS 28, ["state", "seat", "side", "n", "left", "right"], ["state", "seat", "side", "n"], ⟨[("ways", .fn 21 3), ("len", .blt), ("asks", .fn 18 3), ("less", .fn 8 2)], [], [], false⟩⟩
def e_came : Ent := ⟨i_came, "came", topS 29, ["state", "person", "spot", "side", "n", "seat", "way"], ["state", "person", "spot", "side", "n"], ⟨[("spot_form", .fn 11 2), ("people_beside", .fn 20 4), ("way_by", .fn 22 4), ("with_item", .fn 19 3)], ["state"], [], false⟩⟩
def e_went : Ent := ⟨i_went, "went", topS 30, ["state", "person", "side", "n", "seat", "way"], ["state", "person", "side", "n"], ⟨[("way_by", .fn 22 4), ("with_item", .fn 19 3)], ["state"], [], false⟩⟩
def e_is_open : Ent := ⟨i_is_open, "is_open", topS 31, ["state", "seat", "by", "n", "last", "step", "many"], ["state", "seat", "by", "n"], ⟨[("added", .fn 15 2), ("asks", .fn 18 3), ("less", .fn 8 2), ("whole", .fn 10 1), ("range", .blt), ("abs", .blt), ("people_beside", .fn 20 4)], [], [], false⟩⟩
def e_moved : Ent := ⟨i_moved, "moved", topS 32, ["state", "person", "by", "n", "seat"], ["state", "person", "by", "n"], ⟨[("is_open", .fn 25 4), ("with_item", .fn 19 3), ("added", .fn 15 2), ("abs", .blt)], ["state"], [], false⟩⟩
def e_between : Ent := ⟨i_between, "between", topS 33, ["state", "one", "other", "n", "found", "seat"], ["state", "one", "other", "n"], ⟨[("asks", .fn 18 3), ("less", .fn 8 2)], ["found"], [], false⟩⟩
def e_next_gap : Ent := ⟨i_next_gap, "next_gap", topS 34, ["state", "seats", "seat", "n", "best", "other", "gap"], ["state", "seats", "seat", "n"], ⟨[("less", .fn 8 2), ("asks", .fn 18 3)], [], [], false⟩⟩
def e_handed : Ent := ⟨i_handed, "handed", topS 35, ["state", "person", "other", "n", "one", "two", "seats", "seat", "gap"], ["state", "person", "other", "n"], ⟨[("between", .fn 27 4), ("next_gap", .fn 28 4), ("asks", .fn 18 3), ("added", .fn 15 2)], [], [], false⟩⟩
def e_do : Ent := ⟨i_do, "do", topS 36, ["state", "deed", "n"], ["state", "deed", "n"], ⟨[("came", .fn 23 5), ("went", .fn 24 4), ("moved", .fn 26 4), ("handed", .fn 29 4)], [], [], false⟩⟩
def e_last_of : Ent := ⟨i_last_of, "last_of", topS 37, ["plan", "n", "state", "deed", "way", "steps", "stood"], ["plan", "n"], ⟨[("begun", .fn 17 1), ("do", .fn 30 3)], ["state"], [], false⟩⟩
def e_done : Ent := ⟨i_done, "done", topS 38, ["plan", "n"], ["plan", "n"], ⟨[("need_plan", .fn 6 1), ("need_n", .fn 7 1), ("last_of", .fn 31 2)], [], [], false⟩⟩
def e_stood : Ent := ⟨i_stood, "stood", topS 39, ["plan", "n"], ["plan", "n"], ⟨[("need_plan", .fn 6 1), ("need_n", .fn 7 1), ("last_of", .fn 31 2)], [], [], false⟩⟩
def e_steps : Ent := ⟨i_steps, "steps", topS 40, ["plan", "n", "form"], ["plan", "n"], ⟨[("need_plan", .fn 6 1), ("need_n", .fn 7 1), ("tuple", .blt), ("worth", .fn 9 2), ("last_of", .fn 31 2)], [], [], false⟩⟩
def e_step_forms : Ent := ⟨i_step_forms, "step_forms", topS 41, ["plan", "n"], ["plan", "n"], ⟨[("need_plan", .fn 6 1), ("need_n", .fn 7 1), ("last_of", .fn 31 2)], [], [], false⟩⟩
def e_law_source : Ent := ⟨i_law_source, "_law_source", topS 43, ["script", "k", "cell"], ["script", "k"], ⟨[("len", .blt), ("abs", .blt), ("int", .blt)], [], [], true⟩⟩
def e_law_draw : Ent := ⟨i_law_draw, "_law_draw", topS 44, ["source", "many", "found"], ["source", "many"], ⟨[("int", .blt)], ["source"], [], false⟩⟩
def e_law_of : Ent := ⟨i_law_of, "_law_of", topS 45, ["source", "items"], ["source", "items"], ⟨[("_law_draw", .fn 119 2), ("len", .blt)], [], [], false⟩⟩
def e_law_spot : Ent := ⟨i_law_spot, "_law_spot", topS 46, ["source", "word"], ["source"], ⟨[("_law_of", .fn 120 2), ("_law_draw", .fn 119 2)], [], [], false⟩⟩
def e_law_side : Ent := ⟨i_law_side, "_law_side", topS 47, ["source"], ["source"], ⟨[("_law_of", .fn 120 2)], [], [], false⟩⟩
def e_law_deed : Ent := ⟨i_law_deed, "_law_deed", topS 48, ["source", "folk", "word", "person", "by"], ["source", "folk"], ⟨[("_law_of", .fn 120 2), ("_law_draw", .fn 119 2), ("_law_spot", .fn 121 1), ("_law_side", .fn 122 1)], [], [], false⟩⟩
def e_law_plan : Ent := ⟨i_law_plan, "_law_plan", topS 49, ["source", "most", "folk", "deeds", "turn", "deed"], ["source", "most"], ⟨[("_law_draw", .fn 119 2), ("range", .blt), ("_law_deed", .fn 123 2), ("_law_spot", .fn 121 1), ("_law_side", .fn 122 1)], [], [], false⟩⟩
def e_law_n : Ent := ⟨i_law_n, "_law_n", topS 50, ["source", "small", "great"], ["source"], ⟨[("_law_draw", .fn 119 2), ("_law_of", .fn 120 2)], [], [], false⟩⟩
def e_law_value : Ent := ⟨i_law_value, "_law_value", topS 51, ["form", "n"], ["form", "n"], ⟨[], [], [], false⟩⟩
def e_law_form : Ent := ⟨i_law_form, "_law_form", topS 52, ["spot", "n"], ["spot", "n"], ⟨[], [], [], false⟩⟩
def e_law_k02 : Ent := ⟨i_law_k02, "law", topS 61, ["script", "k", "source", "turn", "plan", "again", "one", "two", "three", "moves", "four"], ["script"], ⟨[("range", .blt), ("min", .blt), ("len", .blt), ("_law_source", .fn 118 2), ("_law_plan", .fn 124 2), ("_law_right", .fn 164 2), ("_law_n", .fn 125 1), ("_law_known", .fn 163 0), ("done", .fn 32 2), ("stood", .fn 33 2), ("steps", .fn 34 2), ("step_forms", .fn 35 2)], [], [], false⟩⟩
def e_law_way : Ent := ⟨i_law_way, "_law_way", topS 53, ["now", "form", "side", "n", "seat", "low", "high", "one", "left", "right"], ["now", "form", "side", "n"], ⟨[("_law_value", .fn 126 2), ("sorted", .blt), ("tuple", .blt), ("len", .blt)], ["high", "low"], ["now"], false⟩⟩
def e_law_hands : Ent := ⟨i_law_hands, "_law_hands", topS 54, ["now", "one", "other", "n", "rows", "line", "first", "last", "left", "right", "some", "seat", "person"], ["now", "one", "other", "n"], ⟨[("sorted", .blt), ("_law_value", .fn 126 2), ("zip", .blt), ("tuple", .blt)], [], ["now"], false⟩⟩
def e_law_taken : Ent := ⟨i_law_taken, "_law_taken", topS 55, ["now", "n", "one"], ["now", "n"], ⟨[("_law_value", .fn 126 2)], [], ["now"], false⟩⟩
def e_law_can_move : Ent := ⟨i_law_can_move, "_law_can_move", topS 56, ["now", "person", "by", "n", "seat", "taken", "many"], ["now", "person", "by", "n"], ⟨[("_law_value", .fn 126 2), ("_law_taken", .fn 159 2), ("range", .blt), ("abs", .blt)], [], ["now"], false⟩⟩
def e_law_step : Ent := ⟨i_law_step, "_law_step", topS 57, ["now", "deed", "n", "word", "person", "form", "way"], ["now", "deed", "n"], ⟨[("_law_hands", .fn 158 4), ("_law_can_move", .fn 160 4), ("abs", .blt), ("_law_way", .fn 157 4), ("_law_form", .fn 127 2), ("_law_value", .fn 126 2), ("_law_taken", .fn 159 2)], ["now"], ["now"], false⟩⟩
def e_law_run : Ent := ⟨i_law_run, "_law_run", topS 58, ["plan", "n", "now", "found", "deed", "way"], ["plan", "n"], ⟨[("_law_step", .fn 161 3)], ["found"], ["now"], false⟩⟩
def e_law_known : Ent := ⟨i_law_known, "_law_known", topS 59, ["first", "second", "one", "two"], [], ⟨[], [], [], false⟩⟩
def e_law_right_k02 : Ent := ⟨i_law_right_k02, "_law_right", topS 60, ["plan", "n", "rows", "row"], ["plan", "n"], ⟨[("_law_run", .fn 162 2), ("done", .fn 32 2), ("tuple", .blt), ("stood", .fn 33 2), ("steps", .fn 34 2), ("_law_value", .fn 126 2), ("step_forms", .fn 35 2)], [], [], false⟩⟩
def tab : List (Nat × FD) := [(i_is_number, fd_is_number), (i_is_tuple, fd_is_tuple), (i_is_word, fd_is_word), (i_is_spot, fd_is_spot), (i_is_deed_of, fd_is_deed_of), (i_is_good_plan, fd_is_good_plan), (i_need_plan, fd_need_plan), (i_need_n, fd_need_n), (i_less, fd_less), (i_worth, fd_worth), (i_whole, fd_whole), (i_spot_form, fd_spot_form), (i_added, fd_added), (i_sign_of, fd_sign_of), (i_begun, fd_begun), (i_asks, fd_asks), (i_with_item, fd_with_item), (i_people_beside, fd_people_beside), (i_ways, fd_ways), (i_way_by, fd_way_by), (i_came, fd_came), (i_went, fd_went), (i_is_open, fd_is_open), (i_moved, fd_moved), (i_between, fd_between), (i_next_gap, fd_next_gap), (i_handed, fd_handed), (i_do, fd_do), (i_last_of, fd_last_of), (i_done, fd_done), (i_stood, fd_stood), (i_steps, fd_steps), (i_step_forms, fd_step_forms), (i_law_source, fd_law_source), (i_law_draw, fd_law_draw), (i_law_of, fd_law_of), (i_law_spot, fd_law_spot), (i_law_side, fd_law_side), (i_law_deed, fd_law_deed), (i_law_plan, fd_law_plan), (i_law_n, fd_law_n), (i_law_value, fd_law_value), (i_law_form, fd_law_form), (i_law_k02, fd_law_k02), (i_law_way, fd_law_way), (i_law_hands, fd_law_hands), (i_law_taken, fd_law_taken), (i_law_can_move, fd_law_can_move), (i_law_step, fd_law_step), (i_law_run, fd_law_run), (i_law_known, fd_law_known), (i_law_right_k02, fd_law_right_k02)]
def find : List (Nat × FD) → Nat → Option FD
  | [], _ => none
  | (j, f) :: r, i => if i = j then some f else find r i
def T (i : Nat) : Option FD := find tab i
theorem T_is_number : T i_is_number = some fd_is_number := by kernel_rfl
theorem T_is_tuple : T i_is_tuple = some fd_is_tuple := by kernel_rfl
theorem T_is_word : T i_is_word = some fd_is_word := by kernel_rfl
theorem T_is_spot : T i_is_spot = some fd_is_spot := by kernel_rfl
theorem T_is_deed_of : T i_is_deed_of = some fd_is_deed_of := by kernel_rfl
theorem T_is_good_plan : T i_is_good_plan = some fd_is_good_plan := by kernel_rfl
theorem T_need_plan : T i_need_plan = some fd_need_plan := by kernel_rfl
theorem T_need_n : T i_need_n = some fd_need_n := by kernel_rfl
theorem T_less : T i_less = some fd_less := by kernel_rfl
theorem T_worth : T i_worth = some fd_worth := by kernel_rfl
theorem T_whole : T i_whole = some fd_whole := by kernel_rfl
theorem T_spot_form : T i_spot_form = some fd_spot_form := by kernel_rfl
theorem T_added : T i_added = some fd_added := by kernel_rfl
theorem T_sign_of : T i_sign_of = some fd_sign_of := by kernel_rfl
theorem T_begun : T i_begun = some fd_begun := by kernel_rfl
theorem T_asks : T i_asks = some fd_asks := by kernel_rfl
theorem T_with_item : T i_with_item = some fd_with_item := by kernel_rfl
theorem T_people_beside : T i_people_beside = some fd_people_beside := by kernel_rfl
theorem T_ways : T i_ways = some fd_ways := by kernel_rfl
theorem T_way_by : T i_way_by = some fd_way_by := by kernel_rfl
theorem T_came : T i_came = some fd_came := by kernel_rfl
theorem T_went : T i_went = some fd_went := by kernel_rfl
theorem T_is_open : T i_is_open = some fd_is_open := by kernel_rfl
theorem T_moved : T i_moved = some fd_moved := by kernel_rfl
theorem T_between : T i_between = some fd_between := by kernel_rfl
theorem T_next_gap : T i_next_gap = some fd_next_gap := by kernel_rfl
theorem T_handed : T i_handed = some fd_handed := by kernel_rfl
theorem T_do : T i_do = some fd_do := by kernel_rfl
theorem T_last_of : T i_last_of = some fd_last_of := by kernel_rfl
theorem T_done : T i_done = some fd_done := by kernel_rfl
theorem T_stood : T i_stood = some fd_stood := by kernel_rfl
theorem T_steps : T i_steps = some fd_steps := by kernel_rfl
theorem T_step_forms : T i_step_forms = some fd_step_forms := by kernel_rfl
theorem T_law_source : T i_law_source = some fd_law_source := by kernel_rfl
theorem T_law_draw : T i_law_draw = some fd_law_draw := by kernel_rfl
theorem T_law_of : T i_law_of = some fd_law_of := by kernel_rfl
theorem T_law_spot : T i_law_spot = some fd_law_spot := by kernel_rfl
theorem T_law_side : T i_law_side = some fd_law_side := by kernel_rfl
theorem T_law_deed : T i_law_deed = some fd_law_deed := by kernel_rfl
theorem T_law_plan : T i_law_plan = some fd_law_plan := by kernel_rfl
theorem T_law_n : T i_law_n = some fd_law_n := by kernel_rfl
theorem T_law_value : T i_law_value = some fd_law_value := by kernel_rfl
theorem T_law_form : T i_law_form = some fd_law_form := by kernel_rfl
theorem T_law_k02 : T i_law_k02 = some fd_law_k02 := by kernel_rfl
theorem T_law_way : T i_law_way = some fd_law_way := by kernel_rfl
theorem T_law_hands : T i_law_hands = some fd_law_hands := by kernel_rfl
theorem T_law_taken : T i_law_taken = some fd_law_taken := by kernel_rfl
theorem T_law_can_move : T i_law_can_move = some fd_law_can_move := by kernel_rfl
theorem T_law_step : T i_law_step = some fd_law_step := by kernel_rfl
theorem T_law_run : T i_law_run = some fd_law_run := by kernel_rfl
theorem T_law_known : T i_law_known = some fd_law_known := by kernel_rfl
theorem T_law_right_k02 : T i_law_right_k02 = some fd_law_right_k02 := by kernel_rfl
theorem c_is_number : e_is_number.fd = some fd_is_number := by kernel_rfl
theorem s_is_number : fnScopeB e_is_number.N e_is_number.ps (defScope e_is_number.st) = true := by decide +kernel
theorem c_is_tuple : e_is_tuple.fd = some fd_is_tuple := by kernel_rfl
theorem s_is_tuple : fnScopeB e_is_tuple.N e_is_tuple.ps (defScope e_is_tuple.st) = true := by decide +kernel
theorem c_is_word : e_is_word.fd = some fd_is_word := by kernel_rfl
theorem s_is_word : fnScopeB e_is_word.N e_is_word.ps (defScope e_is_word.st) = true := by decide +kernel
theorem c_is_spot : e_is_spot.fd = some fd_is_spot := by kernel_rfl
theorem s_is_spot : fnScopeB e_is_spot.N e_is_spot.ps (defScope e_is_spot.st) = true := by decide +kernel
theorem c_is_deed_of : e_is_deed_of.fd = some fd_is_deed_of := by kernel_rfl
theorem s_is_deed_of : fnScopeB e_is_deed_of.N e_is_deed_of.ps (defScope e_is_deed_of.st) = true := by decide +kernel
theorem c_is_good_plan : e_is_good_plan.fd = some fd_is_good_plan := by kernel_rfl
theorem s_is_good_plan : fnScopeB e_is_good_plan.N e_is_good_plan.ps (defScope e_is_good_plan.st) = true := by decide +kernel
theorem c_need_plan : e_need_plan.fd = some fd_need_plan := by kernel_rfl
theorem s_need_plan : fnScopeB e_need_plan.N e_need_plan.ps (defScope e_need_plan.st) = true := by decide +kernel
theorem c_need_n : e_need_n.fd = some fd_need_n := by kernel_rfl
theorem s_need_n : fnScopeB e_need_n.N e_need_n.ps (defScope e_need_n.st) = true := by decide +kernel
theorem c_less : e_less.fd = some fd_less := by kernel_rfl
theorem s_less : fnScopeB e_less.N e_less.ps (defScope e_less.st) = true := by decide +kernel
theorem c_worth : e_worth.fd = some fd_worth := by kernel_rfl
theorem s_worth : fnScopeB e_worth.N e_worth.ps (defScope e_worth.st) = true := by decide +kernel
theorem c_whole : e_whole.fd = some fd_whole := by kernel_rfl
theorem s_whole : fnScopeB e_whole.N e_whole.ps (defScope e_whole.st) = true := by decide +kernel
theorem c_spot_form : e_spot_form.fd = some fd_spot_form := by kernel_rfl
theorem s_spot_form : fnScopeB e_spot_form.N e_spot_form.ps (defScope e_spot_form.st) = true := by decide +kernel
theorem c_added : e_added.fd = some fd_added := by kernel_rfl
theorem s_added : fnScopeB e_added.N e_added.ps (defScope e_added.st) = true := by decide +kernel
theorem c_sign_of : e_sign_of.fd = some fd_sign_of := by kernel_rfl
theorem s_sign_of : fnScopeB e_sign_of.N e_sign_of.ps (defScope e_sign_of.st) = true := by decide +kernel
theorem c_begun : e_begun.fd = some fd_begun := by kernel_rfl
theorem s_begun : fnScopeB e_begun.N e_begun.ps (defScope e_begun.st) = true := by decide +kernel
theorem c_asks : e_asks.fd = some fd_asks := by kernel_rfl
theorem s_asks : fnScopeB e_asks.N e_asks.ps (defScope e_asks.st) = true := by decide +kernel
theorem c_with_item : e_with_item.fd = some fd_with_item := by kernel_rfl
theorem s_with_item : fnScopeB e_with_item.N e_with_item.ps (defScope e_with_item.st) = true := by decide +kernel
theorem c_people_beside : e_people_beside.fd = some fd_people_beside := by kernel_rfl
theorem s_people_beside : fnScopeB e_people_beside.N e_people_beside.ps (defScope e_people_beside.st) = true := by decide +kernel
theorem c_ways : e_ways.fd = some fd_ways := by kernel_rfl
theorem s_ways : fnScopeB e_ways.N e_ways.ps (defScope e_ways.st) = true := by decide +kernel
theorem c_way_by : e_way_by.fd = some fd_way_by := by kernel_rfl
theorem s_way_by : fnScopeB e_way_by.N e_way_by.ps (defScope e_way_by.st) = true := by decide +kernel
theorem c_came : e_came.fd = some fd_came := by kernel_rfl
theorem s_came : fnScopeB e_came.N e_came.ps (defScope e_came.st) = true := by decide +kernel
theorem c_went : e_went.fd = some fd_went := by kernel_rfl
theorem s_went : fnScopeB e_went.N e_went.ps (defScope e_went.st) = true := by decide +kernel
theorem c_is_open : e_is_open.fd = some fd_is_open := by kernel_rfl
theorem s_is_open : fnScopeB e_is_open.N e_is_open.ps (defScope e_is_open.st) = true := by decide +kernel
theorem c_moved : e_moved.fd = some fd_moved := by kernel_rfl
theorem s_moved : fnScopeB e_moved.N e_moved.ps (defScope e_moved.st) = true := by decide +kernel
theorem c_between : e_between.fd = some fd_between := by kernel_rfl
theorem s_between : fnScopeB e_between.N e_between.ps (defScope e_between.st) = true := by decide +kernel
theorem c_next_gap : e_next_gap.fd = some fd_next_gap := by kernel_rfl
theorem s_next_gap : fnScopeB e_next_gap.N e_next_gap.ps (defScope e_next_gap.st) = true := by decide +kernel
theorem c_handed : e_handed.fd = some fd_handed := by kernel_rfl
theorem s_handed : fnScopeB e_handed.N e_handed.ps (defScope e_handed.st) = true := by decide +kernel
theorem c_do : e_do.fd = some fd_do := by kernel_rfl
theorem s_do : fnScopeB e_do.N e_do.ps (defScope e_do.st) = true := by decide +kernel
theorem c_last_of : e_last_of.fd = some fd_last_of := by kernel_rfl
theorem s_last_of : fnScopeB e_last_of.N e_last_of.ps (defScope e_last_of.st) = true := by decide +kernel
theorem c_done : e_done.fd = some fd_done := by kernel_rfl
theorem s_done : fnScopeB e_done.N e_done.ps (defScope e_done.st) = true := by decide +kernel
theorem c_stood : e_stood.fd = some fd_stood := by kernel_rfl
theorem s_stood : fnScopeB e_stood.N e_stood.ps (defScope e_stood.st) = true := by decide +kernel
theorem c_steps : e_steps.fd = some fd_steps := by kernel_rfl
theorem s_steps : fnScopeB e_steps.N e_steps.ps (defScope e_steps.st) = true := by decide +kernel
theorem c_step_forms : e_step_forms.fd = some fd_step_forms := by kernel_rfl
theorem s_step_forms : fnScopeB e_step_forms.N e_step_forms.ps (defScope e_step_forms.st) = true := by decide +kernel
theorem c_law_source : e_law_source.fd = some fd_law_source := by kernel_rfl
theorem s_law_source : fnScopeB e_law_source.N e_law_source.ps (defScope e_law_source.st) = true := by decide +kernel
theorem c_law_draw : e_law_draw.fd = some fd_law_draw := by kernel_rfl
theorem s_law_draw : fnScopeB e_law_draw.N e_law_draw.ps (defScope e_law_draw.st) = true := by decide +kernel
theorem c_law_of : e_law_of.fd = some fd_law_of := by kernel_rfl
theorem s_law_of : fnScopeB e_law_of.N e_law_of.ps (defScope e_law_of.st) = true := by decide +kernel
theorem c_law_spot : e_law_spot.fd = some fd_law_spot := by kernel_rfl
theorem s_law_spot : fnScopeB e_law_spot.N e_law_spot.ps (defScope e_law_spot.st) = true := by decide +kernel
theorem c_law_side : e_law_side.fd = some fd_law_side := by kernel_rfl
theorem s_law_side : fnScopeB e_law_side.N e_law_side.ps (defScope e_law_side.st) = true := by decide +kernel
theorem c_law_deed : e_law_deed.fd = some fd_law_deed := by kernel_rfl
theorem s_law_deed : fnScopeB e_law_deed.N e_law_deed.ps (defScope e_law_deed.st) = true := by decide +kernel
theorem c_law_plan : e_law_plan.fd = some fd_law_plan := by kernel_rfl
theorem s_law_plan : fnScopeB e_law_plan.N e_law_plan.ps (defScope e_law_plan.st) = true := by decide +kernel
theorem c_law_n : e_law_n.fd = some fd_law_n := by kernel_rfl
theorem s_law_n : fnScopeB e_law_n.N e_law_n.ps (defScope e_law_n.st) = true := by decide +kernel
theorem c_law_value : e_law_value.fd = some fd_law_value := by kernel_rfl
theorem s_law_value : fnScopeB e_law_value.N e_law_value.ps (defScope e_law_value.st) = true := by decide +kernel
theorem c_law_form : e_law_form.fd = some fd_law_form := by kernel_rfl
theorem s_law_form : fnScopeB e_law_form.N e_law_form.ps (defScope e_law_form.st) = true := by decide +kernel
theorem c_law_k02 : e_law_k02.fd = some fd_law_k02 := by kernel_rfl
theorem s_law_k02 : fnScopeB e_law_k02.N e_law_k02.ps (defScope e_law_k02.st) = true := by decide +kernel
theorem c_law_way : e_law_way.fd = some fd_law_way := by kernel_rfl
theorem s_law_way : fnScopeB e_law_way.N e_law_way.ps (defScope e_law_way.st) = true := by decide +kernel
theorem c_law_hands : e_law_hands.fd = some fd_law_hands := by kernel_rfl
theorem s_law_hands : fnScopeB e_law_hands.N e_law_hands.ps (defScope e_law_hands.st) = true := by decide +kernel
theorem c_law_taken : e_law_taken.fd = some fd_law_taken := by kernel_rfl
theorem s_law_taken : fnScopeB e_law_taken.N e_law_taken.ps (defScope e_law_taken.st) = true := by decide +kernel
theorem c_law_can_move : e_law_can_move.fd = some fd_law_can_move := by kernel_rfl
theorem s_law_can_move : fnScopeB e_law_can_move.N e_law_can_move.ps (defScope e_law_can_move.st) = true := by decide +kernel
theorem c_law_step : e_law_step.fd = some fd_law_step := by kernel_rfl
theorem s_law_step : fnScopeB e_law_step.N e_law_step.ps (defScope e_law_step.st) = true := by decide +kernel
theorem c_law_run : e_law_run.fd = some fd_law_run := by kernel_rfl
theorem s_law_run : fnScopeB e_law_run.N e_law_run.ps (defScope e_law_run.st) = true := by decide +kernel
theorem c_law_known : e_law_known.fd = some fd_law_known := by kernel_rfl
theorem s_law_known : fnScopeB e_law_known.N e_law_known.ps (defScope e_law_known.st) = true := by decide +kernel
theorem c_law_right_k02 : e_law_right_k02.fd = some fd_law_right_k02 := by kernel_rfl
theorem s_law_right_k02 : fnScopeB e_law_right_k02.N e_law_right_k02.ps (defScope e_law_right_k02.st) = true := by decide +kernel
def ents : List Ent := [e_is_number, e_is_tuple, e_is_word, e_is_spot, e_is_deed_of, e_is_good_plan, e_need_plan, e_need_n, e_less, e_worth, e_whole, e_spot_form, e_added, e_sign_of, e_begun, e_asks, e_with_item, e_people_beside, e_ways, e_way_by, e_came, e_went, e_is_open, e_moved, e_between, e_next_gap, e_handed, e_do, e_last_of, e_done, e_stood, e_steps, e_step_forms, e_law_source, e_law_draw, e_law_of, e_law_spot, e_law_side, e_law_deed, e_law_plan, e_law_n, e_law_value, e_law_form, e_law_k02, e_law_way, e_law_hands, e_law_taken, e_law_can_move, e_law_step, e_law_run, e_law_known, e_law_right_k02]
end Kn.k02
set_option Elab.async false
set_option linter.all false
set_option maxHeartbeats 4000000
set_option maxRecDepth 100000
/-! KnM_k02: the law k02. -/
namespace Kn.k02
open Kn
structure TK (T : Nat → Option FD) : Prop extends TD T, TQ T, TZ T where
  right : T i_law_right_k02 = some fd_law_right_k02
  known : T i_law_known = some fd_law_known
  law : T i_law_k02 = some fd_law_k02
theorem rng4 (s : St) : rng1 s (.int 4) = .ok (.fix (rangeD 0 4), (rangeD 0 4).length) s := rfl
theorem eqT (s : St) (v : List D) (h : plainD 64 (.tup v) = true) : dEq s (.tup v) (.tup v) = some true := dEq_refl s _ h
theorem bfmin (s : St) (a b : Int) : bfD s .min [.int a, .int b] = .ok (.int (if b < a then b else a)) s := rfl
section
variable {T : Nat → Option FD} {fuel : Nat} (hT : TK T)
include hT
theorem r_right (n : Nat) (p : Pl) (hp : p.ok) (z : Int) (hz : NOk z) (s : St) : ∃ g, run T fuel (n + 11) i_law_right_k02 [.dat p.d, .dat (.int z)] s = .ok (.bl true) (s ++ g) := by
  obtain ⟨g1, nw, H, R⟩ := r_lrun (fuel := fuel) hT.toTZ (n + 4) p hp z s
  have hw : (lastL z p.des (List.replicate p.folk none)).1 = waysOf p z := rfl
  rw [hw] at R
  generalize hb : s ++ obN nw :: .lst ((waysOf p z).map rowD) :: g1 = b at R
  have hj : b[s.length + 1]? = some (.lst ((waysOf p z).map rowD)) := by
    rw [← hb, List.getElem?_append_right (by omega)]
    simp
  have hj2 : ∀ g, (b ++ g)[s.length + 1]? = some (.lst ((waysOf p z).map rowD)) := fun g => by
    rw [List.getElem?_append_left (List.getElem?_eq_some_iff.mp hj).1]; exact hj
  obtain ⟨g2, D1⟩ := r_done (fuel := fuel) hT.toTD n p hp z hz b
  obtain ⟨g3, D2⟩ := r_stood (fuel := fuel) hT.toTD n p hp z hz (b ++ g2)
  obtain ⟨g4, D3⟩ := r_steps (fuel := fuel) hT.toTD n p hp z hz (b ++ g2 ++ g3)
  obtain ⟨g5, D4⟩ := r_forms (fuel := fuel) hT.toTD n p hp z hz (b ++ g2 ++ g3 ++ g4)
  have sm : ∀ w ∈ waysOf p z, -20 ≤ (wF w).1 ∧ (wF w).1 ≤ 20 := lastL_way z p.des (fun f hf => by simp at hf)
  have L1 : lcG (Src.rl (s.length + 1)).get (lcTurn [3] (gNm 3) none (sItem (sVar 3) (sCst (.int 0))) ⟨fuel, run T fuel (n + 10), fun _ _ _ _ => .bad⟩ [some (.dat p.d), some (.dat (.int z)), some (.dat (.ref (s.length + 1))), none]) ((waysOf p z).map rowD).length 0 [] (b ++ g2) = .ok ((waysOf p z).map wDid) (b ++ g2) := by
    rw [lcR_map (f := fun d => match d with
      | .tup [x, _, _] => x
      | d => d) (hj2 g2)]
    · simp [List.map_map, Function.comp_def, rowD]
    · intro d hd
      obtain ⟨w, _, rfl⟩ := List.mem_map.mp hd
      simp only [kn, knl, Nat.reduceSub, Nat.reduceAdd, reduceIte, rowD, at0]
  have L2 : lcG (Src.rl (s.length + 1)).get (lcTurn [3] (gNm 3) none (sItem (sVar 3) (sCst (.int 2))) ⟨fuel, run T fuel (n + 10), fun _ _ _ _ => .bad⟩ [some (.dat p.d), some (.dat (.int z)), some (.dat (.ref (s.length + 1))), none]) ((waysOf p z).map rowD).length 0 [] (b ++ g2 ++ g3) = .ok ((waysOf p z).map wSto) (b ++ g2 ++ g3) := by
    rw [lcR_map (f := fun d => match d with
      | .tup [_, _, x] => x
      | d => d) (by rw [List.append_assoc]; exact hj2 (g2 ++ g3))]
    · simp [List.map_map, Function.comp_def, rowD]
    · intro d hd
      obtain ⟨w, _, rfl⟩ := List.mem_map.mp hd
      simp only [kn, knl, Nat.reduceSub, Nat.reduceAdd, reduceIte, rowD, at2]
  have L3 : lcG (Src.rl (s.length + 1)).get (lcTurn [3] (gNm 3) none (sCallD i_law_value [sItem (sVar 3) (sCst (.int 1)), sVar 1]) ⟨fuel, run T fuel (n + 10), fun _ _ _ _ => .bad⟩ [some (.dat p.d), some (.dat (.int z)), some (.dat (.ref (s.length + 1))), none]) ((waysOf p z).map rowD).length 0 [] (b ++ g2 ++ g3 ++ g4) = .ok ((waysOf p z).map fun w => .int (wth (wF w) z)) (b ++ g2 ++ g3 ++ g4) := by
    rw [lcR_map (f := fun d => match d with
      | .tup [_, .tup [.int x, .int y], _] => .int (wth (x, y) z)
      | d => d) (by rw [List.append_assoc, List.append_assoc]; exact hj2 _)]
    · simp [List.map_map, Function.comp_def, rowD, wSte_eq]
    · intro d hd
      obtain ⟨w, hw, rfl⟩ := List.mem_map.mp hd
      have h0 := sm w hw
      have V := r_lvalue (fuel := fuel) hT.toTZ (n + 9) (wF w) (by omega) z (b ++ g2 ++ g3 ++ g4)
      simp only [kn, knl, Nat.reduceSub, Nat.reduceAdd, reduceIte, rowD, at1, wSte_eq, V]
  have L4 : lcG (Src.rl (s.length + 1)).get (lcTurn [3] (gNm 3) none (sItem (sVar 3) (sCst (.int 1))) ⟨fuel, run T fuel (n + 10), fun _ _ _ _ => .bad⟩ [some (.dat p.d), some (.dat (.int z)), some (.dat (.ref (s.length + 1))), none]) ((waysOf p z).map rowD).length 0 [] (b ++ g2 ++ g3 ++ g4 ++ g5) = .ok ((waysOf p z).map wSte) (b ++ g2 ++ g3 ++ g4 ++ g5) := by
    rw [lcR_map (f := fun d => match d with
      | .tup [_, x, _] => x
      | d => d) (by rw [List.append_assoc, List.append_assoc, List.append_assoc]; exact hj2 _)]
    · simp [List.map_map, Function.comp_def, rowD]
    · intro d hd
      obtain ⟨w, _, rfl⟩ := List.mem_map.mp hd
      simp only [kn, knl, Nat.reduceSub, Nat.reduceAdd, reduceIte, rowD, at1]
  have S1 := src_ref (hj2 g2)
  have S2 := src_ref (show (b ++ g2 ++ g3)[s.length + 1]? = _ by rw [List.append_assoc]; exact hj2 _)
  have S3 := src_ref (show (b ++ g2 ++ g3 ++ g4)[s.length + 1]? = _ by rw [List.append_assoc, List.append_assoc]; exact hj2 _)
  have S4 := src_ref (show (b ++ g2 ++ g3 ++ g4 ++ g5)[s.length + 1]? = _ by rw [List.append_assoc, List.append_assoc, List.append_assoc]; exact hj2 _)
  have q1 : ∀ s, dEq s (.tup ((waysOf p z).map wDid)) (.tup ((waysOf p z).map wDid)) = some true := fun s => dEq_refl s _ (plain_mono 6 (plain_map _ _ 5 plain_did) (by decide))
  have q2 : ∀ s, dEq s (.tup ((waysOf p z).map wSto)) (.tup ((waysOf p z).map wSto)) = some true := fun s => dEq_refl s _ (plain_mono 6 (plain_map _ _ 5 plain_sto) (by decide))
  have q3 : ∀ s, dEq s (.tup ((waysOf p z).map fun w => .int (wth (wF w) z))) (.tup ((waysOf p z).map fun w => .int (wth (wF w) z))) = some true := fun s => dEq_refl s _ (plain_mono 6 (plain_map _ _ 5 (fun _ => rfl)) (by decide))
  have q4 : ∀ s, dEq s (.tup ((waysOf p z).map wSte)) (.tup ((waysOf p z).map wSte)) = some true := fun s => dEq_refl s _ (plain_mono 6 (plain_map _ _ 5 plain_ste) (by decide))
  refine ⟨obN nw :: .lst ((waysOf p z).map rowD) :: g1 ++ g2 ++ g3 ++ g4 ++ g5, (run_eq hT.right rfl).trans ?_⟩
  simp only [kn, knl, Nat.reduceSub, Nat.reduceAdd, reduceIte, R, at0, D1, S1, L1, tupleD, q1, Option.map_some, D2, S2, L2, q2, D3, S3, L3, q3, D4, S4, L4, q4]
  rw [← hb]
  simp
/-- plans of the document -/
def one : Pl := ⟨3, [.come 0 (.l, 2) .left, .come 1 (.l, 4) .near, .come 2 (.m, 0) .few, .go 0 .right]⟩
def dos : Pl := ⟨2, [.come 0 (.l, 5) .left, .come 1 (.r, 3) .left, .hand 0 1, .move 1 (-2)]⟩
def tre : Pl := ⟨2, [.come 0 (.r, 5) .near, .come 1 (.m, 0) .near]⟩
def qua : Pl := ⟨2, [.come 0 (.l, 0) .right, .move 0 (-1), .move 0 9, .come 1 (.l, 4) .left, .move 0 (-9), .move 1 4, .hand 1 0, .go 1 .few]⟩
instance (t : Spt) : Decidable (SpOk t) := by
  unfold SpOk
  split <;> infer_instance
instance (k : Nat) (d : De) : Decidable (d.ok k) := by
  cases d <;> (unfold De.ok; infer_instance)
instance (p : Pl) : Decidable p.ok := by
  unfold Pl.ok
  infer_instance
theorem r_known (n : Nat) (s : St) : run T fuel (n + 1) i_law_known [] s = .ok (.tup [one.d, dos.d, tre.d]) s := by
  refine (run_eq hT.known rfl).trans ?_
  simp only [kn, knl, Nat.reduceSub, Nat.reduceAdd, reduceIte, boD_addT s (a := [.tup [.str w_come, .int 0, .tup [.str w_l, .int 2], .str w_left], .tup [.str w_come, .int 1, .tup [.str w_l, .int 4], .str w_near]]) (b := [.tup [.str w_come, .int 2, .tup [.str w_m, .int 0], .str w_few], .tup [.str w_go, .int 0, .str w_right]]) (by decide),
    boD_addT s (a := [.tup [.str w_come, .int 0, .tup [.str w_l, .int 5], .str w_left], .tup [.str w_come, .int 1, .tup [.str w_r, .int 3], .str w_left]]) (b := [.tup [.str w_hand, .int 0, .int 1], .tup [.str w_move, .int 1, .int (-2)]]) (by decide)]
  rfl

theorem v_done (n : Nat) {p : Pl} (hp : p.ok) {z : Int} (hz : NOk z) {v : List D} (e : (waysOf p z).map wDid = v) (s : St) : ∃ g, run T fuel (n + 10) i_done [.dat p.d, .dat (.int z)] s = .ok (.tup v) (s ++ g) := by
  subst e
  exact r_done hT.toTD n p hp z hz s
theorem v_stood (n : Nat) {p : Pl} (hp : p.ok) {z : Int} (hz : NOk z) {v : List D} (e : (waysOf p z).map wSto = v) (s : St) : ∃ g, run T fuel (n + 10) i_stood [.dat p.d, .dat (.int z)] s = .ok (.tup v) (s ++ g) := by
  subst e
  exact r_stood hT.toTD n p hp z hz s
theorem v_steps (n : Nat) {p : Pl} (hp : p.ok) {z : Int} (hz : NOk z) {v : List D} (e : ((waysOf p z).map fun w => D.int (wth (wF w) z)) = v) (s : St) : ∃ g, run T fuel (n + 10) i_steps [.dat p.d, .dat (.int z)] s = .ok (.tup v) (s ++ g) := by
  subst e
  exact r_steps hT.toTD n p hp z hz s
theorem v_forms (n : Nat) {p : Pl} (hp : p.ok) {z : Int} (hz : NOk z) {v : List D} (e : (waysOf p z).map wSte = v) (s : St) : ∃ g, run T fuel (n + 10) i_step_forms [.dat p.d, .dat (.int z)] s = .ok (.tup v) (s ++ g) := by
  subst e
  exact r_forms hT.toTD n p hp z hz s
/-! ### the loops -/
def b3 : SS := xSeq [xIf (sNot (sCallD i_law_right_k02 [sVar 4, sCallD i_law_n [sVar 2]])) (xSeq [xRet (sCst (.bl false))]) (xSeq [])]
def b2 : SS := xSeq [xAsg (gNm 4) (sCallD i_law_plan [sVar 2, sCst (.int 8)]), xFor (gNm 5) (iRange1 (sCst (.int 4))) b3]
def b1 : SS := xSeq [xAsg (gNm 2) (sCallD i_law_source [sVar 0, sVar 1]), xFor (gNm 3) (iRange1 (sCst (.int 4))) b2]
theorem loop3 (n : Nat) (p : Pl) (hp : p.ok) (a b c : Option Ag) (k : Nat) : ∀ (l : List D) (s : St) (x : Option Ag), Has k s → ∃ x' s', Has k s' ∧ forL (gNm 5) (b3 ⟨fuel, run T fuel (n + 11), fun _ _ _ _ => .bad⟩) l [a, b, some (.dat (.ref k)), c, some (.dat p.d), x, none, none, none, none, none] s = .nx [a, b, some (.dat (.ref k)), c, some (.dat p.d), x', none, none, none, none, none] s'
  | [], s, x, h => ⟨x, s, h, rfl⟩
  | d :: l, s, x, h => by
    obtain ⟨z, s1, hz, dr, e1⟩ := r_ln (fuel := fuel) hT.toTQ (n + 8) h
    obtain ⟨g, e2⟩ := r_right (fuel := fuel) hT n p hp z hz s1
    obtain ⟨x', s', h', ih⟩ := loop3 n p hp a b c k l (s1 ++ g) (some (.dat d)) ((h.dr dr).app g)
    refine ⟨x', s', h', ?_⟩
    have eg : ∀ e s, gNm 5 d e s = some (e.set 5 (some (.dat d))) := fun e s => rfl
    rw [forL_cons (eg _ _)]
    conv => lhs; arg 1; unfold b3
    simp only [kn, knl, Nat.reduceSub, Nat.reduceAdd, reduceIte, e1, e2]
    exact ih
theorem loop2 (n : Nat) (a b : Option Ag) (k : Nat) : ∀ (l : List D) (s : St) (x y w : Option Ag), Has k s → ∃ x' y' w' s', Has k s' ∧ forL (gNm 3) (b2 ⟨fuel, run T fuel (n + 11), fun _ _ _ _ => .bad⟩) l [a, b, some (.dat (.ref k)), x, y, w, none, none, none, none, none] s = .nx [a, b, some (.dat (.ref k)), x', y', w', none, none, none, none, none] s'
  | [], s, x, y, w, h => ⟨x, y, w, s, h, rfl⟩
  | d :: l, s, x, y, w, h => by
    obtain ⟨f, ds, s1, f1, f5, d8, dok, dr, e1⟩ := r_lplan (fuel := fuel) hT.toTY (n + 6) h 8 (by decide)
    have hp : (⟨f, ds⟩ : Pl).ok := ⟨f1, f5, d8, dok⟩
    obtain ⟨w1, s2, h2, e2⟩ := loop3 hT n ⟨f, ds⟩ hp a b (some (.dat d)) k (rangeD 0 4) s1 w (h.dr dr)
    obtain ⟨x', y', w', s', h', ih⟩ := loop2 n a b k l s2 (some (.dat d)) (some (.dat (Pl.d ⟨f, ds⟩))) w1 h2
    refine ⟨x', y', w', s', h', ?_⟩
    have eg : ∀ e s, gNm 3 d e s = some (e.set 3 (some (.dat d))) := fun e s => rfl
    rw [forL_cons (eg _ _)]
    conv => lhs; arg 1; unfold b2
    have e1 : run T fuel (n + 11) i_law_plan [.dat (.ref k), .dat (.int 8)] s = .ok (Pl.d ⟨f, ds⟩) s1 := e1
    simp only [kn, knl, Nat.reduceSub, Nat.reduceAdd, reduceIte, e1, rng4]
    rw [e2]
    exact ih
theorem loop1 (n : Nat) (ns : List Int) : ∀ (l : List Nat) (s : St) (x y w u v : Option Ag), ∃ x' y' w' u' v' s', forL (gNm 1) (b1 ⟨fuel, run T fuel (n + 11), fun _ _ _ _ => .bad⟩) (l.map fun (i : Nat) => D.int (i : Int)) [some (.dat (.ro (ns.map .int))), x, y, w, u, v, none, none, none, none, none] s = .nx [some (.dat (.ro (ns.map .int))), x', y', w', u', v', none, none, none, none, none] s'
  | [], s, x, y, w, u, v => ⟨x, y, w, u, v, s, rfl⟩
  | i :: l, s, x, y, w, u, v => by
    obtain ⟨a, b, ok, e1⟩ := r_source (fuel := fuel) hT.toTX (n + 10) ns i s
    have h1 : Has s.length (s ++ [so a b]) := ⟨a, b, ok, by rw [List.getElem?_append_right (Nat.le_refl _)]; simp⟩
    obtain ⟨w1, u1, v1, s2, h2, e2⟩ := loop2 hT n (some (.dat (.ro (ns.map .int)))) (some (.dat (.int (i : Int)))) s.length (rangeD 0 4) (s ++ [so a b]) w u v h1
    obtain ⟨x', y', w', u', v', s', ih⟩ := loop1 n ns l s2 (some (.dat (.int (i : Int)))) (some (.dat (.ref s.length))) w1 u1 v1
    refine ⟨x', y', w', u', v', s', ?_⟩
    have eg : ∀ e s, gNm 1 (.int (i : Int)) e s = some (e.set 1 (some (.dat (.int (i : Int))))) := fun e s => rfl
    rw [List.map_cons, forL_cons (eg _ _)]
    conv => lhs; arg 1; unfold b1
    simp only [kn, knl, Nat.reduceSub, Nat.reduceAdd, reduceIte, e1, rng4]
    rw [e2]
    exact ih
theorem r_law (n : Nat) (ns : List Int) (s : St) : ∃ st, run T fuel (n + 12) i_law_k02 [.dat (.ro (ns.map .int))] s = .ok (.bl true) st := by
  have mm : ∃ m : Nat, m ≤ 11 ∧ (1 : Int) + (if (10 : Int) < (((ns.map D.int).length : Nat) : Int) then (10 : Int) else (((ns.map D.int).length : Nat) : Int)) = (m : Int) := by
    split
    · exact ⟨11, by decide, rfl⟩
    · exact ⟨1 + (ns.map D.int).length, by omega, by omega⟩
  obtain ⟨m, hm, em⟩ := mm
  have rng : ∀ s, rng1 s (.int (m : Int)) = .ok (.fix (rangeD 0 m), (rangeD 0 m).length) s := fun s => by
    rw [rng1_int s (by unfold lim; omega), rangeD_len]
    simp
  have e5 : rangeD 0 m = (List.range m).map fun (i : Nat) => D.int (i : Int) := by
    unfold rangeD
    simp
  obtain ⟨x, y, w, u, v, s0, L⟩ := loop1 hT n ns (List.range m) s none none none none none
  rw [← e5] at L
  have n12 : NOk 12 := by unfold NOk; decide
  have n13 : NOk 13 := by unfold NOk; decide
  have n14 : NOk 14 := by unfold NOk; decide
  have nbig : NOk (10 ^ (30 : Int).toNat) := by unfold NOk; decide
  have ok1 : one.ok := by decide
  have ok2 : dos.ok := by decide
  have ok3 : tre.ok := by decide
  have ok4 : qua.ok := by decide
  have t4 : (List.replicate (4 : Int).toNat [D.bl true]).flatten = [.bl true, .bl true, .bl true, .bl true] := rfl
  have m4 := fun s => boD_mulT s (a := [.bl true]) (b := 4) (by decide)
  rw [t4] at m4
  obtain ⟨g1, c1⟩ := v_done (fuel := fuel) hT (n + 1) ok1 n12 (v := [.bl true, .bl true, .bl true, .bl true]) (by kernel_rfl) s0
  obtain ⟨g2, c2⟩ := v_stood (fuel := fuel) hT (n + 1) ok1 n12 (v := [.tup [], .tup [.int 0], .tup [], .tup [.int 1, .int 2]]) (by kernel_rfl) (s0 ++ g1)
  obtain ⟨g3, c3⟩ := v_steps (fuel := fuel) hT (n + 1) ok1 n12 (v := [.int 3, .int 5, .int 6, .int 10]) (by kernel_rfl) (s0 ++ g1 ++ g2)
  obtain ⟨g4, c4⟩ := v_steps (fuel := fuel) hT (n + 1) ok1 n13 (v := [.int 3, .int 5, .int 7, .int 11]) (by kernel_rfl) (s0 ++ g1 ++ g2 ++ g3)
  obtain ⟨g5, c5⟩ := v_forms (fuel := fuel) hT (n + 1) ok1 n13 (v := [.tup [.int 0, .int 3], .tup [.int 0, .int 5], .tup [.int 1, .int 1], .tup [.int 2, .int (-1)]]) (by kernel_rfl) (s0 ++ g1 ++ g2 ++ g3 ++ g4)
  generalize s0 ++ g1 ++ g2 ++ g3 ++ g4 ++ g5 = s1 at c5
  obtain ⟨h1, d1⟩ := v_done (fuel := fuel) hT (n + 1) ok2 n12 (v := [.bl true, .bl true, .bl true, .bl true]) (by kernel_rfl) s1
  obtain ⟨h2, d2⟩ := v_done (fuel := fuel) hT (n + 1) ok2 n13 (v := [.bl true, .bl true, .bl false, .bl true]) (by kernel_rfl) (s1 ++ h1)
  obtain ⟨h3, d3⟩ := v_stood (fuel := fuel) hT (n + 1) ok2 n12 (v := [.tup [], .tup [.int 0], .tup [], .tup []]) (by kernel_rfl) (s1 ++ h1 ++ h2)
  obtain ⟨h4, d4⟩ := v_steps (fuel := fuel) hT (n + 1) ok2 nbig (v := [.int 6, .int (10 ^ (30 : Int).toNat - 3), .int 0, .int 2]) (by kernel_rfl) (s1 ++ h1 ++ h2 ++ h3)
  generalize s1 ++ h1 ++ h2 ++ h3 ++ h4 = s2 at d4
  obtain ⟨i1, f1⟩ := v_done (fuel := fuel) hT (n + 1) ok3 n12 (v := [.bl true, .bl false]) (by kernel_rfl) s2
  obtain ⟨i2, f2⟩ := v_steps (fuel := fuel) hT (n + 1) ok3 n12 (v := [.int 6, .int 0]) (by kernel_rfl) (s2 ++ i1)
  obtain ⟨i3, f3⟩ := v_stood (fuel := fuel) hT (n + 1) ok3 n14 (v := [.tup [], .tup [.int 0]]) (by kernel_rfl) (s2 ++ i1 ++ i2)
  obtain ⟨i4, f4⟩ := v_stood (fuel := fuel) hT (n + 1) ok3 n13 (v := [.tup [], .tup []]) (by kernel_rfl) (s2 ++ i1 ++ i2 ++ i3)
  generalize s2 ++ i1 ++ i2 ++ i3 ++ i4 = s3 at f4
  obtain ⟨j1, k1⟩ := v_done (fuel := fuel) hT (n + 1) ok4 n12 (v := [.bl true, .bl false, .bl true, .bl true, .bl false, .bl true, .bl true, .bl true]) (by kernel_rfl) s3
  obtain ⟨j2, k2⟩ := v_steps (fuel := fuel) hT (n + 1) ok4 n12 (v := [.int 12, .int 0, .int 9, .int 5, .int 0, .int 4, .int 0, .int 9]) (by kernel_rfl) (s3 ++ j1)
  obtain ⟨j3, k3⟩ := v_stood (fuel := fuel) hT (n + 1) ok4 n12 (v := [.tup [], .tup [], .tup [], .tup [], .tup [], .tup [], .tup [], .tup []]) (by kernel_rfl) (s3 ++ j1 ++ j2)
  refine ⟨s3 ++ j1 ++ j2 ++ j3, (run_eq hT.law rfl).trans ?_⟩
  have L0 : forL (gNm 1) (xSeq [xAsg (gNm 2) (sCallD i_law_source [sVar 0, sVar 1]), xFor (gNm 3) (iRange1 (sCst (.int 4))) (xSeq [xAsg (gNm 4) (sCallD i_law_plan [sVar 2, sCst (.int 8)]), xFor (gNm 5) (iRange1 (sCst (.int 4))) (xSeq [xIf (sNot (sCallD i_law_right_k02 [sVar 4, sCallD i_law_n [sVar 2]])) (xSeq [xRet (sCst (.bl false))]) (xSeq [])])])] ⟨fuel, run T fuel (n + 11), fun _ _ _ _ => .bad⟩) (rangeD 0 m) _ s = _ := L
  simp only [kn, knl, Nat.reduceSub, Nat.reduceAdd, reduceIte, lenRo, bfmin]
  rw [em, rng]
  simp only [kn, knl, Nat.reduceSub, Nat.reduceAdd, reduceIte]
  rw [L0]
  have eT := fun s v h => eqT s v h
  have at4 : ∀ (s : St) (x : List D), itemD s (.tup x) (.int 1) = ofO (atD x 1) s := fun s x => rfl
  have at7 : ∀ (a b c d e f g h : D), atD [a, b, c, d, e, f, g, h] 7 = some h := fun a b c d e f g h => atD_nat (i := 7) rfl
  have pw := fun s => boD_pow s (a := 10) (b := 30) (by decide)
  have e6 := fun s => boD_addT s (a := [.tup [.str w_come, .int 0, .tup [.str w_l, .int 0], .str w_right], .tup [.str w_move, .int 0, .int (-1)], .tup [.str w_move, .int 0, .int 9], .tup [.str w_come, .int 1, .tup [.str w_l, .int 4], .str w_left]]) (b := [.tup [.str w_move, .int 0, .int (-9)], .tup [.str w_move, .int 1, .int 4], .tup [.str w_hand, .int 1, .int 0], .tup [.str w_go, .int 1, .str w_few]]) (by decide)
  have q4 : qua.d = D.tup [.int 2, .tup [.tup [.str w_come, .int 0, .tup [.str w_l, .int 0], .str w_right], .tup [.str w_move, .int 0, .int (-1)], .tup [.str w_move, .int 0, .int 9], .tup [.str w_come, .int 1, .tup [.str w_l, .int 4], .str w_left], .tup [.str w_move, .int 0, .int (-9)], .tup [.str w_move, .int 1, .int 4], .tup [.str w_hand, .int 1, .int 0], .tup [.str w_go, .int 1, .str w_few]]] := rfl
  rw [q4] at k1 k2 k3
  simp only [kn, knl, Nat.reduceSub, Nat.reduceAdd, reduceIte, r_known hT (n + 10), c1, m4, eT _ [.bl true, .bl true, .bl true, .bl true] rfl, Option.map_some, c2, eT _ [.tup [], .tup [.int 0], .tup [], .tup [.int 1, .int 2]] rfl,
    c3, eT _ [.int 3, .int 5, .int 6, .int 10] rfl, c4, eT _ [.int 3, .int 5, .int 7, .int 11] rfl, c5, eT _ [.tup [.int 0, .int 3], .tup [.int 0, .int 5], .tup [.int 1, .int 1], .tup [.int 2, .int (-1)]] rfl,
    d1, d2, eT _ [.bl true, .bl true, .bl false, .bl true] rfl, d3, eT _ [.tup [], .tup [.int 0], .tup [], .tup []] rfl, pw, d4, at1, decide_true,
    f1, eT _ [.bl true, .bl false] rfl, f2, eT _ [.int 6, .int 0] rfl, f3, eT _ [.tup [], .tup [.int 0]] rfl, f4, eT _ [.tup [], .tup []] rfl,
    e6, k1, eT _ [.bl true, .bl false, .bl true, .bl true, .bl false, .bl true, .bl true, .bl true] rfl, k2, eT _ [.int 12, .int 0, .int 9, .int 5, .int 0, .int 4, .int 0, .int 9] rfl, k3, at7, dEq_nn]
end
theorem main : ∀ ns : List Int, ns.length ≤ 63 → ∃ st, run T 1 20 i_law_k02 [.dat (.ro (ns.map .int))] [] = .ok (.bl true) st := fun ns _ =>
  r_law (T := T) (fuel := 1) ⟨⟨⟨⟨T_is_number, T_is_tuple, T_is_word, T_is_spot, T_is_deed_of, T_is_good_plan, T_need_plan⟩, ⟨⟨T_less, T_added, T_worth, T_whole, T_sign_of⟩, T_spot_form, T_begun, T_asks, T_with_item, T_people_beside, T_ways, T_way_by, T_came, T_went, T_is_open, T_moved, T_between, T_next_gap, T_handed, T_do, T_last_of⟩, T_need_n⟩, T_done, T_stood, T_steps, T_step_forms⟩,
    ⟨⟨⟨⟨T_law_draw, T_law_of, T_law_spot, T_law_side⟩, T_law_source, T_law_deed⟩, T_law_plan⟩, T_law_n⟩, ⟨T_law_value, T_law_form, T_law_way, T_law_hands, T_law_taken, T_law_can_move, T_law_step, T_law_run⟩, T_law_right_k02, T_law_known, T_law_k02⟩ 8 ns []
theorem law_mem : e_law_k02 ∈ ents := by simp [ents]
end Kn.k02
set_option Elab.async false
set_option linter.all false
set_option maxRecDepth 100000
set_option maxHeartbeats 4000000
/-! KnF_k02: the end of the proof (printed by genhead.py). -/
namespace Kn.k02
open PySem PyProof.Rows L2
theorem b_law_k02 : BindOk e_law_k02 := fun _ _ _ _ _ _ us hl => match us, hl with | [_], _ => rfl
theorem b_is_number : BindOk e_is_number := fun _ _ _ _ _ _ us hl => match us, hl with | [_, _, _], _ => rfl
theorem b_is_tuple : BindOk e_is_tuple := fun _ _ _ _ _ _ us hl => match us, hl with | [_, _, _], _ => rfl
theorem b_is_word : BindOk e_is_word := fun _ _ _ _ _ _ us hl => match us, hl with | [_, _], _ => rfl
theorem b_is_spot : BindOk e_is_spot := fun _ _ _ _ _ _ us hl => match us, hl with | [_], _ => rfl
theorem b_is_deed_of : BindOk e_is_deed_of := fun _ _ _ _ _ _ us hl => match us, hl with | [_, _], _ => rfl
theorem b_is_good_plan : BindOk e_is_good_plan := fun _ _ _ _ _ _ us hl => match us, hl with | [_], _ => rfl
theorem b_need_plan : BindOk e_need_plan := fun _ _ _ _ _ _ us hl => match us, hl with | [_], _ => rfl
theorem b_need_n : BindOk e_need_n := fun _ _ _ _ _ _ us hl => match us, hl with | [_], _ => rfl
theorem b_less : BindOk e_less := fun _ _ _ _ _ _ us hl => match us, hl with | [_, _], _ => rfl
theorem b_worth : BindOk e_worth := fun _ _ _ _ _ _ us hl => match us, hl with | [_, _], _ => rfl
theorem b_whole : BindOk e_whole := fun _ _ _ _ _ _ us hl => match us, hl with | [_], _ => rfl
theorem b_spot_form : BindOk e_spot_form := fun _ _ _ _ _ _ us hl => match us, hl with | [_, _], _ => rfl
theorem b_added : BindOk e_added := fun _ _ _ _ _ _ us hl => match us, hl with | [_, _], _ => rfl
theorem b_sign_of : BindOk e_sign_of := fun _ _ _ _ _ _ us hl => match us, hl with | [_, _], _ => rfl
theorem b_begun : BindOk e_begun := fun _ _ _ _ _ _ us hl => match us, hl with | [_], _ => rfl
theorem b_asks : BindOk e_asks := fun _ _ _ _ _ _ us hl => match us, hl with | [_, _, _], _ => rfl
theorem b_with_item : BindOk e_with_item := fun _ _ _ _ _ _ us hl => match us, hl with | [_, _, _], _ => rfl
theorem b_people_beside : BindOk e_people_beside := fun _ _ _ _ _ _ us hl => match us, hl with | [_, _, _, _], _ => rfl
theorem b_ways : BindOk e_ways := fun _ _ _ _ _ _ us hl => match us, hl with | [_, _, _], _ => rfl
theorem b_way_by : BindOk e_way_by := fun _ _ _ _ _ _ us hl => match us, hl with | [_, _, _, _], _ => rfl
theorem b_came : BindOk e_came := fun _ _ _ _ _ _ us hl => match us, hl with | [_, _, _, _, _], _ => rfl
theorem b_went : BindOk e_went := fun _ _ _ _ _ _ us hl => match us, hl with | [_, _, _, _], _ => rfl
theorem b_is_open : BindOk e_is_open := fun _ _ _ _ _ _ us hl => match us, hl with | [_, _, _, _], _ => rfl
theorem b_moved : BindOk e_moved := fun _ _ _ _ _ _ us hl => match us, hl with | [_, _, _, _], _ => rfl
theorem b_between : BindOk e_between := fun _ _ _ _ _ _ us hl => match us, hl with | [_, _, _, _], _ => rfl
theorem b_next_gap : BindOk e_next_gap := fun _ _ _ _ _ _ us hl => match us, hl with | [_, _, _, _], _ => rfl
theorem b_handed : BindOk e_handed := fun _ _ _ _ _ _ us hl => match us, hl with | [_, _, _, _], _ => rfl
theorem b_do : BindOk e_do := fun _ _ _ _ _ _ us hl => match us, hl with | [_, _, _], _ => rfl
theorem b_last_of : BindOk e_last_of := fun _ _ _ _ _ _ us hl => match us, hl with | [_, _], _ => rfl
theorem b_done : BindOk e_done := fun _ _ _ _ _ _ us hl => match us, hl with | [_, _], _ => rfl
theorem b_stood : BindOk e_stood := fun _ _ _ _ _ _ us hl => match us, hl with | [_, _], _ => rfl
theorem b_steps : BindOk e_steps := fun _ _ _ _ _ _ us hl => match us, hl with | [_, _], _ => rfl
theorem b_step_forms : BindOk e_step_forms := fun _ _ _ _ _ _ us hl => match us, hl with | [_, _], _ => rfl
theorem b_law_source : BindOk e_law_source := fun _ _ _ _ _ _ us hl => match us, hl with | [_, _], _ => rfl
theorem b_law_draw : BindOk e_law_draw := fun _ _ _ _ _ _ us hl => match us, hl with | [_, _], _ => rfl
theorem b_law_of : BindOk e_law_of := fun _ _ _ _ _ _ us hl => match us, hl with | [_, _], _ => rfl
theorem b_law_spot : BindOk e_law_spot := fun _ _ _ _ _ _ us hl => match us, hl with | [_], _ => rfl
theorem b_law_side : BindOk e_law_side := fun _ _ _ _ _ _ us hl => match us, hl with | [_], _ => rfl
theorem b_law_deed : BindOk e_law_deed := fun _ _ _ _ _ _ us hl => match us, hl with | [_, _], _ => rfl
theorem b_law_plan : BindOk e_law_plan := fun _ _ _ _ _ _ us hl => match us, hl with | [_, _], _ => rfl
theorem b_law_n : BindOk e_law_n := fun _ _ _ _ _ _ us hl => match us, hl with | [_], _ => rfl
theorem b_law_value : BindOk e_law_value := fun _ _ _ _ _ _ us hl => match us, hl with | [_, _], _ => rfl
theorem b_law_form : BindOk e_law_form := fun _ _ _ _ _ _ us hl => match us, hl with | [_, _], _ => rfl
theorem b_law_way : BindOk e_law_way := fun _ _ _ _ _ _ us hl => match us, hl with | [_, _, _, _], _ => rfl
theorem b_law_hands : BindOk e_law_hands := fun _ _ _ _ _ _ us hl => match us, hl with | [_, _, _, _], _ => rfl
theorem b_law_taken : BindOk e_law_taken := fun _ _ _ _ _ _ us hl => match us, hl with | [_, _], _ => rfl
theorem b_law_can_move : BindOk e_law_can_move := fun _ _ _ _ _ _ us hl => match us, hl with | [_, _, _, _], _ => rfl
theorem b_law_step : BindOk e_law_step := fun _ _ _ _ _ _ us hl => match us, hl with | [_, _, _], _ => rfl
theorem b_law_run : BindOk e_law_run := fun _ _ _ _ _ _ us hl => match us, hl with | [_, _], _ => rfl
theorem b_law_known : BindOk e_law_known := fun _ _ _ _ _ _ us hl => match us, hl with | [], _ => rfl
theorem b_law_right_k02 : BindOk e_law_right_k02 := fun _ _ _ _ _ _ us hl => match us, hl with | [_, _], _ => rfl
def bl : List Str := ["range", "min", "len", "isinstance", "int", "bool", "tuple", "str", "all", "enumerate", "abs", "sorted", "zip"]
def vals : List (Str × D) := [("SIDES", g_SIDES), ("LEAST", g_LEAST), ("MOST", g_MOST)]
theorem ents_d {K : PySem.W.Frag} {f0 f1 f2 f3 f4 f5 f6 f7 f8 f9 f10 f11 f12 f13 f14 f15 f16 f17 f18 f19 f20 f21 f22 f23 f24 f25 f26 f27 f28 f29 f30 f31 f32 f33 f34 f35 f36 f37 f38 f39 f40 f41 f42 f43 f44 f45 f46 f47 f48 f49 f50 f51 : Addr} (d0 : DefAt K "law" (topS 61) f0) (d1 : DefAt K "is_number" (topS 8) f1) (d2 : DefAt K "is_tuple" (topS 9) f2) (d3 : DefAt K "is_word" (topS 10) f3) (d4 : DefAt K "is_spot" (topS 11) f4) (d5 : DefAt K "is_deed_of" (topS 12) f5) (d6 : DefAt K "is_good_plan" (topS 13) f6) (d7 : DefAt K "need_plan" (topS 14) f7) (d8 : DefAt K "need_n" (topS 15) f8) (d9 : DefAt K "less" (topS 17) f9) (d10 : DefAt K "worth" (topS 18) f10) (d11 : DefAt K "whole" (topS 19) f11) (d12 : DefAt K "spot_form" (topS 21) f12) (d13 : DefAt K "added" (topS 16) f13) (d14 : DefAt K "sign_of" (topS 20) f14) (d15 : DefAt K "begun" (topS 23) f15) (d16 : DefAt K "asks" (topS 24) f16) (d17 : DefAt K "with_item" (topS 25) f17) (d18 : DefAt K "people_beside" (topS 26) f18) (d19 : DefAt K "ways" (topS 27) f19) (d20 : DefAt K "way_by" (topS 28) f20) (d21 : DefAt K "came" (topS 29) f21) (d22 : DefAt K "went" (topS 30) f22) (d23 : DefAt K "is_open" (topS 31) f23) (d24 : DefAt K "moved" (topS 32) f24) (d25 : DefAt K "between" (topS 33) f25) (d26 : DefAt K "next_gap" (topS 34) f26) (d27 : DefAt K "handed" (topS 35) f27) (d28 : DefAt K "do" (topS 36) f28) (d29 : DefAt K "last_of" (topS 37) f29) (d30 : DefAt K "done" (topS 38) f30) (d31 : DefAt K "stood" (topS 39) f31) (d32 : DefAt K "steps" (topS 40) f32) (d33 : DefAt K "step_forms" (topS 41) f33) (d34 : DefAt K "_law_source" (topS 43) f34) (d35 : DefAt K "_law_draw" (topS 44) f35) (d36 : DefAt K "_law_of" (topS 45) f36) (d37 : DefAt K "_law_spot" (topS 46) f37) (d38 : DefAt K "_law_side" (topS 47) f38) (d39 : DefAt K "_law_deed" (topS 48) f39) (d40 : DefAt K "_law_plan" (topS 49) f40) (d41 : DefAt K "_law_n" (topS 50) f41) (d42 : DefAt K "_law_value" (topS 51) f42) (d43 : DefAt K "_law_form" (topS 52) f43) (d44 : DefAt K "_law_way" (topS 53) f44) (d45 : DefAt K "_law_hands" (topS 54) f45) (d46 : DefAt K "_law_taken" (topS 55) f46) (d47 : DefAt K "_law_can_move" (topS 56) f47) (d48 : DefAt K "_law_step" (topS 57) f48) (d49 : DefAt K "_law_run" (topS 58) f49) (d50 : DefAt K "_law_known" (topS 59) f50) (d51 : DefAt K "_law_right" (topS 60) f51) : ∀ e ∈ ents, ∃ f, DefAt K e.x e.st f := (List.forall_mem_cons.mpr ⟨⟨_, d1⟩, (List.forall_mem_cons.mpr ⟨⟨_, d2⟩, (List.forall_mem_cons.mpr ⟨⟨_, d3⟩, (List.forall_mem_cons.mpr ⟨⟨_, d4⟩, (List.forall_mem_cons.mpr ⟨⟨_, d5⟩, (List.forall_mem_cons.mpr ⟨⟨_, d6⟩, (List.forall_mem_cons.mpr ⟨⟨_, d7⟩, (List.forall_mem_cons.mpr ⟨⟨_, d8⟩, (List.forall_mem_cons.mpr ⟨⟨_, d9⟩, (List.forall_mem_cons.mpr ⟨⟨_, d10⟩, (List.forall_mem_cons.mpr ⟨⟨_, d11⟩, (List.forall_mem_cons.mpr ⟨⟨_, d12⟩, (List.forall_mem_cons.mpr ⟨⟨_, d13⟩, (List.forall_mem_cons.mpr ⟨⟨_, d14⟩, (List.forall_mem_cons.mpr ⟨⟨_, d15⟩, (List.forall_mem_cons.mpr ⟨⟨_, d16⟩, (List.forall_mem_cons.mpr ⟨⟨_, d17⟩, (List.forall_mem_cons.mpr ⟨⟨_, d18⟩, (List.forall_mem_cons.mpr ⟨⟨_, d19⟩, (List.forall_mem_cons.mpr ⟨⟨_, d20⟩, (List.forall_mem_cons.mpr ⟨⟨_, d21⟩, (List.forall_mem_cons.mpr ⟨⟨_, d22⟩, (List.forall_mem_cons.mpr ⟨⟨_, d23⟩, (List.forall_mem_cons.mpr ⟨⟨_, d24⟩, (List.forall_mem_cons.mpr ⟨⟨_, d25⟩, (List.forall_mem_cons.mpr ⟨⟨_, d26⟩, (List.forall_mem_cons.mpr ⟨⟨_, d27⟩, (List.forall_mem_cons.mpr ⟨⟨_, d28⟩, (List.forall_mem_cons.mpr ⟨⟨_, d29⟩, (List.forall_mem_cons.mpr ⟨⟨_, d30⟩, (List.forall_mem_cons.mpr ⟨⟨_, d31⟩, (List.forall_mem_cons.mpr ⟨⟨_, d32⟩, (List.forall_mem_cons.mpr ⟨⟨_, d33⟩, (List.forall_mem_cons.mpr ⟨⟨_, d34⟩, (List.forall_mem_cons.mpr ⟨⟨_, d35⟩, (List.forall_mem_cons.mpr ⟨⟨_, d36⟩, (List.forall_mem_cons.mpr ⟨⟨_, d37⟩, (List.forall_mem_cons.mpr ⟨⟨_, d38⟩, (List.forall_mem_cons.mpr ⟨⟨_, d39⟩, (List.forall_mem_cons.mpr ⟨⟨_, d40⟩, (List.forall_mem_cons.mpr ⟨⟨_, d41⟩, (List.forall_mem_cons.mpr ⟨⟨_, d42⟩, (List.forall_mem_cons.mpr ⟨⟨_, d43⟩, (List.forall_mem_cons.mpr ⟨⟨_, d0⟩, (List.forall_mem_cons.mpr ⟨⟨_, d44⟩, (List.forall_mem_cons.mpr ⟨⟨_, d45⟩, (List.forall_mem_cons.mpr ⟨⟨_, d46⟩, (List.forall_mem_cons.mpr ⟨⟨_, d47⟩, (List.forall_mem_cons.mpr ⟨⟨_, d48⟩, (List.forall_mem_cons.mpr ⟨⟨_, d49⟩, (List.forall_mem_cons.mpr ⟨⟨_, d50⟩, (List.forall_mem_cons.mpr ⟨⟨_, d51⟩, (by intro e h; cases h)⟩)⟩)⟩)⟩)⟩)⟩)⟩)⟩)⟩)⟩)⟩)⟩)⟩)⟩)⟩)⟩)⟩)⟩)⟩)⟩)⟩)⟩)⟩)⟩)⟩)⟩)⟩)⟩)⟩)⟩)⟩)⟩)⟩)⟩)⟩)⟩)⟩)⟩)⟩)⟩)⟩)⟩)⟩)⟩)⟩)⟩)⟩)⟩)⟩)⟩)⟩)⟩)
theorem ents_b : ∀ e ∈ ents, BindOk e := (List.forall_mem_cons.mpr ⟨b_is_number, (List.forall_mem_cons.mpr ⟨b_is_tuple, (List.forall_mem_cons.mpr ⟨b_is_word, (List.forall_mem_cons.mpr ⟨b_is_spot, (List.forall_mem_cons.mpr ⟨b_is_deed_of, (List.forall_mem_cons.mpr ⟨b_is_good_plan, (List.forall_mem_cons.mpr ⟨b_need_plan, (List.forall_mem_cons.mpr ⟨b_need_n, (List.forall_mem_cons.mpr ⟨b_less, (List.forall_mem_cons.mpr ⟨b_worth, (List.forall_mem_cons.mpr ⟨b_whole, (List.forall_mem_cons.mpr ⟨b_spot_form, (List.forall_mem_cons.mpr ⟨b_added, (List.forall_mem_cons.mpr ⟨b_sign_of, (List.forall_mem_cons.mpr ⟨b_begun, (List.forall_mem_cons.mpr ⟨b_asks, (List.forall_mem_cons.mpr ⟨b_with_item, (List.forall_mem_cons.mpr ⟨b_people_beside, (List.forall_mem_cons.mpr ⟨b_ways, (List.forall_mem_cons.mpr ⟨b_way_by, (List.forall_mem_cons.mpr ⟨b_came, (List.forall_mem_cons.mpr ⟨b_went, (List.forall_mem_cons.mpr ⟨b_is_open, (List.forall_mem_cons.mpr ⟨b_moved, (List.forall_mem_cons.mpr ⟨b_between, (List.forall_mem_cons.mpr ⟨b_next_gap, (List.forall_mem_cons.mpr ⟨b_handed, (List.forall_mem_cons.mpr ⟨b_do, (List.forall_mem_cons.mpr ⟨b_last_of, (List.forall_mem_cons.mpr ⟨b_done, (List.forall_mem_cons.mpr ⟨b_stood, (List.forall_mem_cons.mpr ⟨b_steps, (List.forall_mem_cons.mpr ⟨b_step_forms, (List.forall_mem_cons.mpr ⟨b_law_source, (List.forall_mem_cons.mpr ⟨b_law_draw, (List.forall_mem_cons.mpr ⟨b_law_of, (List.forall_mem_cons.mpr ⟨b_law_spot, (List.forall_mem_cons.mpr ⟨b_law_side, (List.forall_mem_cons.mpr ⟨b_law_deed, (List.forall_mem_cons.mpr ⟨b_law_plan, (List.forall_mem_cons.mpr ⟨b_law_n, (List.forall_mem_cons.mpr ⟨b_law_value, (List.forall_mem_cons.mpr ⟨b_law_form, (List.forall_mem_cons.mpr ⟨b_law_k02, (List.forall_mem_cons.mpr ⟨b_law_way, (List.forall_mem_cons.mpr ⟨b_law_hands, (List.forall_mem_cons.mpr ⟨b_law_taken, (List.forall_mem_cons.mpr ⟨b_law_can_move, (List.forall_mem_cons.mpr ⟨b_law_step, (List.forall_mem_cons.mpr ⟨b_law_run, (List.forall_mem_cons.mpr ⟨b_law_known, (List.forall_mem_cons.mpr ⟨b_law_right_k02, (by intro e h; cases h)⟩)⟩)⟩)⟩)⟩)⟩)⟩)⟩)⟩)⟩)⟩)⟩)⟩)⟩)⟩)⟩)⟩)⟩)⟩)⟩)⟩)⟩)⟩)⟩)⟩)⟩)⟩)⟩)⟩)⟩)⟩)⟩)⟩)⟩)⟩)⟩)⟩)⟩)⟩)⟩)⟩)⟩)⟩)⟩)⟩)⟩)⟩)⟩)⟩)⟩)⟩)⟩)
theorem ents_s : ∀ e ∈ ents, fnScopeB e.N e.ps (defScope e.st) = true := (List.forall_mem_cons.mpr ⟨s_is_number, (List.forall_mem_cons.mpr ⟨s_is_tuple, (List.forall_mem_cons.mpr ⟨s_is_word, (List.forall_mem_cons.mpr ⟨s_is_spot, (List.forall_mem_cons.mpr ⟨s_is_deed_of, (List.forall_mem_cons.mpr ⟨s_is_good_plan, (List.forall_mem_cons.mpr ⟨s_need_plan, (List.forall_mem_cons.mpr ⟨s_need_n, (List.forall_mem_cons.mpr ⟨s_less, (List.forall_mem_cons.mpr ⟨s_worth, (List.forall_mem_cons.mpr ⟨s_whole, (List.forall_mem_cons.mpr ⟨s_spot_form, (List.forall_mem_cons.mpr ⟨s_added, (List.forall_mem_cons.mpr ⟨s_sign_of, (List.forall_mem_cons.mpr ⟨s_begun, (List.forall_mem_cons.mpr ⟨s_asks, (List.forall_mem_cons.mpr ⟨s_with_item, (List.forall_mem_cons.mpr ⟨s_people_beside, (List.forall_mem_cons.mpr ⟨s_ways, (List.forall_mem_cons.mpr ⟨s_way_by, (List.forall_mem_cons.mpr ⟨s_came, (List.forall_mem_cons.mpr ⟨s_went, (List.forall_mem_cons.mpr ⟨s_is_open, (List.forall_mem_cons.mpr ⟨s_moved, (List.forall_mem_cons.mpr ⟨s_between, (List.forall_mem_cons.mpr ⟨s_next_gap, (List.forall_mem_cons.mpr ⟨s_handed, (List.forall_mem_cons.mpr ⟨s_do, (List.forall_mem_cons.mpr ⟨s_last_of, (List.forall_mem_cons.mpr ⟨s_done, (List.forall_mem_cons.mpr ⟨s_stood, (List.forall_mem_cons.mpr ⟨s_steps, (List.forall_mem_cons.mpr ⟨s_step_forms, (List.forall_mem_cons.mpr ⟨s_law_source, (List.forall_mem_cons.mpr ⟨s_law_draw, (List.forall_mem_cons.mpr ⟨s_law_of, (List.forall_mem_cons.mpr ⟨s_law_spot, (List.forall_mem_cons.mpr ⟨s_law_side, (List.forall_mem_cons.mpr ⟨s_law_deed, (List.forall_mem_cons.mpr ⟨s_law_plan, (List.forall_mem_cons.mpr ⟨s_law_n, (List.forall_mem_cons.mpr ⟨s_law_value, (List.forall_mem_cons.mpr ⟨s_law_form, (List.forall_mem_cons.mpr ⟨s_law_k02, (List.forall_mem_cons.mpr ⟨s_law_way, (List.forall_mem_cons.mpr ⟨s_law_hands, (List.forall_mem_cons.mpr ⟨s_law_taken, (List.forall_mem_cons.mpr ⟨s_law_can_move, (List.forall_mem_cons.mpr ⟨s_law_step, (List.forall_mem_cons.mpr ⟨s_law_run, (List.forall_mem_cons.mpr ⟨s_law_known, (List.forall_mem_cons.mpr ⟨s_law_right_k02, (by intro e h; cases h)⟩)⟩)⟩)⟩)⟩)⟩)⟩)⟩)⟩)⟩)⟩)⟩)⟩)⟩)⟩)⟩)⟩)⟩)⟩)⟩)⟩)⟩)⟩)⟩)⟩)⟩)⟩)⟩)⟩)⟩)⟩)⟩)⟩)⟩)⟩)⟩)⟩)⟩)⟩)⟩)⟩)⟩)⟩)⟩)⟩)⟩)⟩)⟩)⟩)⟩)⟩)⟩)
theorem two {a b : Option FD} {f : FD} (h1 : a = some f) (h2 : b = some f) : a ≠ none ∧ a = b := ⟨fun z => (nomatch (h1.symm.trans z)), h1.trans h2.symm⟩
theorem ents_t : ∀ e ∈ ents, e.fd ≠ none ∧ e.fd = T e.i := (List.forall_mem_cons.mpr ⟨two c_is_number T_is_number, (List.forall_mem_cons.mpr ⟨two c_is_tuple T_is_tuple, (List.forall_mem_cons.mpr ⟨two c_is_word T_is_word, (List.forall_mem_cons.mpr ⟨two c_is_spot T_is_spot, (List.forall_mem_cons.mpr ⟨two c_is_deed_of T_is_deed_of, (List.forall_mem_cons.mpr ⟨two c_is_good_plan T_is_good_plan, (List.forall_mem_cons.mpr ⟨two c_need_plan T_need_plan, (List.forall_mem_cons.mpr ⟨two c_need_n T_need_n, (List.forall_mem_cons.mpr ⟨two c_less T_less, (List.forall_mem_cons.mpr ⟨two c_worth T_worth, (List.forall_mem_cons.mpr ⟨two c_whole T_whole, (List.forall_mem_cons.mpr ⟨two c_spot_form T_spot_form, (List.forall_mem_cons.mpr ⟨two c_added T_added, (List.forall_mem_cons.mpr ⟨two c_sign_of T_sign_of, (List.forall_mem_cons.mpr ⟨two c_begun T_begun, (List.forall_mem_cons.mpr ⟨two c_asks T_asks, (List.forall_mem_cons.mpr ⟨two c_with_item T_with_item, (List.forall_mem_cons.mpr ⟨two c_people_beside T_people_beside, (List.forall_mem_cons.mpr ⟨two c_ways T_ways, (List.forall_mem_cons.mpr ⟨two c_way_by T_way_by, (List.forall_mem_cons.mpr ⟨two c_came T_came, (List.forall_mem_cons.mpr ⟨two c_went T_went, (List.forall_mem_cons.mpr ⟨two c_is_open T_is_open, (List.forall_mem_cons.mpr ⟨two c_moved T_moved, (List.forall_mem_cons.mpr ⟨two c_between T_between, (List.forall_mem_cons.mpr ⟨two c_next_gap T_next_gap, (List.forall_mem_cons.mpr ⟨two c_handed T_handed, (List.forall_mem_cons.mpr ⟨two c_do T_do, (List.forall_mem_cons.mpr ⟨two c_last_of T_last_of, (List.forall_mem_cons.mpr ⟨two c_done T_done, (List.forall_mem_cons.mpr ⟨two c_stood T_stood, (List.forall_mem_cons.mpr ⟨two c_steps T_steps, (List.forall_mem_cons.mpr ⟨two c_step_forms T_step_forms, (List.forall_mem_cons.mpr ⟨two c_law_source T_law_source, (List.forall_mem_cons.mpr ⟨two c_law_draw T_law_draw, (List.forall_mem_cons.mpr ⟨two c_law_of T_law_of, (List.forall_mem_cons.mpr ⟨two c_law_spot T_law_spot, (List.forall_mem_cons.mpr ⟨two c_law_side T_law_side, (List.forall_mem_cons.mpr ⟨two c_law_deed T_law_deed, (List.forall_mem_cons.mpr ⟨two c_law_plan T_law_plan, (List.forall_mem_cons.mpr ⟨two c_law_n T_law_n, (List.forall_mem_cons.mpr ⟨two c_law_value T_law_value, (List.forall_mem_cons.mpr ⟨two c_law_form T_law_form, (List.forall_mem_cons.mpr ⟨two c_law_k02 T_law_k02, (List.forall_mem_cons.mpr ⟨two c_law_way T_law_way, (List.forall_mem_cons.mpr ⟨two c_law_hands T_law_hands, (List.forall_mem_cons.mpr ⟨two c_law_taken T_law_taken, (List.forall_mem_cons.mpr ⟨two c_law_can_move T_law_can_move, (List.forall_mem_cons.mpr ⟨two c_law_step T_law_step, (List.forall_mem_cons.mpr ⟨two c_law_run T_law_run, (List.forall_mem_cons.mpr ⟨two c_law_known T_law_known, (List.forall_mem_cons.mpr ⟨two c_law_right_k02 T_law_right_k02, (by intro e h; cases h)⟩)⟩)⟩)⟩)⟩)⟩)⟩)⟩)⟩)⟩)⟩)⟩)⟩)⟩)⟩)⟩)⟩)⟩)⟩)⟩)⟩)⟩)⟩)⟩)⟩)⟩)⟩)⟩)⟩)⟩)⟩)⟩)⟩)⟩)⟩)⟩)⟩)⟩)⟩)⟩)⟩)⟩)⟩)⟩)⟩)⟩)⟩)⟩)⟩)⟩)⟩)⟩)
theorem ents_g : ∀ e ∈ ents, gtB ents bl vals e.ce.gt = true := by decide +kernel
theorem bl_z {K : PySem.W.Frag} (z0 : PySem.W.nsIn K mainGlobals "range" = some none) (z1 : PySem.W.nsIn K mainGlobals "min" = some none) (z2 : PySem.W.nsIn K mainGlobals "len" = some none) (z3 : PySem.W.nsIn K mainGlobals "isinstance" = some none) (z4 : PySem.W.nsIn K mainGlobals "int" = some none) (z5 : PySem.W.nsIn K mainGlobals "bool" = some none) (z6 : PySem.W.nsIn K mainGlobals "tuple" = some none) (z7 : PySem.W.nsIn K mainGlobals "str" = some none) (z8 : PySem.W.nsIn K mainGlobals "all" = some none) (z9 : PySem.W.nsIn K mainGlobals "enumerate" = some none) (z10 : PySem.W.nsIn K mainGlobals "abs" = some none) (z11 : PySem.W.nsIn K mainGlobals "sorted" = some none) (z12 : PySem.W.nsIn K mainGlobals "zip" = some none) : ∀ x ∈ bl, PySem.W.nsIn K mainGlobals x = some none := (List.forall_mem_cons.mpr ⟨z0, (List.forall_mem_cons.mpr ⟨z1, (List.forall_mem_cons.mpr ⟨z2, (List.forall_mem_cons.mpr ⟨z3, (List.forall_mem_cons.mpr ⟨z4, (List.forall_mem_cons.mpr ⟨z5, (List.forall_mem_cons.mpr ⟨z6, (List.forall_mem_cons.mpr ⟨z7, (List.forall_mem_cons.mpr ⟨z8, (List.forall_mem_cons.mpr ⟨z9, (List.forall_mem_cons.mpr ⟨z10, (List.forall_mem_cons.mpr ⟨z11, (List.forall_mem_cons.mpr ⟨z12, (by intro e h; cases h)⟩)⟩)⟩)⟩)⟩)⟩)⟩)⟩)⟩)⟩)⟩)⟩)⟩)
theorem sides_at {K : PySem.W.Frag} {a : Addr} {o : Obj} {p q r s : Tok} {n : Nat} (v : PySem.W.nsIn K mainGlobals "SIDES" = some (some (.ref a))) (u : K.lookup a = some o) (w : o.cls = .type "tuple") (x : o.data = .seq #[.str "left" p, .str "right" q, .str "near" r, .str "few" s] n) : ValAt K "SIDES" g_SIDES := by
  refine ⟨_, .ref a, v, rfl, fun W m H e => ?_⟩
  have hv : TupK W.K a [.str ⟨w_left.toArray⟩, .str ⟨w_right.toArray⟩, .str ⟨w_near.toArray⟩, .str ⟨w_few.toArray⟩] := by
    rw [e]
    have e1 : (Str.ofString "left") = ⟨w_left.toArray⟩ := by decide +kernel
    have e2 : (Str.ofString "right") = ⟨w_right.toArray⟩ := by decide +kernel
    have e3 : (Str.ofString "near") = ⟨w_near.toArray⟩ := by decide +kernel
    have e4 : (Str.ofString "few") = ⟨w_few.toArray⟩ := by decide +kernel
    refine ⟨o, _, n, u, w, x, ?_, .cons ⟨p, congrArg (Value.str · p) e1⟩ (.cons ⟨q, congrArg (Value.str · q) e2⟩ (.cons ⟨r, congrArg (Value.str · r) e3⟩ (.cons ⟨s, congrArg (Value.str · s) e4⟩ .nil)))⟩
    show 4 ≤ sizeLine
    decide
  refine .tupK hv (.cons (.str _ ?_) (.cons (.str _ ?_) (.cons (.str _ ?_) (.cons (.str _ ?_) .nil)))) ?_
  · exact ⟨by decide, by decide⟩
  · exact ⟨by decide, by decide⟩
  · exact ⟨by decide, by decide⟩
  · exact ⟨by decide, by decide⟩
  · intro x hx
    simp only [List.mem_cons, List.not_mem_nil, or_false] at hx
    rcases hx with rfl | rfl | rfl | rfl <;> exact ⟨_, rfl⟩
theorem vals_v {K : PySem.W.Frag} {a0 : Addr} {o0 : Obj} {p0 q0 r0 s0 : Tok} {n0 : Nat} (v0 : PySem.W.nsIn K mainGlobals "SIDES" = some (some (.ref a0))) (u0 : K.lookup a0 = some o0) (w0 : o0.cls = .type "tuple") (x0 : o0.data = .seq #[.str "left" p0, .str "right" q0, .str "near" r0, .str "few" s0] n0) {t1 : Tok} (v1 : PySem.W.nsIn K mainGlobals "LEAST" = some (some (.int 12 t1))) {t2 : Tok} (v2 : PySem.W.nsIn K mainGlobals "MOST" = some (some (.int (10 ^ 30) t2))) : ∀ p ∈ vals, ValAt K p.1 p.2 := (List.forall_mem_cons.mpr ⟨sides_at v0 u0 w0 x0, (List.forall_mem_cons.mpr ⟨⟨_, .int 12, v1, ⟨_, rfl⟩, fun _ _ _ _ => .int _⟩, (List.forall_mem_cons.mpr ⟨⟨_, .int (10 ^ 30), v2, ⟨_, rfl⟩, fun _ _ _ _ => .int _⟩, (by intro e h; cases h)⟩)⟩)⟩)
end Kn.k02
open PySem PySem.W PyProof.Rows
set_option maxHeartbeats 0 in
theorem PySem.Challenge.cw_kneesany_k02_deeds_done_holds : PySem.Challenge.rw_kneesany_k02_deeds_done.Holds := by
  w_on; o_law; k_head; (case hw => w_witness2)
  k_fill
  refine L2.walk_of (l := PySem.Challenge.rw_kneesany_k02_deeds_done) (n := 63) (k := 20) (x := "script") (CX := fun w => L2.CX PySem.Challenge.rw_kneesany_k02_deeds_done.prog w) (sp := fun w => Kn.spEnd _) rfl (by decide) rfl ⟨rfl, by decide, by decide⟩ (fun w h Y => PySem.W.kIn_of Y) ?F (fun _ _ a ns hl _ hS => ⟨a, ns, rfl, hS, hl, fun _ => rfl⟩) (fun _ _ _ _ _ ⟨_, _, _, _, _, _, _, _, _, _, _, _, z⟩ => z)
  case F =>
    intro w mg fa h KX G hmg
    refine Kn.head_ok (fuel := 1) (le := Kn.k02.e_law_k02) (es := Kn.k02.ents) (bl := Kn.k02.bl) (vals := Kn.k02.vals) (T := Kn.k02.T) KX G hmg ?hle rfl ?hd Kn.k02.ents_b Kn.k02.ents_s Kn.k02.ents_t Kn.k02.ents_g ?hb ?hv (Kn.k02.main)
    case hle => exact Kn.k02.law_mem
    case hd =>
      refine' Kn.k02.ents_d ?d0 ?d1 ?d2 ?d3 ?d4 ?d5 ?d6 ?d7 ?d8 ?d9 ?d10 ?d11 ?d12 ?d13 ?d14 ?d15 ?d16 ?d17 ?d18 ?d19 ?d20 ?d21 ?d22 ?d23 ?d24 ?d25 ?d26 ?d27 ?d28 ?d29 ?d30 ?d31 ?d32 ?d33 ?d34 ?d35 ?d36 ?d37 ?d38 ?d39 ?d40 ?d41 ?d42 ?d43 ?d44 ?d45 ?d46 ?d47 ?d48 ?d49 ?d50 ?d51
      (case d0 => refine' Kn.def_at ?a ?l ?c ?k; (case a => k_is); (case l => k_is); (case c => k_is); (case k => k_is))
      (case d1 => refine' Kn.def_at ?a ?l ?c ?k; (case a => k_is); (case l => k_is); (case c => k_is); (case k => k_is))
      (case d2 => refine' Kn.def_at ?a ?l ?c ?k; (case a => k_is); (case l => k_is); (case c => k_is); (case k => k_is))
      (case d3 => refine' Kn.def_at ?a ?l ?c ?k; (case a => k_is); (case l => k_is); (case c => k_is); (case k => k_is))
      (case d4 => refine' Kn.def_at ?a ?l ?c ?k; (case a => k_is); (case l => k_is); (case c => k_is); (case k => k_is))
      (case d5 => refine' Kn.def_at ?a ?l ?c ?k; (case a => k_is); (case l => k_is); (case c => k_is); (case k => k_is))
      (case d6 => refine' Kn.def_at ?a ?l ?c ?k; (case a => k_is); (case l => k_is); (case c => k_is); (case k => k_is))
      (case d7 => refine' Kn.def_at ?a ?l ?c ?k; (case a => k_is); (case l => k_is); (case c => k_is); (case k => k_is))
      (case d8 => refine' Kn.def_at ?a ?l ?c ?k; (case a => k_is); (case l => k_is); (case c => k_is); (case k => k_is))
      (case d9 => refine' Kn.def_at ?a ?l ?c ?k; (case a => k_is); (case l => k_is); (case c => k_is); (case k => k_is))
      (case d10 => refine' Kn.def_at ?a ?l ?c ?k; (case a => k_is); (case l => k_is); (case c => k_is); (case k => k_is))
      (case d11 => refine' Kn.def_at ?a ?l ?c ?k; (case a => k_is); (case l => k_is); (case c => k_is); (case k => k_is))
      (case d12 => refine' Kn.def_at ?a ?l ?c ?k; (case a => k_is); (case l => k_is); (case c => k_is); (case k => k_is))
      (case d13 => refine' Kn.def_at ?a ?l ?c ?k; (case a => k_is); (case l => k_is); (case c => k_is); (case k => k_is))
      (case d14 => refine' Kn.def_at ?a ?l ?c ?k; (case a => k_is); (case l => k_is); (case c => k_is); (case k => k_is))
      (case d15 => refine' Kn.def_at ?a ?l ?c ?k; (case a => k_is); (case l => k_is); (case c => k_is); (case k => k_is))
      (case d16 => refine' Kn.def_at ?a ?l ?c ?k; (case a => k_is); (case l => k_is); (case c => k_is); (case k => k_is))
      (case d17 => refine' Kn.def_at ?a ?l ?c ?k; (case a => k_is); (case l => k_is); (case c => k_is); (case k => k_is))
      (case d18 => refine' Kn.def_at ?a ?l ?c ?k; (case a => k_is); (case l => k_is); (case c => k_is); (case k => k_is))
      (case d19 => refine' Kn.def_at ?a ?l ?c ?k; (case a => k_is); (case l => k_is); (case c => k_is); (case k => k_is))
      (case d20 => refine' Kn.def_at ?a ?l ?c ?k; (case a => k_is); (case l => k_is); (case c => k_is); (case k => k_is))
      (case d21 => refine' Kn.def_at ?a ?l ?c ?k; (case a => k_is); (case l => k_is); (case c => k_is); (case k => k_is))
      (case d22 => refine' Kn.def_at ?a ?l ?c ?k; (case a => k_is); (case l => k_is); (case c => k_is); (case k => k_is))
      (case d23 => refine' Kn.def_at ?a ?l ?c ?k; (case a => k_is); (case l => k_is); (case c => k_is); (case k => k_is))
      (case d24 => refine' Kn.def_at ?a ?l ?c ?k; (case a => k_is); (case l => k_is); (case c => k_is); (case k => k_is))
      (case d25 => refine' Kn.def_at ?a ?l ?c ?k; (case a => k_is); (case l => k_is); (case c => k_is); (case k => k_is))
      (case d26 => refine' Kn.def_at ?a ?l ?c ?k; (case a => k_is); (case l => k_is); (case c => k_is); (case k => k_is))
      (case d27 => refine' Kn.def_at ?a ?l ?c ?k; (case a => k_is); (case l => k_is); (case c => k_is); (case k => k_is))
      (case d28 => refine' Kn.def_at ?a ?l ?c ?k; (case a => k_is); (case l => k_is); (case c => k_is); (case k => k_is))
      (case d29 => refine' Kn.def_at ?a ?l ?c ?k; (case a => k_is); (case l => k_is); (case c => k_is); (case k => k_is))
      (case d30 => refine' Kn.def_at ?a ?l ?c ?k; (case a => k_is); (case l => k_is); (case c => k_is); (case k => k_is))
      (case d31 => refine' Kn.def_at ?a ?l ?c ?k; (case a => k_is); (case l => k_is); (case c => k_is); (case k => k_is))
      (case d32 => refine' Kn.def_at ?a ?l ?c ?k; (case a => k_is); (case l => k_is); (case c => k_is); (case k => k_is))
      (case d33 => refine' Kn.def_at ?a ?l ?c ?k; (case a => k_is); (case l => k_is); (case c => k_is); (case k => k_is))
      (case d34 => refine' Kn.def_at ?a ?l ?c ?k; (case a => k_is); (case l => k_is); (case c => k_is); (case k => k_is))
      (case d35 => refine' Kn.def_at ?a ?l ?c ?k; (case a => k_is); (case l => k_is); (case c => k_is); (case k => k_is))
      (case d36 => refine' Kn.def_at ?a ?l ?c ?k; (case a => k_is); (case l => k_is); (case c => k_is); (case k => k_is))
      (case d37 => refine' Kn.def_at ?a ?l ?c ?k; (case a => k_is); (case l => k_is); (case c => k_is); (case k => k_is))
      (case d38 => refine' Kn.def_at ?a ?l ?c ?k; (case a => k_is); (case l => k_is); (case c => k_is); (case k => k_is))
      (case d39 => refine' Kn.def_at ?a ?l ?c ?k; (case a => k_is); (case l => k_is); (case c => k_is); (case k => k_is))
      (case d40 => refine' Kn.def_at ?a ?l ?c ?k; (case a => k_is); (case l => k_is); (case c => k_is); (case k => k_is))
      (case d41 => refine' Kn.def_at ?a ?l ?c ?k; (case a => k_is); (case l => k_is); (case c => k_is); (case k => k_is))
      (case d42 => refine' Kn.def_at ?a ?l ?c ?k; (case a => k_is); (case l => k_is); (case c => k_is); (case k => k_is))
      (case d43 => refine' Kn.def_at ?a ?l ?c ?k; (case a => k_is); (case l => k_is); (case c => k_is); (case k => k_is))
      (case d44 => refine' Kn.def_at ?a ?l ?c ?k; (case a => k_is); (case l => k_is); (case c => k_is); (case k => k_is))
      (case d45 => refine' Kn.def_at ?a ?l ?c ?k; (case a => k_is); (case l => k_is); (case c => k_is); (case k => k_is))
      (case d46 => refine' Kn.def_at ?a ?l ?c ?k; (case a => k_is); (case l => k_is); (case c => k_is); (case k => k_is))
      (case d47 => refine' Kn.def_at ?a ?l ?c ?k; (case a => k_is); (case l => k_is); (case c => k_is); (case k => k_is))
      (case d48 => refine' Kn.def_at ?a ?l ?c ?k; (case a => k_is); (case l => k_is); (case c => k_is); (case k => k_is))
      (case d49 => refine' Kn.def_at ?a ?l ?c ?k; (case a => k_is); (case l => k_is); (case c => k_is); (case k => k_is))
      (case d50 => refine' Kn.def_at ?a ?l ?c ?k; (case a => k_is); (case l => k_is); (case c => k_is); (case k => k_is))
      (case d51 => refine' Kn.def_at ?a ?l ?c ?k; (case a => k_is); (case l => k_is); (case c => k_is); (case k => k_is))
    case hb =>
      refine Kn.k02.bl_z ?_ ?_ ?_ ?_ ?_ ?_ ?_ ?_ ?_ ?_ ?_ ?_ ?_ <;> k_is
    case hv =>
      refine' Kn.of_vals (Kn.k02.vals_v ?v0 ?u0 ?w0 ?x0 ?v1 ?v2)
      (case v0 => k_is)
      (case u0 => k_is); (case w0 => rfl); (case x0 => rfl)
      (case v1 => k_is)
      (case v2 => k_is)
